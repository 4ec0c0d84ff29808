import PyProof.Rows.All
import HandS.ForMost
import HandS.ForExc
import HandS.IsInst
import HandS.TupAny
import HandS.Gcd
import HandS.Walk
import HandS.Deep
import HandS.Flow
import HandS.Style
import HandS.TupMul
import HandS.More
import KE.KRevSl
import PySem.Challenge.RW_wholesayings_k83_whole_values_that_are_s
set_option Elab.async false
set_option linter.all false
set_option maxRecDepth 100000
namespace Pu
open PySem PySem.Spec PyProof.Rows L2

abbrev D := PyData
abbrev Fr := PySem.W.Frag
def Le (F G : Hp) : Prop := ∀ a o, F a = some o → G a = some o
theorem Le.refl (F : Hp) : Le F F := fun _ _ h => h
theorem Le.trans {F G H : Hp} (a : Le F G) (b : Le G H) : Le F H := fun x o h => b x o (a x o h)
theorem Le.new {F : Hp} {p : Addr} {o : HO} (h : F p = none) : Le F (upd F p o) := fun a u e => by
  rw [upd_ne (ne_of_none e h)]; exact e
theorem Le.rd {F G : Hp} {a : Addr} {u : HO} (e : Le F G) (h : Rd F a u) : Rd G a u := by
  rcases h with h | ⟨o, h⟩
  · exact .inl (e _ _ h)
  · exact .inr ⟨o, e _ _ h⟩
theorem Le.sql {K : Fr} {F G : Hp} {a : Addr} {xs : List V} (e : Le F G) (h : SqL K F a xs) : SqL K G a xs := by
  rcases h with h | h
  · exact .inl (e.rd h)
  · exact .inr h
theorem Le.sqt {K : Fr} {F G : Hp} {a : Addr} {xs : List V} (e : Le F G) (h : SqT K F a xs) : SqT K G a xs := by
  rcases h with h | h
  · exact .inl (e.rd h)
  · exact .inr h
mutual
theorem dp_mono {K : Fr} {F G : Hp} (e : Le F G) : ∀ {v : V} {d : D}, Dp K F v d → Dp K G v d
  | _, _, .non => .non
  | _, _, .bl b => .bl b
  | _, _, .int i => .int i
  | _, _, .str x => .str x
  | _, _, .lst h a => .lst (e.sql h) (dpa_mono e a)
  | _, _, .tup h a => .tup (e.sqt h) (dpa_mono e a)
theorem dpa_mono {K : Fr} {F G : Hp} (e : Le F G) : ∀ {vs : List V} {ds : List D}, DpAll K F vs ds → DpAll K G vs ds
  | _, _, .nil => .nil
  | _, _, .cons h t => .cons (dp_mono e h) (dpa_mono e t)
end

/-- what is known of a slot -/
inductive Sl where
  | no
  | fr (d : D)
  | ow (d : D)
  | ln (d : D)
abbrev En := List Sl
inductive Rv where
  | fr (d : D)
  | nw (d : D)
def Rv.d : Rv → D
  | .fr d => d
  | .nw d => d
/-- a's content, that may change -/
def Mu (K : Fr) (F H : Hp) (a : Addr) (d : D) : Prop := F a = none ∧ ∃ ds xs, d = .list ds ∧ H a = some (.lst xs) ∧ DpAll K F xs ds
def Sl.own : Sl → Bool
  | .ow _ => true
  | .ln _ => true
  | _ => false
/-- where one stands: the heap at the start, what is held, what is lent (by slots) -/
structure Ct where
  H0 : Hp
  Pn : Hp
  A : Nat → Option Addr
def SlOk (K : Fr) (C : Ct) (F H : Hp) (i : Nat) (v : Option (Option V)) : Sl → Prop
  | .no => True
  | .fr d => ∃ x, v = some (some x) ∧ Dp K F x d
  | .ow d => ∃ a, v = some (some (.ref a)) ∧ C.H0 a = none ∧ Mu K F H a d
  | .ln d => ∃ a, v = some (some (.ref a)) ∧ C.A i = some a ∧ Mu K F H a d
structure Rel (K : Fr) (C : Ct) (F H : Hp) (σ : L2.St) (Γ : En) : Prop where
  sub : Le F H
  len : σ.length = Γ.length
  ok : ∀ (i : Nat) (s : Sl), Γ[i]? = some s → SlOk K C F H i σ[i]? s
  apart : ∀ (i j : Nat) (s t : Sl) (a : Addr), i ≠ j → Γ[i]? = some s → Γ[j]? = some t → s.own = true → t.own = true → σ[i]? = some (some (.ref a)) → σ[j]? ≠ some (some (.ref a))
  keep : Le C.Pn H
  hid : ∀ a o, C.Pn a = some o → F a = none
  pin : ∀ (i : Nat) (s : Sl) (a : Addr), Γ[i]? = some s → s.own = true → σ[i]? = some (some (.ref a)) → C.Pn a = none
  there : ∀ a o, C.H0 a = some o → ∃ u, H a = some u
def Got (K : Fr) (C : Ct) (F H : Hp) (σ : L2.St) (Γ : En) (v : V) : Rv → Prop
  | .fr d => Dp K F v d
  | .nw d => ∃ a, v = .ref a ∧ C.H0 a = none ∧ C.Pn a = none ∧ Mu K F H a d ∧ ∀ (i : Nat) (s : Sl), Γ[i]? = some s → s.own = true → σ[i]? ≠ some (some (.ref a))

/-! readings -/
abbrev CE := En → Option (D × En)
abbrev CN := En → Option (Rv × En)
abbrev CT := En → Option (Bool × En)
abbrev CA := En → Option (List D × En)
inductive Fl where
  | nx | bk | ct
  | rt (r : Rv)
abbrev CS := En → Option (Fl × En)
abbrev CG := D → En → Option En
abbrev CI := En → Option (List D × En)

section
variable (K : Fr)
def tE (c : CE) : TE := fun σ H Q => ∃ C F Γ d Γ', Rel K C F H σ Γ ∧ c Γ = some (d, Γ') ∧ ∀ F' H' v, Le F F' → Rel K C F' H' σ Γ' → Dp K F' v d → Q v H'
def tN (c : CN) : TE := fun σ H Q => ∃ C F Γ r Γ', Rel K C F H σ Γ ∧ c Γ = some (r, Γ') ∧ ∀ F' H' v, Le F F' → Rel K C F' H' σ Γ' → Got K C F' H' σ Γ' v r → Q v H'
def tT (c : CT) : TT := fun σ H Q => ∃ C F Γ b Γ', Rel K C F H σ Γ ∧ c Γ = some (b, Γ') ∧ ∀ F' H', Le F F' → Rel K C F' H' σ Γ' → Q b H'
def tA (c : CA) : TA := fun σ H Q => ∃ C F Γ ds Γ', Rel K C F H σ Γ ∧ c Γ = some (ds, Γ') ∧ ∀ F' H' vs, Le F F' → Rel K C F' H' σ Γ' → DpAll K F' vs ds → Q vs H'
def Post (C : Ct) (De : Ends) (F : Hp) (H : Hp) (σ : L2.St) (Γ : En) : Fl → Prop
  | .nx => De.nx σ H
  | .bk => De.bk σ H
  | .ct => De.ct σ H
  | .rt r => ∀ v, Got K C F H σ Γ v r → De.rt v H
def tS (c : CS) : TS := fun De σ H => ∃ C F Γ fl Γ', Rel K C F H σ Γ ∧ c Γ = some (fl, Γ') ∧ ∀ F' H' σ', Le F F' → Rel K C F' H' σ' Γ' → Post K C De F' H' σ' Γ' fl
/-- all but the slots ts are as they were -/
def Same (ts : List Nat) (σ σ' : L2.St) : Prop := σ'.length = σ.length ∧ ∀ j, j ∉ ts → σ'[j]? = σ[j]?
def tG (ts : List Nat) (c : CG) : TG := fun v σ H Q => ∃ C F Γ d Γ', Rel K C F H σ Γ ∧ Dp K F v d ∧ c d Γ = some Γ' ∧ ∀ F' H' σ', Le F F' → Rel K C F' H' σ' Γ' → Same ts σ σ' → Q σ' H'
/-- what a walk yields: the i-th datum, old or a new tuple -/
def YD (F : Hp) (ds : List D) (i : Nat) (H : Hp) (x : V) (H' : Hp) : Prop :=
  (H' = H ∧ ∃ d, ds[i]? = some d ∧ Dp K F x d) ∨ ∃ T vs es, x = .ref T ∧ H T = none ∧ H' = upd H T (.tup vs) ∧ ds[i]? = some (.tuple es) ∧ DpAll K F vs es
def WalkD (F : Hp) (J : It) (ds : List D) : Prop := Walk J ds.length (fun H => Le F H) (YD K F ds)
def tI (c : CI) : TI := fun σ H R => ∃ C F Γ ds Γ', Rel K C F H σ Γ ∧ c Γ = some (ds, Γ') ∧ ∀ F' H' J, Le F F' → Rel K C F' H' σ Γ' → WalkD K F' J ds → R J H'
end
abbrev E (X : Cx) (e : Expr) (c : CE) : Prop := PE X e (tE X.K c)
abbrev N (X : Cx) (e : Expr) (c : CN) : Prop := PE X e (tN X.K c)
abbrev T (X : Cx) (e : Expr) (c : CT) : Prop := PT X e (tT X.K c)
abbrev TW (X : Cx) (e : Expr) (c : CT) : Prop := PW X e (tT X.K c)
abbrev Ar (X : Cx) (es : List Expr) (c : CA) : Prop := PA X es (tA X.K c)
abbrev S (X : Cx) (st : Stmt) (c : CS) : Prop := PS X st (tS X.K c)
abbrev B (X : Cx) (sts : List Stmt) (c : CS) : Prop := PSs X sts (tS X.K c)
abbrev G (X : Cx) (e : Expr) (ts : List Nat) (c : CG) : Prop := PG X e (tG X.K ts c)
abbrev I (X : Cx) (tg e : Expr) (c : CI) : Prop := PI X tg e (tI X.K c)

theorem PE.imp {X : Cx} {e : Expr} {t u : TE} (h : PE X e t) (i : ∀ σ H Q, u σ H Q → t σ H Q) : PE X e u := ⟨fun pins s σ H Q I q => h.run pins s σ H Q I (i _ _ _ q)⟩
theorem PT.imp {X : Cx} {e : Expr} {t u : TT} (h : PT X e t) (i : ∀ σ H Q, u σ H Q → t σ H Q) : PT X e u := ⟨fun pins s σ H Q I q => h.run pins s σ H Q I (i _ _ _ q)⟩
theorem PW.imp {X : Cx} {e : Expr} {t u : TT} (h : PW X e t) (i : ∀ σ H Q, u σ H Q → t σ H Q) : PW X e u := ⟨fun w pins s σ H Q I q => h.run w pins s σ H Q I (i _ _ _ q)⟩
theorem PA.imp {X : Cx} {es : List Expr} {t u : TA} (h : PA X es t) (i : ∀ σ H Q, u σ H Q → t σ H Q) : PA X es u := ⟨fun p pins s σ H Q I q => h.run p pins s σ H Q I (i _ _ _ q)⟩
theorem PS.imp {X : Cx} {st : Stmt} {t u : TS} (h : PS X st t) (i : ∀ D σ H, u D σ H → t D σ H) : PS X st u := ⟨fun pins s σ H D I q => h.run pins s σ H D I (i _ _ _ q)⟩
theorem PSs.imp {X : Cx} {st : List Stmt} {t u : TS} (h : PSs X st t) (i : ∀ D σ H, u D σ H → t D σ H) : PSs X st u := ⟨fun pins s σ H D I q => h.run pins s σ H D I (i _ _ _ q)⟩

/-! ### the heap grows -/
structure Grow (F H F' H' : Hp) : Prop where
  f : Le F F'
  h : Le H H'
  s : Le F' H'
  o : ∀ a o, F a = none → H a = some o → F' a = none
theorem Grow.refl {F H : Hp} (h : Le F H) : Grow F H F H := ⟨Le.refl _, Le.refl _, h, fun _ _ e _ => e⟩
theorem Grow.trans {F H F1 H1 F2 H2 : Hp} (a : Grow F H F1 H1) (b : Grow F1 H1 F2 H2) : Grow F H F2 H2 :=
  ⟨a.f.trans b.f, a.h.trans b.h, b.s, fun x o e1 e2 => b.o x o (a.o x o e1 e2) (a.h x o e2)⟩
theorem Grow.new {F H : Hp} (s : Le F H) {p : Addr} {o : HO} (h : H p = none) : Grow F H (upd F p o) (upd H p o) := by
  have fp : F p = none := by
    cases e : F p with
    | none => rfl
    | some u => rw [s p u e] at h; cases h
  refine ⟨Le.new fp, Le.new h, fun a u e => ?_, fun a u e1 e2 => ?_⟩
  · by_cases ha : a = p
    · subst ha; rw [upd_same] at e ⊢; exact e
    · rw [upd_ne ha] at e ⊢; exact s a u e
  · rw [upd_ne (ne_of_none e2 h)]; exact e1
theorem Grow.raw {F H : Hp} (s : Le F H) {p : Addr} {o : HO} (h : H p = none) : Grow F H F (upd H p o) :=
  ⟨Le.refl _, Le.new h, s.trans (Le.new h), fun _ _ e _ => e⟩
section
variable {K : Fr} {C : Ct} {F H F' H' : Hp} {σ : L2.St} {Γ : En}
theorem Mu.grow {a : Addr} {d : D} (g : Grow F H F' H') (m : Mu K F H a d) : Mu K F' H' a d := by
  obtain ⟨m1, ds, xs, e, h, q⟩ := m
  exact ⟨g.o a _ m1 h, ds, xs, e, g.h _ _ h, dpa_mono g.f q⟩
theorem SlOk.grow (g : Grow F H F' H') {i : Nat} {v : Option (Option V)} : ∀ {s : Sl}, SlOk K C F H i v s → SlOk K C F' H' i v s
  | .no, _ => trivial
  | .fr d, ⟨x, e, h⟩ => ⟨x, e, dp_mono g.f h⟩
  | .ow d, ⟨a, e, h, m⟩ => ⟨a, e, h, m.grow g⟩
  | .ln d, ⟨a, e, h, m⟩ => ⟨a, e, h, m.grow g⟩
theorem Rel.grow (r : Rel K C F H σ Γ) (g : Grow F H F' H') : Rel K C F' H' σ Γ :=
  ⟨g.s, r.len, fun i s e => (r.ok i s e).grow g, r.apart, r.keep.trans g.h, fun a o e => g.o a o (r.hid a o e) (r.keep a o e), r.pin, fun a o e => let ⟨u, h⟩ := r.there a o e; ⟨u, g.h a u h⟩⟩
theorem Got.grow {v : V} (g : Grow F H F' H') : ∀ {r : Rv}, Got K C F H σ Γ v r → Got K C F' H' σ Γ v r
  | .fr _, h => dp_mono g.f h
  | .nw _, ⟨a, e, h, h2, m, n⟩ => ⟨a, e, h, h2, m.grow g, n⟩
/-- what is new and no slot's may be frozen -/
theorem Rel.freeze (r : Rel K C F H σ Γ) {a : Addr} {u : HO} (h : H a = some u) (n : ∀ (i : Nat) (s : Sl), Γ[i]? = some s → s.own = true → σ[i]? ≠ some (some (.ref a))) (hF : F a = none) (hP : C.Pn a = none) :
    Rel K C (upd F a u) H σ Γ := by
  refine ⟨fun b o e => ?_, r.len, fun i s e => ?_, r.apart, r.keep, fun b o e => by rw [upd_ne (fun z => by rw [z, hP] at e; cases e)]; exact r.hid b o e, r.pin, r.there⟩
  · by_cases hb : b = a
    · subst hb; rw [upd_same] at e; rw [h]; exact e
    · rw [upd_ne hb] at e; exact r.sub b o e
  · have q := r.ok i s e
    cases s with
    | no => trivial
    | fr d => obtain ⟨x, e1, e2⟩ := q; exact ⟨x, e1, dp_mono (Le.new hF) e2⟩
    | ow d =>
      obtain ⟨b, e1, e2, m1, ds, xs, m2, m3, m4⟩ := q
      have hb : b ≠ a := fun z => n i _ e rfl (by rw [e1, z])
      exact ⟨b, e1, e2, by rw [upd_ne hb]; exact m1, ds, xs, m2, m3, dpa_mono (Le.new hF) m4⟩
    | ln d =>
      obtain ⟨b, e1, e2, m1, ds, xs, m2, m3, m4⟩ := q
      have hb : b ≠ a := fun z => n i _ e rfl (by rw [e1, z])
      exact ⟨b, e1, e2, by rw [upd_ne hb]; exact m1, ds, xs, m2, m3, dpa_mono (Le.new hF) m4⟩
/-- a got value as frozen -/
theorem Got.frz {v : V} {r : Rv} (R : Rel K C F H σ Γ) (g : Got K C F H σ Γ v r) : ∃ F', Le F F' ∧ Rel K C F' H σ Γ ∧ Dp K F' v r.d := by
  cases r with
  | fr d => exact ⟨F, Le.refl _, R, g⟩
  | nw d =>
    obtain ⟨a, rfl, h0, hP, ⟨m1, ds, xs, rfl, m3, m4⟩, n⟩ := g
    exact ⟨upd F a (.lst xs), Le.new m1, R.freeze m3 n m1 hP, .lst (SqL.of upd_same) (dpa_mono (Le.new m1) m4)⟩
theorem get_set_eq {α : Type} {l : List α} {i : Nat} {x : α} (h : i < l.length) : (l.set i x)[i]? = some x := by
  rw [List.getElem?_set_self h]
theorem lt_of_get {α : Type} {l : List α} {i : Nat} {x : α} (h : l[i]? = some x) : i < l.length := (List.getElem?_eq_some_iff.mp h).1
/-- a slot forgets that it owns -/
theorem Rel.weak (r : Rel K C F H σ Γ) {i : Nat} {s : Sl} (hs : s.own = false) (q : SlOk K C F H i σ[i]? s) : Rel K C F H σ (Γ.set i s) := by
  refine ⟨r.sub, by rw [List.length_set]; exact r.len, fun j t e => ?_, fun j k t u a hj e1 e2 o1 o2 => ?_, r.keep, r.hid, fun j u a e1 o1 e2 => ?_, r.there⟩
  · rw [List.getElem?_set] at e
    split at e
    · rename_i hij; subst hij
      split at e
      · cases e; exact q
      · cases e
    · exact r.ok j t e
  · rw [List.getElem?_set] at e1 e2
    split at e1
    · split at e1
      · cases e1; rw [hs] at o1; cases o1
      · cases e1
    · split at e2
      · split at e2
        · cases e2; rw [hs] at o2; cases o2
        · cases e2
      · exact r.apart j k t u a hj e1 e2 o1 o2
  · rw [List.getElem?_set] at e1
    split at e1
    · split at e1
      · cases e1; rw [hs] at o1; cases o1
      · cases e1
    · exact r.pin j u a e1 o1 e2
/-- a slot is stored, frozen -/
theorem Rel.store (r : Rel K C F H σ Γ) {i : Nat} {s t : Sl} {x : V} (ht : Γ[i]? = some t) (hl : ∀ d, t ≠ .ln d) (hs : s.own = false) (q : SlOk K C F H i (some (some x)) s) : Rel K C F H (σ.set i (some x)) (Γ.set i s) := by
  have hi : i < σ.length := by rw [r.len]; exact lt_of_get ht
  refine ⟨r.sub, by rw [List.length_set, List.length_set]; exact r.len, fun j u e => ?_, fun j k u w a hj e1 e2 o1 o2 => ?_, r.keep, r.hid, fun j u a e1 o1 e2 => ?_, r.there⟩
  · by_cases hij : i = j
    · subst hij
      rw [get_set_eq (by rw [← r.len]; exact hi)] at e
      cases e
      rw [get_set_eq hi]
      exact q
    · rw [List.getElem?_set_ne hij] at e ⊢
      exact r.ok j u e
  · have hik : j ≠ i := fun z => by
      subst z
      rw [get_set_eq (by rw [← r.len]; exact hi)] at e1
      cases e1; rw [hs] at o1; cases o1
    have hik' : k ≠ i := fun z => by
      subst z
      rw [get_set_eq (by rw [← r.len]; exact hi)] at e2
      cases e2; rw [hs] at o2; cases o2
    rw [List.getElem?_set_ne (Ne.symm hik)] at e1 ⊢
    rw [List.getElem?_set_ne (Ne.symm hik')] at e2 ⊢
    exact r.apart j k u w a hj e1 e2 o1 o2
  · have hik : j ≠ i := fun z => by
      subst z
      rw [get_set_eq (by rw [← r.len]; exact hi)] at e1
      cases e1; rw [hs] at o1; cases o1
    rw [List.getElem?_set_ne (Ne.symm hik)] at e1 e2
    exact r.pin j u a e1 o1 e2
/-- a slot is stored, its own -/
theorem Rel.storeOw (r : Rel K C F H σ Γ) {i : Nat} {t : Sl} {d : D} {a : Addr} (ht : Γ[i]? = some t) (hl : ∀ d, t ≠ .ln d) (h0 : C.H0 a = none) (hP : C.Pn a = none) (m : Mu K F H a d)
    (n : ∀ (i : Nat) (s : Sl), Γ[i]? = some s → s.own = true → σ[i]? ≠ some (some (.ref a))) : Rel K C F H (σ.set i (some (.ref a))) (Γ.set i (.ow d)) := by
  have hi : i < σ.length := by rw [r.len]; exact lt_of_get ht
  have hi' : i < Γ.length := lt_of_get ht
  refine ⟨r.sub, by rw [List.length_set, List.length_set]; exact r.len, fun j u e => ?_, fun j k u w b hj e1 e2 o1 o2 => ?_, r.keep, r.hid, fun j u b e1 o1 e2 => ?_, r.there⟩
  · by_cases hij : i = j
    · subst hij
      rw [get_set_eq hi'] at e
      cases e
      rw [get_set_eq hi]
      exact ⟨a, rfl, h0, m⟩
    · rw [List.getElem?_set_ne hij] at e ⊢
      exact r.ok j u e
  · by_cases hij : i = j
    · subst hij
      have hik : i ≠ k := hj
      rw [get_set_eq hi'] at e1
      rw [List.getElem?_set_ne hik] at e2 ⊢
      rw [get_set_eq hi]
      rintro z; cases z
      exact n k w e2 o2
    · rw [List.getElem?_set_ne hij] at e1 ⊢
      by_cases hik : i = k
      · subst hik
        rw [get_set_eq hi]
        rintro z q; cases q
        exact n j u e1 o1 z
      · rw [List.getElem?_set_ne hik] at e2 ⊢
        exact r.apart j k u w b hj e1 e2 o1 o2
  · by_cases hij : i = j
    · subst hij
      rw [get_set_eq hi] at e2
      cases e2; exact hP
    · rw [List.getElem?_set_ne hij] at e1 e2
      exact r.pin j u b e1 o1 e2
/-- an own object is written -/
theorem Rel.write (r : Rel K C F H σ Γ) {i : Nat} {s : Sl} {a : Addr} {ds : List D} {xs : List V} (hs : Γ[i]? = some s) (own : s.own = true) (hσ : σ[i]? = some (some (.ref a))) (q : DpAll K F xs ds) :
    Rel K C F (upd H a (.lst xs)) σ (Γ.set i (match s with | .ln _ => .ln (.list ds) | _ => .ow (.list ds))) := by
  have hi : i < Γ.length := lt_of_get hs
  have hF : F a = none := by
    have z := r.ok i s hs
    cases s with
    | no => cases own
    | fr d => cases own
    | ow d => obtain ⟨b, e1, _, m, _⟩ := z; rw [hσ] at e1; cases e1; exact m
    | ln d => obtain ⟨b, e1, _, m, _⟩ := z; rw [hσ] at e1; cases e1; exact m
  have hsub : Le F (upd H a (.lst xs)) := fun b o e => by
    rw [upd_ne (fun z => by rw [z, hF] at e; cases e)]; exact r.sub b o e
  refine ⟨hsub, by rw [List.length_set]; exact r.len, fun j u e => ?_, fun j k u w b hj e1 e2 o1 o2 => ?_, fun b o e => ?_, r.hid, fun j u b e1 o1 e2 => ?_, fun b o e => ?_⟩
  · by_cases hij : i = j
    · subst hij
      rw [get_set_eq hi] at e
      have z := r.ok i s hs
      cases s with
      | no => cases own
      | fr d => cases own
      | ow d => obtain ⟨b, e1, e2, m, _⟩ := z; cases e; rw [hσ] at e1 ⊢; cases e1; exact ⟨a, rfl, e2, hF, ds, xs, rfl, upd_same, q⟩
      | ln d => obtain ⟨b, e1, e2, m, _⟩ := z; cases e; rw [hσ] at e1 ⊢; cases e1; exact ⟨a, rfl, e2, hF, ds, xs, rfl, upd_same, q⟩
    · rw [List.getElem?_set_ne hij] at e
      have z := r.ok j u e
      cases u with
      | no => trivial
      | fr d => exact z
      | ow d =>
        obtain ⟨b, e1, e2, m1, ds', xs', m2, m3, m4⟩ := z
        have hb : b ≠ a := fun z => r.apart i j s _ a hij hs e own rfl hσ (by rw [e1, z])
        exact ⟨b, e1, e2, m1, ds', xs', m2, by rw [upd_ne hb]; exact m3, m4⟩
      | ln d =>
        obtain ⟨b, e1, e2, m1, ds', xs', m2, m3, m4⟩ := z
        have hb : b ≠ a := fun z => r.apart i j s _ a hij hs e own rfl hσ (by rw [e1, z])
        exact ⟨b, e1, e2, m1, ds', xs', m2, by rw [upd_ne hb]; exact m3, m4⟩
  · have c1 : ∃ u', Γ[j]? = some u' ∧ u'.own = true := by
      by_cases hij : i = j
      · subst hij; exact ⟨s, hs, own⟩
      · rw [List.getElem?_set_ne hij] at e1; exact ⟨u, e1, o1⟩
    have c2 : ∃ u', Γ[k]? = some u' ∧ u'.own = true := by
      by_cases hij : i = k
      · subst hij; exact ⟨s, hs, own⟩
      · rw [List.getElem?_set_ne hij] at e2; exact ⟨w, e2, o2⟩
    obtain ⟨u', q1, q2⟩ := c1
    obtain ⟨w', q3, q4⟩ := c2
    exact r.apart j k u' w' b hj q1 q3 q2 q4
  · have hb : b ≠ a := fun z => by rw [z, r.pin i s a hs own hσ] at e; cases e
    rw [upd_ne hb]; exact r.keep b o e
  · have c1 : ∃ u', Γ[j]? = some u' ∧ u'.own = true := by
      by_cases hij : i = j
      · subst hij; exact ⟨s, hs, own⟩
      · rw [List.getElem?_set_ne hij] at e1; exact ⟨u, e1, o1⟩
    obtain ⟨u', q1, q2⟩ := c1
    exact r.pin j u' b q1 q2 e2
  · by_cases hb : b = a
    · exact ⟨_, by rw [hb]; exact upd_same⟩
    · rw [upd_ne hb]; exact r.there b o e
theorem Rel.fresh (r : Rel K C F H σ Γ) {p : Addr} (h : H p = none) : C.H0 p = none := by
  cases e : C.H0 p with
  | none => rfl
  | some o => obtain ⟨u, q⟩ := r.there p o e; rw [h] at q; cases q
theorem Rel.freshP (r : Rel K C F H σ Γ) {p : Addr} (h : H p = none) : C.Pn p = none := by
  cases e : C.Pn p with
  | none => rfl
  | some o => have q := r.keep p o e; rw [h] at q; cases q
theorem Rel.freshF (r : Rel K C F H σ Γ) {p : Addr} (h : H p = none) : F p = none := by
  cases e : F p with
  | none => rfl
  | some o => have q := r.sub p o e; rw [h] at q; cases q
end
end Pu

namespace Pu
open PySem PySem.Spec PyProof.Rows L2

/-! ### operands: an expression, or a slot that is looked at -/
inductive Od where
  | e (c : CE)
  | v (i : Nat)
def Sl.dat : Sl → Option D
  | .no => none
  | .fr d => some d
  | .ow d => some d
  | .ln d => some d
def datAt (Γ : En) (i : Nat) : Option D := Γ[i]?.bind Sl.dat
def Od.run : Od → CE
  | .e c => c
  | .v i => fun Γ => (datAt Γ i).bind fun d => some (d, Γ)
def Od.fin : Od → D → En → Option D
  | .e _, d, _ => some d
  | .v i, _, Γ => datAt Γ i
def Lk (K : Fr) (F H : Hp) (v : V) (d : D) : Prop := Dp K F v d ∨ ∃ a ds xs, v = .ref a ∧ d = .list ds ∧ H a = some (.lst xs) ∧ DpAll K F xs ds
theorem Lk.dp {K : Fr} {F H : Hp} {v : V} {d : D} (s : Le F H) (l : Lk K F H v d) : Dp K H v d := by
  rcases l with l | ⟨a, ds, xs, rfl, rfl, h, q⟩
  · exact dp_mono s l
  · exact .lst (SqL.of h) (dpa_mono s q)
section
variable {K : Fr} {C : Ct} {F H F' H' : Hp} {σ : L2.St} {Γ : En}
theorem Rel.look (r : Rel K C F H σ Γ) {i : Nat} {d : D} (h : datAt Γ i = some d) : ∃ v, σ[i]? = some (some v) ∧ Lk K F H v d := by
  unfold datAt at h
  cases hs : Γ[i]? with
  | none => rw [hs] at h; cases h
  | some s =>
    rw [hs] at h
    have q := r.ok i s hs
    cases s with
    | no => cases h
    | fr e => cases h; obtain ⟨x, e1, e2⟩ := q; exact ⟨x, e1, .inl e2⟩
    | ow e => cases h; obtain ⟨a, e1, _, _, ds, xs, e2, e3, e4⟩ := q; exact ⟨.ref a, e1, .inr ⟨a, ds, xs, rfl, e2, e3, e4⟩⟩
    | ln e => cases h; obtain ⟨a, e1, _, _, ds, xs, e2, e3, e4⟩ := q; exact ⟨.ref a, e1, .inr ⟨a, ds, xs, rfl, e2, e3, e4⟩⟩
end
def tO (K : Fr) (o : Od) : TE := fun σ H Q => ∃ C F Γ d Γ', Rel K C F H σ Γ ∧ o.run Γ = some (d, Γ') ∧
  ∀ F' H' v, Le F F' → Rel K C F' H' σ Γ' → (∀ F2 H2 Γ2 d2, Le F' F2 → Rel K C F2 H2 σ Γ2 → o.fin d Γ2 = some d2 → Lk K F2 H2 v d2) → Q v H'
abbrev O (X : Cx) (e : Expr) (o : Od) : Prop := PE X e (tO X.K o)
section
variable {X : Cx} {e a b : Expr} {c : CE} {oa ob : Od} {pos : Pos}
theorem o_e (h : E X e c) : O X e (.e c) := PE.imp h fun σ H Q ⟨C, F, Γ, d, Γ', R, hc, k⟩ =>
  ⟨C, F, Γ, d, Γ', R, hc, fun F' H' v l R' q => k F' H' v l R' fun F2 H2 Γ2 d2 l2 R2 hd => by
    cases (show some d = some d2 from hd)
    exact .inl (dp_mono l2 q)⟩
theorem o_v {i : Nat} (h : PE X e (tVar i)) : O X e (.v i) := PE.imp h fun σ H Q ⟨C, F, Γ, d, Γ', R, hc, k⟩ => by
  unfold Od.run at hc
  cases hd : datAt Γ i with
  | none => simp [hd] at hc
  | some d0 =>
    simp [hd] at hc
    obtain ⟨rfl, rfl⟩ := hc
    obtain ⟨v, e1, e2⟩ := R.look hd
    refine ⟨v, e1, k F H v (Le.refl _) R fun F2 H2 Γ2 d2 l2 R2 hd2 => ?_⟩
    obtain ⟨w, e3, e4⟩ := R2.look (show datAt Γ2 i = some d2 from hd2)
    rw [e1] at e3; cases e3
    exact e4
/-- a slot as a value: what it owns is frozen -/
def cVar (i : Nat) : CE := fun Γ => match Γ[i]? with
  | some (.fr d) => some (d, Γ)
  | some (.ow d) => some (d, Γ.set i (.fr d))
  | _ => none
theorem e_v {i : Nat} (h : PE X e (tVar i)) : E X e (cVar i) := PE.imp h fun σ H Q ⟨C, F, Γ, d, Γ', R, hc, k⟩ => by
  unfold cVar at hc
  split at hc
  · rename_i d0 hs
    cases hc
    obtain ⟨x, e1, e2⟩ := R.ok i _ hs
    exact ⟨x, e1, k F H x (Le.refl _) R e2⟩
  · rename_i d0 hs
    cases hc
    obtain ⟨a, e1, e2, m1, ds, xs, rfl, m3, m4⟩ := R.ok i _ hs
    have hF : Le F (upd F a (.lst xs)) := Le.new m1
    have hD : Dp X.K (upd F a (.lst xs)) (.ref a) (.list ds) := .lst (SqL.of upd_same) (dpa_mono hF m4)
    have R1 : Rel X.K C F H σ (Γ.set i .no) := R.weak rfl trivial
    have R2 : Rel X.K C (upd F a (.lst xs)) H σ (Γ.set i .no) := R1.freeze m3 (fun j s hj ho z => by
      rw [List.getElem?_set] at hj
      split at hj
      · split at hj
        · cases hj; cases ho
        · cases hj
      · rename_i hij
        exact R.apart i j _ s a hij hs hj rfl ho e1 z) m1 (R.pin i _ a hs rfl e1)
    have R3 : Rel X.K C (upd F a (.lst xs)) H σ ((Γ.set i .no).set i (.fr (.list ds))) := R2.weak rfl ⟨.ref a, e1, hD⟩
    rw [List.set_set] at R3
    exact ⟨.ref a, e1, k _ H _ hF R3 hD⟩
  · cases hc
/-- a slot that owns, handed on as new (a return) -/
def nVar (i : Nat) : CN := fun Γ => match Γ[i]? with
  | some (.fr d) => some (.fr d, Γ)
  | some (.ow d) => some (.nw d, Γ.set i .no)
  | _ => none
theorem n_v {i : Nat} (h : PE X e (tVar i)) : N X e (nVar i) := PE.imp h fun σ H Q ⟨C, F, Γ, d, Γ', R, hc, k⟩ => by
  unfold nVar at hc
  split at hc
  · rename_i d0 hs
    cases hc
    obtain ⟨x, e1, e2⟩ := R.ok i _ hs
    exact ⟨x, e1, k F H x (Le.refl _) R e2⟩
  · rename_i d0 hs
    cases hc
    obtain ⟨a, e1, e2, m⟩ := R.ok i _ hs
    refine ⟨.ref a, e1, k F H _ (Le.refl _) (R.weak rfl trivial) ⟨a, rfl, e2, R.pin i _ a hs rfl e1, m, fun j s hj ho z => ?_⟩⟩
    rw [List.getElem?_set] at hj
    split at hj
    · split at hj
      · cases hj; cases ho
      · cases hj
    · rename_i hij
      exact R.apart i j _ s a hij hs hj rfl ho e1 z
  · cases hc
def frz (c : CN) : CE := fun Γ => (c Γ).bind fun p => some (p.1.d, p.2)
theorem e_n {c : CN} (h : N X e c) : E X e (frz c) := PE.imp h fun σ H Q ⟨C, F, Γ, d, Γ', R, hc, k⟩ => by
  unfold frz at hc
  cases h1 : c Γ with
  | none => simp [h1] at hc
  | some p =>
    simp [h1] at hc
    obtain ⟨rfl, rfl⟩ := hc
    refine ⟨C, F, Γ, p.1, p.2, R, h1, fun F' H' v l R' g => ?_⟩
    obtain ⟨F2, l2, R2, q⟩ := g.frz R'
    exact k F2 H' v (l.trans l2) R2 q
def asN (c : CE) : CN := fun Γ => (c Γ).bind fun p => some (.fr p.1, p.2)
theorem n_e (h : E X e c) : N X e (asN c) := PE.imp h fun σ H Q ⟨C, F, Γ, d, Γ', R, hc, k⟩ => by
  unfold asN at hc
  cases h1 : c Γ with
  | none => simp [h1] at hc
  | some p =>
    simp [h1] at hc
    obtain ⟨rfl, rfl⟩ := hc
    exact ⟨C, F, Γ, p.1, p.2, R, h1, fun F' H' v l R' q => k F' H' v l R' q⟩

/-! ### constants -/
def cC (d : D) : CE := fun Γ => some (d, Γ)
theorem e_c {v : V} {d : D} (h : PE X e (tC v)) (q : ∀ F : Hp, Dp X.K F v d) : E X e (cC d) := PE.imp h fun σ H Q ⟨C, F, Γ, d, Γ', R, hc, k⟩ => by
  cases hc
  exact k F H v (Le.refl _) R (q F)
theorem e_int {i j} : E X (.Constant (.int i) j pos) (cC (.int i)) := e_c pe_int fun _ => .int i
theorem e_bl {i j} : E X (.Constant (.bool i) j pos) (cC (.bool i)) := e_c pe_bl fun _ => .bl i
theorem e_non {j} : E X (.Constant .none j pos) (cC .none) := e_c pe_non fun _ => .non
theorem e_str {x j} : E X (.Constant (.str x) j pos) (cC (.str x)) := e_c pe_str fun _ => .str x

/-! ### operators -/
def rD2 (K : Fr) (f : D → D → Option D) : R2 := fun x y H Q => ∃ F d e z, Le F H ∧ Lk K F H x d ∧ Lk K F H y e ∧ f d e = some z ∧ ∀ F' H' v, Grow F H F' H' → Dp K F' v z → Q v H'
def cOp (f : D → D → Option D) (a b : Od) : CE := fun Γ => (a.run Γ).bind fun p => (b.run p.2).bind fun q => (a.fin p.1 q.2).bind fun x => (b.fin q.1 q.2).bind fun y => (f x y).bind fun z => some (z, q.2)
theorem op_to {f : D → D → Option D} {σ : L2.St} {H : Hp} {Q : VK} {K : Fr} (h : tE K (cOp f oa ob) σ H Q) : tOp (rD2 K f) (tO K oa) (tO K ob) σ H Q := by
  obtain ⟨C, F, Γ, d, Γ', R, hc, k⟩ := h
  unfold cOp at hc
  cases h1 : oa.run Γ with
  | none => simp [h1] at hc
  | some p =>
    obtain ⟨da, Γ1⟩ := p
    simp [h1] at hc
    cases h2 : ob.run Γ1 with
    | none => simp [h2] at hc
    | some q =>
      obtain ⟨db, Γ2⟩ := q
      simp only [h2, Option.bind_some, Option.bind_eq_some_iff, Option.some.injEq, Prod.mk.injEq] at hc
      obtain ⟨x, hx, y, hy, z, hz, rfl, rfl⟩ := hc
      refine ⟨C, F, Γ, da, Γ1, R, h1, fun F1 H1 v l1 R1 lk1 => ?_⟩
      refine ⟨C, F1, Γ1, db, Γ2, R1, h2, fun F2 H2 u l2 R2 lk2 => ?_⟩
      refine ⟨F2, x, y, z, R2.sub, lk1 F2 H2 Γ2 x l2 R2 hx, lk2 F2 H2 Γ2 y (Le.refl _) R2 hy, hz, fun F3 H3 w g q => ?_⟩
      exact k F3 H3 w ((l1.trans l2).trans g.f) (R2.grow g) q
theorem e_op {op : Operator} {f : D → D → Option D} (ho : OpR X (binaryOp op) (rD2 X.K f)) (ha : O X a oa) (hb : O X b ob) : E X (.BinOp a op b pos) (cOp f oa ob) :=
  PE.imp (pe_op ho ha hb) fun _ _ _ h => op_to h
theorem e_cmp {op : CmpOp} {f : D → D → Option D} (ho : OpR X (compareOp op) (rD2 X.K f)) (ha : O X a oa) (hb : O X b ob) (hm : behindInMarks op b = false) : E X (.Compare a [op] [b] pos) (cOp f oa ob) :=
  PE.imp (pe_cmpR ho ha hb hm) fun _ _ _ h => op_to h
def rD1 (K : Fr) (f : D → Option D) : V → Hp → VK → Prop := fun x H Q => ∃ F d z, Le F H ∧ Lk K F H x d ∧ f d = some z ∧ ∀ F' H' v, Grow F H F' H' → Dp K F' v z → Q v H'
def cUn (f : D → Option D) (a : Od) : CE := fun Γ => (a.run Γ).bind fun p => (a.fin p.1 p.2).bind fun x => (f x).bind fun z => some (z, p.2)
theorem un_to {f : D → Option D} {σ : L2.St} {H : Hp} {Q : VK} {K : Fr} (h : tE K (cUn f oa) σ H Q) : tUn (rD1 K f) (tO K oa) σ H Q := by
  obtain ⟨C, F, Γ, d, Γ', R, hc, k⟩ := h
  unfold cUn at hc
  cases h1 : oa.run Γ with
  | none => simp [h1] at hc
  | some p =>
    obtain ⟨da, Γ1⟩ := p
    simp only [h1, Option.bind_some, Option.bind_eq_some_iff, Option.some.injEq, Prod.mk.injEq] at hc
    obtain ⟨x, hx, z, hz, rfl, rfl⟩ := hc
    refine ⟨C, F, Γ, da, Γ1, R, h1, fun F1 H1 v l1 R1 lk1 => ?_⟩
    exact ⟨F1, x, z, R1.sub, lk1 F1 H1 Γ1 x (Le.refl _) R1 hx, hz, fun F3 H3 w g q => k F3 H3 w (l1.trans g.f) (R1.grow g) q⟩
theorem e_un {op : UnaryOp} {f : D → Option D} (ho : UnR X (unaryOp op) (rD1 X.K f)) (ha : O X a oa) : E X (.UnaryOp op a pos) (cUn f oa) :=
  PE.imp (pe_un ho ha) fun _ _ _ h => un_to h
theorem e_ix {f : D → D → Option D} (ho : IxR X (rD2 X.K f)) (ha : O X a oa) (hb : O X b ob) (hs : PlainIx b := by exact fun _ _ => rfl) : E X (.Subscript a b pos) (cOp f oa ob) :=
  PE.imp (pe_ix ho ha hb hs) fun _ _ _ h => op_to h

/-! ### tests -/
def toB : D → Option Bool
  | .bool b => some b
  | _ => none
theorem dp_bool {K : Fr} {F : Hp} {v : V} {b : Bool} (h : Dp K F v (.bool b)) : v = .bl b := by cases h; rfl
def cB (c : CE) : CT := fun Γ => (c Γ).bind fun p => (toB p.1).bind fun b => some (b, p.2)
theorem toB_some {d : D} {b : Bool} (h : toB d = some b) : d = .bool b := by
  cases d <;> simp [toB] at h
  rw [h]
theorem tB_to {σ : L2.St} {H : Hp} {Q : Bool → Hp → Prop} {K : Fr} (h : tT K (cB c) σ H Q) : tE K c σ H fun x H' => ∃ k, x = .bl k ∧ Q k H' := by
  obtain ⟨C, F, Γ, b, Γ', R, hc, k⟩ := h
  unfold cB at hc
  cases h1 : c Γ with
  | none => simp [h1] at hc
  | some p =>
    obtain ⟨d, Γ1⟩ := p
    simp only [h1, Option.bind_some, Option.bind_eq_some_iff, Option.some.injEq, Prod.mk.injEq] at hc
    obtain ⟨b1, hb, rfl, rfl⟩ := hc
    have e := toB_some hb
    subst e
    exact ⟨C, F, Γ, _, Γ1, R, h1, fun F' H' v l R' q => ⟨_, dp_bool q, k F' H' l R'⟩⟩
theorem t_val (h : E X e c) (he : ∀ whole, isTrue e X.env whole = (do let v ← whole; standAt e.pos; holding [v] (truthy v)) := by intro _; rfl) : T X e (cB c) :=
  PT.imp (pt_val h he) fun _ _ _ h => tB_to h
theorem t_cmp {op : CmpOp} {f : D → D → Option D} (ho : OpR X (compareOp op) (rD2 X.K f)) (ha : O X a oa) (hb : O X b ob) (hm : behindInMarks op b = false) : T X (.Compare a [op] [b] pos) (cB (cOp f oa ob)) :=
  PT.imp (pt_cmpR ho ha hb hm) fun _ _ _ h => by
    have q := tB_to h
    exact op_to q
def cAnd (s t : CT) : CT := fun Γ => (s Γ).bind fun p => if p.1 = true then t p.2 else some (false, p.2)
def cOr (s t : CT) : CT := fun Γ => (s Γ).bind fun p => if p.1 = true then some (true, p.2) else t p.2
def cNot (s : CT) : CT := fun Γ => (s Γ).bind fun p => some (!p.1, p.2)
theorem tw_and1 {s : CT} (h : T X a s) : TW X (.BoolOp .And [a] pos) s := pw_and1 h
theorem tw_or1 {s : CT} (h : T X a s) : TW X (.BoolOp .Or [a] pos) s := pw_or1 h
theorem and_to {s t : CT} {σ : L2.St} {H : Hp} {Q : Bool → Hp → Prop} {K : Fr} (h : tT K (cAnd s t) σ H Q) : tAnd (tT K s) (tT K t) σ H Q := by
  obtain ⟨C, F, Γ, b, Γ', R, hc, k⟩ := h
  unfold cAnd at hc
  cases h1 : s Γ with
  | none => simp [h1] at hc
  | some p =>
    obtain ⟨d, Γ1⟩ := p
    refine ⟨C, F, Γ, d, Γ1, R, h1, fun F' H' l R' => ?_⟩
    cases d with
    | true =>
      simp [h1] at hc
      exact ⟨C, F', Γ1, b, Γ', R', hc, fun F2 H2 l2 R2 => k F2 H2 (l.trans l2) R2⟩
    | false =>
      simp [h1] at hc
      obtain ⟨rfl, rfl⟩ := hc
      exact k F' H' l R'
theorem or_to {s t : CT} {σ : L2.St} {H : Hp} {Q : Bool → Hp → Prop} {K : Fr} (h : tT K (cOr s t) σ H Q) : tOr (tT K s) (tT K t) σ H Q := by
  obtain ⟨C, F, Γ, b, Γ', R, hc, k⟩ := h
  unfold cOr at hc
  cases h1 : s Γ with
  | none => simp [h1] at hc
  | some p =>
    obtain ⟨d, Γ1⟩ := p
    refine ⟨C, F, Γ, d, Γ1, R, h1, fun F' H' l R' => ?_⟩
    cases d with
    | false =>
      simp [h1] at hc
      exact ⟨C, F', Γ1, b, Γ', R', hc, fun F2 H2 l2 R2 => k F2 H2 (l.trans l2) R2⟩
    | true =>
      simp [h1] at hc
      obtain ⟨rfl, rfl⟩ := hc
      exact k F' H' l R'
theorem tw_and {s t : CT} {rest : List Expr} (h : T X a s) (h2 : TW X (.BoolOp .And (b :: rest) pos) t) : TW X (.BoolOp .And (a :: b :: rest) pos) (cAnd s t) := PW.imp (pw_and h h2) fun _ _ _ h => and_to h
theorem tw_or {s t : CT} {rest : List Expr} (h : T X a s) (h2 : TW X (.BoolOp .Or (b :: rest) pos) t) : TW X (.BoolOp .Or (a :: b :: rest) pos) (cOr s t) := PW.imp (pw_or h h2) fun _ _ _ h => or_to h
theorem t_w {s : CT} (h : TW X a s) : T X a s := PW.pt h
theorem t_not {s : CT} (h : T X a s) : T X (.UnaryOp .Not a pos) (cNot s) := PT.imp (pt_not h) fun _ _ _ h => by
  obtain ⟨C, F, Γ, b, Γ', R, hc, k⟩ := h
  unfold cNot at hc
  cases h1 : s Γ with
  | none => simp [h1] at hc
  | some p =>
    obtain ⟨d, Γ1⟩ := p
    simp [h1] at hc
    obtain ⟨rfl, rfl⟩ := hc
    exact ⟨C, F, Γ, _, _, R, h1, fun F' H' l R' => by
      have q := k F' H' l R'
      simpa using q⟩
/-! and, or, not as values, of truth values -/
def cAndV (s t : CE) : CE := fun Γ => (cB s Γ).bind fun p => if p.1 = true then t p.2 else some (.bool false, p.2)
def cOrV (s t : CE) : CE := fun Γ => (cB s Γ).bind fun p => if p.1 = true then some (.bool true, p.2) else t p.2
def cNotV (s : CE) : CE := fun Γ => (cB s Γ).bind fun p => some (.bool (!p.1), p.2)
theorem e_one {op} (h : E X a c) : E X (.BoolOp op [a] pos) c := pe_one h
theorem e_and {s t : CE} {rest : List Expr} (h : E X a s) (h2 : E X (.BoolOp .And (b :: rest) pos) t) : E X (.BoolOp .And (a :: b :: rest) pos) (cAndV s t) := PE.imp (pe_and h h2) fun _ _ _ h => by
  obtain ⟨C, F, Γ, b, Γ', R, hc, k⟩ := h
  unfold cAndV at hc
  cases h1 : cB s Γ with
  | none => simp [h1] at hc
  | some p =>
    obtain ⟨d, Γ1⟩ := p
    refine tB_to ⟨C, F, Γ, d, Γ1, R, h1, fun F' H' l R' => ?_⟩
    cases d with
    | true =>
      simp [h1] at hc
      exact ⟨C, F', Γ1, b, Γ', R', hc, fun F2 H2 v l2 R2 q => k F2 H2 v (l.trans l2) R2 q⟩
    | false =>
      simp [h1] at hc
      obtain ⟨rfl, rfl⟩ := hc
      exact k F' H' _ l R' (.bl false)
theorem e_or {s t : CE} {rest : List Expr} (h : E X a s) (h2 : E X (.BoolOp .Or (b :: rest) pos) t) : E X (.BoolOp .Or (a :: b :: rest) pos) (cOrV s t) := PE.imp (pe_or h h2) fun _ _ _ h => by
  obtain ⟨C, F, Γ, b, Γ', R, hc, k⟩ := h
  unfold cOrV at hc
  cases h1 : cB s Γ with
  | none => simp [h1] at hc
  | some p =>
    obtain ⟨d, Γ1⟩ := p
    refine tB_to ⟨C, F, Γ, d, Γ1, R, h1, fun F' H' l R' => ?_⟩
    cases d with
    | false =>
      simp [h1] at hc
      exact ⟨C, F', Γ1, b, Γ', R', hc, fun F2 H2 v l2 R2 q => k F2 H2 v (l.trans l2) R2 q⟩
    | true =>
      simp [h1] at hc
      obtain ⟨rfl, rfl⟩ := hc
      exact k F' H' _ l R' (.bl true)
theorem e_not {s : CE} (h : E X a s) : E X (.UnaryOp .Not a pos) (cNotV s) := PE.imp (pe_not h) fun _ _ _ h => by
  obtain ⟨C, F, Γ, b0, Γ', R, hc, k⟩ := h
  unfold cNotV at hc
  cases h1 : cB s Γ with
  | none => simp [h1] at hc
  | some p =>
    obtain ⟨d, Γ1⟩ := p
    simp [h1] at hc
    obtain ⟨rfl, rfl⟩ := hc
    exact tB_to ⟨C, F, Γ, _, _, R, h1, fun F' H' l R' => k F' H' _ l R' (.bl _)⟩
def cIf (s : CT) (t u : CE) : CE := fun Γ => (s Γ).bind fun p => if p.1 = true then t p.2 else u p.2
theorem e_if {s : CT} {t u : CE} {x : Expr} (hc : T X x s) (ha : E X a t) (hb : E X b u) : E X (.IfExp x a b pos) (cIf s t u) := PE.imp (pe_ifExp hc ha hb) fun _ _ _ h => by
  obtain ⟨C, F, Γ, b, Γ', R, hc, k⟩ := h
  unfold cIf at hc
  cases h1 : s Γ with
  | none => simp [h1] at hc
  | some p =>
    obtain ⟨d, Γ1⟩ := p
    refine ⟨C, F, Γ, d, Γ1, R, h1, fun F' H' l R' => ?_⟩
    cases d <;> simp [h1] at hc
    · exact ⟨C, F', Γ1, b, Γ', R', hc, fun F2 H2 v l2 R2 q => k F2 H2 v (l.trans l2) R2 q⟩
    · exact ⟨C, F', Γ1, b, Γ', R', hc, fun F2 H2 v l2 R2 q => k F2 H2 v (l.trans l2) R2 q⟩
end

/-! ### argument lists, frozen; and as operands -/
def cNil : CA := fun Γ => some ([], Γ)
def cCons (c : CE) (r : CA) : CA := fun Γ => (c Γ).bind fun p => (r p.2).bind fun q => some (p.1 :: q.1, q.2)
section
variable {X : Cx} {e : Expr} {es : List Expr} {c : CE} {r : CA} {pos : Pos}
theorem a_nil : Ar X [] cNil := PA.imp pa_nil fun _ H _ ⟨C, F, Γ, ds, Γ', R, hc, k⟩ => by
  cases hc
  exact k F H [] (Le.refl _) R .nil
theorem a_cons (h : E X e c) (hr : Ar X es r) (hs : starEach (e :: es) X.env = (false, eval e X.env) :: starEach es X.env := by rfl) : Ar X (e :: es) (cCons c r) := PA.imp (pa_cons h hr hs) fun _ H _ ⟨C, F, Γ, ds, Γ', R, hc, k⟩ => by
  unfold cCons at hc
  cases h1 : c Γ with
  | none => simp [h1] at hc
  | some p =>
    obtain ⟨d, Γ1⟩ := p
    cases h2 : r Γ1 with
    | none => simp [h1, h2] at hc
    | some q =>
      obtain ⟨dr, Γ2⟩ := q
      simp [h1, h2] at hc
      obtain ⟨rfl, rfl⟩ := hc
      refine ⟨C, F, Γ, d, Γ1, R, h1, fun F1 H1 v l1 R1 q1 => ?_⟩
      refine ⟨C, F1, Γ1, dr, Γ2, R1, h2, fun F2 H2 vs l2 R2 q2 => ?_⟩
      exact k F2 H2 (v :: vs) (l1.trans l2) R2 (.cons (dp_mono l2 q1) q2)
theorem dpa_len {K : Fr} {F : Hp} : ∀ {vs : List V} {ds : List D}, DpAll K F vs ds → vs.length = ds.length
  | _, _, .nil => rfl
  | _, _, .cons _ t => congrArg (· + 1) (dpa_len t)
def cTup (r : CA) : CE := fun Γ => (r Γ).bind fun p => if p.1.length ≤ sizeLine then some (.tuple p.1, p.2) else none
theorem e_tup {x1} (h : Ar X es r) : E X (.Tuple es x1 pos) (cTup r) := PE.imp (pe_tup h) fun _ H _ ⟨C, F, Γ, ds, Γ', R, hc, k⟩ => by
  unfold cTup at hc
  cases h1 : r Γ with
  | none => simp [h1] at hc
  | some p =>
    obtain ⟨d, Γ1⟩ := p
    simp [h1] at hc
    obtain ⟨hz, rfl, rfl⟩ := hc
    refine ⟨C, F, Γ, d, Γ1, R, h1, fun F1 H1 vs l1 R1 q1 => ⟨by rw [dpa_len q1]; exact hz, fun p np => ?_⟩⟩
    have g := Grow.new R1.sub (o := .tup vs) np
    exact k _ _ _ (l1.trans g.f) (R1.grow g) (.tup (SqT.of upd_same) (dpa_mono g.f q1))
/-- a new list is got -/
theorem got_new {K : Fr} {C : Ct} {F H : Hp} {σ : L2.St} {Γ : En} {p : Addr} {vs : List V} {ds : List D} (R : Rel K C F H σ Γ) (np : H p = none) (q : DpAll K F vs ds) :
    Got K C F (upd H p (.lst vs)) σ Γ (.ref p) (.nw (.list ds)) := by
  have fp : F p = none := by
    cases e : F p with
    | none => rfl
    | some u => rw [R.sub p u e] at np; cases np
  refine ⟨p, rfl, R.fresh np, R.freshP np, ⟨fp, ds, vs, rfl, upd_same, q⟩, fun i s hs ho z => ?_⟩
  have w := R.ok i s hs
  cases s with
  | no => cases ho
  | fr d => cases ho
  | ow d => obtain ⟨a, e1, _, _, _, _, _, e2, _⟩ := w; rw [z] at e1; cases e1; rw [np] at e2; cases e2
  | ln d => obtain ⟨a, e1, _, _, _, _, _, e2, _⟩ := w; rw [z] at e1; cases e1; rw [np] at e2; cases e2
end
end Pu

namespace Pu
open PySem PySem.Spec PyProof.Rows L2

/-! ### statements -/
def put (Γ : En) (i : Nat) (s : Sl) : Option En := match Γ[i]? with
  | some (.ln _) => none
  | some _ => some (Γ.set i s)
  | none => none
theorem put_some {Γ Γ' : En} {i : Nat} {s : Sl} (h : put Γ i s = some Γ') : ∃ t, Γ[i]? = some t ∧ (∀ d, t ≠ .ln d) ∧ Γ' = Γ.set i s := by
  unfold put at h
  split at h
  · cases h
  · rename_i t hn ht
    cases h
    exact ⟨_, ht, fun d z => hn d z, rfl⟩
  · cases h
section
variable {X : Cx} {e : Expr} {c : CE} {pos : Pos}
theorem asg_name {K : Fr} {C : Ct} {F H : Hp} {σ : L2.St} {Γ Γ' : En} {i : Nat} {v : V} {d : D} (R : Rel K C F H σ Γ) (q : Dp K F v d) (h : put Γ i (.fr d) = some Γ') : Rel K C F H (σ.set i (some v)) Γ' := by
  obtain ⟨t, ht, hl, rfl⟩ := put_some h
  exact R.store ht hl rfl ⟨v, rfl, q⟩
theorem same_set (σ : L2.St) (i : Nat) (v : Option V) : Same [i] σ (σ.set i v) := ⟨List.length_set, fun j hj => by
  rw [List.getElem?_set_ne (fun e => hj (by simp [e]))]⟩
theorem Same.refl (σ : L2.St) : Same [] σ σ := ⟨rfl, fun _ _ => rfl⟩
theorem Same.app {ts us : List Nat} {σ σ1 σ2 : L2.St} (a : Same ts σ σ1) (b : Same us σ1 σ2) : Same (ts ++ us) σ σ2 :=
  ⟨b.1.trans a.1, fun j hj => (b.2 j fun z => hj (List.mem_append_right _ z)).trans (a.2 j fun z => hj (List.mem_append_left _ z))⟩
def gN (i : Nat) : CG := fun d Γ => put Γ i (.fr d)
theorem g_name {i : Nat} {x : Str} (hN : X.N.Nodup) (hi : X.N[i]? = some x) (hx : Loc X.env.scope x) (hf : X.fn x = true ∨ X.env.scope.names.lookup x = some .local := by first | exact .inl rfl | exact .inr rfl | assumption) : G X (.Name x pos) [i] (gN i) :=
  ⟨fun pins s σ H v u Q I r ⟨C, F, Γ, d, Γ', R, q, hc, k⟩ => (pg_name hN hi hx hf).run pins s σ H v u Q I r (k F H _ (Le.refl _) (asg_name R q hc) (same_set _ _ _))⟩
abbrev CGs := List D → En → Option En
def tGs (K : Fr) (ts : List Nat) (c : CGs) : TGs := fun vs σ H Q => ∃ C F Γ ds Γ', Rel K C F H σ Γ ∧ DpAll K F vs ds ∧ c ds Γ = some Γ' ∧ ∀ F' H' σ', Le F F' → Rel K C F' H' σ' Γ' → Same ts σ σ' → Q σ' H'
abbrev Gs (X : Cx) (es : List Expr) (ts : List Nat) (c : CGs) : Prop := PGs X es (tGs X.K ts c)
def gNil2 : CGs := fun ds Γ => match ds with
  | [] => some Γ
  | _ => none
def gCons2 (g : CG) (r : CGs) : CGs := fun ds Γ => match ds with
  | d :: ds => (g d Γ).bind fun Γ1 => r ds Γ1
  | [] => none
theorem PGs.imp {es : List Expr} {t u : TGs} (h : PGs X es t) (i : ∀ vs σ H Q, u vs σ H Q → t vs σ H Q) : PGs X es u := ⟨fun pins s σ H vs us Q I r q => h.run pins s σ H vs us Q I r (i _ _ _ _ q)⟩
theorem PG.imp {e : Expr} {t u : TG} (h : PG X e t) (i : ∀ v σ H Q, u v σ H Q → t v σ H Q) : PG X e u := ⟨fun pins s σ H v w Q I r q => h.run pins s σ H v w Q I r (i _ _ _ _ q)⟩
theorem gs_nil : Gs X [] [] gNil2 := PGs.imp pgs_nil fun vs σ H Q ⟨C, F, Γ, ds, Γ', R, q, hc, k⟩ => by
  unfold gNil2 at hc
  split at hc
  · cases hc; cases q; exact ⟨rfl, k F H σ (Le.refl _) R (Same.refl _)⟩
  · cases hc
theorem gs_cons {e : Expr} {es : List Expr} {ts us : List Nat} {g : CG} {r : CGs} (h1 : G X e ts g) (h2 : Gs X es us r) (hs : (assignEach (e :: es) X.env).map (·.2) = assign e X.env :: (assignEach es X.env).map (·.2) := by rfl) : Gs X (e :: es) (ts ++ us) (gCons2 g r) := PGs.imp (pgs_cons h1 h2 hs) fun vs σ H Q ⟨C, F, Γ, ds, Γ', R, q, hc, k⟩ => by
  unfold gCons2 at hc
  split at hc
  · rename_i d ds
    cases q with
    | @cons v vs _ _ q1 q2 =>
      cases h1 : g d Γ with
      | none => simp [h1] at hc
      | some Γ1 =>
        simp only [h1, Option.bind_some] at hc
        refine ⟨v, vs, rfl, C, F, Γ, d, Γ1, R, q1, h1, fun F' H' σ' l R' s1 => ?_⟩
        exact ⟨C, F', Γ1, ds, Γ', R', dpa_mono l q2, hc, fun F2 H2 σ2 l2 R2 s2 => k F2 H2 σ2 (l.trans l2) R2 (s1.app s2)⟩
  · cases hc
def gT (g : CGs) : CG := fun d Γ => match d with
  | .tuple ds => g ds Γ
  | _ => none
theorem gs_len {g : CGs} {K : Fr} : True := trivial
/-- how many the targets are -/
def nG (g : CGs) (n : Nat) : Prop := ∀ ds Γ Γ', g ds Γ = some Γ' → ds.length = n
theorem nG_nil : nG gNil2 0 := fun ds Γ Γ' h => by
  unfold gNil2 at h
  split at h
  · rfl
  · cases h
theorem nG_cons {g : CG} {r : CGs} {n : Nat} (h : nG r n) : nG (gCons2 g r) (n + 1) := fun ds Γ Γ' q => by
  unfold gCons2 at q
  split at q
  · rename_i d ds
    cases h1 : g d Γ with
    | none => simp [h1] at q
    | some Γ1 =>
      simp only [h1, Option.bind_some] at q
      rw [List.length_cons, h _ _ _ q]
  · cases q
theorem g_tup {es : List Expr} {k : Nat} {ts : List Nat} {g : CGs} {n : Nat} (hc : X.calm = true) (h : Gs X es ts g) (hg : nG g n) (hn : (assignEach es X.env).length = n := by rfl) (hst : (assignEach es X.env).findIdx? (·.1) = none := by rfl) : G X (.Tuple es k pos) ts (gT g) := PG.imp (pg_tup hc h hn hst) fun v σ H Q ⟨C, F, Γ, d, Γ', R, q, hc, k⟩ => by
  unfold gT at hc
  split at hc
  · rename_i ds
    cases q with
    | @tup a xs _ hs hd =>
      refine ⟨a, xs, rfl, (R.sub).sqt hs, by rw [dpa_len hd]; exact hg _ _ _ hc, ?_⟩
      exact ⟨C, F, Γ, ds, Γ', R, hd, hc, fun F' H' σ' l R' s => k F' H' σ' l R' s⟩
  · cases hc
def cAsg (c : CE) (g : CG) : CS := fun Γ => (c Γ).bind fun p => (g p.1 p.2).bind fun Γ' => some (.nx, Γ')
theorem asg_to {K : Fr} {ts : List Nat} {g : CG} {De : Ends} {σ : L2.St} {H : Hp} (h : tS K (cAsg c g) De σ H) : tAsg (tE K c) (tG K ts g) De σ H := by
  obtain ⟨C, F, Γ, fl, Γ', R, hc, k⟩ := h
  unfold cAsg at hc
  simp only [Option.bind_eq_some_iff, Option.some.injEq, Prod.mk.injEq] at hc
  obtain ⟨⟨d, Γ1⟩, h1, Γ2, h2, rfl, rfl⟩ := hc
  refine ⟨C, F, Γ, d, Γ1, R, h1, fun F' H' v l R' q => ?_⟩
  exact ⟨C, F', Γ1, d, Γ2, R', q, h2, fun F2 H2 σ2 l2 R2 _ => k F2 H2 σ2 (l.trans l2) R2⟩
theorem s_asg {tg : Expr} {ts : List Nat} {g : CG} (he : E X e c) (hg : G X tg ts g) (hs : swapsWithSole [tg] e pos.line X.env = pure false := by rfl) (hw : swappedStores [tg] e X.env = pure none := by rfl) (h1 : (assignEach [tg] X.env).map (·.2) = [assign tg X.env] := by rfl) : S X (.Assign [tg] e pos) (cAsg c g) :=
  PS.imp (ps_asg he hg hs hw h1) fun _ _ _ h => asg_to h
def cSet (i : Nat) (c : CE) : CS := cAsg c (gN i)
theorem set_to {K : Fr} {i : Nat} {De : Ends} {σ : L2.St} {H : Hp} (h : tS K (cSet i c) De σ H) : tAsg (tE K c) (gName i) De σ H := by
  obtain ⟨C, F, Γ, fl, Γ', R, hc, k⟩ := h
  unfold cSet cAsg at hc
  simp only [Option.bind_eq_some_iff, Option.some.injEq, Prod.mk.injEq] at hc
  obtain ⟨⟨d, Γ1⟩, h1, Γ2, h2, rfl, rfl⟩ := hc
  exact ⟨C, F, Γ, d, Γ1, R, h1, fun F' H' v l R' q => k F' H' _ l (asg_name R' q h2)⟩
def slOf : Rv → Sl
  | .fr d => .fr d
  | .nw d => .ow d
def cSetN (i : Nat) (c : CN) : CS := fun Γ => (c Γ).bind fun p => (put p.2 i (slOf p.1)).bind fun Γ' => some (.nx, Γ')
theorem asg_new {K : Fr} {C : Ct} {F H : Hp} {σ : L2.St} {Γ Γ' : En} {i : Nat} {v : V} {r : Rv} (R : Rel K C F H σ Γ) (q : Got K C F H σ Γ v r) (h : put Γ i (slOf r) = some Γ') : Rel K C F H (σ.set i (some v)) Γ' := by
  cases r with
  | fr d => exact asg_name R q h
  | nw d =>
    obtain ⟨t, ht, hl, rfl⟩ := put_some h
    obtain ⟨a, rfl, h0, hP, m, n⟩ := q
    exact R.storeOw ht hl h0 hP m n
theorem setN_to {K : Fr} {c : CN} {i : Nat} {De : Ends} {σ : L2.St} {H : Hp} (h : tS K (cSetN i c) De σ H) : tAsg (tN K c) (gName i) De σ H := by
  obtain ⟨C, F, Γ, fl, Γ', R, hc, k⟩ := h
  unfold cSetN at hc
  simp only [Option.bind_eq_some_iff, Option.some.injEq, Prod.mk.injEq] at hc
  obtain ⟨⟨r, Γ1⟩, h1, Γ2, h2, rfl, rfl⟩ := hc
  exact ⟨C, F, Γ, r, Γ1, R, h1, fun F' H' v l R' q => k F' H' _ l (asg_new R' q h2)⟩
theorem s_set {i : Nat} {x : Str} {pos' : Pos} (hN : X.N.Nodup) (hi : X.N[i]? = some x) (hx : Loc X.env.scope x) (he : E X e c) (hs : swapsWith e (some (.Name x pos')) pos.line X.env = pure false := by rfl)
    (hf : X.fn x = true ∨ X.env.scope.names.lookup x = some .local := by first | exact .inl rfl | exact .inr rfl | assumption) : S X (.Assign [.Name x pos'] e pos) (cSet i c) :=
  PS.imp (ps_set hN hi hx he hs hf) fun _ _ _ h => set_to h
theorem s_setN {c : CN} {i : Nat} {x : Str} {pos' : Pos} (hN : X.N.Nodup) (hi : X.N[i]? = some x) (hx : Loc X.env.scope x) (he : N X e c) (hs : swapsWith e (some (.Name x pos')) pos.line X.env = pure false := by rfl)
    (hf : X.fn x = true ∨ X.env.scope.names.lookup x = some .local := by first | exact .inl rfl | exact .inr rfl | assumption) : S X (.Assign [.Name x pos'] e pos) (cSetN i c) :=
  PS.imp (ps_set hN hi hx he hs hf) fun _ _ _ h => setN_to h
def cPar (i j : Nat) (c : CA) : CS := fun Γ => (c Γ).bind fun p => match p.1 with
  | [a, b] => (put p.2 i (.fr a)).bind fun Γ1 => (put Γ1 j (.fr b)).bind fun Γ2 => some (.nx, Γ2)
  | _ => none
theorem par_to {K : Fr} {c : CA} {i j : Nat} {De : Ends} {σ : L2.St} {H : Hp} (h : tS K (cPar i j c) De σ H) : tPar i j (tA K c) De σ H := by
  obtain ⟨C, F, Γ, fl, Γ', R, hc, k⟩ := h
  unfold cPar at hc
  simp only [Option.bind_eq_some_iff] at hc
  obtain ⟨⟨ds, Γ1⟩, h1, hc⟩ := hc
  refine ⟨C, F, Γ, ds, Γ1, R, h1, fun F' H' vs l R' q => ?_⟩
  split at hc
  · rename_i a b e
    simp only at e
    subst e
    simp only [Option.bind_eq_some_iff, Option.some.injEq, Prod.mk.injEq] at hc
    obtain ⟨Γ2, h2, Γ3, h3, rfl, rfl⟩ := hc
    cases q with
    | @cons v vs _ _ q1 q2 =>
      cases q2 with
      | @cons w ws _ _ q3 q4 =>
        cases q4
        exact ⟨v, w, rfl, k F' H' _ l (asg_name (asg_name R' q1 h2) q3 h3)⟩
  · cases hc
theorem s_par {c : CA} {i j : Nat} {x y : Str} {a b : Expr} {px py pt : Pos} {kt k2 pt2} (hc : X.calm = true) (hN : X.N.Nodup) (hi : X.N[i]? = some x) (hj : X.N[j]? = some y) (hij : i ≠ j)
    (hx : X.env.scope.names.lookup x = some .local) (hy : X.env.scope.names.lookup y = some .local) (ha : Ar X [a, b] c)
    (hw : swappedStores [.Tuple [.Name x px, .Name y py] kt pt] (.Tuple [a, b] k2 pt2) X.env = pure (some [x, y]))
    (hs : swapsWithSole [.Tuple [.Name x px, .Name y py] kt pt] (.Tuple [a, b] k2 pt2) pos.line X.env = pure false := by rfl) :
    S X (.Assign [.Tuple [.Name x px, .Name y py] kt pt] (.Tuple [a, b] k2 pt2) pos) (cPar i j c) :=
  PS.imp (ps_par hc hN hi hj hij hx hy ha hw hs) fun _ _ _ h => par_to h
def cDrop (c : CE) : CS := fun Γ => (c Γ).bind fun p => some (.nx, p.2)
theorem s_expr (he : E X e c) (hs : swapsWith e none pos.line X.env = pure false := by rfl) : S X (.Expr e pos) (cDrop c) := PS.imp (ps_expr he hs) fun De σ H ⟨C, F, Γ, fl, Γ', R, hc, k⟩ => by
  unfold cDrop at hc
  simp only [Option.bind_eq_some_iff, Option.some.injEq, Prod.mk.injEq] at hc
  obtain ⟨⟨d, Γ1⟩, h1, rfl, rfl⟩ := hc
  exact ⟨C, F, Γ, d, Γ1, R, h1, fun F' H' v l R' q => k F' H' σ l R'⟩
def cRet (c : CN) : CS := fun Γ => (c Γ).bind fun p => some (.rt p.1, p.2)
theorem s_ret {c : CN} (he : N X e c) : S X (.Return (some e) pos) (cRet c) := PS.imp (ps_ret he) fun De σ H ⟨C, F, Γ, fl, Γ', R, hc, k⟩ => by
  unfold cRet at hc
  simp only [Option.bind_eq_some_iff, Option.some.injEq, Prod.mk.injEq] at hc
  obtain ⟨⟨r, Γ1⟩, h1, rfl, rfl⟩ := hc
  exact ⟨C, F, Γ, r, Γ1, R, h1, fun F' H' v l R' q => k F' H' σ l R' v q⟩
def cNext : CS := fun Γ => some (.nx, Γ)
def cBreak : CS := fun Γ => some (.bk, Γ)
def cCont : CS := fun Γ => some (.ct, Γ)
def cSeq (s t : CS) : CS := fun Γ => (s Γ).bind fun p => match p.1 with
  | .nx => t p.2
  | f => some (f, p.2)
theorem next_to {K : Fr} {De : Ends} {σ : L2.St} {H : Hp} (h : tS K cNext De σ H) : tNext De σ H := by
  obtain ⟨C, F, Γ, fl, Γ', R, hc, k⟩ := h
  cases hc
  exact k F H σ (Le.refl _) R
theorem b_nil : B X [] cNext := PSs.imp pss_nil fun _ _ _ h => next_to h
theorem s_pass : S X (.Pass pos) cNext := PS.imp ps_pass fun _ _ _ h => next_to h
theorem s_break : S X (.Break pos) cBreak := PS.imp ps_break fun De σ H ⟨C, F, Γ, fl, Γ', R, hc, k⟩ => by
  cases hc
  exact k F H σ (Le.refl _) R
theorem s_cont : S X (.Continue pos) cCont := PS.imp ps_continue fun De σ H ⟨C, F, Γ, fl, Γ', R, hc, k⟩ => by
  cases hc
  exact k F H σ (Le.refl _) R
theorem seq_to {K : Fr} {s t : CS} {De : Ends} {σ : L2.St} {H : Hp} (h : tS K (cSeq s t) De σ H) : tSeq (tS K s) (tS K t) De σ H := by
  obtain ⟨C, F, Γ, fl, Γ', R, hc, k⟩ := h
  unfold cSeq at hc
  simp only [Option.bind_eq_some_iff] at hc
  obtain ⟨⟨f1, Γ1⟩, h1, hc⟩ := hc
  refine ⟨C, F, Γ, f1, Γ1, R, h1, fun F' H' σ' l R' => ?_⟩
  cases f1 with
  | nx => exact ⟨C, F', Γ1, fl, Γ', R', hc, fun F2 H2 σ2 l2 R2 => k F2 H2 σ2 (l.trans l2) R2⟩
  | bk => cases hc; exact k F' H' σ' l R'
  | ct => cases hc; exact k F' H' σ' l R'
  | rt r => cases hc; exact k F' H' σ' l R'
theorem b_cons {st : Stmt} {rest : List Stmt} {s t : CS} (h1 : S X st s) (h2 : B X rest t) : B X (st :: rest) (cSeq s t) := PSs.imp (pss_cons h1 h2) fun _ _ _ h => seq_to h
theorem b_one {st : Stmt} {s : CS} (h1 : S X st s) : B X [st] s := pss_one h1
def cIfS (c : CT) (s t : CS) : CS := fun Γ => (c Γ).bind fun p => if p.1 = true then s p.2 else t p.2
theorem s_if {c : CT} {x : Expr} {a b : List Stmt} {s t : CS} (hc : T X x c) (ha : B X a s) (hb : B X b t) : S X (.If x a b pos) (cIfS c s t) := PS.imp (ps_if hc ha hb) fun De σ H ⟨C, F, Γ, fl, Γ', R, hc, k⟩ => by
  unfold cIfS at hc
  simp only [Option.bind_eq_some_iff] at hc
  obtain ⟨⟨b, Γ1⟩, h1, hc⟩ := hc
  refine ⟨C, F, Γ, b, Γ1, R, h1, fun F' H' l R' => ?_⟩
  cases b with
  | true => exact ⟨C, F', Γ1, fl, Γ', R', hc, fun F2 H2 σ2 l2 R2 => k F2 H2 σ2 (l.trans l2) R2⟩
  | false => exact ⟨C, F', Γ1, fl, Γ', R', hc, fun F2 H2 σ2 l2 R2 => k F2 H2 σ2 (l.trans l2) R2⟩
def cNever : CS := fun _ => none
theorem s_never {st : Stmt} : S X st cNever := ⟨fun _ _ _ _ _ _ ⟨_, _, _, _, _, _, hc, _⟩ => by cases hc⟩

/-! ### loops -/
def forL (g : CG) (body : CS) : List D → CS
  | [], Γ => some (.nx, Γ)
  | d :: ds, Γ => (g d Γ).bind fun Γ1 => (body Γ1).bind fun p => match p.1 with
    | .nx => forL g body ds p.2
    | .ct => forL g body ds p.2
    | .bk => some (.nx, p.2)
    | .rt r => some (.rt r, p.2)
def cFor (ci : CI) (g : CG) (body : CS) : CS := fun Γ => (ci Γ).bind fun p => forL g body p.1 p.2
/-- what is yielded is frozen -/
theorem yd_get {K : Fr} {C : Ct} {F1 F H H' : Hp} {σ : L2.St} {Γ : En} {ds : List D} {i : Nat} {x : V} (l : Le F1 F) (R : Rel K C F H σ Γ) (y : YD K F1 ds i H x H') : ∃ F' d, Le F F' ∧ Rel K C F' H' σ Γ ∧ ds[i]? = some d ∧ Dp K F' x d := by
  rcases y with ⟨rfl, d, h1, h2⟩ | ⟨T, vs, es, rfl, hT, rfl, h1, h2⟩
  · exact ⟨F, d, Le.refl _, R, h1, dp_mono l h2⟩
  · have g := Grow.new R.sub (o := .tup vs) hT
    exact ⟨_, _, g.f, R.grow g, h1, .tup (SqT.of upd_same) (dpa_mono (l.trans g.f) h2)⟩
theorem drop_cons {α : Type} {l : List α} {i : Nat} {x : α} (h : l[i]? = some x) : l.drop i = x :: l.drop (i + 1) := by
  obtain ⟨h1, h2⟩ := List.getElem?_eq_some_iff.mp h
  rw [List.drop_eq_getElem_cons h1, h2]
theorem for_to {K : Fr} {ci : CI} {ts : List Nat} {g : CG} {body : CS} {De : Ends} {σ : L2.St} {H : Hp} (h : tS K (cFor ci g body) De σ H) : tFor (tI K ci) (tG K ts g) (tS K body) De σ H := by
  obtain ⟨C, F, Γ, fl, Γ', R, hc, k⟩ := h
  unfold cFor at hc
  simp only [Option.bind_eq_some_iff] at hc
  obtain ⟨⟨ds, Γ1⟩, h1, hc⟩ := hc
  refine ⟨C, F, Γ, ds, Γ1, R, h1, fun F1 H1 J l1 R1 w => ?_⟩
  refine ⟨fun i m σ H => m = ds.length - i ∧ i ≤ ds.length ∧ ∃ F2 Γ2, Le F1 F2 ∧ Rel K C F2 H σ Γ2 ∧ forL g body (ds.drop i) Γ2 = some (fl, Γ'), ⟨ds.length, by simp, Nat.zero_le _, F1, Γ1, Le.refl _, R1, hc⟩, ?_⟩
  rintro i m σ H ⟨rfl, hi, F2, Γ2, l2, R2, hf⟩
  by_cases hlt : i < ds.length
  · refine .inr ⟨w.goes i H hlt (l2.trans R2.sub), fun σ' H' => ∃ F2 Γ2, Le F1 F2 ∧ Rel K C F2 H' σ' Γ2 ∧ forL g body (ds.drop (i + 1)) Γ2 = some (fl, Γ'), fun σ' H' ⟨F3, Γ3, q⟩ => ⟨ds.length - (i + 1), by omega, rfl, hlt, F3, Γ3, q⟩, fun x H' y => ?_⟩
    obtain ⟨F3, d, l3, R3, hd, q⟩ := yd_get l2 R2 (w.yields i H x H' hlt (l2.trans R2.sub) y)
    rw [drop_cons hd] at hf
    unfold forL at hf
    simp only [Option.bind_eq_some_iff] at hf
    obtain ⟨Γ3, h3, ⟨f4, Γ4⟩, h4, hf⟩ := hf
    refine ⟨C, F3, Γ2, d, Γ3, R3, q, h3, fun F4 H4 σ4 l4 R4 _ => ?_⟩
    refine ⟨C, F4, Γ3, f4, Γ4, R4, h4, fun F5 H5 σ5 l5 R5 => ?_⟩
    have l15 : Le F1 F5 := (l2.trans l3).trans (l4.trans l5)
    cases f4 with
    | nx => exact ⟨F5, Γ4, l15, R5, hf⟩
    | ct => exact ⟨F5, Γ4, l15, R5, hf⟩
    | bk => cases hf; exact k F5 H5 σ5 (l1.trans l15) R5
    | rt r => cases hf; exact k F5 H5 σ5 (l1.trans l15) R5
  · have e : i = ds.length := by omega
    subst e
    rw [List.drop_length] at hf
    cases hf
    exact .inl ⟨w.stops H (l2.trans R2.sub), k F2 H σ (l1.trans l2) R2⟩
theorem s_for {iter tg : Expr} {body : List Stmt} {ci : CI} {ts : List Nat} {g : CG} {s : CS} (hp : PassesOwn (model X.prog X.w) X.A X.env X.xe) (hc : X.calm = true) (hi : I X tg iter ci) (hg : G X tg ts g) (hb : B X body s)
    (hs : ∀ x, foldedSetIterable iter X.env x = pure x := by intro _; rfl) : S X (.For tg iter body [] pos) (cFor ci g s) :=
  PS.imp (ps_for hp hc hi hg hb hs) fun _ _ _ h => for_to h
def whL (c : CT) (body : CS) : Nat → CS
  | 0, _ => none
  | n + 1, Γ => (c Γ).bind fun p => if p.1 = true then (body p.2).bind fun q => (match q.1 with
    | .nx => whL c body n q.2
    | .ct => whL c body n q.2
    | .bk => some (.nx, q.2)
    | .rt r => some (.rt r, q.2)) else some (.nx, p.2)
theorem whL_mono {c : CT} {body : CS} : ∀ {n : Nat} {Γ : En} {x}, whL c body n Γ = some x → ∀ m, n ≤ m → whL c body m Γ = some x
  | 0, _, _, h, _, _ => by cases h
  | n + 1, Γ, x, h, 0, hm => by omega
  | n + 1, Γ, x, h, m + 1, hm => by
    unfold whL at h ⊢
    simp only [Option.bind_eq_some_iff] at h ⊢
    obtain ⟨p, h1, h2⟩ := h
    refine ⟨p, h1, ?_⟩
    split
    · rename_i hp
      rw [if_pos hp] at h2
      simp only [Option.bind_eq_some_iff] at h2 ⊢
      obtain ⟨⟨f, Γ2⟩, h3, h4⟩ := h2
      refine ⟨⟨f, Γ2⟩, h3, ?_⟩
      cases f with
      | nx => exact whL_mono h4 m (by omega)
      | ct => exact whL_mono h4 m (by omega)
      | bk => exact h4
      | rt r => exact h4
    · rename_i hp
      rw [if_neg hp] at h2
      exact h2
open Classical in
noncomputable def cWh (c : CT) (body : CS) : CS := fun Γ => if h : ∃ x, ∃ n, whL c body n Γ = some x then some (choose h) else none
theorem cWh_of {c : CT} {body : CS} {n : Nat} {Γ : En} {x : Fl × En} (h : whL c body n Γ = some x) : cWh c body Γ = some x := by
  have e : ∃ x, ∃ n, whL c body n Γ = some x := ⟨x, n, h⟩
  unfold cWh
  rw [dif_pos e]
  obtain ⟨m, hm⟩ := Classical.choose_spec e
  have h1 := whL_mono h (max n m) (Nat.le_max_left _ _)
  have h2 := whL_mono hm (max n m) (Nat.le_max_right _ _)
  rw [h1] at h2
  exact h2.symm
theorem cWh_ex {c : CT} {body : CS} {Γ : En} {x : Fl × En} (h : cWh c body Γ = some x) : ∃ n, whL c body n Γ = some x := by
  unfold cWh at h
  split at h
  · rename_i e
    cases h
    exact Classical.choose_spec e
  · cases h
theorem while_to {K : Fr} {c : CT} {body : CS} {De : Ends} {σ : L2.St} {H : Hp} (h : tS K (cWh c body) De σ H) : tWhile (tT K c) (tS K body) De σ H := by
  obtain ⟨C, F, Γ, fl, Γ', R, hc, k⟩ := h
  obtain ⟨n, hc⟩ := cWh_ex hc
  refine ⟨fun m σ H => ∃ F2 Γ2, Le F F2 ∧ Rel K C F2 H σ Γ2 ∧ whL c body m Γ2 = some (fl, Γ'), ⟨n, F, Γ, Le.refl _, R, hc⟩, ?_⟩
  rintro m σ H ⟨F2, Γ2, l2, R2, hw⟩
  cases m with
  | zero => cases hw
  | succ m =>
    unfold whL at hw
    simp only [Option.bind_eq_some_iff] at hw
    obtain ⟨⟨b, Γ3⟩, h3, hw⟩ := hw
    refine ⟨C, F2, Γ2, b, Γ3, R2, h3, fun F3 H3 l3 R3 => ?_⟩
    cases b with
    | false => cases hw; exact k F3 H3 σ (l2.trans l3) R3
    | true =>
      rw [if_pos rfl] at hw ⊢
      simp only [Option.bind_eq_some_iff] at hw
      obtain ⟨⟨f4, Γ4⟩, h4, hf⟩ := hw
      refine ⟨fun σ' H' => ∃ F2 Γ2, Le F F2 ∧ Rel K C F2 H' σ' Γ2 ∧ whL c body m Γ2 = some (fl, Γ'), fun σ' H' q => ⟨m, Nat.lt_succ_self m, q⟩, ?_⟩
      refine ⟨C, F3, Γ3, f4, Γ4, R3, h4, fun F5 H5 σ5 l5 R5 => ?_⟩
      have l15 : Le F F5 := l2.trans (l3.trans l5)
      cases f4 with
      | nx => exact ⟨F5, Γ4, l15, R5, hf⟩
      | ct => exact ⟨F5, Γ4, l15, R5, hf⟩
      | bk => cases hf; exact k F5 H5 σ5 l15 R5
      | rt r => cases hf; exact k F5 H5 σ5 l15 R5
theorem s_while {x : Expr} {body : List Stmt} {c : CT} {s : CS} (hp : PassesOwn (model X.prog X.w) X.A X.env X.xe) (hc : T X x c) (hb : B X body s) : S X (.While x body [] pos) (cWh c s) :=
  PS.imp (ps_while hp hc hb) fun _ _ _ h => while_to h
end
end Pu

namespace Pu
open PySem PySem.Spec PyProof.Rows L2

/-! ### comprehensions -/
def wipeG (Γ : En) : List Nat → En
  | [] => Γ
  | v :: vs => (wipeG Γ vs).set v .no
def restore (Γ1 Γ2 : En) : List Nat → En
  | [] => Γ2
  | v :: vs => match Γ1[v]? with
    | some s => (restore Γ1 Γ2 vs).set v s
    | none => restore Γ1 Γ2 vs
def lcL (g : CG) (cond : CT) (elt : CE) (vs : List Nat) : List D → List D → En → Option (List D × En)
  | [], acc, Γ => some (acc, Γ)
  | d :: ds, acc, Γ => (g d Γ).bind fun Γ1 => (cond Γ1).bind fun p => if p.1 = true then
      (elt p.2).bind fun q => if acc.length < sizeLine then lcL g cond elt vs ds (acc ++ [q.1]) (wipeG q.2 vs) else none
    else lcL g cond elt vs ds acc (wipeG p.2 vs)
def notOwn (Γ : En) (v : Nat) : Bool := match Γ[v]? with
  | some s => !s.own
  | none => false
def cLc (vs : List Nat) (ci : CI) (g : CG) (cond : CT) (elt : CE) : CN := fun Γ => (ci Γ).bind fun p =>
  if vs.all (notOwn p.2) = true then (lcL g cond elt vs p.1 [] (wipeG p.2 vs)).bind fun q => some (.nw (.list q.1), restore p.2 q.2 vs) else none
theorem wipe_get (σ : L2.St) : ∀ (vs : List Nat) (j : Nat), (wipe σ vs)[j]? = if j ∈ vs then (if j < σ.length then some none else none) else σ[j]?
  | [], j => by simp [wipe]
  | v :: vs, j => by
    unfold wipe
    by_cases hv : v = j
    · subst hv
      simp only [List.mem_cons, true_or, if_true]
      by_cases hl : v < σ.length
      · rw [get_set_eq (by rw [wipe_length]; exact hl), if_pos hl]
      · rw [List.getElem?_eq_none (by rw [List.length_set, wipe_length]; omega), if_neg hl]
    · rw [List.getElem?_set_ne hv, wipe_get σ vs j]
      have : (j ∈ v :: vs) ↔ j ∈ vs := by simp [Ne.symm hv]
      simp only [this]
theorem same_wipe {ts vs : List Nat} {σ σ' : L2.St} (h : Same ts (wipe σ vs) σ') (hs : ∀ t ∈ ts, t ∈ vs) : wipe σ' vs = wipe σ vs := by
  apply List.ext_getElem?
  intro j
  rw [wipe_get, wipe_get]
  have hl : σ'.length = σ.length := by rw [h.1, wipe_length]
  split
  · rw [hl]
  · rename_i hj
    rw [h.2 j (fun z => hj (hs j z)), wipe_get, if_neg hj]
theorem wipeG_len (Γ : En) : ∀ vs, (wipeG Γ vs).length = Γ.length
  | [] => rfl
  | v :: vs => by unfold wipeG; rw [List.length_set, wipeG_len Γ vs]
theorem restore_get (Γ1 Γ2 : En) (hl : Γ2.length = Γ1.length) : ∀ (vs : List Nat), (restore Γ1 Γ2 vs).length = Γ2.length ∧ ∀ j, (restore Γ1 Γ2 vs)[j]? = if j ∈ vs then Γ1[j]? else Γ2[j]?
  | [] => ⟨rfl, fun j => by simp [restore]⟩
  | v :: vs => by
    obtain ⟨h1, h2⟩ := restore_get Γ1 Γ2 hl vs
    unfold restore
    split
    · rename_i s hs
      refine ⟨by rw [List.length_set]; exact h1, fun j => ?_⟩
      by_cases hv : v = j
      · subst hv
        rw [get_set_eq (by rw [h1, hl]; exact lt_of_get hs)]
        simp [hs]
      · rw [List.getElem?_set_ne hv, h2 j]
        have : (j ∈ v :: vs) ↔ j ∈ vs := by simp [Ne.symm hv]
        simp only [this]
    · rename_i hs
      refine ⟨h1, fun j => ?_⟩
      rw [h2 j]
      by_cases hv : v = j
      · subst hv
        have e2 : Γ2[v]? = none := by
          rw [List.getElem?_eq_none_iff] at hs ⊢; omega
        simp [hs, e2]
      · have : (j ∈ v :: vs) ↔ j ∈ vs := by simp [Ne.symm hv]
        simp only [this]
section
variable {K : Fr} {C : Ct} {F H F' H' : Hp} {σ : L2.St} {Γ : En}
theorem Rel.unset (r : Rel K C F H σ Γ) (i : Nat) : Rel K C F H (σ.set i none) (Γ.set i .no) := by
  have key : ∀ (j : Nat) (s : Sl), (Γ.set i .no)[j]? = some s → s = .no ∨ (i ≠ j ∧ Γ[j]? = some s ∧ (σ.set i none)[j]? = σ[j]?) := fun j s e => by
    by_cases hij : i = j
    · subst hij
      rw [List.getElem?_set] at e
      simp only [if_true] at e
      split at e
      · cases e; exact .inl rfl
      · cases e
    · rw [List.getElem?_set_ne hij] at e
      exact .inr ⟨hij, e, List.getElem?_set_ne hij⟩
  refine ⟨r.sub, by rw [List.length_set, List.length_set]; exact r.len, fun j s e => ?_, fun j k s t a hj e1 e2 o1 o2 => ?_, r.keep, r.hid, fun j u a e1 o1 e2 => ?_, r.there⟩
  · rcases key j s e with rfl | ⟨h1, h2, h3⟩
    · trivial
    · rw [h3]; exact r.ok j s h2
  · rcases key j s e1 with rfl | ⟨h1, h2, h3⟩
    · cases o1
    · rcases key k t e2 with rfl | ⟨h4, h5, h6⟩
      · cases o2
      · rw [h3, h6]; exact r.apart j k s t a hj h2 h5 o1 o2
  · rcases key j u e1 with rfl | ⟨h1, h2, h3⟩
    · cases o1
    · rw [h3] at e2; exact r.pin j u a h2 o1 e2
theorem Rel.wiped (r : Rel K C F H σ Γ) : ∀ vs, Rel K C F H (wipe σ vs) (wipeG Γ vs)
  | [] => r
  | v :: vs => (Rel.wiped r vs).unset v
theorem Rel.restored {F1 H1 : Hp} {Γ1 Γ2 : En} {vs : List Nat} (r1 : Rel K C F1 H1 σ Γ1) (r2 : Rel K C F H (wipe σ vs) Γ2) (l : Le F1 F) (hv : vs.all (notOwn Γ1) = true) : Rel K C F H σ (restore Γ1 Γ2 vs) := by
  have hlen : Γ2.length = Γ1.length := by rw [← r1.len, ← r2.len, wipe_length]
  obtain ⟨q1, q2⟩ := restore_get Γ1 Γ2 hlen vs
  have key : ∀ (j : Nat) (s : Sl), (restore Γ1 Γ2 vs)[j]? = some s → (s.own = false ∧ Γ1[j]? = some s) ∨ (Γ2[j]? = some s ∧ (wipe σ vs)[j]? = σ[j]?) := fun j s e => by
    rw [q2 j] at e
    split at e
    · rename_i hj
      refine .inl ⟨?_, e⟩
      have z := List.all_eq_true.mp hv j hj
      unfold notOwn at z
      rw [e] at z
      simpa using z
    · rename_i hj
      exact .inr ⟨e, by rw [wipe_get, if_neg hj]⟩
  refine ⟨r2.sub, by rw [q1, ← r2.len, wipe_length], fun j s e => ?_, fun j k s t a hj e1 e2 o1 o2 => ?_, r2.keep, r2.hid, fun j u a e1 o1 e2 => ?_, r2.there⟩
  · rcases key j s e with ⟨h1, h2⟩ | ⟨h1, h2⟩
    · have z := r1.ok j s h2
      cases s with
      | no => trivial
      | fr d => obtain ⟨x, w1, w2⟩ := z; exact ⟨x, w1, dp_mono l w2⟩
      | ow d => cases h1
      | ln d => cases h1
    · rw [← h2]; exact r2.ok j s h1
  · rcases key j s e1 with ⟨h1, h2⟩ | ⟨h1, h2⟩
    · rw [h1] at o1; cases o1
    · rcases key k t e2 with ⟨h4, h5⟩ | ⟨h4, h5⟩
      · rw [h4] at o2; cases o2
      · rw [← h2, ← h5]; exact r2.apart j k s t a hj h1 h4 o1 o2
  · rcases key j u e1 with ⟨h1, h2⟩ | ⟨h1, h2⟩
    · rw [h1] at o1; cases o1
    · rw [← h2] at e2; exact r2.pin j u a h1 o1 e2
/-- not any slot's own -/
def NoOwn (σ : L2.St) (Γ : En) (a : Addr) : Prop := ∀ (i : Nat) (s : Sl), Γ[i]? = some s → s.own = true → σ[i]? ≠ some (some (.ref a))
/-- an object that stands for itself is held -/
theorem Rel.held (r : Rel K C F H σ Γ) {D : Addr} {o : HO} (h : H D = some o) (hF : F D = none) (n : NoOwn σ Γ D) : Rel K { C with Pn := upd C.Pn D o } F H σ Γ := by
  refine ⟨r.sub, r.len, r.ok, r.apart, fun a u e => ?_, fun a u e => ?_, fun i s a e1 o1 e2 => ?_, r.there⟩
  · by_cases ha : a = D
    · subst ha; have e' : upd C.Pn a o a = some u := e; rw [upd_same] at e'; rw [h]; exact e'
    · have e' : upd C.Pn D o a = some u := e; rw [upd_ne ha] at e'; exact r.keep a u e'
  · by_cases ha : a = D
    · subst ha; exact hF
    · have e' : upd C.Pn D o a = some u := e; rw [upd_ne ha] at e'; exact r.hid a u e'
  · have ha : a ≠ D := fun z => n i s e1 o1 (by rw [e2, z])
    show upd C.Pn D o a = none
    rw [upd_ne ha]; exact r.pin i s a e1 o1 e2
theorem Rel.unheld {D : Addr} {o : HO} (r : Rel K { C with Pn := upd C.Pn D o } F H σ Γ) (hP : C.Pn D = none) : Rel K C F H σ Γ ∧ H D = some o ∧ F D = none ∧ NoOwn σ Γ D := by
  have l : Le C.Pn (upd C.Pn D o) := Le.new hP
  refine ⟨⟨r.sub, r.len, r.ok, r.apart, fun a u e => r.keep a u (l a u e), fun a u e => r.hid a u (l a u e), fun i s a e1 o1 e2 => ?_, r.there⟩, r.keep D o upd_same, r.hid D o upd_same, fun i s e1 o1 e2 => ?_⟩
  · have q := r.pin i s a e1 o1 e2
    have q' : upd C.Pn D o a = none := q
    cases h : C.Pn a with
    | none => rfl
    | some u => rw [l a u h] at q'; cases q'
  · have q : upd C.Pn D o D = none := r.pin i s D e1 o1 e2
    rw [upd_same] at q; cases q
/-- such an object changes -/
theorem Rel.chg (r : Rel K C F H σ Γ) {D : Addr} {o : HO} (hF : F D = none) (hP : C.Pn D = none) (n : NoOwn σ Γ D) : Rel K C F (upd H D o) σ Γ := by
  refine ⟨fun a u e => ?_, r.len, fun i s e => ?_, r.apart, fun a u e => ?_, r.hid, r.pin, fun a u e => ?_⟩
  · rw [upd_ne (fun z => by rw [z, hF] at e; cases e)]; exact r.sub a u e
  · have z := r.ok i s e
    cases s with
    | no => trivial
    | fr d => exact z
    | ow d =>
      obtain ⟨a, e1, e2, m1, ds, xs, m2, m3, m4⟩ := z
      exact ⟨a, e1, e2, m1, ds, xs, m2, by rw [upd_ne (fun z => n i _ e rfl (by rw [e1, z]))]; exact m3, m4⟩
    | ln d =>
      obtain ⟨a, e1, e2, m1, ds, xs, m2, m3, m4⟩ := z
      exact ⟨a, e1, e2, m1, ds, xs, m2, by rw [upd_ne (fun z => n i _ e rfl (by rw [e1, z]))]; exact m3, m4⟩
  · rw [upd_ne (fun z => by rw [z, hP] at e; cases e)]; exact r.keep a u e
  · by_cases ha : a = D
    · exact ⟨_, by rw [ha]; exact upd_same⟩
    · rw [upd_ne ha]; exact r.there a u e
theorem NoOwn.fresh (r : Rel K C F H σ Γ) {p : Addr} (h : H p = none) : NoOwn σ Γ p := fun i s e o z => by
  have w := r.ok i s e
  cases s with
  | no => cases o
  | fr d => cases o
  | ow d => obtain ⟨a, e1, _, _, _, _, _, e2, _⟩ := w; rw [z] at e1; cases e1; rw [h] at e2; cases e2
  | ln d => obtain ⟨a, e1, _, _, _, _, _, e2, _⟩ := w; rw [z] at e1; cases e1; rw [h] at e2; cases e2
theorem NoOwn.wiped {p : Addr} (n : NoOwn σ Γ p) : ∀ vs, NoOwn (wipe σ vs) (wipeG Γ vs) p
  | [] => n
  | v :: vs => fun i s e o z => by
    unfold wipe at z
    unfold wipeG at e
    by_cases hv : v = i
    · subst hv
      rw [List.getElem?_set] at e
      simp only [if_true] at e
      split at e
      · cases e; cases o
      · cases e
    · rw [List.getElem?_set_ne hv] at e z
      exact NoOwn.wiped n vs i s e o z
theorem dpa_snoc {F : Hp} {x : V} {d : D} : ∀ {vs : List V} {ds : List D}, DpAll K F vs ds → Dp K F x d → DpAll K F (vs ++ [x]) (ds ++ [d])
  | _, _, .nil, h => .cons h .nil
  | _, _, .cons a t, h => .cons a (dpa_snoc t h)
end
theorem lc_to {K : Fr} {ci : CI} {ts vs : List Nat} {g : CG} {cond : CT} {elt : CE} {σ : L2.St} {H : Hp} {Q : VK} (hs : ∀ t ∈ ts, t ∈ vs) (h : tN K (cLc vs ci g cond elt) σ H Q) : tLc (tI K ci) (tG K ts g) (tT K cond) (tE K elt) vs σ H Q := by
  obtain ⟨C, F, Γ, r, Γ', R, hc, k⟩ := h
  unfold cLc at hc
  simp only [Option.bind_eq_some_iff] at hc
  obtain ⟨⟨ds, Γ1⟩, h1, hc⟩ := hc
  split at hc
  · rename_i hv
    simp only [Option.bind_eq_some_iff, Option.some.injEq, Prod.mk.injEq] at hc
    obtain ⟨⟨out, Γz⟩, hl, rfl, rfl⟩ := hc
    refine ⟨C, F, Γ, ds, Γ1, R, h1, fun F1 H1 J l1 R1 w A nA => ?_⟩
    have hP : C.Pn A = none := R1.freshP nA
    have h0 : C.H0 A = none := R1.fresh nA
    refine lc_it w (fun i H => ∃ F2 Γ2 acc xs, Le F1 F2 ∧ Rel K C F2 H (wipe σ vs) Γ2 ∧ H A = some (.lst xs) ∧ F2 A = none ∧ DpAll K F2 xs acc ∧ NoOwn (wipe σ vs) Γ2 A ∧ lcL g cond elt vs (ds.drop i) acc Γ2 = some (out, Γz))
      ⟨F1, wipeG Γ1 vs, [], [], Le.refl _, (R1.chg (R1.freshF nA) hP (NoOwn.fresh R1 nA)).wiped vs, upd_same, R1.freshF nA, .nil, (NoOwn.fresh R1 nA).wiped vs, hl⟩
      (fun i H _ ⟨F2, Γ2, acc, xs, l2, R2, _⟩ => l2.trans R2.sub) ?_ ?_
    · rintro i x H2 H3 hi ⟨F2, Γ2, acc, xs, l2, R2, hA, hF, hD, hn, hf⟩ y
      have Rp := R2.held hA hF hn
      obtain ⟨F3, d, l3, R3, hd, q⟩ := yd_get l2 Rp y
      rw [drop_cons hd] at hf
      unfold lcL at hf
      simp only [Option.bind_eq_some_iff] at hf
      obtain ⟨Γ3, h3, ⟨b, Γ4⟩, h4, hf⟩ := hf
      refine ⟨_, F3, Γ2, d, Γ3, R3, q, h3, fun F4 H4 σ4 l4 R4 sm => ⟨same_wipe sm hs, ?_⟩⟩
      have ew : wipe σ4 vs = wipe σ vs := same_wipe sm hs
      refine ⟨_, F4, Γ3, b, Γ4, R4, h4, fun F5 H5 l5 R5 => ?_⟩
      have l25 : Le F2 F5 := l3.trans (l4.trans l5)
      cases b with
      | false =>
        rw [if_neg Bool.false_ne_true] at hf
        refine iteF ?_
        obtain ⟨R6, hA6, hF6, hn6⟩ := R5.unheld hP
        exact ⟨F5, wipeG Γ4 vs, acc, xs, l2.trans l25, by rw [← ew]; exact R6.wiped vs, hA6, hF6, dpa_mono l25 hD, by rw [← ew]; exact hn6.wiped vs, hf⟩
      | true =>
        rw [if_pos rfl] at hf
        refine iteT ?_
        simp only [Option.bind_eq_some_iff] at hf
        obtain ⟨⟨z, Γ5⟩, h5, hf⟩ := hf
        refine ⟨_, F5, Γ4, z, Γ5, R5, h5, fun F6 H6 u l6 R6 qz => ?_⟩
        obtain ⟨R7, hA7, hF7, hn7⟩ := R6.unheld hP
        split at hf
        · rename_i hz
          have l26 : Le F2 F6 := l25.trans l6
          refine ⟨xs, hA7, by rw [dpa_len hD]; exact hz, F6, wipeG Γ5 vs, acc ++ [z], xs ++ [u], l2.trans l26, ?_, upd_same, hF7, dpa_snoc (dpa_mono l26 hD) qz, by rw [← ew]; exact hn7.wiped vs, hf⟩
          rw [← ew]
          exact (R7.chg hF7 hP hn7).wiped vs
        · cases hf
    · rintro H2 ⟨F2, Γ2, acc, xs, l2, R2, hA, hF, hD, hn, hf⟩
      rw [List.drop_length] at hf
      unfold lcL at hf
      cases hf
      have R3 := R1.restored R2 l2 hv
      refine k F2 H2 _ (l1.trans l2) R3 ⟨A, rfl, h0, hP, ⟨hF, _, xs, rfl, hA, hD⟩, fun i s e o z => ?_⟩
      have hlen : Γz.length = Γ1.length := by rw [← R1.len, ← R2.len, wipe_length]
      obtain ⟨q1, q2⟩ := restore_get Γ1 Γz hlen vs
      rw [q2 i] at e
      split at e
      · rename_i hj
        have z := List.all_eq_true.mp hv i hj
        unfold notOwn at z
        rw [e] at z
        simp [o] at z
      · rename_i hj
        exact hn i s e o (by rw [wipe_get, if_neg hj]; exact z)
  · cases hc
section
variable {X : Cx}
theorem n_lc {elt tg iter : Expr} {ifs : List Expr} {scope : Scope} {own : List (Str × Nat)} {pos : Pos} {ci : CI} {ts : List Nat} {g : CG} {cond : CT} {ce : CE} (hc : X.calm = true) (hN : X.N.Nodup) (hi : I X tg iter ci) (ok : BlkOk X.N X.env.scope scope own)
    (hg : ∀ (s : Shared) (H : Hp) (C : Addr) (cl : List (Str × Addr)) (fp : List Addr), G (X.blk s H scope (compEnvC scope cl C X.env) fp) tg ts g) (ht : ∀ (s : Shared) (H : Hp) (C : Addr) (cl : List (Str × Addr)) (fp : List Addr), PTs (X.blk s H scope (compEnvC scope cl C X.env) fp) ifs (tT X.K cond))
    (he : ∀ (s : Shared) (H : Hp) (C : Addr) (cl : List (Str × Addr)) (fp : List Addr), E (X.blk s H scope (compEnvC scope cl C X.env) fp) elt ce) (hts : ∀ t ∈ ts, t ∈ own.map (·.2) := by decide) (hs : ∀ x, foldedSetIterable iter X.env x = pure x := by intro _; rfl) :
    N X (.ListComp elt [⟨tg, iter, ifs, 0⟩] scope pos) (cLc (own.map (·.2)) ci g cond ce) :=
  PE.imp (pe_lc hc hN hi ok hg ht he hs) fun _ _ _ h => lc_to hts h
/-- name = [..] on one line, the name a local: frozen, or its own -/
theorem s_setLc {i : Nat} {y : Str} {py : Pos} {elt tg iter : Expr} {ifs : List Expr} {scope : Scope} {own : List (Str × Nat)} {pos spos : Pos} {ci : CI} {ts : List Nat} {g : CG} {cond : CT} {ce : CE} (hc : X.calm = true) (hN : X.N.Nodup) (hy : X.N[i]? = some y) (hyl : X.env.scope.names.lookup y = some .local)
    (hsw : swapsWith (.ListComp elt [⟨tg, iter, ifs, 0⟩] scope pos) (some (.Name y py)) spos.line X.env = pure true) (hi : I X tg iter ci) (ok : BlkOk X.N X.env.scope scope own)
    (hg : ∀ (s : Shared) (H : Hp) (C : Addr) (cl : List (Str × Addr)) (fp : List Addr), G (X.blk s H scope (compEnvC scope cl C X.env) fp) tg ts g) (ht : ∀ (s : Shared) (H : Hp) (C : Addr) (cl : List (Str × Addr)) (fp : List Addr), PTs (X.blk s H scope (compEnvC scope cl C X.env) fp) ifs (tT X.K cond))
    (he : ∀ (s : Shared) (H : Hp) (C : Addr) (cl : List (Str × Addr)) (fp : List Addr), E (X.blk s H scope (compEnvC scope cl C X.env) fp) elt ce) (hts : ∀ t ∈ ts, t ∈ own.map (·.2) := by decide) (hs : ∀ x, foldedSetIterable iter X.env x = pure x := by intro _; rfl) :
    S X (.Assign [.Name y py] (.ListComp elt [⟨tg, iter, ifs, 0⟩] scope pos) spos) (cSetN i (cLc (own.map (·.2)) ci g cond ce)) :=
  PS.imp (ps_setLc hc hN hy hyl hsw hi ok hg ht he hs) fun _ _ _ h => lc_to hts (setN_to h)
def cYes : CT := fun Γ => some (true, Γ)
theorem ts_nil : PTs X [] (tT X.K cYes) := ⟨fun pins s σ H Q I ⟨C, F, Γ, b, Γ', R, hc, k⟩ => by
  cases hc
  exact pts_nil.run pins s σ H Q I (k F H (Le.refl _) R)⟩
theorem ts_one {x : Expr} {c : CT} (h : T X x c) : PTs X [x] (tT X.K c) := pts_one h
end

/-! ### what is walked -/
section
variable {X : Cx} {tg e : Expr} {c : CE}
theorem walkD_list {K : Fr} {F : Hp} {a : Addr} {xs : List V} {ds : List D} (h : SqL K F a xs) (q : DpAll K F xs ds) : WalkD K F (Itl K a) ds := by
  have w := (walk_list (K := K) (a := a) (xs := xs)).mono (G' := fun H => Le F H) (Y' := YD K F ds) (fun H l => l.sql h) fun i H x H' hi l y => .inl ⟨y.1, dpa_get q y.2⟩
  rw [dpa_len q] at w
  exact w
where dpa_get {K : Fr} {F : Hp} {x : V} : ∀ {xs : List V} {ds : List D} {i : Nat}, DpAll K F xs ds → xs[i]? = some x → ∃ d, ds[i]? = some d ∧ Dp K F x d
  | _, _, 0, .cons h _, e => by simp at e; subst e; exact ⟨_, rfl, h⟩
  | _, _, i + 1, .cons _ t, e => by
    obtain ⟨d, h1, h2⟩ := dpa_get (i := i) t (by simpa using e)
    exact ⟨d, by simpa using h1, h2⟩
theorem walkD_tup {K : Fr} {F : Hp} {a : Addr} {xs : List V} {ds : List D} (h : SqT K F a xs) (q : DpAll K F xs ds) : WalkD K F (Itt K a) ds := by
  have w := (walk_tup (K := K) (a := a) (xs := xs)).mono (G' := fun H => Le F H) (Y' := YD K F ds) (fun H l => l.sqt h) fun i H x H' hi l y => .inl ⟨y.1, walkD_list.dpa_get q y.2⟩
  rw [dpa_len q] at w
  exact w
def rngD (lo : Int) (n : Nat) : List D := (List.range n).map fun i => .int (lo + (i : Nat))
theorem walkD_range {K : Fr} {F : Hp} {lo : Int} {n : Nat} : WalkD K F (Itr lo n) (rngD lo n) := by
  have w := (walk_range (lo := lo) (n := n)).mono (G' := fun H => Le F H) (Y' := YD K F (rngD lo n)) (fun H l => trivial) fun i H x H' hi l y => .inl ⟨y.1, .int (lo + (i : Nat)), by unfold rngD; simp [hi], by rw [y.2]; exact .int _⟩
  have e : (rngD lo n).length = n := by unfold rngD; simp
  unfold WalkD
  rw [e]
  exact w
/-- a list or a tuple -/
def cIt (c : CE) : CI := fun Γ => (c Γ).bind fun p => match p.1 with
  | .list ds => some (ds, p.2)
  | .tuple ds => some (ds, p.2)
  | _ => none
theorem PI.imp {t u : TI} (h : PI X tg e t) (i : ∀ σ H R, u σ H R → t σ H R) : PI X tg e u := ⟨fun pins s σ H R I q => h.run pins s σ H R I (i _ _ _ q)⟩
theorem i_seq (h : E X e c) : I X tg e (cIt c) := ⟨fun pins s σ H R J ⟨C, F, Γ, ds, Γ', Rl, hc, k⟩ => by
  unfold cIt at hc
  simp only [Option.bind_eq_some_iff] at hc
  obtain ⟨⟨d, Γ1⟩, h1, hc⟩ := hc
  cases d with
  | list es =>
    cases hc
    refine (pi_list h).run pins s σ H R J ⟨C, F, Γ, _, _, Rl, h1, fun F' H' v l R' q => ?_⟩
    cases q with
    | @lst a xs _ hs hd => exact ⟨a, rfl, ⟨xs, R'.sub.sql hs⟩, k F' H' _ l R' (walkD_list hs hd)⟩
  | tuple es =>
    cases hc
    refine (pi_tup h).run pins s σ H R J ⟨C, F, Γ, _, _, Rl, h1, fun F' H' v l R' q => ?_⟩
    cases q with
    | @tup a xs _ hs hd => exact ⟨a, rfl, ⟨xs, R'.sub.sqt hs⟩, k F' H' _ l R' (walkD_tup hs hd)⟩
  | _ => cases hc⟩
def cRng1 (c : CA) : CI := fun Γ => (c Γ).bind fun p => match p.1 with
  | [.int j] => if -(2 ^ 62) ≤ j ∧ j < 2 ^ 62 then some (rngD 0 j.toNat, p.2) else none
  | _ => none
theorem i_rng1 {a : Expr} {c : CA} {p pos : Pos} (hg : Gl X "range") (hm : X.mg "range" = none) (ha : Ar X [a] c) (hs : starEach [a] X.env = [(false, eval a X.env)] := by rfl) : I X tg (.Call (.Name "range" p) [a] [] pos) (cRng1 c) :=
  PI.imp (pi_range1 hg hm ha hs) fun σ H R ⟨C, F, Γ, ds, Γ', Rl, hc, k⟩ => by
    unfold cRng1 at hc
    simp only [Option.bind_eq_some_iff] at hc
    obtain ⟨⟨es, Γ1⟩, h1, hc⟩ := hc
    refine ⟨C, F, Γ, es, Γ1, Rl, h1, fun F' H' vs l R' q => ?_⟩
    split at hc
    · rename_i j e
      simp only at e
      subst e
      split at hc
      · rename_i hj
        cases hc
        cases q with
        | cons q1 q2 =>
          cases q2
          cases q1
          exact ⟨j, rfl, hj.1, hj.2, k F' H' _ l R' walkD_range⟩
      · cases hc
    · cases hc
def cRng2 (c : CA) : CI := fun Γ => (c Γ).bind fun p => match p.1 with
  | [.int i, .int j] => if -(2 ^ 62) ≤ i ∧ i < 2 ^ 62 ∧ -(2 ^ 62) ≤ j ∧ j < 2 ^ 62 then some (rngD i (j - i).toNat, p.2) else none
  | _ => none
theorem i_rng2 {a b : Expr} {c : CA} {p pos : Pos} (hg : Gl X "range") (hm : X.mg "range" = none) (ha : Ar X [a, b] c) (hs : starEach [a, b] X.env = [(false, eval a X.env), (false, eval b X.env)] := by rfl) (hs2 : starEach [b] X.env = [(false, eval b X.env)] := by rfl) :
    I X tg (.Call (.Name "range" p) [a, b] [] pos) (cRng2 c) :=
  PI.imp (pi_range2 hg hm ha hs hs2) fun σ H R ⟨C, F, Γ, ds, Γ', Rl, hc, k⟩ => by
    unfold cRng2 at hc
    simp only [Option.bind_eq_some_iff] at hc
    obtain ⟨⟨es, Γ1⟩, h1, hc⟩ := hc
    refine ⟨C, F, Γ, es, Γ1, Rl, h1, fun F' H' vs l R' q => ?_⟩
    split at hc
    · rename_i i j e
      simp only at e
      subst e
      split at hc
      · rename_i hj
        cases hc
        cases q with
        | cons q1 q2 =>
          cases q2 with
          | cons q3 q4 =>
            cases q4
            cases q1
            cases q3
            exact ⟨i, j, rfl, hj, k F' H' _ l R' walkD_range⟩
      · cases hc
    · cases hc
end
end Pu

namespace Pu
open PySem PySem.Spec PyProof.Rows L2

/-! ### defs -/
abbrev CF := En → Option (Rv × En)
/-- what is left of the slots behind a call: what was lent -/
def kept : Sl → Sl
  | .ln d => .ln d
  | _ => .no
def cFun (n m : Nat) (body : CS) : CF := fun as => if as.length = m then (body (as ++ List.replicate (n - m) .no)).bind fun p => match p.1 with
  | .nx => some (.fr .none, (p.2.take m).map kept)
  | .rt r => some (r, (p.2.take m).map kept)
  | _ => none else none
theorem kept_ln {Γ : En} {m i : Nat} {d : D} (h : ((Γ.take m).map kept)[i]? = some (.ln d)) : Γ[i]? = some (.ln d) := by
  rw [List.getElem?_map] at h
  cases e : (Γ.take m)[i]? with
  | none => rw [e] at h; simp at h
  | some s =>
    rw [e] at h
    rw [List.getElem?_take] at e
    split at e
    · rw [e]
      cases s <;> simp [kept] at h
      rw [h]
    · cases e
/-- an argument as it stands -/
def ArgOk (K : Fr) (F H : Hp) (v : V) : Sl → Prop
  | .fr d => Dp K F v d
  | .ln d => ∃ a, v = .ref a ∧ Mu K F H a d
  | _ => False
structure ArgsOk (K : Fr) (F H : Hp) (vs : List V) (as : En) : Prop where
  len : vs.length = as.length
  ok : ∀ (i : Nat) (v : V) (s : Sl), vs[i]? = some v → as[i]? = some s → ArgOk K F H v s
  apart : ∀ (i j : Nat) (d e : D) (a b : Addr), i ≠ j → as[i]? = some (.ln d) → as[j]? = some (.ln e) → vs[i]? = some (.ref a) → vs[j]? = some (.ref b) → a ≠ b
def Lent (vs : List V) (as : En) (a : Addr) : Prop := ∃ (i : Nat) (d : D), as[i]? = some (.ln d) ∧ vs[i]? = some (.ref a)
structure Back (K : Fr) (F H F' H' : Hp) (vs : List V) (as Γf : En) : Prop where
  f : Le F F'
  s : Le F' H'
  keep : ∀ a o, H a = some o → ¬ Lent vs as a → H' a = some o
  hid : ∀ a o, H a = some o → F a = none → ¬ Lent vs as a → F' a = none
  there : ∀ a o, H a = some o → ∃ u, H' a = some u
  back : ∀ (i : Nat) (d : D), Γf[i]? = some (.ln d) → ∃ a, vs[i]? = some (.ref a) ∧ (∃ e, as[i]? = some (.ln e)) ∧ Mu K F' H' a d
def Res (K : Fr) (H F' H' : Hp) (v : V) : Rv → Prop
  | .fr d => Dp K F' v d
  | .nw d => ∃ a, v = .ref a ∧ H a = none ∧ Mu K F' H' a d
def spP (K : Fr) (cf : CF) : Sp := fun vs H Q _ => ∃ F as r Γf, cf as = some (r, Γf) ∧ Le F H ∧ ArgsOk K F H vs as ∧ ∀ F' H' v, Back K F H F' H' vs as Γf → Res K H F' H' v r → Q v H'
open Classical in
/-- where a body stands at its start -/
noncomputable def ctOf (F H : Hp) (vs : List V) (as : En) : Ct where
  H0 := H
  Pn := fun a => if (F a).isSome = true ∨ Lent vs as a then none else H a
  A := fun i => match as[i]?, vs[i]? with
    | some (.ln _), some (.ref a) => some a
    | _, _ => none
theorem ctOf_A {F H : Hp} {vs : List V} {as : En} {i : Nat} {a : Addr} (h : (ctOf F H vs as).A i = some a) : vs[i]? = some (.ref a) ∧ ∃ e, as[i]? = some (.ln e) := by
  have h' : (match as[i]?, vs[i]? with
    | some (.ln _), some (.ref a) => some a
    | _, _ => none) = some a := h
  split at h'
  · rename_i d b e1 e2
    cases h'
    exact ⟨e2, d, e1⟩
  · cases h'
theorem app_get {α : Type} {l r : List α} {i : Nat} {x : α} (h : (l ++ r)[i]? = some x) : l[i]? = some x ∨ (l.length ≤ i ∧ r[i - l.length]? = some x) := by
  by_cases hi : i < l.length
  · rw [List.getElem?_append_left hi] at h; exact .inl h
  · rw [List.getElem?_append_right (by omega)] at h; exact .inr ⟨by omega, h⟩
open Classical in
theorem rel_start {K : Fr} {F H : Hp} {vs : List V} {as : En} {N : List Str} (s : Le F H) (a : ArgsOk K F H vs as) (hN : vs.length ≤ N.length) : Rel K (ctOf F H vs as) F H (L2.start N vs) (as ++ List.replicate (N.length - as.length) .no) := by
  have key : ∀ (i : Nat) (s : Sl), (as ++ List.replicate (N.length - as.length) Sl.no)[i]? = some s → s = .no ∨ (as[i]? = some s ∧ ∃ v, vs[i]? = some v ∧ (L2.start N vs)[i]? = some (some v)) := fun i s e => by
    rcases app_get e with e | ⟨_, e⟩
    · refine .inr ⟨e, ?_⟩
      have hi : i < vs.length := by rw [a.len]; exact lt_of_get e
      refine ⟨vs[i], List.getElem?_eq_getElem hi, ?_⟩
      unfold L2.start
      rw [List.getElem?_append_left (by simpa using hi)]
      simp [hi]
    · rw [List.getElem?_replicate] at e
      split at e
      · cases e; exact .inl rfl
      · cases e
  refine ⟨s, ?_, fun i s e => ?_, fun i j s t b hij e1 e2 o1 o2 z1 z2 => ?_, fun b o e => ?_, fun b o e => ?_, fun i s b e o z => ?_, fun b o e => ⟨o, e⟩⟩
  · unfold L2.start
    have := a.len
    simp; omega
  · rcases key i s e with rfl | ⟨h1, v, h2, h3⟩
    · trivial
    · rw [h3]
      have q := a.ok i v s h2 h1
      cases s with
      | no => cases q
      | fr d => exact ⟨v, rfl, q⟩
      | ow d => cases q
      | ln d =>
        obtain ⟨b, rfl, m⟩ := q
        refine ⟨b, rfl, ?_, m⟩
        show (match as[i]?, vs[i]? with
          | some (.ln _), some (.ref a) => some a
          | _, _ => none) = some b
        rw [h1, h2]
  · rcases key i s e1 with rfl | ⟨h1, v, h2, h3⟩
    · cases o1
    · rcases key j t e2 with rfl | ⟨h4, w, h5, h6⟩
      · cases o2
      · rw [z1] at h3; cases h3
        rw [z2] at h6; cases h6
        have q1 := a.ok i _ s h2 h1
        have q2 := a.ok j _ t h5 h4
        cases s with
        | no => cases o1
        | fr d => cases o1
        | ow d => cases q1
        | ln d =>
          cases t with
          | no => cases o2
          | fr d => cases o2
          | ow d => cases q2
          | ln d2 => exact a.apart i j d d2 b b hij h1 h4 h2 h5 rfl
  · have e' : (if (F b).isSome = true ∨ Lent vs as b then none else H b) = some o := e
    split at e'
    · cases e'
    · exact e'
  · have e' : (if (F b).isSome = true ∨ Lent vs as b then none else H b) = some o := e
    split at e'
    · cases e'
    · rename_i h
      cases hF : F b with
      | none => rfl
      | some u => exact absurd (.inl (by simp [hF])) h
  · rcases key i s e with rfl | ⟨h1, v, h2, h3⟩
    · cases o
    · rw [z] at h3; cases h3
      have q := a.ok i _ s h2 h1
      show (if (F b).isSome = true ∨ Lent vs as b then none else H b) = none
      cases s with
      | no => cases o
      | fr d => cases o
      | ow d => cases q
      | ln d => rw [if_pos (.inr ⟨i, d, h1, h2⟩)]
open Classical in
theorem rel_end {K : Fr} {F H F' H' : Hp} {vs : List V} {as : En} {σ : L2.St} {Γ : En} (s0 : Le F H) (l : Le F F') (r : Rel K (ctOf F H vs as) F' H' σ Γ) : Back K F H F' H' vs as Γ := by
  have hPn : ∀ a o, H a = some o → F a = none → ¬ Lent vs as a → (ctOf F H vs as).Pn a = some o := fun a o e hF n => by
    show (if (F a).isSome = true ∨ Lent vs as a then none else H a) = some o
    rw [if_neg (fun z => z.elim (by simp [hF]) n)]; exact e
  refine ⟨l, r.sub, fun a o e n => ?_, fun a o e hF n => ?_, fun a o e => r.there a o e, fun i d e => ?_⟩
  · cases hF : F a with
    | some u =>
      have e2 := s0 a u hF
      rw [e] at e2; cases e2
      exact r.sub a o (l a o hF)
    | none => exact r.keep a o (hPn a o e hF n)
  · exact r.hid a o (hPn a o e hF n)
  · obtain ⟨a, e1, e2, m⟩ := r.ok i _ e
    obtain ⟨h1, h2⟩ := ctOf_A e2
    exact ⟨a, h1, h2, m⟩
theorem ok_fun {P : Program} {w : World} {K : Fr} {mg : Str → Option Value} {base : Heap} {x qual : Str} {st : Stmt} {f : Addr} {fd : FuncData} {N ps : List Str} {k : Nat} {body : CS} (Fn : Fun K x qual st f fd) (Sc : FnScope N ps (defScope st)) (hN : ps.length ≤ N.length)
    (hb : ∀ (cdv : Value) (A : Around) (outer : List Env) (s : Shared) (H : Hp) (E : XK), Room k (A.deeper (envOfC qual (defScope st) s.heap.objs.size f cdv)) → B (cxOf CX0 P w K mg base N qual (defScope st) f cdv A outer s H E).nox (defBody st) body) :
    FnOk P w K mg base CX0 (k + 1) f fd ps (spP K (cFun N.length ps.length body)) := by
  have hlen : ∀ {as : En} {r : Rv} {Γf : En}, cFun N.length ps.length body as = some (r, Γf) → as.length = ps.length := fun h => by
    unfold cFun at h
    split at h
    · assumption
    · cases h
  refine Fn.ok Sc (fun vs H Q E h => ?_) (fun cdv A outer s H vs Q E hr h => ?_)
  · obtain ⟨F, as, r, Γf, hc, _, a, _⟩ := h
    rw [a.len]; exact hlen hc
  · obtain ⟨F, as, r, Γf, hc, s0, a, k⟩ := h
    have h1 := hlen hc
    refine ⟨_, hb cdv A outer s H E hr, ?_⟩
    unfold cFun at hc
    rw [if_pos h1] at hc
    simp only [Option.bind_eq_some_iff] at hc
    obtain ⟨⟨fl, Γ1⟩, h2, hc⟩ := hc
    have hs := rel_start (N := N) s0 a (by rw [a.len, h1]; exact hN)
    rw [h1] at hs
    refine ⟨ctOf F H vs as, F, _, fl, Γ1, hs, h2, fun F' H' σ' l R => ?_⟩
    have bk0 := rel_end s0 l R
    have bk : Back K F H F' H' vs as ((Γ1.take ps.length).map kept) := ⟨bk0.f, bk0.s, bk0.keep, bk0.hid, bk0.there, fun i d e => bk0.back i d (kept_ln e)⟩
    cases fl with
    | nx => cases hc; exact k F' H' _ bk .non
    | rt q =>
      cases hc
      intro v g
      refine k F' H' v bk ?_
      cases r with
      | fr d => exact g
      | nw d => obtain ⟨a, e, h0, _, m, _⟩ := g; exact ⟨a, e, h0, m⟩
    | bk => cases hc
    | ct => cases hc

/-! ### calls: the slots that are lent come first -/
def lnd (Γ : En) : List Nat → Option En
  | [] => some []
  | i :: is => match Γ[i]? with
    | some (.ow d) => (lnd Γ is).bind fun r => some (.ln d :: r)
    | some (.ln d) => (lnd Γ is).bind fun r => some (.ln d :: r)
    | _ => none
def backS (Γ : En) (i : Nat) (d : D) : En := Γ.set i (match Γ[i]? with
  | some (.ln _) => .ln d
  | _ => .ow d)
def backL (Γ : En) : List Nat → En → Option En
  | [], _ => some Γ
  | i :: is, .ln d :: r => backL (backS Γ i d) is r
  | _, _ => none
def cCall (cf : CF) (ls : List Nat) (ca : CA) : CN := fun Γ => (lnd Γ ls).bind fun _ => (ca Γ).bind fun p => (lnd p.2 ls).bind fun as => if ls.Nodup then
  (cf (as ++ p.1.map .fr)).bind fun q => (backL p.2 ls q.2).bind fun Γ2 => some (q.1, Γ2) else none
theorem lnd_spec {Γ : En} : ∀ {ls : List Nat} {as : En}, lnd Γ ls = some as → as.length = ls.length ∧ ∀ (k i : Nat), ls[k]? = some i → ∃ d, as[k]? = some (.ln d) ∧ (Γ[i]? = some (.ow d) ∨ Γ[i]? = some (.ln d))
  | [], as, h => by cases h; exact ⟨rfl, fun k i e => by simp at e⟩
  | i :: is, as, h => by
    unfold lnd at h
    split at h <;> first | cases h | skip
    · rename_i d hd
      simp only [Option.bind_eq_some_iff, Option.some.injEq] at h
      obtain ⟨r, h1, rfl⟩ := h
      obtain ⟨q1, q2⟩ := lnd_spec h1
      refine ⟨by simp [q1], fun k j e => ?_⟩
      cases k with
      | zero => simp at e; subst e; exact ⟨d, rfl, .inl hd⟩
      | succ k => simp at e; obtain ⟨d', e1, e2⟩ := q2 k j e; exact ⟨d', by simpa using e1, e2⟩
    · rename_i d hd
      simp only [Option.bind_eq_some_iff, Option.some.injEq] at h
      obtain ⟨r, h1, rfl⟩ := h
      obtain ⟨q1, q2⟩ := lnd_spec h1
      refine ⟨by simp [q1], fun k j e => ?_⟩
      cases k with
      | zero => simp at e; subst e; exact ⟨d, rfl, .inr hd⟩
      | succ k => simp at e; obtain ⟨d', e1, e2⟩ := q2 k j e; exact ⟨d', by simpa using e1, e2⟩
theorem backL_spec : ∀ {ls : List Nat} {Γ Γf Γ2 : En}, ls.Nodup → backL Γ ls Γf = some Γ2 → Γ2.length = Γ.length ∧ (∀ j, j ∉ ls → Γ2[j]? = Γ[j]?) ∧
    ∀ (k i : Nat), ls[k]? = some i → i < Γ.length → ∃ d, Γf[k]? = some (.ln d) ∧ Γ2[i]? = some (match Γ[i]? with | some (.ln _) => .ln d | _ => .ow d)
  | [], Γ, Γf, Γ2, _, h => by unfold backL at h; cases h; exact ⟨rfl, fun _ _ => rfl, fun k i e => by simp at e⟩
  | i :: is, Γ, Γf, Γ2, hn, h => by
    cases Γf with
    | nil => unfold backL at h; cases h
    | cons s r =>
      cases s with
      | ln d =>
        have h' : backL (backS Γ i d) is r = some Γ2 := h
        obtain ⟨hi, hn'⟩ := List.nodup_cons.mp hn
        obtain ⟨q1, q2, q3⟩ := backL_spec hn' h'
        have hlen : (backS Γ i d).length = Γ.length := by unfold backS; rw [List.length_set]
        refine ⟨by rw [q1, hlen], fun j hj => ?_, fun k j e hl => ?_⟩
        · rw [q2 j (fun z => hj (List.mem_cons_of_mem _ z))]
          unfold backS
          rw [List.getElem?_set_ne (fun z => hj (by simp [z]))]
        · cases k with
          | zero =>
            simp at e; subst e
            refine ⟨d, rfl, ?_⟩
            rw [q2 i hi]
            unfold backS
            rw [get_set_eq hl]
          | succ k =>
            simp at e
            obtain ⟨d', e1, e2⟩ := q3 k j e (by rw [hlen]; exact hl)
            have hij : i ≠ j := fun z => hi (by rw [z]; exact List.mem_of_getElem? e)
            refine ⟨d', by simpa using e1, ?_⟩
            rw [e2]
            unfold backS
            rw [List.getElem?_set_ne hij]
      | _ => unfold backL at h; cases h
theorem dpa_at {K : Fr} {F : Hp} : ∀ {vs : List V} {ds : List D} {i : Nat} {v : V} {d : D}, DpAll K F vs ds → vs[i]? = some v → ds[i]? = some d → Dp K F v d
  | _, _, 0, _, _, .cons h _, e1, e2 => by simp at e1 e2; subst e1 e2; exact h
  | _, _, i + 1, _, _, .cons _ t, e1, e2 => dpa_at (i := i) t (by simpa using e1) (by simpa using e2)
section
variable {K : Fr} {C : Ct} {F H F' H' : Hp} {σ : L2.St} {Γ : En}
/-- behind a call -/
theorem Rel.called (R : Rel K C F H σ Γ) {ls : List Nat} {las : En} {ws vs : List V} {ds : List D} {Γf Γ2 : En} {r : Rv} {v : V} (hn : ls.Nodup) (hl : lnd Γ ls = some las) (hw : ws.length = ls.length) (hwσ : ∀ (k i : Nat), ls[k]? = some i → ∃ x, σ[i]? = some (some x) ∧ ws[k]? = some x)
    (q : DpAll K F vs ds) (hb : backL Γ ls Γf = some Γ2) (b : Back K F H F' H' (ws ++ vs) (las ++ ds.map .fr) Γf) (hr : Res K H F' H' v r) : Rel K C F' H' σ Γ2 ∧ Got K C F' H' σ Γ2 v r := by
  obtain ⟨n1, n2⟩ := lnd_spec hl
  obtain ⟨m1, m2, m3⟩ := backL_spec hn hb
  have dn := dpa_len q
  -- who is lent
  have lent : ∀ a, Lent (ws ++ vs) (las ++ ds.map .fr) a → ∃ (k i : Nat), ls[k]? = some i ∧ σ[i]? = some (some (.ref a)) := fun a ⟨k, d, e1, e2⟩ => by
    rcases app_get e1 with e1 | ⟨_, e1⟩
    · have hk : k < ls.length := by rw [← n1]; exact lt_of_get e1
      obtain ⟨x, x1, x2⟩ := hwσ k ls[k] (List.getElem?_eq_getElem hk)
      rw [List.getElem?_append_left (by rw [hw]; exact hk), x2] at e2
      cases e2
      exact ⟨k, ls[k], List.getElem?_eq_getElem hk, x1⟩
    · rw [List.getElem?_map] at e1
      cases h : ds[k - las.length]? with
      | none => rw [h] at e1; simp at e1
      | some d' => rw [h] at e1; simp at e1
  have own_i : ∀ (k i : Nat), ls[k]? = some i → ∃ s : Sl, Γ[i]? = some s ∧ s.own = true := fun k i e => by
    obtain ⟨d, _, e2 | e2⟩ := n2 k i e
    · exact ⟨_, e2, rfl⟩
    · exact ⟨_, e2, rfl⟩
  have notL : ∀ (j : Nat) (s : Sl) (a : Addr), j ∉ ls → Γ[j]? = some s → s.own = true → σ[j]? = some (some (.ref a)) → ¬ Lent (ws ++ vs) (las ++ ds.map .fr) a := fun j s a hj e o z lt => by
    obtain ⟨k, i, e1, e2⟩ := lent a lt
    obtain ⟨t, t1, t2⟩ := own_i k i e1
    have hij : i ≠ j := fun w => hj (by rw [← w]; exact List.mem_of_getElem? e1)
    exact R.apart i j t s a hij t1 e t2 o e2 z
  -- the slots behind
  have key : ∀ (j : Nat) (s : Sl), Γ2[j]? = some s → (j ∉ ls ∧ Γ[j]? = some s) ∨ ∃ (k : Nat) (d : D) (a : Addr), ls[k]? = some j ∧ σ[j]? = some (some (.ref a)) ∧ Mu K F' H' a d ∧ ((s = .ow d ∧ ∃ e, Γ[j]? = some (.ow e)) ∨ (s = .ln d ∧ ∃ e, Γ[j]? = some (.ln e))) := fun j s e => by
    by_cases hj : j ∈ ls
    · obtain ⟨k, hk⟩ := List.getElem?_of_mem hj
      obtain ⟨t, t1, t2⟩ := own_i k j hk
      obtain ⟨d, d1, d2⟩ := m3 k j hk (lt_of_get t1)
      obtain ⟨a, a1, _, a3⟩ := b.back k d d1
      obtain ⟨x, x1, x2⟩ := hwσ k j hk
      rw [List.getElem?_append_left (by rw [hw]; exact lt_of_get hk), x2] at a1
      cases a1
      rw [e] at d2
      cases d2
      refine .inr ⟨k, d, a, hk, x1, a3, ?_⟩
      obtain ⟨d0, _, z | z⟩ := n2 k j hk
      · rw [z]; exact .inl ⟨rfl, d0, rfl⟩
      · rw [z]; exact .inr ⟨rfl, d0, rfl⟩
    · rw [m2 j hj] at e; exact .inl ⟨hj, e⟩
  have ownOf : ∀ (j : Nat) (s : Sl), Γ2[j]? = some s → s.own = true → ∃ t, Γ[j]? = some t ∧ t.own = true := fun j s e o => by
    rcases key j s e with ⟨_, h⟩ | ⟨_, d, a, _, _, _, ⟨rfl, e', h⟩ | ⟨rfl, e', h⟩⟩
    · exact ⟨s, h, o⟩
    · exact ⟨_, h, rfl⟩
    · exact ⟨_, h, rfl⟩
  have pnL : ∀ a o, C.Pn a = some o → ¬ Lent (ws ++ vs) (las ++ ds.map .fr) a := fun a o e lt => by
    obtain ⟨k, i, e1, e2⟩ := lent a lt
    obtain ⟨t, t1, t2⟩ := own_i k i e1
    rw [R.pin i t a t1 t2 e2] at e; cases e
  have R2 : Rel K C F' H' σ Γ2 := by
    refine ⟨b.s, by rw [m1]; exact R.len, fun j s e => ?_, fun j k s t a hj e1 e2 o1 o2 z1 z2 => ?_, fun a o e => ?_, fun a o e => ?_, fun j s a e o z => ?_, fun a o e => ?_⟩
    · rcases key j s e with ⟨hj, h⟩ | ⟨k, d, a, hk, hσ, mu, ⟨rfl, e', h⟩ | ⟨rfl, e', h⟩⟩
      · have z := R.ok j s h
        cases s with
        | no => trivial
        | fr d => obtain ⟨x, x1, x2⟩ := z; exact ⟨x, x1, dp_mono b.f x2⟩
        | ow d =>
          obtain ⟨a, x1, x2, x3, es, xs, x4, x5, x6⟩ := z
          have nl := notL j _ a hj h rfl x1
          exact ⟨a, x1, x2, b.hid a _ x5 x3 nl, es, xs, x4, b.keep a _ x5 nl, dpa_mono b.f x6⟩
        | ln d =>
          obtain ⟨a, x1, x2, x3, es, xs, x4, x5, x6⟩ := z
          have nl := notL j _ a hj h rfl x1
          exact ⟨a, x1, x2, b.hid a _ x5 x3 nl, es, xs, x4, b.keep a _ x5 nl, dpa_mono b.f x6⟩
      · obtain ⟨a', x1, x2, _⟩ := R.ok j _ h
        rw [hσ] at x1; cases x1
        exact ⟨a, hσ, x2, mu⟩
      · obtain ⟨a', x1, x2, _⟩ := R.ok j _ h
        rw [hσ] at x1; cases x1
        exact ⟨a, hσ, x2, mu⟩
    · obtain ⟨s', s1, s2⟩ := ownOf j s e1 o1
      obtain ⟨t', t1, t2⟩ := ownOf k t e2 o2
      exact R.apart j k s' t' a hj s1 t1 s2 t2 z1 z2
    · exact b.keep a o (R.keep a o e) (pnL a o e)
    · exact b.hid a o (R.keep a o e) (R.hid a o e) (pnL a o e)
    · obtain ⟨s', s1, s2⟩ := ownOf j s e o
      exact R.pin j s' a s1 s2 z
    · obtain ⟨u, hu⟩ := R.there a o e
      exact b.there a u hu
  refine ⟨R2, ?_⟩
  cases r with
  | fr d => exact hr
  | nw d =>
    obtain ⟨a, rfl, h0, m⟩ := hr
    refine ⟨a, rfl, R.fresh h0, R.freshP h0, m, fun i s e o z => ?_⟩
    obtain ⟨t, t1, t2⟩ := ownOf i s e o
    exact NoOwn.fresh R h0 i t t1 t2 z
end
/-- the lent names, then the other arguments -/
def tL (K : Fr) (ls : List Nat) (c : CA) : TA := fun σ H Q => (∀ i ∈ ls, ∃ x, σ[i]? = some (some x)) ∧ ∃ C F Γ ds Γ', Rel K C F H σ Γ ∧ c Γ = some (ds, Γ') ∧
  ∀ F' H' ws vs, Le F F' → Rel K C F' H' σ Γ' → DpAll K F' vs ds → ws.length = ls.length → (∀ (k i : Nat), ls[k]? = some i → ∃ x, σ[i]? = some (some x) ∧ ws[k]? = some x) → Q (ws ++ vs) H'
abbrev AL (X : Cx) (es : List Expr) (ls : List Nat) (c : CA) : Prop := PA X es (tL X.K ls c)
section
variable {X : Cx} {e : Expr} {es : List Expr} {c : CA} {pos : Pos}
theorem al_nil (h : Ar X es c) : AL X es [] c := PA.imp h fun σ H Q ⟨_, C, F, Γ, ds, Γ', R, hc, k⟩ =>
  ⟨C, F, Γ, ds, Γ', R, hc, fun F' H' vs l R' q => k F' H' [] vs l R' q rfl fun k i e => by simp at e⟩
theorem al_cons {i : Nat} {ls : List Nat} (h : PE X e (tVar i)) (hr : AL X es ls c) (hs : starEach (e :: es) X.env = (false, eval e X.env) :: starEach es X.env := by rfl) : AL X (e :: es) (i :: ls) c :=
  PA.imp (pa_cons h hr hs) fun σ H Q ⟨hi, C, F, Γ, ds, Γ', R, hc, k⟩ => by
    obtain ⟨x, hx⟩ := hi i (by simp)
    refine ⟨x, hx, fun j hj => hi j (by simp [hj]), C, F, Γ, ds, Γ', R, hc, fun F' H' ws vs l R' q hw hσ => ?_⟩
    refine k F' H' (x :: ws) vs l R' q (by simp [hw]) fun m j e => ?_
    cases m with
    | zero => simp at e; subst e; exact ⟨x, hx, rfl⟩
    | succ m => simp at e; obtain ⟨y, y1, y2⟩ := hσ m j e; exact ⟨y, y1, by simpa using y2⟩
theorem call_to {K : Fr} {cf : CF} {ls : List Nat} {ca : CA} {σ : L2.St} {H : Hp} {Q : VK} {E : XK} (h : tN K (cCall cf ls ca) σ H Q) : tCall (spP K cf) [] E (tL K ls ca) σ H Q := by
  obtain ⟨C, F, Γ, r, Γ', R, hc, k⟩ := h
  unfold cCall at hc
  simp only [Option.bind_eq_some_iff] at hc
  obtain ⟨as0, h0, ⟨ds, Γ1⟩, h1, as, h2, hc⟩ := hc
  split at hc
  · rename_i hn
    simp only [Option.bind_eq_some_iff, Option.some.injEq, Prod.mk.injEq] at hc
    obtain ⟨⟨r', Γf⟩, h3, Γ2, h4, rfl, rfl⟩ := hc
    have hi : ∀ i ∈ ls, ∃ x, σ[i]? = some (some x) := fun i hi => by
      obtain ⟨k, hk⟩ := List.getElem?_of_mem hi
      obtain ⟨d, _, e | e⟩ := (lnd_spec h0).2 k i hk
      · obtain ⟨a, e1, _⟩ := R.ok i _ e; exact ⟨_, e1⟩
      · obtain ⟨a, e1, _⟩ := R.ok i _ e; exact ⟨_, e1⟩
    refine ⟨hi, C, F, Γ, ds, Γ1, R, h1, fun F1 H1 ws vs l R1 q hw hσ => ?_⟩
    obtain ⟨n1, n2⟩ := lnd_spec h2
    have dn := dpa_len q
    rw [List.append_nil]
    refine ⟨F1, as ++ ds.map .fr, r', Γf, h3, R1.sub, ⟨by simp [hw, n1, dn], fun i v s e1 e2 => ?_, fun i j d e a b hij e1 e2 e3 e4 => ?_⟩, fun F' H' v b hr => ?_⟩
    · rcases app_get e2 with e2 | ⟨hl, e2⟩
      · have hi' : i < ls.length := by rw [← n1]; exact lt_of_get e2
        obtain ⟨d, d1, d2⟩ := n2 i ls[i] (List.getElem?_eq_getElem hi')
        rw [e2] at d1; cases d1
        obtain ⟨x, x1, x2⟩ := hσ i ls[i] (List.getElem?_eq_getElem hi')
        rw [List.getElem?_append_left (by rw [hw]; exact hi'), x2] at e1
        cases e1
        rcases d2 with d2 | d2
        · obtain ⟨a, a1, _, m⟩ := R1.ok _ _ d2
          rw [x1] at a1; cases a1
          exact ⟨a, rfl, m⟩
        · obtain ⟨a, a1, _, m⟩ := R1.ok _ _ d2
          rw [x1] at a1; cases a1
          exact ⟨a, rfl, m⟩
      · rw [List.getElem?_append_right (by omega)] at e1
        rw [List.getElem?_map] at e2
        cases hd : ds[i - as.length]? with
        | none => rw [hd] at e2; simp at e2
        | some d =>
          rw [hd] at e2
          simp at e2
          subst e2
          have : i - ws.length = i - as.length := by omega
          rw [this] at e1
          exact dpa_at q e1 hd
    · have side : ∀ (m : Nat) (d : D) (a : Addr), (as ++ ds.map .fr)[m]? = some (.ln d) → (ws ++ vs)[m]? = some (.ref a) → ∃ z s, ls[m]? = some z ∧ Γ1[z]? = some s ∧ s.own = true ∧ σ[z]? = some (some (.ref a)) := fun m d a e1 e2 => by
        rcases app_get e1 with e1 | ⟨hl, e1⟩
        · have hi' : m < ls.length := by rw [← n1]; exact lt_of_get e1
          obtain ⟨d', d1, d2⟩ := n2 m ls[m] (List.getElem?_eq_getElem hi')
          obtain ⟨x, x1, x2⟩ := hσ m ls[m] (List.getElem?_eq_getElem hi')
          rw [List.getElem?_append_left (by rw [hw]; exact hi'), x2] at e2
          cases e2
          rcases d2 with d2 | d2
          · exact ⟨_, _, List.getElem?_eq_getElem hi', d2, rfl, x1⟩
          · exact ⟨_, _, List.getElem?_eq_getElem hi', d2, rfl, x1⟩
        · rw [List.getElem?_map] at e1
          cases hd : ds[m - as.length]? with
          | none => rw [hd] at e1; simp at e1
          | some d' => rw [hd] at e1; simp at e1
      obtain ⟨z1, s1, p1, p2, p3, p4⟩ := side i d a e1 e3
      obtain ⟨z2, s2, p5, p6, p7, p8⟩ := side j e b e2 e4
      have hz : z1 ≠ z2 := fun w => by
        subst w
        have h5 := List.getElem?_eq_some_iff.mp p1
        have h6 := List.getElem?_eq_some_iff.mp p5
        obtain ⟨w1, w2⟩ := h5
        obtain ⟨w3, w4⟩ := h6
        exact hij ((List.getElem_inj hn).mp (w2.trans w4.symm))
      rintro rfl
      exact R1.apart z1 z2 s1 s2 a hz p2 p6 p3 p7 p4 p8
    · obtain ⟨R3, g⟩ := R1.called hn h2 hw hσ q h4 b hr
      exact k F' H' v (l.trans b.f) R3 g
  · cases hc
theorem n_call {k : Nat} {f : Addr} {fd : FuncData} {ps : List Str} {x : Str} {p : Pos} {cf : CF} {ls : List Nat} (Fk : FnOk X.prog X.w X.K X.mg X.base CX0 k f fd ps (spP X.K cf)) (hr : Room k X.A) (hg : Gl X x) (hm : X.mg x = some (.ref f)) (hk : PySem.W.keepIn X.K (.ref f) = true) (hb : Binds X.K fd ps [])
    (ha : AL X (e :: es) ls c) (hdb : (x == ("__debug__" : Str)) = false := by decide) (he : starEach (e :: es) X.env = (false, eval e X.env) :: starEach es X.env := by rfl) (hpl : (backTo pos (starEach es X.env)).any (·.1) = false := by rfl) :
    N X (.Call (.Name x p) (e :: es) [] pos) (cCall cf ls c) :=
  PE.imp (pe_call Fk hr hg hm hk hb .nil pass0 ha hdb he hpl) fun _ _ _ h => call_to h
theorem n_call0 {k : Nat} {f : Addr} {fd : FuncData} {ps : List Str} {x : Str} {p : Pos} {cf : CF} (Fk : FnOk X.prog X.w X.K X.mg X.base CX0 k f fd ps (spP X.K cf)) (hr : Room k X.A) (hg : Gl X x) (hm : X.mg x = some (.ref f)) (hk : PySem.W.keepIn X.K (.ref f) = true) (hb : Binds X.K fd ps [])
    (hdb : (x == ("__debug__" : Str)) = false := by decide) : N X (.Call (.Name x p) [] [] pos) (cCall cf [] cNil) :=
  PE.imp (pe_call0 Fk hr hg hm hk hb .nil pass0 hdb) fun σ H Q h => by
    obtain ⟨C, F, Γ, r, Γ', R, hc, k⟩ := h
    have q := call_to (E := E0) (σ := σ) (H := H) (Q := Q) (K := X.K) (cf := cf) (ls := []) (ca := cNil) ⟨C, F, Γ, r, Γ', R, hc, k⟩
    obtain ⟨hi, C, F, Γ, ds, Γ', R, hc, k⟩ := q
    cases hc
    exact k F H [] [] (Le.refl _) R .nil rfl fun k i e => by simp at e
end
end Pu

namespace Pu
open PySem PySem.Spec PyProof.Rows L2

/-! ### the operators' worth -/
def dAdd : D → D → Option D
  | .int i, .int j => some (.int (i + j))
  | .int i, .bool b => some (.int (i + b2i b))
  | .str a, .str b => if a.length + b.length ≤ sizeLine then some (.str (a ++ b)) else none
  | .tuple a, .tuple b => if a.length + b.length ≤ sizeLine then some (.tuple (a ++ b)) else none
  | .list a, .list b => if a.length + b.length ≤ sizeLine then some (.list (a ++ b)) else none
  | _, _ => none
def dSub : D → D → Option D
  | .int i, .int j => some (.int (i - j))
  | _, _ => none
instance (i j : Int) : Decidable (CMul i j) := by unfold CMul; exact inferInstance
instance (i j : Int) : Decidable (CDivN i j) := by unfold CDivN; exact inferInstance
instance (i j : Int) : Decidable (CPow i j) := by unfold CPow; exact inferInstance
def dMul : D → D → Option D
  | .int i, .int j => if CMul i j then some (.int (i * j)) else none
  | _, _ => none
def dFdiv : D → D → Option D
  | .int i, .int j => if CDivN i j then some (.int (i.fdiv j)) else none
  | _, _ => none
def dMod : D → D → Option D
  | .int i, .int j => if j ≠ 0 then some (.int (i.fmod j)) else none
  | _, _ => none
def dPow : D → D → Option D
  | .int i, .int j => if CPow i j then some (.int (i ^ j.toNat)) else none
  | _, _ => none
def dCmp (p : Int → Int → Bool) : D → D → Option D
  | .int i, .int j => some (.bool (p i j))
  | _, _ => none
def dEq (neg : Bool) (a b : D) : Option D := if SeqAt.shaped a = true ∧ SeqAt.shaped b = true then some (.bool (if neg then !PyData.eqv a b else PyData.eqv a b)) else none
def dIsNone (neg : Bool) (a b : D) : Option D := match b with
  | .none => some (.bool (match a with | .none => !neg | _ => neg))
  | _ => none
def flatD : D → Bool
  | .none => true
  | .bool _ => true
  | .int _ => true
  | .str _ => true
  | _ => false
def dIn (neg : Bool) (a b : D) : Option D := match b with
  | .list ds => if SeqAt.shaped a = true ∧ SeqAt.shaped (.list ds) = true then some (.bool (if neg then !ds.any fun z => PyData.eqv z a else ds.any fun z => PyData.eqv z a)) else none
  | .tuple ds => if flatD a = true ∧ ds.all flatD = true then some (.bool (if neg then !ds.any fun z => PyData.eqv z a else ds.any fun z => PyData.eqv z a)) else none
  | _ => none
def dIx : D → D → Option D
  | .list ds, .int i => atI ds i
  | .tuple ds, .int i => atI ds i
  | .str z, .int i => if z.length ≤ sizeLine then (atI z.cps.toList i).map fun c => .str ⟨#[c]⟩ else none
  | _, _ => none
def dNeg : D → Option D
  | .int i => some (.int (-i))
  | _ => none
section
variable {K : Fr} {F H : Hp} {v : V} {d : D}
theorem Lk.int {i : Int} (h : Lk K F H v (.int i)) : v = .int i := by
  rcases h with h | ⟨_, _, _, _, e, _⟩
  · cases h; rfl
  · cases e
theorem Lk.bool {b : Bool} (h : Lk K F H v (.bool b)) : v = .bl b := by
  rcases h with h | ⟨_, _, _, _, e, _⟩
  · cases h; rfl
  · cases e
theorem Lk.str {x : Str} (h : Lk K F H v (.str x)) : v = .str x := by
  rcases h with h | ⟨_, _, _, _, e, _⟩
  · cases h; rfl
  · cases e
theorem Lk.none (h : Lk K F H v .none) : v = .non := by
  rcases h with h | ⟨_, _, _, _, e, _⟩
  · cases h; rfl
  · cases e
theorem Lk.tuple {ds : List D} (h : Lk K F H v (.tuple ds)) : ∃ a xs, v = .ref a ∧ SqT K F a xs ∧ DpAll K F xs ds := by
  rcases h with h | ⟨_, _, _, _, e, _⟩
  · cases h with
    | @tup a xs _ h1 h2 => exact ⟨a, xs, rfl, h1, h2⟩
  · cases e
theorem Lk.list {ds : List D} (s : Le F H) (h : Lk K F H v (.list ds)) : ∃ a xs, v = .ref a ∧ SqL K H a xs ∧ DpAll K F xs ds := by
  rcases h with h | ⟨a, es, xs, rfl, e, h1, h2⟩
  · cases h with
    | @lst a xs _ h1 h2 => exact ⟨a, xs, rfl, s.sql h1, h2⟩
  · cases e; exact ⟨a, xs, rfl, SqL.of h1, h2⟩
theorem lk_non_iff (h : Lk K F H v d) : decide (v = .non) = (match d with | .none => true | _ => false) := by
  rcases h with h | ⟨a, es, xs, rfl, rfl, _⟩
  · cases h <;> simp
  · simp
theorem lk_flat (h : Lk K F H v d) (f : flatD d = true) : flatV v = true := by
  rcases h with h | ⟨a, es, xs, rfl, rfl, _⟩
  · cases h <;> first | rfl | cases f
  · cases f
theorem dp_flat (h : Dp K F v d) (f : flatD d = true) : flatV v = true := lk_flat (H := F) (.inl h) f
theorem eqV_eqv {v' : V} {d' : D} (h : Dp K F v d) (f : flatD d = true) (h' : Dp K F v' d') (f' : flatD d' = true) : eqV v v' = PyData.eqv d d' := by
  cases h <;> first | cases f | skip
  all_goals (cases h' <;> first | cases f' | skip)
  all_goals first | rfl | (simp only [eqV, PyData.eqv]; done) | skip
theorem dpa_flat : ∀ {vs : List V} {ds : List D}, DpAll K F vs ds → ds.all flatD = true → vs.all flatV = true
  | _, _, .nil, _ => rfl
  | _, _, .cons h t, f => by
    simp only [List.all_cons, Bool.and_eq_true] at f ⊢
    exact ⟨dp_flat h f.1, dpa_flat t f.2⟩
theorem inV_any {x : V} {e : D} (hx : Dp K F x e) (fe : flatD e = true) : ∀ {vs : List V} {ds : List D}, DpAll K F vs ds → ds.all flatD = true → inV x vs = ds.any fun z => PyData.eqv z e
  | _, _, .nil, _ => rfl
  | _, _, .cons h t, f => by
    simp only [List.all_cons, Bool.and_eq_true] at f
    have := inV_any hx fe t f.2
    simp only [inV, List.any_cons] at this ⊢
    rw [this, eqV_eqv h f.1 hx fe]
end

section
variable {X : Cx}
theorem Inv.atL {pins : List (Addr × Obj)} {σ : L2.St} {H : Hp} {s : Shared} {a : Addr} {xs : List V} (I : Inv X pins σ H s) (h : SqL X.K H a xs) :
    xs.length ≤ sizeLine ∧ ∃ (its : List Value) (o : Obj) (n : Nat), Vals xs its ∧ xs.length = its.length ∧ s.heap.get? a = some o ∧ o.cls = .type "list" ∧ o.dict = none ∧ o.data = .seq its.toArray n := by
  obtain ⟨its, r, ⟨o, n, e, c, d, q⟩, hz⟩ := I.list h
  exact ⟨hz, its, o, n, r, r.length, e, c, d, q⟩
/-- a + b of two lists that are read -/
def rCatL (K : Fr) : R2 := fun x y H Q => ∃ l b xs zs, x = .ref l ∧ y = .ref b ∧ SqL K H l xs ∧ SqL K H b zs ∧ xs.length + zs.length ≤ sizeLine ∧ ∀ p, H p = none → Q (.ref p) (upd H p (.lst (xs ++ zs)))
theorem op_catL : OpR X (binaryOp .Add) (rCatL X.K) := by
  intro pins s σ H x y v u Q I rx ry h
  obtain ⟨l, b, xs, zs, rfl, rfl, hH, hB, hz, q⟩ := h
  cases rx
  cases ry
  obtain ⟨z, its, o, n, r, hl, e, c, d, dd⟩ := Inv.atL I hH
  obtain ⟨z2, its2, o2, n2, r2, hl2, e2, c2, d2, dd2⟩ := Inv.atL I hB
  obtain ⟨oc, od, odt, osl⟩ := o
  obtain ⟨oc2, od2, odt2, osl2⟩ := o2
  simp only at c d dd c2 d2 dd2
  subst c d dd c2 d2 dd2
  refine concat_meets ⟨_, e, rfl⟩ ⟨_, e2, rfl⟩ noFill_list_add seq_list_add PySem.F.slot_list_add PySem.F.entry_list_add (PySem.F.args_list_add_2 _ _)
    (list_addW l b its.toArray its2.toArray n n2 none none osl osl2 (by rw [List.size_toArray, List.size_toArray]; omega)) ⟨e, e2, ?_⟩
  have ea : its.toArray ++ its2.toArray = (its ++ its2).toArray := by simp
  rw [ea]
  exact ⟨.ref _, _, I.lnew (t' := s.toks) (r.append r2) (by rw [List.length_append]; omega), rfl, q _ I.fresh⟩

/-! ### the operators by data -/
theorem dpa_app {K : Fr} {F : Hp} : ∀ {vs ws : List V} {ds es : List D}, DpAll K F vs ds → DpAll K F ws es → DpAll K F (vs ++ ws) (ds ++ es)
  | _, _, _, _, .nil, h => h
  | _, _, _, _, .cons a t, h => .cons a (dpa_app t h)
theorem od_add : OpR X (binaryOp .Add) (rD2 X.K dAdd) := by
  intro pins s σ H x y v u Q I rx ry ⟨F, d, e, z, sb, lx, ly, hf, q⟩
  cases d <;> cases e <;> simp only [dAdd, reduceCtorEq, Option.ite_none_right_eq_some, Option.some.injEq] at hf
  · subst hf
    exact op_add_ib pins s σ H x y v u Q I rx ry ⟨_, _, lx.int, ly.bool, q F H _ (Grow.refl sb) (.int _)⟩
  · subst hf
    exact op_add pins s σ H x y v u Q I rx ry ⟨_, _, lx.int, ly.int, q F H _ (Grow.refl sb) (.int _)⟩
  · obtain ⟨hz, hf⟩ := hf
    subst hf
    exact op_add_str pins s σ H x y v u Q I rx ry ⟨_, _, lx.str, ly.str, hz, q F H _ (Grow.refl sb) (.str _)⟩
  · obtain ⟨hz, hf⟩ := hf
    subst hf
    obtain ⟨a, xs, rfl, h1, h2⟩ := lx.list sb
    obtain ⟨b, ys, rfl, h3, h4⟩ := ly.list sb
    refine op_catL pins s σ H _ _ v u Q I rx ry ⟨a, b, xs, ys, rfl, rfl, h1, h3, by rw [dpa_len h2, dpa_len h4]; exact hz, fun p np => ?_⟩
    have g := Grow.new sb (o := .lst (xs ++ ys)) np
    exact q _ _ _ g (.lst (SqL.of upd_same) (dpa_mono g.f (dpa_app h2 h4)))
  · obtain ⟨hz, hf⟩ := hf
    subst hf
    obtain ⟨a, xs, rfl, h1, h2⟩ := lx.tuple
    obtain ⟨b, ys, rfl, h3, h4⟩ := ly.tuple
    refine op_catA pins s σ H _ _ v u Q I rx ry ⟨a, b, xs, ys, rfl, rfl, sb.sqt h1, sb.sqt h3, by rw [dpa_len h2, dpa_len h4]; exact hz, fun e => ?_, fun e e2 => ?_, fun e e2 p np => ?_⟩
    · subst e
      cases h2
      exact q F H _ (Grow.refl sb) (.tup h3 h4)
    · subst e2
      cases h4
      rw [List.append_nil] at q
      exact q F H _ (Grow.refl sb) (.tup h1 h2)
    · have g := Grow.new sb (o := .tup (xs ++ ys)) np
      exact q _ _ _ g (.tup (SqT.of upd_same) (dpa_mono g.f (dpa_app h2 h4)))
theorem od_sub : OpR X (binaryOp .Sub) (rD2 X.K dSub) := by
  intro pins s σ H x y v u Q I rx ry ⟨F, d, e, z, sb, lx, ly, hf, q⟩
  cases d <;> cases e <;> simp only [dSub, reduceCtorEq, Option.some.injEq] at hf
  subst hf
  exact op_sub pins s σ H x y v u Q I rx ry ⟨_, _, lx.int, ly.int, q F H _ (Grow.refl sb) (.int _)⟩
theorem od_mul : OpR X (binaryOp .Mult) (rD2 X.K dMul) := by
  intro pins s σ H x y v u Q I rx ry ⟨F, d, e, z, sb, lx, ly, hf, q⟩
  cases d <;> cases e <;> simp only [dMul, reduceCtorEq, Option.ite_none_right_eq_some, Option.some.injEq] at hf
  obtain ⟨hz, hf⟩ := hf
  subst hf
  exact op_mul pins s σ H x y v u Q I rx ry ⟨_, _, lx.int, ly.int, hz, q F H _ (Grow.refl sb) (.int _)⟩
theorem od_fdiv : OpR X (binaryOp .FloorDiv) (rD2 X.K dFdiv) := by
  intro pins s σ H x y v u Q I rx ry ⟨F, d, e, z, sb, lx, ly, hf, q⟩
  cases d <;> cases e <;> simp only [dFdiv, reduceCtorEq, Option.ite_none_right_eq_some, Option.some.injEq] at hf
  obtain ⟨hz, hf⟩ := hf
  subst hf
  exact op_fdivN pins s σ H x y v u Q I rx ry ⟨_, _, lx.int, ly.int, hz, q F H _ (Grow.refl sb) (.int _)⟩
theorem od_mod : OpR X (binaryOp .Mod) (rD2 X.K dMod) := by
  intro pins s σ H x y v u Q I rx ry ⟨F, d, e, z, sb, lx, ly, hf, q⟩
  cases d <;> cases e <;> simp only [dMod, reduceCtorEq, Option.ite_none_right_eq_some, Option.some.injEq] at hf
  obtain ⟨hz, hf⟩ := hf
  subst hf
  exact op_modN pins s σ H x y v u Q I rx ry ⟨_, _, lx.int, ly.int, hz, q F H _ (Grow.refl sb) (.int _)⟩
theorem od_pow : OpR X (binaryOp .Pow) (rD2 X.K dPow) := by
  intro pins s σ H x y v u Q I rx ry ⟨F, d, e, z, sb, lx, ly, hf, q⟩
  cases d <;> cases e <;> simp only [dPow, reduceCtorEq, Option.ite_none_right_eq_some, Option.some.injEq] at hf
  obtain ⟨hz, hf⟩ := hf
  subst hf
  exact op_pow pins s σ H x y v u Q I rx ry ⟨_, _, lx.int, ly.int, hz, q F H _ (Grow.refl sb) (.int _)⟩
theorem od_cmp {op : CmpOp} {p : Int → Int → Bool} (h : OpR X (compareOp op) (rI0 fun i j => .bl (p i j))) : OpR X (compareOp op) (rD2 X.K (dCmp p)) := by
  intro pins s σ H x y v u Q I rx ry ⟨F, d, e, z, sb, lx, ly, hf, q⟩
  cases d <;> cases e <;> simp only [dCmp, reduceCtorEq, Option.some.injEq] at hf
  subst hf
  exact h pins s σ H x y v u Q I rx ry ⟨_, _, lx.int, ly.int, q F H _ (Grow.refl sb) (.bl _)⟩
abbrev dLt := dCmp fun i j => decide (i < j)
abbrev dLe := dCmp fun i j => decide (i ≤ j)
abbrev dGt := dCmp fun i j => decide (j < i)
abbrev dGe := dCmp fun i j => decide (j ≤ i)
theorem od_lt : OpR X (compareOp .Lt) (rD2 X.K dLt) := od_cmp op_lt
theorem od_le : OpR X (compareOp .LtE) (rD2 X.K dLe) := od_cmp op_le
theorem od_gt : OpR X (compareOp .Gt) (rD2 X.K dGt) := od_cmp op_gt
theorem od_ge : OpR X (compareOp .GtE) (rD2 X.K dGe) := od_cmp op_ge
theorem od_eq (hu : X.A.units + 64 < cLine) : OpR X (compareOp .Eq) (rD2 X.K (dEq false)) := by
  intro pins s σ H x y v u Q I rx ry ⟨F, d, e, z, sb, lx, ly, hf, q⟩
  unfold dEq at hf
  split at hf
  · rename_i hs
    cases hf
    exact op_eqD hu pins s σ H x y v u Q I rx ry ⟨d, e, lx.dp sb, ly.dp sb, hs.1, hs.2, q F H _ (Grow.refl sb) (.bl _)⟩
  · cases hf
theorem od_ne (hu : X.A.units + 64 < cLine) : OpR X (compareOp .NotEq) (rD2 X.K (dEq true)) := by
  intro pins s σ H x y v u Q I rx ry ⟨F, d, e, z, sb, lx, ly, hf, q⟩
  unfold dEq at hf
  split at hf
  · rename_i hs
    cases hf
    exact op_neD hu pins s σ H x y v u Q I rx ry ⟨d, e, lx.dp sb, ly.dp sb, hs.1, hs.2, q F H _ (Grow.refl sb) (.bl _)⟩
  · cases hf
theorem od_is : OpR X (compareOp .Is) (rD2 X.K (dIsNone false)) := by
  intro pins s σ H x y v u Q I rx ry ⟨F, d, e, z, sb, lx, ly, hf, q⟩
  unfold dIsNone at hf
  split at hf
  · cases hf
    refine op_isN pins s σ H x y v u Q I rx ry ⟨ly.none, ?_⟩
    rw [lk_non_iff lx]
    refine q F H _ (Grow.refl sb) ?_
    cases d <;> exact .bl _
  · cases hf
theorem od_isnot : OpR X (compareOp .IsNot) (rD2 X.K (dIsNone true)) := by
  intro pins s σ H x y v u Q I rx ry ⟨F, d, e, z, sb, lx, ly, hf, q⟩
  unfold dIsNone at hf
  split at hf
  · cases hf
    refine op_notN pins s σ H x y v u Q I rx ry ⟨ly.none, ?_⟩
    rw [lk_non_iff lx]
    refine q F H _ (Grow.refl sb) ?_
    cases d <;> exact .bl _
  · cases hf
theorem od_in (hu : X.A.units + 65 < cLine) : OpR X (compareOp .In) (rD2 X.K (dIn false)) := by
  intro pins s σ H x y v u Q I rx ry ⟨F, d, e, z, sb, lx, ly, hf, q⟩
  unfold dIn at hf
  split at hf
  · rename_i ds
    split at hf
    · rename_i hs
      cases hf
      exact op_inD hu pins s σ H x y v u Q I rx ry ⟨d, ds, lx.dp sb, ly.dp sb, hs.1, hs.2, q F H _ (Grow.refl sb) (.bl _)⟩
    · cases hf
  · rename_i ds
    split at hf
    · rename_i hs
      cases hf
      obtain ⟨a, xs, rfl, h1, h2⟩ := ly.tuple
      refine op_in_seq pins s σ H x _ v u Q I rx ry ⟨a, xs, rfl, .inr (sb.sqt h1), lk_flat lx hs.1, dpa_flat h2 hs.2, ?_⟩
      rw [inV_any (lx.dp sb) hs.1 (dpa_mono sb h2) hs.2]
      exact q F H _ (Grow.refl sb) (.bl _)
    · cases hf
  · cases hf
theorem od_notin (hu : X.A.units + 65 < cLine) : OpR X (compareOp .NotIn) (rD2 X.K (dIn true)) := by
  intro pins s σ H x y v u Q I rx ry ⟨F, d, e, z, sb, lx, ly, hf, q⟩
  unfold dIn at hf
  split at hf
  · rename_i ds
    split at hf
    · rename_i hs
      cases hf
      exact op_notInD hu pins s σ H x y v u Q I rx ry ⟨d, ds, lx.dp sb, ly.dp sb, hs.1, hs.2, q F H _ (Grow.refl sb) (.bl _)⟩
    · cases hf
  · rename_i ds
    split at hf
    · rename_i hs
      cases hf
      obtain ⟨a, xs, rfl, h1, h2⟩ := ly.tuple
      refine op_notIn_seq pins s σ H x _ v u Q I rx ry ⟨a, xs, rfl, .inr (sb.sqt h1), lk_flat lx hs.1, dpa_flat h2 hs.2, ?_⟩
      rw [inV_any (lx.dp sb) hs.1 (dpa_mono sb h2) hs.2]
      exact q F H _ (Grow.refl sb) (.bl _)
    · cases hf
  · cases hf
theorem ud_neg : UnR X (unaryOp .USub) (rD1 X.K dNeg) := by
  intro pins s σ H x v Q I rx ⟨F, d, z, sb, lx, hf, q⟩
  cases d <;> simp only [dNeg, reduceCtorEq, Option.some.injEq] at hf
  subst hf
  exact un_neg pins s σ H x v Q I rx ⟨_, lx.int, q F H _ (Grow.refl sb) (.int _)⟩
theorem at_dp {K : Fr} {F : Hp} {xs : List V} {ds : List D} {i : Int} {z : D} (h : DpAll K F xs ds) (e : atI ds i = some z) : ∃ v, atI xs i = some v ∧ Dp K F v z := by
  unfold atI at e ⊢
  rw [dpa_len h]
  cases hi : ixN ds.length i with
  | none => rw [hi] at e; cases e
  | some j =>
    rw [hi] at e
    have e' : ds[j]? = some z := e
    have hj : j < xs.length := by rw [dpa_len h]; exact lt_of_get e'
    exact ⟨xs[j], by simp [hj], dpa_at h (List.getElem?_eq_getElem hj) e'⟩
theorem id_ix : IxR X (rD2 X.K dIx) := by
  intro value slice pins s σ H x y v u Q I rx ry ⟨F, d, e, z, sb, lx, ly, hf, q⟩ hs
  cases d <;> cases e <;> simp only [dIx, reduceCtorEq, Option.ite_none_right_eq_some] at hf
  · obtain ⟨hz, hf⟩ := hf
    simp only [Option.map_eq_some_iff] at hf
    obtain ⟨c, hc, rfl⟩ := hf
    exact ix_str value slice pins s σ H x y v u Q I rx ry ⟨_, _, c, lx.str, ly.int, hz, hc, q F H _ (Grow.refl sb) (.str _)⟩ hs
  · rename_i ds i
    rcases lx with lx | ⟨a, es, xs, rfl, e, h1, h2⟩
    · cases lx with
      | @lst a xs _ h1 h2 =>
        obtain ⟨w, w1, w2⟩ := at_dp h2 hf
        exact ix_list value slice pins s σ H _ y v u Q I rx ry ⟨a, xs, i, w, rfl, ly.int, sb.sql h1, w1, q F H _ (Grow.refl sb) w2⟩ hs
    · cases e
      obtain ⟨w, w1, w2⟩ := at_dp h2 hf
      exact ix_list value slice pins s σ H _ y v u Q I rx ry ⟨a, xs, i, w, rfl, ly.int, SqL.of h1, w1, q F H _ (Grow.refl sb) w2⟩ hs
  · rename_i ds i
    obtain ⟨a, xs, rfl, h1, h2⟩ := lx.tuple
    obtain ⟨w, w1, w2⟩ := at_dp h2 hf
    exact ix_tup value slice pins s σ H _ y v u Q I rx ry ⟨a, xs, i, w, rfl, ly.int, sb.sqt h1, w1, q F H _ (Grow.refl sb) w2⟩ hs
end
end Pu

namespace Pu
open PySem PySem.Spec PyProof.Rows L2

/-! ### built-ins called with operands -/
def runL : List Od → CA
  | [] => fun Γ => some ([], Γ)
  | o :: os => fun Γ => (o.run Γ).bind fun p => (runL os p.2).bind fun q => some (p.1 :: q.1, q.2)
def finL : List Od → List D → En → Option (List D)
  | [], _, _ => some []
  | o :: os, d :: ds, Γ => (o.fin d Γ).bind fun x => (finL os ds Γ).bind fun r => some (x :: r)
  | _ :: _, [], _ => none
inductive LkAll (K : Fr) (F H : Hp) : List V → List D → Prop
  | nil : LkAll K F H [] []
  | cons {v vs d ds} : Lk K F H v d → LkAll K F H vs ds → LkAll K F H (v :: vs) (d :: ds)
def tOs (K : Fr) (os : List Od) : TA := fun σ H Q => ∃ C F Γ ds Γ', Rel K C F H σ Γ ∧ runL os Γ = some (ds, Γ') ∧
  ∀ F' H' vs, Le F F' → Rel K C F' H' σ Γ' → (∀ F2 H2 Γ2 ds2, Le F' F2 → Rel K C F2 H2 σ Γ2 → finL os ds Γ2 = some ds2 → LkAll K F2 H2 vs ds2) → Q vs H'
abbrev Os (X : Cx) (es : List Expr) (os : List Od) : Prop := PA X es (tOs X.K os)
def rDC (K : Fr) (g : List D → Option D) : List V → Hp → VK → Prop := fun vs H Q => ∃ F ds z, Le F H ∧ LkAll K F H vs ds ∧ g ds = some z ∧ ∀ F' H' v, Grow F H F' H' → Dp K F' v z → Q v H'
/-- a new list -/
def rDN (K : Fr) (g : List D → Option (List D)) : List V → Hp → VK → Prop := fun vs H Q => ∃ F ds zs, Le F H ∧ LkAll K F H vs ds ∧ g ds = some zs ∧ ∀ p xs, H p = none → DpAll K F xs zs → Q (.ref p) (upd H p (.lst xs))
def cCb (g : List D → Option D) (os : List Od) : CE := fun Γ => (runL os Γ).bind fun p => (finL os p.1 p.2).bind fun ds => (g ds).bind fun z => some (z, p.2)
def cCbN (g : List D → Option (List D)) (os : List Od) : CN := fun Γ => (runL os Γ).bind fun p => (finL os p.1 p.2).bind fun ds => (g ds).bind fun z => some (.nw (.list z), p.2)
section
variable {X : Cx} {e : Expr} {es : List Expr} {o : Od} {os : List Od} {pos p : Pos} {x : Str}
theorem os_nil : Os X [] [] := PA.imp pa_nil fun σ H Q ⟨C, F, Γ, ds, Γ', R, hc, k⟩ => by
  cases hc
  exact k F H [] (Le.refl _) R fun F2 H2 Γ2 ds2 _ _ h => by cases h; exact .nil
theorem os_cons (h : O X e o) (hr : Os X es os) (hs : starEach (e :: es) X.env = (false, eval e X.env) :: starEach es X.env := by rfl) : Os X (e :: es) (o :: os) := PA.imp (pa_cons h hr hs) fun σ H Q ⟨C, F, Γ, ds, Γ', R, hc, k⟩ => by
  unfold runL at hc
  simp only [Option.bind_eq_some_iff, Option.some.injEq, Prod.mk.injEq] at hc
  obtain ⟨⟨d, Γ1⟩, h1, ⟨dr, Γ2⟩, h2, rfl, rfl⟩ := hc
  refine ⟨C, F, Γ, d, Γ1, R, h1, fun F1 H1 v l1 R1 q1 => ?_⟩
  refine ⟨C, F1, Γ1, dr, Γ2, R1, h2, fun F2 H2 vs l2 R2 q2 => ?_⟩
  refine k F2 H2 (v :: vs) (l1.trans l2) R2 fun F3 H3 Γ3 ds3 l3 R3 h3 => ?_
  unfold finL at h3
  simp only [Option.bind_eq_some_iff, Option.some.injEq] at h3
  obtain ⟨y, y1, r, r1, rfl⟩ := h3
  exact .cons (q1 F3 H3 Γ3 y (l2.trans l3) R3 y1) (q2 F3 H3 Γ3 r l3 R3 r1)
theorem cb_to {g : List D → Option D} {σ : L2.St} {H : Hp} {Q : VK} {K : Fr} (h : tE K (cCb g os) σ H Q) : tCB (rDC K g) (tOs K os) σ H Q := by
  obtain ⟨C, F, Γ, d, Γ', R, hc, k⟩ := h
  unfold cCb at hc
  simp only [Option.bind_eq_some_iff, Option.some.injEq, Prod.mk.injEq] at hc
  obtain ⟨⟨ds, Γ1⟩, h1, ds2, h2, z, h3, rfl, rfl⟩ := hc
  exact ⟨C, F, Γ, ds, Γ1, R, h1, fun F1 H1 vs l R1 q => ⟨F1, ds2, z, R1.sub, q F1 H1 Γ1 ds2 (Le.refl _) R1 h2, h3, fun F3 H3 w g q => k F3 H3 w (l.trans g.f) (R1.grow g) q⟩⟩
theorem cbN_to {g : List D → Option (List D)} {σ : L2.St} {H : Hp} {Q : VK} {K : Fr} (h : tN K (cCbN g os) σ H Q) : tCB (rDN K g) (tOs K os) σ H Q := by
  obtain ⟨C, F, Γ, d, Γ', R, hc, k⟩ := h
  unfold cCbN at hc
  simp only [Option.bind_eq_some_iff, Option.some.injEq, Prod.mk.injEq] at hc
  obtain ⟨⟨ds, Γ1⟩, h1, ds2, h2, z, h3, rfl, rfl⟩ := hc
  refine ⟨C, F, Γ, ds, Γ1, R, h1, fun F1 H1 vs l R1 q => ⟨F1, ds2, z, R1.sub, q F1 H1 Γ1 ds2 (Le.refl _) R1 h2, h3, fun p xs np q => ?_⟩⟩
  exact k F1 _ _ l (R1.grow (Grow.raw R1.sub np)) (got_new R1 np q)
theorem e_cb {g : List D → Option D} {id : String} (hc : CallR X (.builtin id) (rDC X.K g)) (hg : Gl X x) (hm : X.mg x = none) (hv : bootBuiltins x = some (.builtin id)) (ha : Os X (e :: es) os) (hn : x ≠ "__name__" := by decide) (hdb : (x == ("__debug__" : Str)) = false := by decide)
    (he : starEach (e :: es) X.env = (false, eval e X.env) :: starEach es X.env := by rfl) (hpl : (backTo pos (starEach es X.env)).any (·.1) = false := by rfl) : E X (.Call (.Name x p) (e :: es) [] pos) (cCb g os) :=
  PE.imp (pe_callB hc hg hm hv ha hn hdb he hpl) fun _ _ _ h => cb_to h
theorem e_cty {g : List D → Option D} {T : String} (hc : CallR X (.type T) (rDC X.K g)) (hg : Gl X x) (hm : X.mg x = none) (hv : bootBuiltins x = some (.type T)) (ha : Os X (e :: es) os) (hn : x ≠ "__name__" := by decide) (hdb : (x == ("__debug__" : Str)) = false := by decide)
    (he : starEach (e :: es) X.env = (false, eval e X.env) :: starEach es X.env := by rfl) (hpl : (backTo pos (starEach es X.env)).any (·.1) = false := by rfl) : E X (.Call (.Name x p) (e :: es) [] pos) (cCb g os) :=
  PE.imp (pe_callTy hc hg hm hv ha hn hdb he hpl) fun _ _ _ h => cb_to h
theorem n_cty {g : List D → Option (List D)} {T : String} (hc : CallR X (.type T) (rDN X.K g)) (hg : Gl X x) (hm : X.mg x = none) (hv : bootBuiltins x = some (.type T)) (ha : Os X (e :: es) os) (hn : x ≠ "__name__" := by decide) (hdb : (x == ("__debug__" : Str)) = false := by decide)
    (he : starEach (e :: es) X.env = (false, eval e X.env) :: starEach es X.env := by rfl) (hpl : (backTo pos (starEach es X.env)).any (·.1) = false := by rfl) : N X (.Call (.Name x p) (e :: es) [] pos) (cCbN g os) :=
  PE.imp (pe_callTy hc hg hm hv ha hn hdb he hpl) fun _ _ _ h => cbN_to h
/-- a built-in that the module has imported -/
theorem e_cfun {g : List D → Option D} {id : String} (hc : CallR X (.builtin id) (rDC X.K g)) (hg : Gl X x) (hm : X.mg x = some (.builtin id)) (ha : Os X (e :: es) os) (hdb : (x == ("__debug__" : Str)) = false := by decide)
    (he : starEach (e :: es) X.env = (false, eval e X.env) :: starEach es X.env := by rfl) (hpl : (backTo pos (starEach es X.env)).any (·.1) = false := by rfl) : E X (.Call (.Name x p) (e :: es) [] pos) (cCb g os) :=
  PE.imp (pe_callBfun hc hg hm ha hdb he hpl) fun _ _ _ h => cb_to h

/-! the built-ins by data -/
def fLen : List D → Option D
  | [.list ds] => some (.int ds.length)
  | [.tuple ds] => some (.int ds.length)
  | [.str z] => if z.length ≤ sizeLine then some (.int z.length) else none
  | _ => none
theorem LkAll.one {K : Fr} {F H : Hp} {vs : List V} {d : D} (h : LkAll K F H vs [d]) : ∃ v, vs = [v] ∧ Lk K F H v d := by
  cases h with
  | cons h t => cases t; exact ⟨_, rfl, h⟩
theorem LkAll.two {K : Fr} {F H : Hp} {vs : List V} {d e : D} (h : LkAll K F H vs [d, e]) : ∃ v w, vs = [v, w] ∧ Lk K F H v d ∧ Lk K F H w e := by
  cases h with
  | cons h t =>
    obtain ⟨w, rfl, q⟩ := t.one
    exact ⟨_, w, rfl, h, q⟩
theorem cd_len : CallR X (.builtin "len") (rDC X.K fLen) := by
  intro pins s σ H vs us Q I r ⟨F, ds, z, sb, l, hf, q⟩
  unfold fLen at hf
  split at hf
  · cases hf
    obtain ⟨v, rfl, l1⟩ := l.one
    obtain ⟨a, xs, rfl, h1, h2⟩ := l1.list sb
    refine call_len pins s σ H _ us Q I r ⟨_, xs.length, rfl, .inl ⟨xs, h1, rfl⟩, ?_⟩
    rw [dpa_len h2]
    exact q F H _ (Grow.refl sb) (.int _)
  · cases hf
    obtain ⟨v, rfl, l1⟩ := l.one
    obtain ⟨a, xs, rfl, h1, h2⟩ := l1.tuple
    refine call_len pins s σ H _ us Q I r ⟨_, xs.length, rfl, .inr ⟨xs, sb.sqt h1, rfl⟩, ?_⟩
    rw [dpa_len h2]
    exact q F H _ (Grow.refl sb) (.int _)
  · split at hf
    · rename_i hz
      cases hf
      obtain ⟨v, rfl, l1⟩ := l.one
      exact call_len pins s σ H _ us Q I r ⟨_, _, rfl, by rw [l1.str]; exact ⟨hz, rfl⟩, q F H _ (Grow.refl sb) (.int _)⟩
    · cases hf
  · cases hf
def bools : List D → Option (List Bool)
  | [] => some []
  | d :: ds => (toB d).bind fun b => (bools ds).bind fun r => some (b :: r)
theorem bools_dp {K : Fr} {F : Hp} : ∀ {xs : List V} {ds : List D} {bs : List Bool}, DpAll K F xs ds → bools ds = some bs → xs = bs.map V.bl
  | _, _, bs, .nil, h => by cases h; rfl
  | _, _, bs, .cons h t, e => by
    unfold bools at e
    simp only [Option.bind_eq_some_iff, Option.some.injEq] at e
    obtain ⟨b, e1, r, e2, rfl⟩ := e
    have e1' := toB_some e1
    subst e1'
    cases h
    rw [bools_dp t e2]
    rfl
def fAll : List D → Option D
  | [.list ds] => (bools ds).bind fun bs => some (.bool (bs.all id))
  | _ => none
def fAny : List D → Option D
  | [.list ds] => (bools ds).bind fun bs => some (.bool (bs.any id))
  | _ => none
theorem cd_all (hc : X.calm = true) : CallR X (.builtin "all") (rDC X.K fAll) := by
  intro pins s σ H vs us Q I r ⟨F, ds, z, sb, l, hf, q⟩
  unfold fAll at hf
  split at hf
  · simp only [Option.bind_eq_some_iff, Option.some.injEq] at hf
    obtain ⟨bs, h1, rfl⟩ := hf
    obtain ⟨v, rfl, l1⟩ := l.one
    obtain ⟨a, xs, rfl, h2, h3⟩ := l1.list sb
    have e := bools_dp h3 h1
    subst e
    exact cr_all hc pins s σ H _ us Q I r ⟨a, bs, rfl, h2, q F H _ (Grow.refl sb) (.bl _)⟩
  · cases hf
theorem cd_any (hc : X.calm = true) : CallR X (.builtin "any") (rDC X.K fAny) := by
  intro pins s σ H vs us Q I r ⟨F, ds, z, sb, l, hf, q⟩
  unfold fAny at hf
  split at hf
  · simp only [Option.bind_eq_some_iff, Option.some.injEq] at hf
    obtain ⟨bs, h1, rfl⟩ := hf
    obtain ⟨v, rfl, l1⟩ := l.one
    obtain ⟨a, xs, rfl, h2, h3⟩ := l1.list sb
    have e := bools_dp h3 h1
    subst e
    exact cr_any hc pins s σ H _ us Q I r ⟨a, bs, rfl, h2, q F H _ (Grow.refl sb) (.bl _)⟩
  · cases hf
def fTuple : List D → Option D
  | [.list ds] => some (.tuple ds)
  | [.tuple ds] => some (.tuple ds)
  | _ => none
theorem cd_tuple : CallR X (.type "tuple") (rDC X.K fTuple) := by
  intro pins s σ H vs us Q I r ⟨F, ds, z, sb, l, hf, q⟩
  unfold fTuple at hf
  split at hf
  · cases hf
    obtain ⟨v, rfl, l1⟩ := l.one
    rcases l1 with l1 | ⟨a, es, xs, rfl, e, h1, h2⟩
    · cases l1 with
      | @lst a xs _ h1 h2 =>
        refine call_tuple_of pins s σ H _ us Q I r ⟨a, xs, rfl, .inl ⟨sb.sql h1, fun p np => ?_⟩⟩
        have g := Grow.new sb (o := .tup xs) np
        exact q _ _ _ g (.tup (SqT.of upd_same) (dpa_mono g.f h2))
    · cases e
      refine call_tuple_of pins s σ H _ us Q I r ⟨a, xs, rfl, .inl ⟨SqL.of h1, fun p np => ?_⟩⟩
      have g := Grow.new sb (o := .tup xs) np
      exact q _ _ _ g (.tup (SqT.of upd_same) (dpa_mono g.f h2))
  · cases hf
    obtain ⟨v, rfl, l1⟩ := l.one
    obtain ⟨a, xs, rfl, h1, h2⟩ := l1.tuple
    exact call_tuple_of pins s σ H _ us Q I r ⟨a, xs, rfl, .inr ⟨sb.sqt h1, q F H _ (Grow.refl sb) (.tup h1 h2)⟩⟩
  · cases hf
def fList : List D → Option (List D)
  | [.list ds] => some ds
  | [.tuple ds] => some ds
  | _ => none
theorem cd_list : CallR X (.type "list") (rDN X.K fList) := by
  intro pins s σ H vs us Q I r ⟨F, ds, z, sb, l, hf, q⟩
  unfold fList at hf
  split at hf
  · cases hf
    obtain ⟨v, rfl, l1⟩ := l.one
    rcases l1 with l1 | ⟨a, es, xs, rfl, e, h1, h2⟩
    · cases l1 with
      | @lst a xs _ h1 h2 => exact call_list_of pins s σ H _ us Q I r ⟨a, xs, rfl, .inl (sb.sql h1), fun p np => q p xs np h2⟩
    · cases e
      exact call_list_of pins s σ H _ us Q I r ⟨a, xs, rfl, .inl (SqL.of h1), fun p np => q p xs np h2⟩
  · cases hf
    obtain ⟨v, rfl, l1⟩ := l.one
    obtain ⟨a, xs, rfl, h1, h2⟩ := l1.tuple
    exact call_list_of pins s σ H _ us Q I r ⟨a, xs, rfl, .inr (sb.sqt h1), fun p np => q p xs np h2⟩
  · cases hf
def fAbs : List D → Option D
  | [.int i] => some (.int (if i < 0 then -i else i))
  | _ => none
theorem cd_abs : CallR X (.builtin "abs") (rDC X.K fAbs) := by
  intro pins s σ H vs us Q I r ⟨F, ds, z, sb, l, hf, q⟩
  unfold fAbs at hf
  split at hf
  · cases hf
    obtain ⟨v, rfl, l1⟩ := l.one
    exact call_abs pins s σ H _ us Q I r ⟨_, by rw [l1.int], q F H _ (Grow.refl sb) (.int _)⟩
  · cases hf
def fInt : List D → Option D
  | [.int i] => some (.int i)
  | [.bool b] => some (.int (if b then 1 else 0))
  | _ => none
theorem cd_int : CallR X (.type "int") (rDC X.K fInt) := by
  intro pins s σ H vs us Q I r ⟨F, ds, z, sb, l, hf, q⟩
  unfold fInt at hf
  split at hf
  · cases hf
    obtain ⟨v, rfl, l1⟩ := l.one
    exact call_int1 pins s σ H _ us Q I r (.inl ⟨_, by rw [l1.int], q F H _ (Grow.refl sb) (.int _)⟩)
  · cases hf
    obtain ⟨v, rfl, l1⟩ := l.one
    exact call_int1 pins s σ H _ us Q I r (.inr ⟨_, by rw [l1.bool], q F H _ (Grow.refl sb) (.int _)⟩)
  · cases hf
def fGcd : List D → Option D
  | [.int i, .int j] => some (.int ((Nat.gcd i.natAbs j.natAbs : Nat) : Int))
  | _ => none
theorem cd_gcd : CallR X (.builtin "math.gcd") (rDC X.K fGcd) := by
  intro pins s σ H vs us Q I r ⟨F, ds, z, sb, l, hf, q⟩
  unfold fGcd at hf
  split at hf
  · cases hf
    obtain ⟨v, w, rfl, l1, l2⟩ := l.two
    exact cr_gcd pins s σ H _ us Q I r ⟨_, _, by rw [l1.int, l2.int], q F H _ (Grow.refl sb) (.int _)⟩
  · cases hf
def fMax2 : List D → Option D
  | [.int i, .int j] => some (.int (if j > i then j else i))
  | _ => none
def fMin2 : List D → Option D
  | [.int i, .int j] => some (.int (if j < i then j else i))
  | _ => none
theorem cd_max2 (hc : X.calm = true) : CallR X (.builtin "max") (rDC X.K fMax2) := by
  intro pins s σ H vs us Q I r ⟨F, ds, z, sb, l, hf, q⟩
  unfold fMax2 at hf
  split at hf
  · cases hf
    obtain ⟨v, w, rfl, l1, l2⟩ := l.two
    exact call_max2 hc pins s σ H _ us Q I r ⟨_, _, by rw [l1.int, l2.int], q F H _ (Grow.refl sb) (.int _)⟩
  · cases hf
theorem cd_min2 (hc : X.calm = true) : CallR X (.builtin "min") (rDC X.K fMin2) := by
  intro pins s σ H vs us Q I r ⟨F, ds, z, sb, l, hf, q⟩
  unfold fMin2 at hf
  split at hf
  · cases hf
    obtain ⟨v, w, rfl, l1, l2⟩ := l.two
    exact call_min2 hc pins s σ H _ us Q I r ⟨_, _, by rw [l1.int, l2.int], q F H _ (Grow.refl sb) (.int _)⟩
  · cases hf
end

/-! ### isinstance -/
def dTy : D → String
  | .none => "NoneType"
  | .bool _ => "bool"
  | .int _ => "int"
  | .str _ => "str"
  | .list _ => "list"
  | .tuple _ => "tuple"
  | .dict _ => "dict"
def kitBs (a : String) : List String → Option Bool
  | [] => some false
  | b :: bs => match kitB a b with
    | some true => some true
    | some false => kitBs a bs
    | none => none
def isD (d : D) (ns : List String) : Option D := (kitBs (dTy d) ns).bind fun b => some (.bool b)
theorem lk_ty {K : Fr} {F H : Hp} {v : V} {d : D} (s : Le F H) (h : Lk K F H v d) : TyX K H v (.type (dTy d)) := by
  rcases h with h | ⟨a, es, xs, rfl, rfl, h1, h2⟩
  · cases h with
    | non => exact .base .non
    | bl b => exact .base (.bl b)
    | int i => exact .base (.int i)
    | str x => exact .base (.str x)
    | lst h1 h2 =>
      rcases h1 with (h1 | ⟨o, h1⟩) | ⟨o, _, _, h1, c, _⟩
      · exact .base (.lst (s _ _ h1))
      · exact .base (.frz (s _ _ h1))
      · exact .kList h1 c
    | tup h1 h2 =>
      rcases h1 with (h1 | ⟨o, h1⟩) | ⟨o, _, _, h1, c, _⟩
      · exact .base (.tup (s _ _ h1))
      · exact .fTuple (s _ _ h1)
      · exact .kTuple h1 c
  · exact .base (.lst h1)
section
variable {X : Cx} {a b : Expr} {o : Od} {pos p : Pos}
def cIsi (o : Od) (n : String) : CE := cUn (fun d => isD d [n]) o
theorem e_isi {n : String} (hg : Gl X "isinstance") (hm : X.mg "isinstance" = none) (ha : O X a o) (hb : PE X b (tC (.ty n))) (hv : bootBuiltins "isinstance" = some (.builtin "isinstance") := by decide +kernel)
    (he : starEach [a, b] X.env = [(false, eval a X.env), (false, eval b X.env)] := by rfl) (he2 : starEach [b] X.env = [(false, eval b X.env)] := by rfl) (hpl : (backTo pos (starEach [b] X.env)).any (·.1) = false := by rfl) :
    E X (.Call (.Name "isinstance" p) [a, b] [] pos) (cIsi o n) :=
  PE.imp (pe_callB call_isi hg hm hv (pa_cons ha (pa_cons hb pa_nil he2) (he.trans (by rw [he2]))) (by decide) (by decide) (he.trans (by rw [he2])) hpl) fun σ H Q ⟨C, F, Γ, d, Γ', R, hc, k⟩ => by
    unfold cIsi cUn at hc
    simp only [Option.bind_eq_some_iff, Option.some.injEq, Prod.mk.injEq] at hc
    obtain ⟨⟨da, Γ1⟩, h1, x, h2, z, h3, rfl, rfl⟩ := hc
    refine ⟨C, F, Γ, da, Γ1, R, h1, fun F1 H1 v l1 R1 q => ?_⟩
    have lk := q F1 H1 Γ1 x (Le.refl _) R1 h2
    unfold isD at h3
    simp only [Option.bind_eq_some_iff, Option.some.injEq] at h3
    obtain ⟨b, h4, rfl⟩ := h3
    refine ⟨v, .ty n, _, _, b, rfl, .ty n, lk_ty R1.sub lk, kit_ty ?_, k F1 H1 _ l1 R1 (.bl b)⟩
    unfold kitBs at h4
    split at h4
    · rename_i e; cases h4; exact e
    · rename_i e; unfold kitBs at h4; cases h4; exact e
    · cases h4
def cIsiT (o : Od) (ns : List String) : CE := cUn (fun d => isD d ns) o
theorem kitAny_of {K : Fr} {t : String} : ∀ {ns : List String} {b : Bool}, kitBs t ns = some b → PySem.W.kitAny K (.type t) (ns.map Value.type) = some b
  | [], b, h => by unfold kitBs at h; cases h; rfl
  | n :: ns, b, h => by
    unfold kitBs at h
    split at h
    · rename_i e; cases h; exact kitAny_cons (kit_ty e) (fun z => by cases z) (fun _ => rfl)
    · rename_i e; exact kitAny_cons (kit_ty e) (fun _ => kitAny_of h) (fun z => by cases z)
    · cases h
theorem tys_paired : ∀ ns : List String, Paired ClsV (ns.map V.ty) (ns.map Value.type)
  | [] => .nil
  | n :: ns => .cons (.ty n) (tys_paired ns)
/-- isinstance(x, (T1, T2)): the tuple is laid on the way -/
theorem e_isiT {ns : List String} {es : List Expr} {k : Nat} {p2 : Pos} {t : TA} (hg : Gl X "isinstance") (hm : X.mg "isinstance" = none) (ha : O X a o) (hb : PA X es t) (ht : ∀ σ H Q, Q (ns.map V.ty) H → t σ H Q) (hns : ns.length ≤ 100) (hv : bootBuiltins "isinstance" = some (.builtin "isinstance") := by decide +kernel)
    (he : starEach [a, .Tuple es k p2] X.env = [(false, eval a X.env), (false, eval (.Tuple es k p2) X.env)] := by rfl) (he2 : starEach [.Tuple es k p2] X.env = [(false, eval (.Tuple es k p2) X.env)] := by rfl) (hpl : (backTo pos (starEach [.Tuple es k p2] X.env)).any (·.1) = false := by rfl) :
    E X (.Call (.Name "isinstance" p) [a, .Tuple es k p2] [] pos) (cIsiT o ns) :=
  PE.imp (pe_callB call_isiT hg hm hv (pa_cons ha (pa_cons (pe_tup hb) pa_nil he2) (he.trans (by rw [he2]))) (by decide) (by decide) (he.trans (by rw [he2])) hpl) fun σ H Q ⟨C, F, Γ, d, Γ', R, hc, k⟩ => by
    unfold cIsiT cUn at hc
    simp only [Option.bind_eq_some_iff, Option.some.injEq, Prod.mk.injEq] at hc
    obtain ⟨⟨da, Γ1⟩, h1, x, h2, z, h3, rfl, rfl⟩ := hc
    refine ⟨C, F, Γ, da, Γ1, R, h1, fun F1 H1 v l1 R1 q => ?_⟩
    have lk := q F1 H1 Γ1 x (Le.refl _) R1 h2
    unfold isD at h3
    simp only [Option.bind_eq_some_iff, Option.some.injEq] at h3
    obtain ⟨b, h4, rfl⟩ := h3
    refine ht _ _ _ ⟨by rw [List.length_map]; exact Nat.le_trans hns (by decide), fun p np => ?_⟩
    have g := Grow.new R1.sub (o := .tup (ns.map V.ty)) np
    have lk2 : Lk X.K (upd F1 p (.tup (ns.map V.ty))) (upd H1 p (.tup (ns.map V.ty))) v x := by
      rcases lk with lk | ⟨a, es, xs, e1, e2, e3, e4⟩
      · exact .inl (dp_mono g.f lk)
      · exact .inr ⟨a, es, xs, e1, e2, g.h _ _ e3, dpa_mono g.f e4⟩
    exact ⟨v, p, ns.map V.ty, _, ns.map Value.type, b, rfl, upd_same, tys_paired ns, lk_ty g.s lk2, kitAny_of h4, k _ _ _ (l1.trans g.f) (R1.grow g) (.bl b)⟩
theorem pe_ty {x : Str} {n : String} {pos : Pos} (hg : Gl X x) (hm : X.mg x = none) (hv : bootBuiltins x = some (.type n)) (hn : x ≠ "__name__" := by decide) (hd : (x == ("__debug__" : Str)) = false := by decide) : PE X (.Name x pos) (tC (.ty n)) := pe_bltn hg hm hv rfl hn hd
end

/-! ### displays of lists -/
section
variable {X : Cx} {es : List Expr} {r : CA} {pos : Pos}
def cLst (r : CA) : CN := fun Γ => (r Γ).bind fun p => if p.1.length ≤ sizeLine then some (.nw (.list p.1), p.2) else none
theorem n_lst (h : Ar X es r) : N X (.List es pos) (cLst r) := PE.imp (pe_lst h) fun _ H _ ⟨C, F, Γ, ds, Γ', R, hc, k⟩ => by
  unfold cLst at hc
  cases h1 : r Γ with
  | none => simp [h1] at hc
  | some p =>
    obtain ⟨d, Γ1⟩ := p
    simp [h1] at hc
    obtain ⟨hz, rfl, rfl⟩ := hc
    refine ⟨C, F, Γ, d, Γ1, R, h1, fun F1 H1 vs l1 R1 q1 => ⟨by rw [dpa_len q1]; exact hz, fun p np => ?_⟩⟩
    exact k F1 _ _ l1 (R1.grow (Grow.raw R1.sub np)) (got_new R1 np q1)
/-- a + b of lists, new -/
def cCat (a b : Od) : CN := fun Γ => (a.run Γ).bind fun p => (b.run p.2).bind fun q => (a.fin p.1 q.2).bind fun x => (b.fin q.1 q.2).bind fun y => match x, y with
  | .list xs, .list ys => if xs.length + ys.length ≤ sizeLine then some (.nw (.list (xs ++ ys)), q.2) else none
  | _, _ => none
theorem n_cat {a b : Expr} {oa ob : Od} (ha : O X a oa) (hb : O X b ob) : N X (.BinOp a .Add b pos) (cCat oa ob) := PE.imp (pe_op op_catL ha hb) fun σ H Q ⟨C, F, Γ, d, Γ', R, hc, k⟩ => by
  unfold cCat at hc
  simp only [Option.bind_eq_some_iff] at hc
  obtain ⟨⟨da, Γ1⟩, h1, ⟨db, Γ2⟩, h2, x, hx, y, hy, hc⟩ := hc
  split at hc
  · rename_i xs ys
    split at hc
    · rename_i hz
      cases hc
      refine ⟨C, F, Γ, da, Γ1, R, h1, fun F1 H1 v l1 R1 lk1 => ?_⟩
      refine ⟨C, F1, Γ1, db, Γ2, R1, h2, fun F2 H2 u l2 R2 lk2 => ?_⟩
      have q1 := lk1 F2 H2 Γ2 _ l2 R2 hx
      have q2 := lk2 F2 H2 Γ2 _ (Le.refl _) R2 hy
      have inF : ∀ {v : V} {es : List D}, Lk X.K F2 H2 v (.list es) → ∃ a xs, v = .ref a ∧ SqL X.K H2 a xs ∧ DpAll X.K F2 xs es := fun lk => by
        rcases lk with lk | ⟨a, es', xs, rfl, e, h1, h2⟩
        · cases lk with
          | @lst a xs _ h1 h2 => exact ⟨a, xs, rfl, R2.sub.sql h1, h2⟩
        · cases e; exact ⟨a, xs, rfl, SqL.of h1, h2⟩
      obtain ⟨a, vs, rfl, s1, d1⟩ := inF q1
      obtain ⟨b, ws, rfl, s2, d2⟩ := inF q2
      refine ⟨a, b, vs, ws, rfl, rfl, s1, s2, by rw [dpa_len d1, dpa_len d2]; exact hz, fun p np => ?_⟩
      exact k F2 _ _ (l1.trans l2) (R2.grow (Grow.raw R2.sub np)) (got_new R2 np (dpa_app d1 d2))
    · cases hc
  · cases hc
end
end Pu

namespace Pu
open PySem PySem.Spec PyProof.Rows L2

/-! ### own lists that change -/
def ownAt (Γ : En) (i : Nat) : Option (List D) := match Γ[i]? with
  | some (.ow (.list ds)) => some ds
  | some (.ln (.list ds)) => some ds
  | _ => none
section
variable {K : Fr} {C : Ct} {F H : Hp} {σ : L2.St} {Γ : En}
theorem Rel.own (R : Rel K C F H σ Γ) {i : Nat} {ds : List D} (h : ownAt Γ i = some ds) : ∃ a s xs, Γ[i]? = some s ∧ s.own = true ∧ σ[i]? = some (some (.ref a)) ∧ H a = some (.lst xs) ∧ DpAll K F xs ds ∧ F a = none := by
  unfold ownAt at h
  split at h
  · rename_i es hs
    cases h
    obtain ⟨a, e1, _, m, es, xs, e2, e3, e4⟩ := R.ok i _ hs
    cases e2
    exact ⟨a, _, xs, hs, rfl, e1, e3, e4, m⟩
  · rename_i es hs
    cases h
    obtain ⟨a, e1, _, m, es, xs, e2, e3, e4⟩ := R.ok i _ hs
    cases e2
    exact ⟨a, _, xs, hs, rfl, e1, e3, e4, m⟩
  · cases h
/-- own content changed -/
theorem Rel.wrote (R : Rel K C F H σ Γ) {i : Nat} {a : Addr} {s : Sl} {ds : List D} {xs : List V} (hs : Γ[i]? = some s) (ho : s.own = true) (hσ : σ[i]? = some (some (.ref a))) (q : DpAll K F xs ds) : Rel K C F (upd H a (.lst xs)) σ (backS Γ i (.list ds)) := by
  have w := R.write hs ho hσ q
  unfold backS
  rw [hs]
  cases s <;> first | exact w | cases ho
end
section
variable {X : Cx} {o e : Expr} {c : CE} {i : Nat} {pos apos cpos : Pos}
/-- xs.append(e), as a value -/
def cApp (i : Nat) (c : CE) : CE := fun Γ => (ownAt Γ i).bind fun _ => (c Γ).bind fun p => (ownAt p.2 i).bind fun ds => if ds.length < sizeLine then some (.none, backS p.2 i (.list (ds ++ [p.1]))) else none
theorem e_app (ho : PE X o (tVar i)) (he : E X e c) (hbase : attributeBase o "append" X.env (eval o X.env) = eval o X.env := by rfl)
    (hfew : ((backTo cpos (starEach [e] X.env)).all (fun x => !x.1) && (backToKw cpos (keywordEach [] X.env)).all (fun x => x.1.isSome)
      && decide ([e].length + ([] : List Keyword).length + (if ([] : List Keyword).isEmpty then 0 else 1) < 30)) = true := by rfl)
    (hline : (apos.endLine == cpos.line) = true := by rfl) (hs : starEach [e] X.env = [(false, eval e X.env)] := by rfl) (hplain : (backTo cpos (starEach [] X.env)).any (·.1) = false := by rfl) :
    E X (.Call (.Attribute o "append" apos) [e] [] cpos) (cApp i c) :=
  PE.imp (pe_bm PySem.F.plainAttrs_list PySem.F.slot_list_append PySem.F.type_list_append mt_append ho (pa_cons he pa_nil hs) hbase hfew hline hs hplain) fun σ H Q ⟨C, F, Γ, d, Γ', R, hc, k⟩ => by
    unfold cApp at hc
    simp only [Option.bind_eq_some_iff] at hc
    obtain ⟨ds0, h0, ⟨x, Γ1⟩, h1, ds, h2, hc⟩ := hc
    split at hc
    · rename_i hz
      cases hc
      obtain ⟨a, s, xs, e1, e2, e3, e4, e5, e6⟩ := R.own h0
      refine ⟨.ref a, e3, .inl ⟨rfl, xs, SqL.of e4⟩, C, F, Γ, x, Γ1, R, h1, fun F1 H1 v l1 R1 q => ?_⟩
      obtain ⟨a', s', xs', f1, f2, f3, f4, f5, f6⟩ := R1.own h2
      rw [e3] at f3; cases f3
      exact ⟨a, xs', v, rfl, rfl, f4, by rw [dpa_len f5]; exact hz, k F1 _ _ l1 (R1.wrote f1 f2 e3 (dpa_snoc f5 q)) .non⟩
    · cases hc
theorem dpa_set {K : Fr} {F : Hp} {v : V} {d : D} (h : Dp K F v d) : ∀ {xs : List V} {ds : List D} (j : Nat), DpAll K F xs ds → DpAll K F (xs.set j v) (ds.set j d)
  | _, _, _, .nil => .nil
  | _, _, 0, .cons _ t => .cons h t
  | _, _, j + 1, .cons a t => .cons a (dpa_set h j t)
/-- xs[e] = c -/
def cPutI (i : Nat) (ix c : CE) : CS := fun Γ => (c Γ).bind fun p => (ownAt p.2 i).bind fun _ => (ix p.2).bind fun q => match q.1 with
  | .int k => (ownAt q.2 i).bind fun ds => (ixN ds.length k).bind fun j => some (.nx, backS q.2 i (.list (ds.set j p.1)))
  | _ => none
theorem s_putI {ix : Expr} {ci : CE} {tpos : Pos} (ho : PE X o (tVar i)) (hi : E X ix ci) (he : E X e c)
    (hsub : ∀ {to ti : TE} {t : TSet}, PE X o to → PE X ix ti → PSet X t → PG X (.Subscript o ix tpos) (gSub to ti t))
    (hs : swapsWithSole [.Subscript o ix tpos] e pos.line X.env = pure false := by rfl) (hw : swappedStores [.Subscript o ix tpos] e X.env = pure none := by rfl) (h1 : (assignEach [.Subscript o ix tpos] X.env).map (·.2) = [assign (.Subscript o ix tpos) X.env] := by rfl) :
    S X (.Assign [.Subscript o ix tpos] e pos) (cPutI i ci c) :=
  PS.imp (ps_asg he (hsub ho hi set_list) hs hw h1) fun De σ H ⟨C, F, Γ, fl, Γ', R, hc, k⟩ => by
    unfold cPutI at hc
    simp only [Option.bind_eq_some_iff] at hc
    obtain ⟨⟨d, Γ1⟩, q1, ds0, q2, ⟨w, Γ2⟩, q3, hc⟩ := hc
    split at hc
    · rename_i kk ew
      simp only at ew
      subst ew
      simp only [Option.bind_eq_some_iff, Option.some.injEq, Prod.mk.injEq] at hc
      obtain ⟨ds, q4, j, q5, rfl, rfl⟩ := hc
      refine ⟨C, F, Γ, d, Γ1, R, q1, fun F1 H1 v l1 R1 dv => ?_⟩
      obtain ⟨a, s, xs, e1, e2, e3, e4, e5, e6⟩ := R1.own q2
      refine ⟨.ref a, e3, C, F1, Γ1, _, Γ2, R1, q3, fun F2 H2 u l2 R2 du => ?_⟩
      cases du
      obtain ⟨a', s', xs', f1, f2, f3, f4, f5, f6⟩ := R2.own q4
      rw [e3] at f3; cases f3
      exact ⟨a, xs', kk, j, rfl, rfl, f4, by rw [dpa_len f5]; exact q5, k F2 _ σ (l1.trans l2) (R2.wrote f1 f2 e3 (dpa_set (dp_mono l2 dv) j f5))⟩
    · cases hc
/-- o[i] by values, a list -/
def rGetL (K : Fr) : V → V → Hp → VK → Prop := fun x y H Q => ∃ p xs i v, x = .ref p ∧ y = .int i ∧ SqL K H p xs ∧ atI xs i = some v ∧ Q v H
theorem get_listP : PGet X (rGetL X.K) := by
  intro pins s σ H x y v u Q I rx ry h
  obtain ⟨p, xs, i, z, rfl, rfl, hq, he, q⟩ := h
  cases rx
  obtain ⟨t, rfl⟩ := ry
  obtain ⟨its, r, pl, hz⟩ := I.list hq
  obtain ⟨j, h1, h2, h3, h4, h5⟩ := atI_get he
  obtain ⟨w, ew, rw'⟩ := r.get h2
  have hl := r.length
  have hn := line63
  have fin : EP X pins σ Q w s := ⟨z, H, I, rw', q⟩
  by_cases h0 : 0 ≤ i
  · have hj : i.toNat = j := by
      rw [seqIndex_of h0 h5] at h1
      exact Option.some.inj h1
    exact wpAny_getItem_list (x := w) (Q := fun r s' => EP X pins σ Q r s') pl.isList h0 (by omega) (by rw [hj]; simpa using ew) fin
  · have hj : (i + (its.toArray.size : Int)).toNat = j := by
      rw [seqIndex_neg (by omega) h4] at h1
      rw [List.size_toArray, ← hl]
      exact Option.some.inj h1
    exact wpAny_getItem_list_neg (x := w) (Q := fun r s' => EP X pins σ Q r s') pl.isList (by omega) (by rw [List.size_toArray] <;> omega) (by omega) (by rw [hj]; simpa using ew) fin
/-- a op= b by data -/
def rDip (K : Fr) (f : D → D → Option D) : TIp := rD2 K f
def dAddI : D → D → Option D
  | .int i, .int j => some (.int (i + j))
  | _, _ => none
theorem ipd_add : PIp X .Add (rD2 X.K dAddI) := by
  intro pins s σ H x y v u Q I rx ry ⟨F, d, e, z, sb, lx, ly, hf, q⟩
  cases d <;> cases e <;> simp only [dAddI, reduceCtorEq, Option.some.injEq] at hf
  subst hf
  exact ip_add pins s σ H x y v u Q I rx ry ⟨_, _, lx.int, ly.int, q F H _ (Grow.refl sb) (.int _)⟩
theorem ipd_sub : PIp X .Sub (rD2 X.K dSub) := by
  intro pins s σ H x y v u Q I rx ry ⟨F, d, e, z, sb, lx, ly, hf, q⟩
  cases d <;> cases e <;> simp only [dSub, reduceCtorEq, Option.some.injEq] at hf
  subst hf
  exact ip_sub pins s σ H x y v u Q I rx ry ⟨_, _, lx.int, ly.int, q F H _ (Grow.refl sb) (.int _)⟩
/-- x op= e, a local (its value frozen) -/
def cAug (i : Nat) (f : D → D → Option D) (c : CE) : CS := fun Γ => (datAt Γ i).bind fun _ => (c Γ).bind fun q => (datAt q.2 i).bind fun d => (f d q.1).bind fun z => (put q.2 i (.fr z)).bind fun Γ' => some (.nx, Γ')
theorem s_aug {x : Str} {op : Operator} {f : D → D → Option D} {pos' : Pos} (hN : X.N.Nodup) (hi : X.N[i]? = some x) (hx : Loc X.env.scope x) (he : E X e c) (ho : PIp X op (rD2 X.K f))
    (hf : X.fn x = true ∨ X.env.scope.names.lookup x = some .local := by first | exact .inl rfl | exact .inr rfl | assumption) : S X (.AugAssign (.Name x pos') op e pos) (cAug i f c) :=
  PS.imp (ps_aug hN hi hx he ho hf) fun De σ H ⟨C, F, Γ, fl, Γ', R, hc, k⟩ => by
    unfold cAug at hc
    simp only [Option.bind_eq_some_iff, Option.some.injEq, Prod.mk.injEq] at hc
    obtain ⟨d0, h0, ⟨y, Γ1⟩, h1, d, h2, z, h3, Γ2, h4, rfl, rfl⟩ := hc
    obtain ⟨v, e1, e2⟩ := R.look h0
    refine ⟨v, e1, C, F, Γ, y, Γ1, R, h1, fun F1 H1 w l1 R1 q => ?_⟩
    obtain ⟨v', f1, f2⟩ := R1.look h2
    rw [e1] at f1; cases f1
    exact ⟨F1, d, y, z, R1.sub, f2, .inl q, h3, fun F2 H2 u g du => k F2 H2 _ (l1.trans g.f) (asg_name (R1.grow g) du h4)⟩
/-- xs[ix] op= e -/
def cAugI (i : Nat) (ix : CE) (f : D → D → Option D) (c : CE) : CS := fun Γ => (ownAt Γ i).bind fun _ => (ix Γ).bind fun p => match p.1 with
  | .int k => (ownAt p.2 i).bind fun ds => (atI ds k).bind fun d => (c p.2).bind fun q => (f d q.1).bind fun z => (ownAt q.2 i).bind fun es => (ixN es.length k).bind fun j => some (.nx, backS q.2 i (.list (es.set j z)))
  | _ => none
theorem s_augI {ix : Expr} {ci : CE} {op : Operator} {f : D → D → Option D} {tpos : Pos} (ho : PE X o (tVar i)) (hi : E X ix ci) (he : E X e c) (hop : PIp X op (rD2 X.K f))
    (ha : ∀ ov iv new, augStore ix ov iv new = (do holding [new, ov, iv] (setItem ov iv new); release [new, ov, iv] []; pure .next) := by intros; rfl) : S X (.AugAssign (.Subscript o ix tpos) op e pos) (cAugI i ci f c) :=
  PS.imp (ps_augS ho hi get_listP he hop set_list ha) fun De σ H ⟨C, F, Γ, fl, Γ', R, hc, k⟩ => by
    unfold cAugI at hc
    simp only [Option.bind_eq_some_iff] at hc
    obtain ⟨ds0, h0, ⟨w, Γ1⟩, h1, hc⟩ := hc
    split at hc
    · rename_i kk ew
      simp only at ew
      subst ew
      simp only [Option.bind_eq_some_iff, Option.some.injEq, Prod.mk.injEq] at hc
      obtain ⟨ds, h2, d, h3, ⟨y, Γ2⟩, h4, z, h5, es, h6, j, h7, rfl, rfl⟩ := hc
      obtain ⟨a, s, xs, e1, e2, e3, e4, e5, e6⟩ := R.own h0
      refine ⟨.ref a, e3, C, F, Γ, _, Γ1, R, h1, fun F1 H1 u l1 R1 du => ?_⟩
      cases du
      obtain ⟨a', s', xs', f1, f2, f3, f4, f5, f6⟩ := R1.own h2
      rw [e3] at f3; cases f3
      obtain ⟨old, o1, o2⟩ := at_dp f5 h3
      refine ⟨a, xs', kk, old, rfl, rfl, SqL.of f4, o1, C, F1, Γ1, y, Γ2, R1, h4, fun F2 H2 v l2 R2 dv => ?_⟩
      refine ⟨F2, d, y, z, R2.sub, .inl (dp_mono l2 o2), .inl dv, h5, fun F3 H3 nw g dn => ?_⟩
      have R3 := R2.grow g
      obtain ⟨a', s', xs'', g1, g2, g3, g4, g5, g6⟩ := R3.own h6
      rw [e3] at g3; cases g3
      exact ⟨a, xs'', kk, j, rfl, rfl, g4, by rw [dpa_len g5]; exact h7, k F3 _ σ ((l1.trans l2).trans g.f) (R3.wrote g1 g2 e3 (dpa_set dn j g5))⟩
    · cases hc
/-- xs.pop() -/
def cPop (i : Nat) : CE := fun Γ => (ownAt Γ i).bind fun ds => (ds[ds.length - 1]?).bind fun d => some (d, backS Γ i (.list ds.dropLast))
theorem dpa_dropLast {K : Fr} {F : Hp} : ∀ {xs : List V} {ds : List D}, DpAll K F xs ds → DpAll K F xs.dropLast ds.dropLast
  | _, _, .nil => .nil
  | _, _, .cons h .nil => .nil
  | _, _, .cons h (.cons h2 t) => .cons h (dpa_dropLast (.cons h2 t))
theorem dpa_erase {K : Fr} {F : Hp} : ∀ {xs : List V} {ds : List D} (j : Nat), DpAll K F xs ds → DpAll K F (xs.eraseIdx j) (ds.eraseIdx j)
  | _, _, _, .nil => .nil
  | _, _, 0, .cons _ t => t
  | _, _, j + 1, .cons a t => .cons a (dpa_erase j t)
theorem dpa_ex {K : Fr} {F : Hp} {xs : List V} {ds : List D} {j : Nat} {d : D} (h : DpAll K F xs ds) (e : ds[j]? = some d) : ∃ v, xs[j]? = some v ∧ Dp K F v d := by
  have hj : j < xs.length := by rw [dpa_len h]; exact lt_of_get e
  exact ⟨xs[j], List.getElem?_eq_getElem hj, dpa_at h (List.getElem?_eq_getElem hj) e⟩
theorem e_pop (ho : PE X o (tVar i)) (hbase : attributeBase o "pop" X.env (eval o X.env) = eval o X.env := by rfl) (hline : (apos.endLine == cpos.line) = true := by rfl) : E X (.Call (.Attribute o "pop" apos) [] [] cpos) (cPop i) :=
  PE.imp (pe_bm0 PySem.F.plainAttrs_list PySem.F.slot_list_pop PySem.F.type_list_pop mt_pop ho hbase hline) fun σ H Q ⟨C, F, Γ, d, Γ', R, hc, k⟩ => by
    unfold cPop at hc
    simp only [Option.bind_eq_some_iff, Option.some.injEq, Prod.mk.injEq] at hc
    obtain ⟨ds, h0, d, h1, rfl, rfl⟩ := hc
    obtain ⟨a, s, xs, e1, e2, e3, e4, e5, e6⟩ := R.own h0
    rw [← dpa_len e5] at h1
    obtain ⟨v, v1, v2⟩ := dpa_ex e5 h1
    exact ⟨.ref a, e3, .inl ⟨rfl, xs, SqL.of e4⟩, a, xs, v, rfl, rfl, e4, v1, k F _ v (Le.refl _) (R.wrote e1 e2 e3 (dpa_dropLast e5)) v2⟩
/-- xs.pop(ix) -/
def cPopI (i : Nat) (c : CE) : CE := fun Γ => (ownAt Γ i).bind fun _ => (c Γ).bind fun p => match p.1 with
  | .int k => (ownAt p.2 i).bind fun ds => if -(2 ^ 63) ≤ k ∧ k < 2 ^ 63 then (seqIndex? k ds.length).bind fun j => (ds[j]?).bind fun d => some (d, backS p.2 i (.list (ds.eraseIdx j))) else none
  | _ => none
theorem e_popI (ho : PE X o (tVar i)) (he : E X e c) (hbase : attributeBase o "pop" X.env (eval o X.env) = eval o X.env := by rfl)
    (hfew : ((backTo cpos (starEach [e] X.env)).all (fun x => !x.1) && (backToKw cpos (keywordEach [] X.env)).all (fun x => x.1.isSome)
      && decide ([e].length + ([] : List Keyword).length + (if ([] : List Keyword).isEmpty then 0 else 1) < 30)) = true := by rfl)
    (hline : (apos.endLine == cpos.line) = true := by rfl) (hs : starEach [e] X.env = [(false, eval e X.env)] := by rfl) (hplain : (backTo cpos (starEach [] X.env)).any (·.1) = false := by rfl) :
    E X (.Call (.Attribute o "pop" apos) [e] [] cpos) (cPopI i c) :=
  PE.imp (pe_bm PySem.F.plainAttrs_list PySem.F.slot_list_pop PySem.F.type_list_pop mt_popAt ho (pa_cons he pa_nil hs) hbase hfew hline hs hplain) fun σ H Q ⟨C, F, Γ, d, Γ', R, hc, k⟩ => by
    unfold cPopI at hc
    simp only [Option.bind_eq_some_iff] at hc
    obtain ⟨ds0, h0, ⟨w, Γ1⟩, h1, hc⟩ := hc
    split at hc
    · rename_i kk ew
      simp only at ew
      subst ew
      simp only [Option.bind_eq_some_iff] at hc
      obtain ⟨ds, h2, hc⟩ := hc
      split at hc
      · rename_i hk
        simp only [Option.bind_eq_some_iff, Option.some.injEq, Prod.mk.injEq] at hc
        obtain ⟨j, h3, d, h4, rfl, rfl⟩ := hc
        obtain ⟨a, s, xs, e1, e2, e3, e4, e5, e6⟩ := R.own h0
        refine ⟨.ref a, e3, .inl ⟨rfl, xs, SqL.of e4⟩, C, F, Γ, _, Γ1, R, h1, fun F1 H1 u l1 R1 du => ?_⟩
        cases du
        obtain ⟨a', s', xs', f1, f2, f3, f4, f5, f6⟩ := R1.own h2
        rw [e3] at f3; cases f3
        obtain ⟨v, v1, v2⟩ := dpa_ex f5 h4
        exact ⟨a, xs', kk, j, v, rfl, rfl, f4, hk.1, hk.2, by rw [dpa_len f5]; exact h3, v1, k F1 _ v l1 (R1.wrote f1 f2 e3 (dpa_erase j f5)) v2⟩
      · cases hc
    · cases hc
end

/-! ### slices -/
section
variable {X : Cx} {e : Expr} {oe : Od} {pos p2 : Pos}
abbrev CO := En → Option (Option Int × En)
def tOI (K : Fr) (c : CO) : TO := fun σ H Q => ∃ C F Γ r Γ', Rel K C F H σ Γ ∧ c Γ = some (r, Γ') ∧ ∀ F' H', Le F F' → Rel K C F' H' σ Γ' → Q r H'
abbrev PI' (X : Cx) (e : Option Expr) (c : CO) : Prop := PO X e (tOI X.K c)
def cNoI : CO := fun Γ => some (none, Γ)
def cSomeI (c : CE) : CO := fun Γ => (c Γ).bind fun p => match p.1 with
  | .int i => some (some i, p.2)
  | _ => none
theorem PO.imp {e : Option Expr} {t u : TO} (h : PO X e t) (i : ∀ σ H Q, u σ H Q → t σ H Q) : PO X e u := ⟨fun pins s σ H Q I q => h.run pins s σ H Q I (i _ _ _ q)⟩
theorem o_none : PI' X none cNoI := PO.imp po_none fun σ H Q ⟨C, F, Γ, r, Γ', R, hc, k⟩ => by
  cases hc
  exact k F H (Le.refl _) R
theorem o_some {c : CE} (h : E X e c) : PI' X (some e) (cSomeI c) := PO.imp (po_some h) fun σ H Q ⟨C, F, Γ, r, Γ', R, hc, k⟩ => by
  unfold cSomeI at hc
  simp only [Option.bind_eq_some_iff] at hc
  obtain ⟨⟨d, Γ1⟩, h1, hc⟩ := hc
  split at hc
  · rename_i i e
    simp only at e
    subst e
    cases hc
    refine ⟨C, F, Γ, _, _, R, h1, fun F' H' v l R' q => ?_⟩
    cases q
    exact ⟨i, rfl, k F' H' l R'⟩
  · cases hc
def cutD (ds : List D) (lo hi : Option Int) : List D := (ds.drop (HT.sIx ds.length 0 lo)).take (HT.sIx ds.length ds.length hi - HT.sIx ds.length 0 lo)
theorem dpa_drop {K : Fr} {F : Hp} : ∀ {xs : List V} {ds : List D} (n : Nat), DpAll K F xs ds → DpAll K F (xs.drop n) (ds.drop n)
  | _, _, 0, h => h
  | _, _, n + 1, .nil => .nil
  | _, _, n + 1, .cons _ t => dpa_drop n t
theorem dpa_take {K : Fr} {F : Hp} : ∀ {xs : List V} {ds : List D} (n : Nat), DpAll K F xs ds → DpAll K F (xs.take n) (ds.take n)
  | _, _, 0, _ => .nil
  | _, _, n + 1, .nil => .nil
  | _, _, n + 1, .cons h t => .cons h (dpa_take n t)
theorem dpa_cut {K : Fr} {F : Hp} {xs : List V} {ds : List D} (h : DpAll K F xs ds) (lo hi : Option Int) : DpAll K F (cutV xs lo hi) (cutD ds lo hi) := by
  unfold cutV cutD
  rw [dpa_len h]
  exact dpa_take _ (dpa_drop _ h)
theorem sIx_le' (n d : Nat) (hd : d ≤ n) (o : Option Int) : HT.sIx n d o ≤ n := HT.sIx_le n d hd o
theorem cut_whole {α : Type} (xs : List α) {lo hi : Option Int} (h : HT.sIx xs.length 0 lo = 0 ∧ HT.sIx xs.length xs.length hi = xs.length) : (xs.drop (HT.sIx xs.length 0 lo)).take (HT.sIx xs.length xs.length hi - HT.sIx xs.length 0 lo) = xs := by
  rw [h.1, h.2]
  simp
/-- a slice of a tuple; of a list -/
def cSlT (oe : Od) (lo hi : CO) : CE := fun Γ => (oe.run Γ).bind fun p => (lo p.2).bind fun l => (hi l.2).bind fun h => (oe.fin p.1 h.2).bind fun d => match d with
  | .tuple ds => some (.tuple (cutD ds l.1 h.1), h.2)
  | _ => none
theorem e_slT {lo hi : Option Expr} {cl ch : CO} (he : O X e oe) (hl : PI' X lo cl) (hh : PI' X hi ch) : E X (.Subscript e (.Slice lo hi none p2) pos) (cSlT oe cl ch) :=
  PE.imp (pe_slice sl_tupA he hl hh) fun σ H Q ⟨C, F, Γ, d, Γ', R, hc, k⟩ => by
    unfold cSlT at hc
    simp only [Option.bind_eq_some_iff] at hc
    obtain ⟨⟨d1, Γ1⟩, h1, ⟨l, Γ2⟩, h2, ⟨h, Γ3⟩, h3, d3, h4, hc⟩ := hc
    split at hc
    · rename_i ds
      cases hc
      refine ⟨C, F, Γ, d1, Γ1, R, h1, fun F1 H1 v l1 R1 lk => ?_⟩
      refine ⟨C, F1, Γ1, l, Γ2, R1, h2, fun F2 H2 l2 R2 => ?_⟩
      refine ⟨C, F2, Γ2, h, Γ3, R2, h3, fun F3 H3 l3 R3 => ?_⟩
      obtain ⟨a, xs, rfl, s1, s2⟩ := (lk F3 H3 Γ3 _ (l2.trans l3) R3 h4).tuple
      refine ⟨a, xs, rfl, R3.sub.sqt s1, fun hw => ?_, fun hw p np => ?_⟩
      · refine k F3 H3 _ ((l1.trans l2).trans l3) R3 ?_
        have e : cutD ds l h = ds := by
          unfold cutD
          rw [dpa_len s2] at hw
          exact cut_whole ds hw
        rw [e]
        exact .tup s1 s2
      · have g := Grow.new R3.sub (o := .tup (cutV xs l h)) np
        exact k _ _ _ (((l1.trans l2).trans l3).trans g.f) (R3.grow g) (.tup (SqT.of upd_same) (dpa_mono g.f (dpa_cut s2 l h)))
    · cases hc
def cSlL (oe : Od) (lo hi : CO) : CN := fun Γ => (oe.run Γ).bind fun p => (lo p.2).bind fun l => (hi l.2).bind fun h => (oe.fin p.1 h.2).bind fun d => match d with
  | .list ds => some (.nw (.list (cutD ds l.1 h.1)), h.2)
  | _ => none
theorem n_slL {lo hi : Option Expr} {cl ch : CO} (he : O X e oe) (hl : PI' X lo cl) (hh : PI' X hi ch) : N X (.Subscript e (.Slice lo hi none p2) pos) (cSlL oe cl ch) :=
  PE.imp (pe_slice sl_list he hl hh) fun σ H Q ⟨C, F, Γ, d, Γ', R, hc, k⟩ => by
    unfold cSlL at hc
    simp only [Option.bind_eq_some_iff] at hc
    obtain ⟨⟨d1, Γ1⟩, h1, ⟨l, Γ2⟩, h2, ⟨h, Γ3⟩, h3, d3, h4, hc⟩ := hc
    split at hc
    · rename_i ds
      cases hc
      refine ⟨C, F, Γ, d1, Γ1, R, h1, fun F1 H1 v l1 R1 lk => ?_⟩
      refine ⟨C, F1, Γ1, l, Γ2, R1, h2, fun F2 H2 l2 R2 => ?_⟩
      refine ⟨C, F2, Γ2, h, Γ3, R2, h3, fun F3 H3 l3 R3 => ?_⟩
      have lk3 := lk F3 H3 Γ3 _ (l2.trans l3) R3 h4
      have inF : ∃ a xs, v = .ref a ∧ SqL X.K H3 a xs ∧ DpAll X.K F3 xs ds := by
        rcases lk3 with lk | ⟨a, es', xs, rfl, e, h1, h2⟩
        · cases lk with
          | @lst a xs _ h1 h2 => exact ⟨a, xs, rfl, R3.sub.sql h1, h2⟩
        · cases e; exact ⟨a, xs, rfl, SqL.of h1, h2⟩
      obtain ⟨a, xs, rfl, s1, s2⟩ := inF
      exact ⟨a, xs, rfl, s1, fun p np => k F3 _ _ ((l1.trans l2).trans l3) (R3.grow (Grow.raw R3.sub np)) (got_new R3 np (dpa_cut s2 l h))⟩
    · cases hc
end
end Pu

set_option maxHeartbeats 1000000
namespace Pu
open PySem PySem.Spec PyProof.Rows L2

/-! ### t[::-1] of a tuple -/
section
variable {prog : Program} {w : World} {A : Around} {E : Value → Shared → Prop} {s : Shared}
theorem rev_applied {sl : Addr} {vl vu vs : Value} {n : Nat} {Q : Int × Int × Nat → Shared → Prop} (hs : s.heap.IsSliceOf sl vl vu vs) (pl : IsPart vl none) (pu : IsPart vu none) (pv : IsPart vs (some (-1)))
    (h : Q ((n : Int) - 1, -1, n) s) : wpAny (model prog w) A (Builtin.Slice.sliceApplied (.ref sl) (pure (n : Int))) Q E s := by
  obtain ⟨os, hos, hcs, hds⟩ := id hs
  unfold Builtin.Slice.sliceApplied Builtin.Slice.sliceFields
  refine wpAny_bind (wpAny_bind (wpAny_field hos hds (x := vl) rfl (wpAny_bind (wpAny_field hos hds (x := vu) rfl (wpAny_bind (wpAny_field hos hds (x := vs) rfl (wpAny_pure ?_)))))))
  refine wpAny_bind (HT.slicePart_ pv ?_)
  refine wpAny_ite_false (by decide) ?_
  refine wpAny_bind (HT.slicePart_ pl (wpAny_bind (HT.slicePart_ pu (wpAny_bind (wpAny_pure ?_)))))
  have e1 : Builtin.Slice.sliceAdjust none none (-1) (n : Int) = ((n : Int) - 1, -1) := rfl
  have e2 : Builtin.Slice.slicePlaces ((n : Int) - 1) (-1) (-1) = n := by
    unfold Builtin.Slice.slicePlaces
    rw [if_neg (by decide)]
    split
    · have : ((n : Int) - 1 - -1 - 1) / (- -1) + 1 = (n : Int) := by
        rw [show (- -1 : Int) = 1 by decide, Int.ediv_one]; omega
      rw [this]; exact Int.toNat_natCast n
    · have : n = 0 := by omega
      subst this; rfl
  show wpAny _ _ (match Builtin.Slice.sliceAdjust none none (-1) (n : Int) with | (lo, hi) => pure (lo, (-1 : Int), Builtin.Slice.slicePlaces lo hi (-1))) _ _ s
  rw [e1]
  show wpAny _ _ (pure ((n : Int) - 1, (-1 : Int), Builtin.Slice.slicePlaces ((n : Int) - 1) (-1) (-1))) _ _ s
  rw [e2]
  exact wpAny_pure h
theorem pick_rev (xs : Array Value) : ((List.range xs.size).filterMap fun (k : Nat) => xs[((xs.size : Int) - 1 + (k : Int) * -1).toNat]?).toArray = xs.toList.reverse.toArray := by
  congr 1
  have e : (fun (k : Nat) => xs[((xs.size : Int) - 1 + (k : Int) * -1).toNat]?) = (fun x => xs[x]?) ∘ fun k => xs.size - 1 - k := by
    funext k
    have h1 : ((xs.size : Int) - 1 + (k : Int) * -1).toNat = xs.size - 1 - k := by omega
    show _ = xs[xs.size - 1 - k]?
    rw [h1]
  rw [e, ← List.filterMap_map, PySem.W.krv_range, List.filterMap_reverse, PySem.W.krv_all]
theorem item_rev {t sl : Addr} {items : Array Value} {vl vu vs : Value} {Q : Value → Shared → Prop} (ht : IsTup s.heap t items) (hs : s.heap.IsSliceOf sl vl vu vs) (pl : IsPart vl none) (pu : IsPart vu none) (pv : IsPart vs (some (-1)))
    (h : Q (.ref s.heap.objs.size) { s with heap := s.heap.push { cls := .type "tuple", data := .seq items.toList.reverse.toArray } }) (hsz : items.size ≤ sizeLine) : wpAny (model prog w) A (getItem (.ref t) (.ref sl)) Q E s := by
  have hok : sizeOk (.seq items.toList.reverse.toArray) := by
    show items.toList.reverse.toArray.size ≤ sizeLine
    simpa using hsz
  obtain ⟨os, hos, hcs, hds⟩ := id hs
  have hTs : s.TypeIs (.ref sl) "slice" := ⟨os, hos, hcs⟩
  unfold getItem
  try with_reducible refine wpAny_holding ?_
  first | refine wpAny_bind (wpAny_pure ?_) | skip
  refine wpAny_bind (wpAny_sequenceKey ht.typeIs (by decide) ?_)
  refine wpAny_bind (wpAny_callSpecial?_slot (name := Str.ofString "__getitem__") ht.typeIs PyProof.Rows.slot_tuple_getitem
    (wpAny_call_entry PyProof.Rows.slot_tuple_getitem ht.typeIs entry_tuple_getitem ?_ (args_tuple_getitem _ _)))
  show wpAny _ _ (Builtin.Tuple.tupleItemsOf (.ref t) >>= _) _ _ s
  refine wpAny_bind (tupleItemsOf_ ht ?_)
  refine wpAny_bind (wpAny_typeOf hTs ?_)
  rw [if_pos (by decide)]
  refine wpAny_bind (rev_applied hs pl pu pv ?_)
  have hno : ¬ ((((items.size : Int) - 1) == 0 && (-1 : Int) == 1 && items.size == items.size) = true) := by
    rw [Bool.and_assoc, show ((-1 : Int) == 1) = false by decide, Bool.false_and, Bool.and_false]
    exact Bool.false_ne_true
  show wpAny _ _ (if (((items.size : Int) - 1) == 0 && (-1 : Int) == 1 && items.size == items.size) = true then _ else _) _ _ s
  rw [if_neg hno, pick_rev]
  first
    | exact wpAny_bind (m := Builtin.Tuple.tupleExact _) (wpAny_newObj_type (wpAny_pure ⟨_, rfl, wpAny_pure h⟩) hok)
    | exact wpAny_bind (wpAny_bind (m := Builtin.Tuple.tupleExact _) (wpAny_newObj_type (wpAny_pure ⟨_, rfl, wpAny_pure h⟩) hok))
end
def tRevT (K : Fr) (te : TE) : TE := fun σ H Q => te σ H fun x H1 => ∃ a xs, x = .ref a ∧ SqT K H1 a xs ∧ ∀ p, H1 p = none → Q (.ref p) (upd H1 p (.tup xs.reverse))
section
variable {X : Cx} {e : Expr} {pos : Pos}
theorem pe_revT {te : TE} {k : Nat} {p1 p2 p3 : Pos} (he : PE X e te) : PE X (.Subscript e (.Slice none none (some (.UnaryOp .USub (.Constant (.int 1) k p1) p2)) p3) pos) (tRevT X.K te) := by
  refine ⟨fun pins s σ H Q I h => Subscript_ (thn (he.run pins s σ H _ I h) fun v s1 ⟨x, H1, I1, r1, a, xs, ex, hx, q⟩ => ?_)⟩
  subst ex
  cases r1
  have step : PO X (some (.UnaryOp .USub (.Constant (.int 1) k p1) p2)) (tPart (tUn (rU fun i => .int (-i)) (tC (.int 1)))) := po_some (pe_un un_neg pe_int)
  refine wpAny_Slice (thn (po_none.run pins s1 σ H1 (fun o H2 => o = none ∧ H2 = H1) I1 ⟨rfl, rfl⟩) fun vl s2 ⟨l, H2, I2, pl, el, e2⟩ => ?_)
  subst el e2
  refine thn (po_none.run pins s2 σ H2 (fun o H3 => o = none ∧ H3 = H2) I2 ⟨rfl, rfl⟩) fun vu s3 ⟨u, H3, I3, pu, eu, e3⟩ => ?_
  subst eu e3
  refine thn (step.run pins s3 σ H3 (fun o H4 => o = some (-1) ∧ H4 = H3) I3 ⟨1, rfl, -1, rfl, rfl, rfl⟩) fun vs s4 ⟨o, H4, I4, ps, eo, e4⟩ => ?_
  subst eo e4
  have I5 : Inv X pins σ H4 { s4 with heap := s4.heap.push { cls := .type "slice", data := .fields #[vl, vu, vs] } } := I4.kept (t' := s4.toks) fun b ob q => Heap.get?_push_of_some _ q
  obtain ⟨its, r, ht, hz⟩ := I5.tuple hx
  have hlen := r.length
  show wpAny (model X.prog X.w) X.A (subscriptTail e (.Slice none none (some (.UnaryOp .USub (.Constant (.int 1) k p1) p2)) p3) (.ref a) (.ref s4.heap.objs.size)) (EP X pins σ Q) X.xe { s4 with heap := s4.heap.push { cls := .type "slice", data := .fields #[vl, vu, vs] } }
  refine tail_any (ops := [.ref a, .ref s4.heap.objs.size]) ht.typeIs PyProof.Rows.slot_tuple_getitem.lookup ?_ (by with_unfolding_all rfl)
  refine item_rev ht (Heap.IsSliceOf.new _ vl vu vs) pl pu ps ?_ (by rw [List.size_toArray]; omega)
  refine ⟨.ref _, _, I5.laid (t' := s4.toks) (o := .tup xs.reverse) (fun b ob q => Heap.get?_push_of_some _ q) (Nat.le_refl _) ?_, rfl, q _ (I5.hok.fresh (Nat.le_refl _))⟩
  exact ⟨by rw [List.length_reverse]; exact hz, its.reverse, r.reverse, IsTup.new _ _⟩
theorem dpa_rev {K : Fr} {F : Hp} : ∀ {xs : List V} {ds : List D}, DpAll K F xs ds → DpAll K F xs.reverse ds.reverse
  | _, _, .nil => .nil
  | _, _, .cons h t => by rw [List.reverse_cons, List.reverse_cons]; exact dpa_snoc (dpa_rev t) h
def cRevT (oe : Od) : CE := cUn (fun d => match d with | .tuple ds => some (.tuple ds.reverse) | _ => none) oe
theorem e_revT {oe : Od} {k : Nat} {p1 p2 p3 : Pos} (he : O X e oe) : E X (.Subscript e (.Slice none none (some (.UnaryOp .USub (.Constant (.int 1) k p1) p2)) p3) pos) (cRevT oe) :=
  PE.imp (pe_revT he) fun σ H Q ⟨C, F, Γ, d, Γ', R, hc, kk⟩ => by
    unfold cRevT cUn at hc
    simp only [Option.bind_eq_some_iff, Option.some.injEq, Prod.mk.injEq] at hc
    obtain ⟨⟨da, Γ1⟩, h1, x, h2, z, h3, rfl, rfl⟩ := hc
    split at h3
    · rename_i ds
      cases h3
      refine ⟨C, F, Γ, da, Γ1, R, h1, fun F1 H1 v l1 R1 q => ?_⟩
      obtain ⟨a, xs, rfl, s1, s2⟩ := (q F1 H1 Γ1 _ (Le.refl _) R1 h2).tuple
      refine ⟨a, xs, rfl, R1.sub.sqt s1, fun p np => ?_⟩
      have g := Grow.new R1.sub (o := .tup xs.reverse) np
      exact kk _ _ _ (l1.trans g.f) (R1.grow g) (.tup (SqT.of upd_same) (dpa_mono g.f (dpa_rev s2)))
    · cases h3
def cRevL (oe : Od) : CN := fun Γ => (oe.run Γ).bind fun p => (oe.fin p.1 p.2).bind fun d => match d with
  | .list ds => some (.nw (.list ds.reverse), p.2)
  | _ => none
theorem n_revL {oe : Od} {k : Nat} {p1 p2 p3 : Pos} (he : O X e oe) : N X (.Subscript e (.Slice none none (some (.UnaryOp .USub (.Constant (.int 1) k p1) p2)) p3) pos) (cRevL oe) :=
  PE.imp (pe_revL he) fun σ H Q ⟨C, F, Γ, d, Γ', R, hc, kk⟩ => by
    unfold cRevL at hc
    simp only [Option.bind_eq_some_iff] at hc
    obtain ⟨⟨da, Γ1⟩, h1, x, h2, hc⟩ := hc
    split at hc
    · rename_i ds
      cases hc
      refine ⟨C, F, Γ, da, Γ1, R, h1, fun F1 H1 v l1 R1 q => ?_⟩
      have inF : ∃ a xs, v = .ref a ∧ SqL X.K H1 a xs ∧ DpAll X.K F1 xs ds := by
        rcases q F1 H1 Γ1 _ (Le.refl _) R1 h2 with lk | ⟨a, es', xs, rfl, e, h1, h2⟩
        · cases lk with
          | @lst a xs _ h1 h2 => exact ⟨a, xs, rfl, R1.sub.sql h1, h2⟩
        · cases e; exact ⟨a, xs, rfl, SqL.of h1, h2⟩
      obtain ⟨a, xs, rfl, s1, s2⟩ := inF
      exact ⟨a, xs, rfl, s1, fun p np => kk F1 _ _ l1 (R1.grow (Grow.raw R1.sub np)) (got_new R1 np (dpa_rev s2))⟩
    · cases hc

/-! ### a tuple times an int; a list's display times an int -/
theorem tuple_once (l : Addr) (items : Array Value) (n : Nat) (dd : Option Addr) (sl : Array (Option Value)) (u : Tok) :
    Meets (Builtin.«tuple.__mul__» ⟨[.ref l, .int 1 u], []⟩) (fun _ R s => s.heap.get? l = some { cls := .type "tuple", dict := dd, data := .seq items n, slots := sl } ∧ R (.ok (.ret (Value.ref l))) s) :=
  .of_wp fun prog w A R s h => by
    obtain ⟨hp, g, d, tk, os⟩ := s
    obtain ⟨hl, h⟩ := h
    have f1 := AutoSeq1.idx_int
    wp_walk using wpAny_loadPart' hl
    exact ⟨_, rfl, h⟩
theorem op_onceT : OpR X (binaryOp .Mult) (fun x y H Q => ∃ l xs, x = .ref l ∧ y = .int 1 ∧ SqT X.K H l xs ∧ Q (.ref l) H) := by
  intro pins s σ H x y v u Q I rx ry ⟨l, xs, ex, ey, hT, q⟩
  subst ex ey
  cases rx
  obtain ⟨t, rfl⟩ := ry
  obtain ⟨its, r, ⟨⟨cls, dd, data, sl⟩, ho, hc, n, hd⟩, hs⟩ := I.tuple hT
  simp only at hc hd
  subst hc hd
  exact wpAny_binaryOp_repeat_ref (T := "tuple") (U := "int") (by decide) ⟨_, ho, rfl⟩ (fun s' => typeIs_int s' 1 t) noFill_tuple_mul PySem.F.fills_int_mul PySem.F.slot_int_rmul repeat_tuple PySem.F.slot_int_index.lookup
    (call_meets PySem.F.slot_int_rmul (typeIs_int s 1 t) PySem.F.entry_int_rmul (PySem.F.args_int_rmul_2 _ _) (int_rmul_tuple 1 t l its.toArray n dd sl)
      ⟨ho, rfl, ⟨_, ho, rfl⟩, call_meets PySem.F.slot_tuple_mul ⟨_, ho, rfl⟩ PySem.F.entry_tuple_mul (PySem.F.args_tuple_mul_2 _ _) (tuple_once l its.toArray n dd sl t) ⟨ho, .ref l, H, I, rfl, q⟩⟩)
def dMulT : D → D → Option D
  | .tuple ds, .int k => if ds ≠ [] ∧ 1 ≤ k ∧ k ≤ 1000 ∧ ds.length ≤ 1000 then some (.tuple (List.replicate k.toNat ds).flatten) else none
  | a, b => dMul a b
theorem dpa_repl {K : Fr} {F : Hp} {xs : List V} {ds : List D} (h : DpAll K F xs ds) : ∀ k, DpAll K F (List.replicate k xs).flatten (List.replicate k ds).flatten
  | 0 => .nil
  | k + 1 => by
    rw [List.replicate_succ, List.replicate_succ, List.flatten_cons, List.flatten_cons]
    exact dpa_app h (dpa_repl h k)
theorem od_mulT : OpR X (binaryOp .Mult) (rD2 X.K dMulT) := by
  intro pins s σ H x y v u Q I rx ry ⟨F, d, e, z, sb, lx, ly, hf, q⟩
  unfold dMulT at hf
  split at hf
  · rename_i ds k
    split at hf
    · rename_i hk
      cases hf
      obtain ⟨a, xs, rfl, h1, h2⟩ := lx.tuple
      have ey := ly.int
      by_cases h : k = 1
      · subst h
        refine op_onceT pins s σ H _ _ v u Q I rx ry ⟨a, xs, rfl, ey, sb.sqt h1, q F H _ (Grow.refl sb) ?_⟩
        have e : (List.replicate (1 : Int).toNat ds).flatten = ds := by simp
        rw [e]
        exact .tup h1 h2
      · refine op_repT pins s σ H _ _ v u Q I rx ry ⟨a, k, xs, rfl, ey, sb.sqt h1, fun z => ?_, by omega, hk.2.2.1, by rw [dpa_len h2]; exact hk.2.2.2, fun p np => ?_⟩
        · subst z; cases h2; exact hk.1 rfl
        · have g := Grow.new sb (o := .tup (List.replicate k.toNat xs).flatten) np
          exact q _ _ _ g (.tup (SqT.of upd_same) (dpa_mono g.f (dpa_repl h2 _)))
    · cases hf
  · exact od_mul pins s σ H x y v u Q I rx ry ⟨F, _, _, z, sb, lx, ly, hf, q⟩
/-- [a, ..] * k -/
def cRep (r : CA) (c : CE) : CN := fun Γ => (r Γ).bind fun p => if p.1.length ≤ sizeLine then (c p.2).bind fun q => (match q.1 with
  | .int k => if -(2 ^ 63) ≤ k ∧ k < 2 ^ 63 ∧ p.1.length * k.toNat ≤ sizeLine then some (.nw (.list (List.replicate k.toNat p.1).flatten), q.2) else none
  | _ => none) else none
theorem n_rep {es : List Expr} {b : Expr} {r : CA} {c : CE} {pl : Pos} (h : Ar X es r) (hb : E X b c) : N X (.BinOp (.List es pl) .Mult b pos) (cRep r c) := PE.imp (pe_op op_rep (pe_lst h) hb) fun σ H Q ⟨C, F, Γ, d, Γ', R, hc, kk⟩ => by
  unfold cRep at hc
  simp only [Option.bind_eq_some_iff] at hc
  obtain ⟨⟨ds, Γ1⟩, h1, hc⟩ := hc
  split at hc
  · rename_i hz
    simp only [Option.bind_eq_some_iff] at hc
    obtain ⟨⟨w, Γ2⟩, h2, hc⟩ := hc
    split at hc
    · rename_i k ew
      simp only at ew
      subst ew
      split at hc
      · rename_i hk
        cases hc
        refine ⟨C, F, Γ, ds, Γ1, R, h1, fun F1 H1 vs l1 R1 q1 => ⟨by rw [dpa_len q1]; exact hz, fun p np => ?_⟩⟩
        have g := Grow.new R1.sub (o := .lst vs) np
        refine ⟨C, _, Γ1, _, Γ2, R1.grow g, h2, fun F2 H2 u l2 R2 du => ?_⟩
        cases du
        refine ⟨p, k, vs, rfl, rfl, R2.sub _ _ (l2 _ _ upd_same), hk.1, hk.2.1, by rw [dpa_len q1]; exact hk.2.2, fun p2 np2 => ?_⟩
        exact kk F2 _ _ ((l1.trans g.f).trans l2) (R2.grow (Grow.raw R2.sub np2)) (got_new R2 np2 (dpa_repl (dpa_mono (g.f.trans l2) q1) _))
      · cases hc
    · cases hc
  · cases hc

/-! ### dicts of the module, text keys -/
structure KD (K : Fr) (w : World) (a : Addr) (kvs : List (Str × D)) : Prop where
  ex : ∃ es n, K.lookup a = some ⟨.type "dict", none, .dict es n, #[]⟩ ∧ PySem.W.KeysLit w.params es.toList ∧ (a == sysModules) = false ∧
    Paired (fun (p : Str × D) (e : DictEntry) => (∀ z, e.key.isStr z = decide (p.1 = z)) ∧ e.refKey = false ∧ ∃ v, RelV v e.val ∧ ∀ F : Hp, Dp K F v p.2) kvs es.toList
def lookD (kvs : List (Str × D)) (z : Str) : Option D := (kvs.find? fun p => decide (p.1 = z)).map (·.2)
theorem KD.get {K : Fr} {w : World} {a : Addr} {kvs : List (Str × D)} (k : KD K w a kvs) : ∃ es n, KDict K w a es n ∧ ∀ z, (∃ u, PySem.W.nsIn K a z = some u ∧ u.isSome = (lookD kvs z).isSome ∧ ∀ d, lookD kvs z = some d → ∃ u' v, u = some u' ∧ RelV v u' ∧ ∀ F : Hp, Dp K F v d) := by
  obtain ⟨es, n, h1, h2, h3, h4⟩ := k.ex
  refine ⟨es, n, ⟨h1, h2, h3⟩, fun z => ?_⟩
  have key : ∀ {kvs : List (Str × D)} {l : List DictEntry}, Paired (fun (p : Str × D) (e : DictEntry) => (∀ z, e.key.isStr z = decide (p.1 = z)) ∧ e.refKey = false ∧ ∃ v, RelV v e.val ∧ ∀ F : Hp, Dp K F v p.2) kvs l →
      (∃ u, (match l.find? (·.key.isStr z) with | some e => some (some e.val) | none => if l.any (·.refKey) then none else some none) = some u ∧ u.isSome = (lookD kvs z).isSome ∧ ∀ d, lookD kvs z = some d → ∃ u' v, u = some u' ∧ RelV v u' ∧ ∀ F : Hp, Dp K F v d) ∧ l.any (·.refKey) = false := by
    intro kvs l h
    induction h with
    | nil => exact ⟨⟨none, rfl, rfl, fun d e => by cases e⟩, rfl⟩
    | @cons p e kvs l h t ih =>
      obtain ⟨q1, q2, v, q3, q4⟩ := h
      obtain ⟨⟨u, u1, u2, u3⟩, r⟩ := ih
      have ra : (e :: l).any (·.refKey) = false := by rw [List.any_cons, q2, r]; rfl
      refine ⟨?_, ra⟩
      by_cases hz : p.1 = z
      · refine ⟨some e.val, ?_, ?_, fun d hd => ⟨e.val, v, rfl, q3, ?_⟩⟩
        · rw [List.find?_cons, q1 z, decide_eq_true hz]
        · unfold lookD; rw [List.find?_cons, decide_eq_true hz]; rfl
        · unfold lookD at hd; rw [List.find?_cons, decide_eq_true hz] at hd
          cases hd; exact q4
      · have e1 : lookD (p :: kvs) z = lookD kvs z := by unfold lookD; rw [List.find?_cons, decide_eq_false hz]
        refine ⟨u, ?_, by rw [e1]; exact u2, fun d hd => u3 d (by rw [← e1]; exact hd)⟩
        rw [List.find?_cons, q1 z, decide_eq_false hz, ra]
        rw [r] at u1
        exact u1
  obtain ⟨⟨u, u1, u2, u3⟩, _⟩ := key h4
  refine ⟨u, ?_, u2, u3⟩
  unfold PySem.W.nsIn
  rw [h1]
  exact u1
def fHasK (kvs : List (Str × D)) (neg : Bool) : D → Option D
  | .str z => some (.bool (if neg then !(lookD kvs z).isSome else (lookD kvs z).isSome))
  | _ => none
def fGetK (kvs : List (Str × D)) : D → Option D
  | .str z => lookD kvs z
  | _ => none
theorem has_to {neg : Bool} {a : Addr} {kvs : List (Str × D)} {oe : Od} {r : R2} (hr : ∀ (z : Str) (H : Hp) (Q : VK), Q (.bl (if neg then !(lookD kvs z).isSome else (lookD kvs z).isSome)) H → r (.str z) (.ref a) H Q) {σ : L2.St} {H : Hp} {Q : VK} {K : Fr} (h : tE K (cUn (fHasK kvs neg) oe) σ H Q) :
    tOp r (tO K oe) (tC (.ref a)) σ H Q := by
  obtain ⟨C, F, Γ, d, Γ', R, hc, kk⟩ := h
  unfold cUn at hc
  simp only [Option.bind_eq_some_iff, Option.some.injEq, Prod.mk.injEq] at hc
  obtain ⟨⟨da, Γ1⟩, h1, x, h2, z, h3, rfl, rfl⟩ := hc
  unfold fHasK at h3
  split at h3
  · cases h3
    refine ⟨C, F, Γ, da, Γ1, R, h1, fun F1 H1 v l1 R1 q => ?_⟩
    have lk := q F1 H1 Γ1 _ (Le.refl _) R1 h2
    rw [lk.str]
    exact hr _ _ _ (kk F1 H1 _ l1 R1 (.bl _))
  · cases h3
theorem inK_r {a : Addr} {kvs : List (Str × D)} (k : KD X.K X.w a kvs) : ∃ r, OpR X (compareOp .In) r ∧ ∀ (z : Str) (H : Hp) (Q : VK), Q (.bl (if false then !(lookD kvs z).isSome else (lookD kvs z).isSome)) H → r (.str z) (.ref a) H Q := by
  obtain ⟨es, n, kd, g⟩ := k.get
  refine ⟨_, op_in_kd kd, fun z H Q q => ?_⟩
  obtain ⟨u, u1, u2, _⟩ := g z
  refine ⟨z, u, rfl, rfl, u1, ?_⟩
  rw [u2]; exact q
theorem notinK_r {a : Addr} {kvs : List (Str × D)} (k : KD X.K X.w a kvs) : ∃ r, OpR X (compareOp .NotIn) r ∧ ∀ (z : Str) (H : Hp) (Q : VK), Q (.bl (if true then !(lookD kvs z).isSome else (lookD kvs z).isSome)) H → r (.str z) (.ref a) H Q := by
  obtain ⟨es, n, kd, g⟩ := k.get
  refine ⟨_, op_notIn_kd kd, fun z H Q q => ?_⟩
  obtain ⟨u, u1, u2, _⟩ := g z
  refine ⟨z, u, rfl, rfl, u1, ?_⟩
  rw [u2]; exact q
theorem e_inK {a : Addr} {kvs : List (Str × D)} {x b : Expr} {oe : Od} (k : KD X.K X.w a kvs) (ha : O X x oe) (hb : PE X b (tC (.ref a))) (hm : behindInMarks .In b = false := by rfl) : E X (.Compare x [.In] [b] pos) (cUn (fHasK kvs false) oe) := by
  obtain ⟨r, h1, h2⟩ := inK_r k
  exact PE.imp (pe_cmpR h1 ha hb hm) fun _ _ _ h => has_to h2 h
theorem e_notinK {a : Addr} {kvs : List (Str × D)} {x b : Expr} {oe : Od} (k : KD X.K X.w a kvs) (ha : O X x oe) (hb : PE X b (tC (.ref a))) (hm : behindInMarks .NotIn b = false := by rfl) : E X (.Compare x [.NotIn] [b] pos) (cUn (fHasK kvs true) oe) := by
  obtain ⟨r, h1, h2⟩ := notinK_r k
  exact PE.imp (pe_cmpR h1 ha hb hm) fun _ _ _ h => has_to h2 h
theorem t_inK {a : Addr} {kvs : List (Str × D)} {x b : Expr} {oe : Od} (k : KD X.K X.w a kvs) (ha : O X x oe) (hb : PE X b (tC (.ref a))) (hm : behindInMarks .In b = false := by rfl) : T X (.Compare x [.In] [b] pos) (cB (cUn (fHasK kvs false) oe)) := by
  obtain ⟨r, h1, h2⟩ := inK_r k
  exact PT.imp (pt_cmpR h1 ha hb hm) fun _ _ _ h => by
    have q := tB_to h
    exact has_to h2 q
theorem t_notinK {a : Addr} {kvs : List (Str × D)} {x b : Expr} {oe : Od} (k : KD X.K X.w a kvs) (ha : O X x oe) (hb : PE X b (tC (.ref a))) (hm : behindInMarks .NotIn b = false := by rfl) : T X (.Compare x [.NotIn] [b] pos) (cB (cUn (fHasK kvs true) oe)) := by
  obtain ⟨r, h1, h2⟩ := notinK_r k
  exact PT.imp (pt_cmpR h1 ha hb hm) fun _ _ _ h => by
    have q := tB_to h
    exact has_to h2 q
theorem e_ixK {a : Addr} {kvs : List (Str × D)} {x b : Expr} {oe : Od} (k : KD X.K X.w a kvs) (hb : PE X b (tC (.ref a))) (ha : O X x oe) (hs : PlainIx x := by exact fun _ _ => rfl) : E X (.Subscript b x pos) (cUn (fGetK kvs) oe) := by
  refine PE.imp (pe_ix ix_kdict hb ha hs) fun σ H Q ⟨C, F, Γ, d, Γ', R, hc, kk⟩ => ?_
  unfold cUn at hc
  simp only [Option.bind_eq_some_iff, Option.some.injEq, Prod.mk.injEq] at hc
  obtain ⟨⟨da, Γ1⟩, h1, x, h2, z, h3, rfl, rfl⟩ := hc
  unfold fGetK at h3
  split at h3
  · rename_i y
    refine ⟨C, F, Γ, da, Γ1, R, h1, fun F1 H1 v l1 R1 q => ?_⟩
    have lk := q F1 H1 Γ1 _ (Le.refl _) R1 h2
    obtain ⟨es, n, kd, g⟩ := k.get
    obtain ⟨u, u1, _, u3⟩ := g y
    obtain ⟨u', v', rfl, r1, r2⟩ := u3 _ h3
    exact ⟨a, y, v', rfl, lk.str, ⟨es, n, u', kd.at_, kd.lit, u1, r1⟩, kk F1 H1 _ l1 R1 (r2 F1)⟩
  · cases h3

/-! ### a display of texts to constants, asked by get -/
/-- the pairs' readings -/
def trsOf (kvs : List (Str × V)) : List (TE × TE) := kvs.map fun p => (tC (.str p.1), tC p.2)
theorem pairs_to {σ : L2.St} {H : Hp} {Q : List (V × V) → Hp → Prop} : ∀ {kvs : List (Str × V)}, Q (kvs.map fun p => (V.str p.1, p.2)) H → tPairs (trsOf kvs) σ H Q
  | [], h => h
  | p :: kvs, h => by
    show tPairs (trsOf kvs) σ H fun ps H3 => Q ((.str p.1, p.2) :: ps) H3
    exact pairs_to (kvs := kvs) h
def fGetD (kvs : List (Str × D)) (dflt : D) : D → Option D
  | .str z => some ((lookD kvs z).getD dflt)
  | _ => none
theorem e_getD {keys : List (Option Expr)} {values : List Expr} {kvs : List (Str × V)} {dvs : List (Str × D)} {a f : Expr} {oe : Od} {vf : V} {df : D} {dp apos cpos : Pos} (hu : X.A.units + 1 < cLine) (hp : PPs X dp keys values (trsOf kvs)) (ha : O X a oe) (hf : PE X f (tC vf)) (hdf : ∀ F : Hp, Dp X.K F vf df)
    (hd : Paired (fun (p : Str × V) (q : Str × D) => p.1 = q.1 ∧ ∀ F : Hp, Dp X.K F p.2 q.2) kvs dvs) (hm : mergeK [] (kvs.map fun p => (Sum.inr p.1, p.2)) = kvs.map fun p => (Sum.inr p.1, p.2)) (hall : keys.all (·.isSome) = true) (hl : keys.length = values.length) (h0 : keys ≠ []) (h15 : keys.length ≤ 15) (hk15 : kvs.length ≤ 15)
    (m : M2 X (.Dict keys values dp) "get" apos a f cpos) : E X (.Call (.Attribute (.Dict keys values dp) "get" apos) [a, f] [] cpos) (cUn (fGetD dvs df) oe) :=
  PE.imp (pe_dget2 hu (pe_disp hp hall hl h0 h15) ha hf m) fun σ H Q ⟨C, F, Γ, d, Γ', R, hc, kk⟩ => by
    unfold cUn at hc
    simp only [Option.bind_eq_some_iff, Option.some.injEq, Prod.mk.injEq] at hc
    obtain ⟨⟨da, Γ1⟩, h1, x, h2, z, h3, rfl, rfl⟩ := hc
    unfold fGetD at h3
    split at h3
    · rename_i y
      cases h3
      intro p np
      refine pairs_to ⟨upd_same, kvs.map fun p => (Sum.inr p.1, p.2), by simp [kV], by simpa using hk15, ?_⟩
      rw [hm, upd_upd]
      have g := Grow.new R.sub (o := .dK (kvs.map fun p => (Sum.inr p.1, p.2))) np
      refine ⟨p, rfl, .inl ⟨_, .inl upd_same⟩, C, _, Γ, da, Γ1, R.grow g, h1, fun F1 H1 v l1 R1 q => ?_⟩
      have lk := q F1 H1 Γ1 _ (Le.refl _) R1 h2
      rw [lk.str]
      refine ⟨valV (kvs.map fun p => (Sum.inr p.1, p.2)) (Sum.inr y), DGet.k (k := Sum.inr y) (R1.sub _ _ (l1 _ _ upd_same)), ?_⟩
      refine kk F1 H1 _ (g.f.trans l1) R1 ?_
      have fin : ∀ {kvs : List (Str × V)} {dvs : List (Str × D)}, Paired (fun (p : Str × V) (q : Str × D) => p.1 = q.1 ∧ ∀ F : Hp, Dp X.K F p.2 q.2) kvs dvs → Dp X.K F1 ((valV (kvs.map fun p => ((Sum.inr p.1 : Key), p.2)) (Sum.inr y)).getD vf) ((lookD dvs y).getD df) := fun {kvs dvs} hd => ?_
      · exact fin hd
      induction hd with
      | nil => exact hdf F1
      | @cons p e kvs dvs h t ih =>
        by_cases hz : p.1 = y
        · rw [List.map_cons, valV_pos (by simp [hz])]
          have : lookD (e :: dvs) y = some e.2 := by unfold lookD; rw [List.find?_cons, decide_eq_true (h.1.symm.trans hz)]; rfl
          rw [this]
          exact h.2 F1
        · rw [List.map_cons, valV_neg (by simp [hz])]
          have : lookD (e :: dvs) y = lookD dvs y := by unfold lookD; rw [List.find?_cons, decide_eq_false (fun w => hz (h.1.trans w))]
          rw [this]
          exact ih
    · cases h3
end
end Pu

namespace Pu
open PySem PySem.Spec PyProof.Rows L2

/-! ### calls with keywords -/
def perm {α : Type} (m n : Nat) (pi : List Nat) (us ws : List α) : List α := if us.length = m ∧ ws.length = n then pi.filterMap fun i => (us ++ ws)[i]? else []
theorem perm_vals {m n : Nat} {pi : List Nat} {vs zs : List V} {us ws : List Value} (r : Vals vs us) (q : Vals zs ws) : Vals (perm m n pi vs zs) (perm m n pi us ws) := by
  have h1 := r.length
  have h2 := q.length
  unfold perm
  rw [h1, h2]
  split
  · have e := r.append q
    induction pi with
    | nil => exact .nil
    | cons i pi ih =>
      rw [List.filterMap_cons, List.filterMap_cons]
      cases hx : (vs ++ zs)[i]? with
      | none =>
        rw [e.none_of hx]
        exact ih
      | some x =>
        obtain ⟨u, hu, hr⟩ := e.get hx
        rw [hu]
        exact .cons hr ih
  · exact .nil
theorem perm_dp {K : Fr} {F : Hp} {m n : Nat} {pi : List Nat} {vs zs : List V} {us ws : List D} (r : DpAll K F vs us) (q : DpAll K F zs ws) : DpAll K F (perm m n pi vs zs) (perm m n pi us ws) := by
  have h1 := dpa_len r
  have h2 := dpa_len q
  unfold perm
  rw [h1, h2]
  split
  · have e := dpa_app r q
    have he := dpa_len e
    induction pi with
    | nil => exact .nil
    | cons i pi ih =>
      rw [List.filterMap_cons, List.filterMap_cons]
      cases hx : (us ++ ws)[i]? with
      | none =>
        have : (vs ++ zs)[i]? = none := by
          rw [List.getElem?_eq_none_iff] at hx ⊢; omega
        rw [this]
        exact ih
      | some x =>
        obtain ⟨v, hv, hd⟩ := walkD_ex e hx
        rw [hv]
        exact .cons hd ih
  · exact .nil
where walkD_ex {K : Fr} {F : Hp} {xs : List V} {ds : List D} {j : Nat} {d : D} (h : DpAll K F xs ds) (e : ds[j]? = some d) : ∃ v, xs[j]? = some v ∧ Dp K F v d := dpa_ex h e
theorem kbinds {K : Fr} {x qual : Str} {st : Stmt} {f : Addr} {fd : FuncData} {ps ks : List Str} {m : Nat} {pi : List Nat} (F : Fun K x qual st f fd) (h0 : ps ≠ [])
    (h : ∀ (kV doc pm : Value) (an : Option Addr) (cdv ct : Value) (us ws : List Value), us.length = m → ws.length = ks.length →
      bindArgs (PySem.W.fnOf x qual (defArgs st) (defBody st) (defScope st) .none kV doc pm an cdv ct) ⟨us, ks.zip ws⟩ = pure (ps.zip (perm m ks.length pi us ws))) : KBinds K fd ps ks (perm m ks.length pi) (perm m ks.length pi) := by
  obtain ⟨oc, od, kV, doc, pm, an, cdv, ct, osl, rfl, lk, hcd⟩ := F.ex
  refine ⟨fun s us ws _ hl => ?_, fun r q => perm_vals r q⟩
  by_cases hlen : us.length = m ∧ ws.length = ks.length
  · exact .of_eq (h kV doc pm an cdv ct us ws hlen.1 hlen.2)
  · unfold perm at hl
    rw [if_neg hlen] at hl
    exact absurd (List.eq_nil_of_length_eq_zero hl.symm) h0
def cCallK (cf : CF) (m n : Nat) (pi : List Nat) (ca ck : CA) : CN := fun Γ => (ca Γ).bind fun p => (ck p.2).bind fun q => (cf ((perm m n pi p.1 q.1).map .fr)).bind fun r => some (r.1, q.2)
theorem callK_to {K : Fr} {cf : CF} {m n : Nat} {pi : List Nat} {ca ck : CA} {σ : L2.St} {H : Hp} {Q : VK} {E : XK} (h : tN K (cCallK cf m n pi ca ck) σ H Q) : tCallK (spP K cf) (perm m n pi) E (tA K ca) (tA K ck) σ H Q := by
  obtain ⟨C, F, Γ, r, Γ', R, hc, k⟩ := h
  unfold cCallK at hc
  simp only [Option.bind_eq_some_iff, Option.some.injEq, Prod.mk.injEq] at hc
  obtain ⟨⟨ds, Γ1⟩, h1, ⟨es, Γ2⟩, h2, ⟨r', Γf⟩, h3, rfl, rfl⟩ := hc
  refine ⟨C, F, Γ, ds, Γ1, R, h1, fun F1 H1 vs l1 R1 q1 => ⟨C, F1, Γ1, es, Γ2, R1, h2, fun F2 H2 zs l2 R2 q2 => ?_⟩⟩
  have q := perm_dp (m := m) (n := n) (pi := pi) (dpa_mono l2 q1) q2
  refine ⟨F2, _, r', Γf, h3, R2.sub, ⟨by rw [List.length_map]; exact dpa_len q, fun i v s e1 e2 => ?_, fun i j d e a b hij e1 e2 e3 e4 => ?_⟩, fun F' H' v b hr => ?_⟩
  · rw [List.getElem?_map] at e2
    cases hd : (perm m n pi ds es)[i]? with
    | none => rw [hd] at e2; simp at e2
    | some d => rw [hd] at e2; simp at e2; subst e2; exact dpa_at q e1 hd
  · rw [List.getElem?_map] at e1
    cases hd : (perm m n pi ds es)[i]? with
    | none => rw [hd] at e1; simp at e1
    | some d => rw [hd] at e1; simp at e1
  · have hb : backL Γ2 [] Γf = some Γ2 := by unfold backL; rfl
    have b' : Back K F2 H2 F' H' ([] ++ perm m n pi vs zs) ([] ++ (perm m n pi ds es).map .fr) Γf := b
    obtain ⟨R3, g⟩ := R2.called (ls := []) (las := []) (ws := []) (vs := perm m n pi vs zs) (ds := perm m n pi ds es) List.nodup_nil rfl rfl (fun k i e => by simp at e) q hb b' hr
    exact k F' H' v ((l1.trans l2).trans b.f) R3 g
section
variable {X : Cx} {e : Expr} {es : List Expr} {c ck : CA} {pos p : Pos} {x : Str} {kws : List Keyword} {ks : List Str}
theorem k_nil : PK X [] (tA X.K cNil) := ⟨fun pos pins s σ H Q I ⟨C, F, Γ, ds, Γ', R, hc, k⟩ => by
  cases hc
  exact pk_nil.run pos pins s σ H Q I (k F H [] (Le.refl _) R .nil)⟩
theorem PK.imp {t u : TA} (h : PK X kws t) (i : ∀ σ H Q, u σ H Q → t σ H Q) : PK X kws u := ⟨fun p pins s σ H Q I q => h.run p pins s σ H Q I (i _ _ _ q)⟩
theorem k_cons {c : CE} {r : CA} {nm : Option Str} {kpos : Pos} (ha : E X e c) (hr : PK X kws (tA X.K r)) : PK X (⟨nm, e, kpos⟩ :: kws) (tA X.K (cCons c r)) := PK.imp (pk_cons ha hr) fun _ H _ ⟨C, F, Γ, ds, Γ', R, hc, k⟩ => by
  unfold cCons at hc
  simp only [Option.bind_eq_some_iff, Option.some.injEq, Prod.mk.injEq] at hc
  obtain ⟨⟨d, Γ1⟩, h1, ⟨dr, Γ2⟩, h2, rfl, rfl⟩ := hc
  refine ⟨C, F, Γ, d, Γ1, R, h1, fun F1 H1 v l1 R1 q1 => ?_⟩
  refine ⟨C, F1, Γ1, dr, Γ2, R1, h2, fun F2 H2 vs l2 R2 q2 => ?_⟩
  exact k F2 H2 (v :: vs) (l1.trans l2) R2 (.cons (dp_mono l2 q1) q2)
theorem n_callK {k m n : Nat} {pi : List Nat} {f : Addr} {fd : FuncData} {ps : List Str} {cf : CF} (Fk : FnOk X.prog X.w X.K X.mg X.base CX0 k f fd ps (spP X.K cf)) (hr : Room k X.A) (hg : Gl X x) (hm : X.mg x = some (.ref f)) (hk : PySem.W.keepIn X.K (.ref f) = true) (hb : KBinds X.K fd ps ks (perm m n pi) (perm m n pi))
    (ha : Ar X (e :: es) c) (hkw : PK X kws (tA X.K ck)) (hall : (backToKw pos (keywordEach kws X.env)).all (·.1.isSome) = true := by rfl) (hks : (backToKw pos (keywordEach kws X.env)).filterMap (·.1) = ks := by rfl)
    (hdb : (x == ("__debug__" : Str)) = false := by decide) (he : starEach (e :: es) X.env = (false, eval e X.env) :: starEach es X.env := by rfl)
    (hpl : ((backTo pos (starEach (e :: es) X.env)).any (·.1) || (backToKw pos (keywordEach kws X.env)).any (·.1.isNone)) = false := by rfl) : N X (.Call (.Name x p) (e :: es) kws pos) (cCallK cf m n pi c ck) :=
  PE.imp (pe_callK Fk hr hg hm hk hb pass0 ha hkw hall hks hdb he hpl) fun _ _ _ h => callK_to h
theorem n_callK0 {k n : Nat} {pi : List Nat} {f : Addr} {fd : FuncData} {ps : List Str} {cf : CF} (Fk : FnOk X.prog X.w X.K X.mg X.base CX0 k f fd ps (spP X.K cf)) (hr : Room k X.A) (hg : Gl X x) (hm : X.mg x = some (.ref f)) (hk : PySem.W.keepIn X.K (.ref f) = true) (hb : KBinds X.K fd ps ks (perm 0 n pi) (perm 0 n pi))
    (hkw : PK X kws (tA X.K ck)) (hall : (backToKw pos (keywordEach kws X.env)).all (·.1.isSome) = true := by rfl) (hks : (backToKw pos (keywordEach kws X.env)).filterMap (·.1) = ks := by rfl)
    (hdb : (x == ("__debug__" : Str)) = false := by decide) (hpl : ((backTo pos (starEach [] X.env)).any (·.1) || (backToKw pos (keywordEach kws X.env)).any (·.1.isNone)) = false := by rfl) : N X (.Call (.Name x p) [] kws pos) (cCallK cf 0 n pi cNil ck) :=
  ⟨fun pins s σ H Q I h => by
    obtain ⟨C, F, Γ, ds, Γ', R, hc, kk⟩ := callK_to (E := E0) h
    cases hc
    refine wpAny_Call_Name_kw (ld_glob I hg hm ?_ hdb)
    refine PySem.W.callWith_KW0 (h₀ := X.base) I.ok.mod.kin hk hall ?_ hpl
    refine thn (hkw.run pos pins s σ H _ I (kk F H [] (Le.refl _) R .nil)) fun ws s2 ⟨zs, H2, I2, rz, q2⟩ => ⟨I2.kIn, ?_⟩
    rw [hks]
    exact run_fnk (us := []) (vs := []) Fk hr hb pass0 I2 .nil rz q2⟩
end

/-! ### chains of two comparisons -/
def cChain (f g : D → D → Option D) (a b c : Od) : CE := fun Γ => (a.run Γ).bind fun p => (b.run p.2).bind fun q => (a.fin p.1 q.2).bind fun x => (b.fin q.1 q.2).bind fun y => (f x y).bind fun z => (toB z).bind fun k =>
  if k = true then (c.run q.2).bind fun r => (b.fin q.1 r.2).bind fun y2 => (c.fin r.1 r.2).bind fun w => (g y2 w).bind fun u => some (u, r.2) else some (.bool false, q.2)
theorem chain_to {K : Fr} {f g : D → D → Option D} {oa ob oc : Od} {σ : L2.St} {H : Hp} {Q : VK} (h : tE K (cChain f g oa ob oc) σ H Q) : tChain (rD2 K f) (rD2 K g) (tO K oa) (tO K ob) (tO K oc) σ H Q := by
  obtain ⟨C, F, Γ, d, Γ', R, hc, k⟩ := h
  unfold cChain at hc
  simp only [Option.bind_eq_some_iff] at hc
  obtain ⟨⟨da, Γ1⟩, h1, ⟨db, Γ2⟩, h2, x, hx, y, hy, z, hz, b, hb, hc⟩ := hc
  have eb := toB_some hb
  subst eb
  refine ⟨C, F, Γ, da, Γ1, R, h1, fun F1 H1 v l1 R1 lk1 => ⟨C, F1, Γ1, db, Γ2, R1, h2, fun F2 H2 u l2 R2 lk2 => ?_⟩⟩
  refine ⟨F2, x, y, _, R2.sub, lk1 F2 H2 Γ2 x l2 R2 hx, lk2 F2 H2 Γ2 y (Le.refl _) R2 hy, hz, fun F3 H3 w g3 q => ?_⟩
  have ew := dp_bool q
  refine ⟨b, ew, ?_⟩
  have R3 := R2.grow g3
  cases b with
  | false =>
    rw [if_neg Bool.false_ne_true] at hc
    cases hc
    subst ew
    refine iteF ?_
    exact k F3 H3 _ ((l1.trans l2).trans g3.f) R3 (.bl false)
  | true =>
    rw [if_pos rfl] at hc
    simp only [Option.bind_eq_some_iff, Option.some.injEq, Prod.mk.injEq] at hc
    obtain ⟨⟨dc, Γ3⟩, h3, y2, hy2, w2, hw2, u2, hu2, rfl, rfl⟩ := hc
    refine iteT ?_
    refine ⟨C, F3, Γ2, dc, Γ3, R3, h3, fun F4 H4 t l4 R4 lk4 => ?_⟩
    exact ⟨F4, y2, w2, u2, R4.sub, lk2 F4 H4 Γ3 y2 (g3.f.trans l4) R4 hy2, lk4 F4 H4 Γ3 w2 (Le.refl _) R4 hw2, hu2, fun F5 H5 t2 g5 q5 => k F5 H5 t2 (((l1.trans l2).trans g3.f).trans (l4.trans g5.f)) (R4.grow g5) q5⟩
section
variable {X : Cx} {a b c : Expr} {oa ob oc : Od} {pos : Pos} {op op' : CmpOp} {f g : D → D → Option D}
theorem e_chain (ho : OpR X (compareOp op) (rD2 X.K f)) (ho' : OpR X (compareOp op') (rD2 X.K g)) (ha : O X a oa) (hb : O X b ob) (hc : O X c oc) (hm : lastMarks [op, op'] [b, c] = false := by rfl) : E X (.Compare a [op, op'] [b, c] pos) (cChain f g oa ob oc) :=
  PE.imp (pe_chain ho ho' ha hb hc hm) fun _ _ _ h => chain_to h
theorem t_chain (ho : OpR X (compareOp op) (rD2 X.K f)) (ho' : OpR X (compareOp op') (rD2 X.K g)) (ha : O X a oa) (hb : O X b ob) (hc : O X c oc) (hm : lastMarks [op, op'] [b, c] = false := by rfl) : T X (.Compare a [op, op'] [b, c] pos) (cB (cChain f g oa ob oc)) :=
  PT.imp (pt_chain ho ho' ha hb hc hm) fun _ _ _ h => by
    have q := tB_to h
    exact chain_to q
end
theorem room65 {k : Nat} {A : Around} (r : Room k A) : A.units + 65 < cLine := by have := r.un; omega
theorem room1 {k : Nat} {A : Around} (r : Room k A) : A.units + 1 < cLine := by have := r.un; omega
section
variable {X : Cx} {pos : Pos}
def cPar3 (i j l : Nat) (c : CA) : CS := fun Γ => (c Γ).bind fun p => match p.1 with
  | [a, b, d] => (put p.2 i (.fr a)).bind fun Γ1 => (put Γ1 j (.fr b)).bind fun Γ2 => (put Γ2 l (.fr d)).bind fun Γ3 => some (.nx, Γ3)
  | _ => none
theorem par3_to {K : Fr} {c : CA} {i j l : Nat} {De : Ends} {σ : L2.St} {H : Hp} (h : tS K (cPar3 i j l c) De σ H) : tPar3 i j l (tA K c) De σ H := by
  obtain ⟨C, F, Γ, fl, Γ', R, hc, k⟩ := h
  unfold cPar3 at hc
  simp only [Option.bind_eq_some_iff] at hc
  obtain ⟨⟨ds, Γ1⟩, h1, hc⟩ := hc
  refine ⟨C, F, Γ, ds, Γ1, R, h1, fun F' H' vs le R' q => ?_⟩
  split at hc
  · rename_i a b d e
    simp only at e
    subst e
    simp only [Option.bind_eq_some_iff, Option.some.injEq, Prod.mk.injEq] at hc
    obtain ⟨Γ2, h2, Γ3, h3, Γ4, h4, rfl, rfl⟩ := hc
    cases q with
    | @cons v vs _ _ q1 q2 =>
      cases q2 with
      | @cons w ws _ _ q3 q4 =>
        cases q4 with
        | @cons u us _ _ q5 q6 =>
          cases q6
          exact ⟨v, w, u, rfl, k F' H' _ le (asg_name (asg_name (asg_name R' q1 h2) q3 h3) q5 h4)⟩
  · cases hc
end
section
variable {X : Cx} {pos : Pos}
theorem s_par3 {ca : CA} {i j l : Nat} {x y z : Str} {a b c : Expr} {px py pz pt : Pos} {kt k2 pt2} (hc : X.calm = true) (hN : X.N.Nodup) (hi : X.N[i]? = some x) (hj : X.N[j]? = some y) (hl : X.N[l]? = some z) (hij : i ≠ j) (hil : i ≠ l) (hjl : j ≠ l)
    (hx : X.env.scope.names.lookup x = some .local) (hy : X.env.scope.names.lookup y = some .local) (hz : X.env.scope.names.lookup z = some .local) (ha : Ar X [a, b, c] ca)
    (hw : swappedStores [.Tuple [.Name x px, .Name y py, .Name z pz] kt pt] (.Tuple [a, b, c] k2 pt2) X.env = pure (some [x, y, z]))
    (hs : swapsWithSole [.Tuple [.Name x px, .Name y py, .Name z pz] kt pt] (.Tuple [a, b, c] k2 pt2) pos.line X.env = pure false := by rfl) :
    S X (.Assign [.Tuple [.Name x px, .Name y py, .Name z pz] kt pt] (.Tuple [a, b, c] k2 pt2) pos) (cPar3 i j l ca) :=
  PS.imp (ps_par3 hc hN hi hj hl hij hil hjl hx hy hz ha hw hs) fun _ _ _ h => par3_to h
end
theorem ok_none {P : Program} {w : World} {K : Fr} {mg : Str → Option Value} {base : Heap} {k : Nat} {f : Addr} {fd : FuncData} {ps : List Str} : FnOk P w K mg base CX0 k f fd ps (spP K fun _ => none) :=
  ⟨fun vs H Q E h => (by obtain ⟨_, _, _, _, hc, _⟩ := h; cases hc), fun A outer s H args us vs Q E _ _ _ _ h => (by obtain ⟨_, _, _, _, hc, _⟩ := h; cases hc)⟩
theorem isStr_dec (x z : Str) (t : Tok) : (Value.str x t).isStr z = decide (x = z) := by
  show (x == z) = decide (x = z)
  by_cases h : x = z
  · subst h; simp
  · rw [decide_eq_false h]; simpa using h
theorem ints_dp {K : Fr} {F : Hp} : ∀ ns : List Int, DpAll K F (ns.map V.int) (ns.map fun n => PyData.int n)
  | [] => .nil
  | n :: ns => .cons (.int n) (ints_dp ns)
/-- a law that comes to True keeps the row's promise -/
theorem law_end {K : Fr} {H : Hp} {a : Addr} {ns : List Int} {cf : CF} (hS : SqL K H a (ns.map V.int)) (h : ∃ Γf, cf [.fr (.list (ns.map fun n => PyData.int n))] = some (.fr (.bool true), Γf)) :
    spP K cf [.ref a] H (fun v _ => v = .bl true) fun _ _ _ => False := by
  obtain ⟨Γf, h⟩ := h
  refine ⟨H, _, _, Γf, h, Le.refl _, ⟨rfl, fun i v s e1 e2 => ?_, fun i j d e b c hij e1 e2 e3 e4 => ?_⟩, fun F' H' v b r => dp_bool r⟩
  · cases i with
    | zero => cases e1; cases e2; exact .lst hS (ints_dp ns)
    | succ i => cases e1
  · cases i with
    | zero => cases e1
    | succ i => cases e1
end Pu

namespace W83
open PySem PySem.Spec PyProof.Rows L2 Pu
def topS (i : Nat) : Stmt := PySem.Challenge.pw_wholesayings_k83_whole_values_that_are_s.main.body.getD i (.Pass ⟨0, 0, 0, 0⟩)
abbrev s_is_integer : Stmt := topS 4
abbrev N_is_integer : List Str := ["value"]
theorem sc_is_integer : FnScope N_is_integer ["value"] (defScope s_is_integer) := ⟨rfl, rfl, rfl, by decide +kernel, rfl, by decide +kernel, by decide +kernel⟩
abbrev s_are_integers : Stmt := topS 5
abbrev N_are_integers : List Str := ["value", "a"]
theorem sc_are_integers : FnScope N_are_integers ["value"] (defScope s_are_integers) := ⟨rfl, rfl, rfl, by decide +kernel, rfl, by decide +kernel, by decide +kernel⟩
abbrev s_are_sides : Stmt := topS 11
abbrev N_are_sides : List Str := ["d", "told"]
theorem sc_are_sides : FnScope N_are_sides ["d", "told"] (defScope s_are_sides) := ⟨rfl, rfl, rfl, by decide +kernel, rfl, by decide +kernel, by decide +kernel⟩
abbrev s_is_said : Stmt := topS 9
abbrev N_is_said : List Str := ["d", "told", "part"]
theorem sc_is_said : FnScope N_is_said ["d", "told"] (defScope s_is_said) := ⟨rfl, rfl, rfl, by decide +kernel, rfl, by decide +kernel, by decide +kernel⟩
abbrev s_check_unknowns : Stmt := topS 12
abbrev N_check_unknowns : List Str := ["d"]
theorem sc_check_unknowns : FnScope N_check_unknowns ["d"] (defScope s_check_unknowns) := ⟨rfl, rfl, rfl, by decide +kernel, rfl, by decide +kernel, by decide +kernel⟩
abbrev s_is_saying : Stmt := topS 14
abbrev N_is_saying : List Str := ["d", "told"]
theorem sc_is_saying : FnScope N_is_saying ["d", "told"] (defScope s_is_saying) := ⟨rfl, rfl, rfl, by decide +kernel, rfl, by decide +kernel, by decide +kernel⟩
abbrev s_check_unknowns_18 : Stmt := topS 18
abbrev N_check_unknowns_18 : List Str := ["d"]
theorem sc_check_unknowns_18 : FnScope N_check_unknowns_18 ["d"] (defScope s_check_unknowns_18) := ⟨rfl, rfl, rfl, by decide +kernel, rfl, by decide +kernel, by decide +kernel⟩
abbrev s_is_said_20 : Stmt := topS 20
abbrev N_is_said_20 : List Str := ["d", "told"]
theorem sc_is_said_20 : FnScope N_is_said_20 ["d", "told"] (defScope s_is_said_20) := ⟨rfl, rfl, rfl, by decide +kernel, rfl, by decide +kernel, by decide +kernel⟩
abbrev s_is_open : Stmt := topS 22
abbrev N_is_open : List Str := ["d", "told"]
theorem sc_is_open : FnScope N_is_open ["d", "told"] (defScope s_is_open) := ⟨rfl, rfl, rfl, by decide +kernel, rfl, by decide +kernel, by decide +kernel⟩
abbrev s_is_headed : Stmt := topS 23
abbrev N_is_headed : List Str := ["told"]
theorem sc_is_headed : FnScope N_is_headed ["told"] (defScope s_is_headed) := ⟨rfl, rfl, rfl, by decide +kernel, rfl, by decide +kernel, by decide +kernel⟩
abbrev s_is_half_open : Stmt := topS 24
abbrev N_is_half_open : List Str := ["told"]
theorem sc_is_half_open : FnScope N_is_half_open ["told"] (defScope s_is_half_open) := ⟨rfl, rfl, rfl, by decide +kernel, rfl, by decide +kernel, by decide +kernel⟩
abbrev s_is_closed : Stmt := topS 25
abbrev N_is_closed : List Str := ["told"]
theorem sc_is_closed : FnScope N_is_closed ["told"] (defScope s_is_closed) := ⟨rfl, rfl, rfl, by decide +kernel, rfl, by decide +kernel, by decide +kernel⟩
abbrev s__law_pot : Stmt := topS 27
abbrev N__law_pot : List Str := ["script"]
theorem sc__law_pot : FnScope N__law_pot ["script"] (defScope s__law_pot) := ⟨rfl, rfl, rfl, by decide +kernel, rfl, by decide +kernel, by decide +kernel⟩
abbrev s__law_take : Stmt := topS 28
abbrev N__law_take : List Str := ["pot", "many", "cell", "mixed", "digit"]
theorem sc__law_take : FnScope N__law_take ["pot", "many"] (defScope s__law_take) := ⟨rfl, rfl, rfl, by decide +kernel, rfl, by decide +kernel, by decide +kernel⟩
abbrev s__law_same : Stmt := topS 29
abbrev N__law_same : List Str := ["got", "due", "k"]
theorem sc__law_same : FnScope N__law_same ["got", "due"] (defScope s__law_same) := ⟨rfl, rfl, rfl, by decide +kernel, rfl, by decide +kernel, by decide +kernel⟩
abbrev s__law_small_saying : Stmt := topS 30
abbrev N__law_small_saying : List Str := ["pot", "d", "parts", "first", "own", "sides", "way", "m", "unknown"]
theorem sc__law_small_saying : FnScope N__law_small_saying ["pot", "d", "parts"] (defScope s__law_small_saying) := ⟨rfl, rfl, rfl, by decide +kernel, rfl, by decide +kernel, by decide +kernel⟩
abbrev s__law_mutant : Stmt := topS 31
abbrev N__law_mutant : List Str := ["pot", "value", "deep", "odd", "spot", "way"]
theorem sc__law_mutant : FnScope N__law_mutant ["pot", "value", "deep"] (defScope s__law_mutant) := ⟨rfl, rfl, rfl, by decide +kernel, rfl, by decide +kernel, by decide +kernel⟩
abbrev s__law_integer : Stmt := topS 32
abbrev N__law_integer : List Str := ["told"]
theorem sc__law_integer : FnScope N__law_integer ["told"] (defScope s__law_integer) := ⟨rfl, rfl, rfl, by decide +kernel, rfl, by decide +kernel, by decide +kernel⟩
abbrev s__law_row_of_integers : Stmt := topS 33
abbrev N__law_row_of_integers : List Str := ["told", "many", "own"]
theorem sc__law_row_of_integers : FnScope N__law_row_of_integers ["told", "many"] (defScope s__law_row_of_integers) := ⟨rfl, rfl, rfl, by decide +kernel, rfl, by decide +kernel, by decide +kernel⟩
abbrev s__law_is_said : Stmt := topS 34
abbrev N__law_is_said : List Str := ["d", "told", "whole", "many", "own"]
theorem sc__law_is_said : FnScope N__law_is_said ["d", "told", "whole"] (defScope s__law_is_said) := ⟨rfl, rfl, rfl, by decide +kernel, rfl, by decide +kernel, by decide +kernel⟩
abbrev s__law_is_each : Stmt := topS 35
abbrev N__law_is_each : List Str := ["told"]
theorem sc__law_is_each : FnScope N__law_is_each ["told"] (defScope s__law_is_each) := ⟨rfl, rfl, rfl, by decide +kernel, rfl, by decide +kernel, by decide +kernel⟩
abbrev s__law_is_half : Stmt := topS 36
abbrev N__law_is_half : List Str := ["told"]
theorem sc__law_is_half : FnScope N__law_is_half ["told"] (defScope s__law_is_half) := ⟨rfl, rfl, rfl, by decide +kernel, rfl, by decide +kernel, by decide +kernel⟩
abbrev s__law_is_closed : Stmt := topS 37
abbrev N__law_is_closed : List Str := ["told"]
theorem sc__law_is_closed : FnScope N__law_is_closed ["told"] (defScope s__law_is_closed) := ⟨rfl, rfl, rfl, by decide +kernel, rfl, by decide +kernel, by decide +kernel⟩
abbrev s__law_kinds : Stmt := topS 38
abbrev N__law_kinds : List Str := ["told", "d"]
theorem sc__law_kinds : FnScope N__law_kinds ["told"] (defScope s__law_kinds) := ⟨rfl, rfl, rfl, by decide +kernel, rfl, by decide +kernel, by decide +kernel⟩
abbrev s__law_told : Stmt := topS 39
abbrev N__law_told : List Str := ["value"]
theorem sc__law_told : FnScope N__law_told ["value"] (defScope s__law_told) := ⟨rfl, rfl, rfl, by decide +kernel, rfl, by decide +kernel, by decide +kernel⟩
abbrev s__law_plain : Stmt := topS 40
abbrev N__law_plain : List Str := ["pot", "d", "deep", "way", "unknown"]
theorem sc__law_plain : FnScope N__law_plain ["pot", "d", "deep"] (defScope s__law_plain) := ⟨rfl, rfl, rfl, by decide +kernel, rfl, by decide +kernel, by decide +kernel⟩
abbrev s__law_near : Stmt := topS 41
abbrev N__law_near : List Str := ["pot", "value", "turn"]
theorem sc__law_near : FnScope N__law_near ["pot", "value"] (defScope s__law_near) := ⟨rfl, rfl, rfl, by decide +kernel, rfl, by decide +kernel, by decide +kernel⟩
abbrev s_law : Stmt := topS 42
abbrev N_law : List Str := ["script", "pot", "turn", "i", "d", "two", "single", "half", "closed", "plain", "m", "ends", "some", "value", "again"]
theorem sc_law : FnScope N_law ["script"] (defScope s_law) := ⟨rfl, rfl, rfl, by decide +kernel, rfl, by decide +kernel, by decide +kernel⟩
abbrev k_MADE_OF : List (Str × D) := [("not", (.int 1)), ("both", (.int 2)), ("either", (.int 2))]
abbrev k_WORDS : List (Str × D) := [("less", (.int (-1))), ("is", (.int 0)), ("more", (.int 1))]
abbrev g_BY_WALLS : D := (.tuple [(.str "less"), (.str "is"), (.str "more")])
abbrev g_EACH : D := (.tuple [(.str "some"), (.str "every")])
def c_is_integer : CF := cFun 1 1
    (cRet (asN (cAndV (cIsi (.v 0) "int") (cNotV (cIsi (.v 0) "bool")))))
def c_are_integers : CF := cFun 2 1
    (cRet (asN (cAndV (cIsi (.v 0) "tuple") (cCb fAll [(.e (frz (cLc [1] (cIt (cVar 0)) (gN 1) cYes (frz (cCall c_is_integer [] (cCons (cVar 1) cNil))))))]))))
def c_are_sides : CF := cFun 2 2
    (cRet (asN (cAndV (frz (cCall c_are_integers [] (cCons (cVar 1) cNil))) (cOp (dEq false) (.e (cCb fLen [(.v 1)])) (.v 0)))))
def cr_is_said (cr : CF) : CF := cFun 3 2
    (cSeq (cIfS (cOr (cNot (cB (cIsi (.v 1) "tuple"))) (cOr (cB (cOp (dEq false) (.e (cCb fLen [(.v 1)])) (.e (cC (.int 0))))) (cNot (cB (cIsi (.e (cOp dIx (.v 1) (.e (cC (.int 0))))) "str"))))) (cRet (asN (cC (.bool false)))) cNext)
    (cSeq (cIfS (cB (cUn (fHasK k_WORDS false) (.e (cOp dIx (.v 1) (.e (cC (.int 0))))))) (cRet (asN (cAndV (cOp (dEq false) (.e (cCb fLen [(.v 1)])) (.e (cC (.int 3)))) (cAndV (frz (cCall c_are_sides [] (cCons (cVar 0) (cCons (cOp dIx (.v 1) (.e (cC (.int 1)))) cNil)))) (frz (cCall c_is_integer [] (cCons (cOp dIx (.v 1) (.e (cC (.int 2)))) cNil))))))) cNext)
    (cSeq (cIfS (cOr (cB (cUn (fHasK k_MADE_OF true) (.e (cOp dIx (.v 1) (.e (cC (.int 0))))))) (cB (cOp (dEq true) (.e (cOp dSub (.e (cCb fLen [(.v 1)])) (.e (cC (.int 1))))) (.e (cUn (fGetK k_MADE_OF) (.e (cOp dIx (.v 1) (.e (cC (.int 0)))))))))) (cRet (asN (cC (.bool false)))) cNext)
    (cRet (asN (cCb fAll [(.e (frz (cLc [2] (cIt (cSlT (.v 1) (cSomeI (cC (.int 1))) cNoI)) (gN 2) cYes (frz (cCall cr [] (cCons (cVar 0) (cCons (cVar 2) cNil)))))))]))))))
def ci_is_said : Nat → CF
  | 0 => fun _ => none
  | n + 1 => cr_is_said (ci_is_said n)
def c_is_said : CF := ci_is_said 60
def c_check_unknowns : CF := cFun 1 1
    (cIfS (cOr (cNot (cB (frz (cCall c_is_integer [] (cCons (cVar 0) cNil))))) (cB (cOp dLt (.v 0) (.e (cC (.int 1)))))) cNever cNext)
def c_is_saying : CF := cFun 2 2
    (cSeq (cDrop (frz (cCall c_check_unknowns [] (cCons (cVar 0) cNil))))
    (cRet (cCall c_is_said [] (cCons (cVar 0) (cCons (cVar 1) cNil)))))
def c_check_unknowns_18 : CF := cFun 1 1
    (cIfS (cOr (cNot (cB (frz (cCall c_is_integer [] (cCons (cVar 0) cNil))))) (cB (cOp (dIn true) (.v 0) (.e (cTup (cCons (cC (.int 1)) (cCons (cC (.int 2)) cNil))))))) cNever cNext)
def cr_is_said_20 (cr : CF) : CF := cFun 2 2
    (cSeq (cIfS (cOr (cNot (cB (cIsi (.v 1) "tuple"))) (cOr (cB (cOp (dEq false) (.e (cCb fLen [(.v 1)])) (.e (cC (.int 0))))) (cNot (cB (cIsi (.e (cOp dIx (.v 1) (.e (cC (.int 0))))) "str"))))) (cRet (asN (cC (.bool false)))) cNext)
    (cSeq (cIfS (cB (cOp (dIn false) (.e (cOp dIx (.v 1) (.e (cC (.int 0))))) (.e (cC g_BY_WALLS)))) (cRet (asN (cAndV (cOp (dEq false) (.e (cCb fLen [(.v 1)])) (.e (cC (.int 3)))) (cAndV (frz (cCall c_are_integers [] (cCons (cOp dIx (.v 1) (.e (cC (.int 1)))) cNil))) (cAndV (cOp (dEq false) (.e (cCb fLen [(.e (cOp dIx (.v 1) (.e (cC (.int 1)))))])) (.v 0)) (frz (cCall c_is_integer [] (cCons (cOp dIx (.v 1) (.e (cC (.int 2)))) cNil)))))))) cNext)
    (cSeq (cIfS (cB (cOp (dEq false) (.e (cOp dIx (.v 1) (.e (cC (.int 0))))) (.e (cC (.str "leaves"))))) (cSeq (cIfS (cOr (cB (cOp (dEq true) (.e (cCb fLen [(.v 1)])) (.e (cC (.int 4))))) (cOr (cNot (cB (frz (cCall c_are_integers [] (cCons (cOp dIx (.v 1) (.e (cC (.int 1)))) cNil))))) (cOr (cB (cOp (dEq true) (.e (cCb fLen [(.e (cOp dIx (.v 1) (.e (cC (.int 1)))))])) (.v 0))) (cNot (cB (frz (cCall c_are_integers [] (cCons (cSlT (.v 1) (cSomeI (cC (.int 2))) cNoI) cNil)))))))) (cRet (asN (cC (.bool false)))) cNext)
    (cRet (asN (cChain dLe dLt (.e (cC (.int 0))) (.e (cOp dIx (.v 1) (.e (cC (.int 3))))) (.e (cOp dIx (.v 1) (.e (cC (.int 2))))))))) cNext)
    (cSeq (cIfS (cB (cOp (dEq false) (.e (cOp dIx (.v 1) (.e (cC (.int 0))))) (.e (cC (.str "not"))))) (cRet (asN (cAndV (cOp (dEq false) (.e (cCb fLen [(.v 1)])) (.e (cC (.int 2)))) (frz (cCall cr [] (cCons (cVar 0) (cCons (cOp dIx (.v 1) (.e (cC (.int 1)))) cNil))))))) cNext)
    (cRet (asN (cAndV (cOp (dIn false) (.e (cOp dIx (.v 1) (.e (cC (.int 0))))) (.e (cTup (cCons (cC (.str "both")) (cCons (cC (.str "either")) cNil))))) (cAndV (cOp (dEq false) (.e (cCb fLen [(.v 1)])) (.e (cC (.int 3)))) (cAndV (frz (cCall cr [] (cCons (cVar 0) (cCons (cOp dIx (.v 1) (.e (cC (.int 1)))) cNil)))) (frz (cCall cr [] (cCons (cVar 0) (cCons (cOp dIx (.v 1) (.e (cC (.int 2)))) cNil)))))))))))))
def ci_is_said_20 : Nat → CF
  | 0 => fun _ => none
  | n + 1 => cr_is_said_20 (ci_is_said_20 n)
def c_is_said_20 : CF := ci_is_said_20 60
def c_is_open : CF := cFun 2 2
    (cSeq (cDrop (frz (cCall c_check_unknowns_18 [] (cCons (cVar 0) cNil))))
    (cRet (cCall c_is_said_20 [] (cCons (cVar 0) (cCons (cVar 1) cNil)))))
def c_is_headed : CF := cFun 1 1
    (cSeq (cIfS (cOr (cNot (cB (cIsi (.v 0) "tuple"))) (cOr (cB (cOp (dEq true) (.e (cCb fLen [(.v 0)])) (.e (cC (.int 3))))) (cOr (cNot (cB (cIsi (.e (cOp dIx (.v 0) (.e (cC (.int 0))))) "str"))) (cNot (cB (frz (cCall c_is_integer [] (cCons (cOp dIx (.v 0) (.e (cC (.int 1)))) cNil)))))))) (cRet (asN (cC (.bool false)))) cNext)
    (cRet (asN (cAndV (cOp (dIn false) (.e (cOp dIx (.v 0) (.e (cC (.int 0))))) (.e (cC g_EACH))) (cOp (dIn false) (.e (cOp dIx (.v 0) (.e (cC (.int 1))))) (.e (cTup (cCons (cC (.int 0)) (cCons (cC (.int 1)) cNil)))))))))
def c_is_half_open : CF := cFun 1 1
    (cRet (asN (cAndV (frz (cCall c_is_headed [] (cCons (cVar 0) cNil))) (frz (cCall c_is_said_20 [] (cCons (cC (.int 2)) (cCons (cOp dIx (.v 0) (.e (cC (.int 2)))) cNil)))))))
def c_is_closed : CF := cFun 1 1
    (cRet (asN (cAndV (frz (cCall c_is_headed [] (cCons (cVar 0) cNil))) (cAndV (frz (cCall c_is_half_open [] (cCons (cOp dIx (.v 0) (.e (cC (.int 2)))) cNil))) (cOp (dEq false) (.e (cOp dIx (.e (cOp dIx (.v 0) (.e (cC (.int 2))))) (.e (cC (.int 1))))) (.e (cOp dSub (.e (cC (.int 1))) (.e (cOp dIx (.v 0) (.e (cC (.int 1))))))))))))
def c__law_pot : CF := cFun 1 1
    (cRet (cCat (.e (frz (cLst (cCons (cC (.int 0)) (cCons (cC (.int 5801)) (cCons (cC (.int 3)) cNil)))))) (.e (frz (cCbN fList [(.v 0)])))))
def c__law_take : CF := cFun 5 2
    (cSeq (cIfS (cAnd (cB (cOp (dEq false) (.e (cOp dIx (.v 0) (.e (cC (.int 0))))) (.e (cC (.int 0))))) (cB (cOp dLt (.e (cOp dIx (.v 0) (.e (cC (.int 2))))) (.e (cCb fLen [(.v 0)]))))) (cSeq (cSet 2 (cOp dIx (.v 0) (.e (cOp dIx (.v 0) (.e (cC (.int 2)))))))
    (cSeq (cAugI 0 (cC (.int 2)) dAddI (cC (.int 1)))
    (cIfS (cB (cOp dGe (.v 2) (.e (cOp dPow (.e (cC (.int 10))) (.e (cC (.int 18))))))) (cPutI 0 (cC (.int 0)) (cOp dSub (.v 2) (.e (cOp dPow (.e (cC (.int 10))) (.e (cC (.int 18))))))) (cSeq (cSet 3 (cOp dMod (.e (cCb fInt [(.v 2)])) (.e (cC (.int 2147483647)))))
    (cSeq (cSet 3 (cOp dMod (.e (cCb fInt [(.e (cOp dAdd (.e (cOp dAdd (.e (cOp dMul (.v 3) (.v 3))) (.e (cOp dMul (.e (cC (.int 48271))) (.v 3))))) (.e (cOp dMul (.e (cC (.int 613))) (.e (cOp dIx (.v 0) (.e (cC (.int 2)))))))))])) (.e (cC (.int 2147483629)))))
    (cPutI 0 (cC (.int 1)) (cOp dMod (.e (cCb fInt [(.e (cOp dAdd (.e (cOp dIx (.v 0) (.e (cC (.int 1))))) (.v 3)))])) (.e (cC (.int 2147483629)))))))))) cNext)
    (cSeq (cIfS (cB (cOp dGt (.e (cOp dIx (.v 0) (.e (cC (.int 0))))) (.e (cC (.int 0))))) (cSeq (cSet 4 (cOp dMod (.e (cCb fInt [(.e (cOp dIx (.v 0) (.e (cC (.int 0)))))])) (.v 1)))
    (cSeq (cPutI 0 (cC (.int 0)) (cOp dFdiv (.e (cOp dIx (.v 0) (.e (cC (.int 0))))) (.v 1)))
    (cRet (asN (cVar 4))))) cNext)
    (cSeq (cPutI 0 (cC (.int 1)) (cOp dMod (.e (cCb fInt [(.e (cOp dAdd (.e (cOp dAdd (.e (cOp dMul (.e (cOp dIx (.v 0) (.e (cC (.int 1))))) (.e (cC (.int 69621))))) (.e (cOp dMul (.e (cC (.int 30323))) (.e (cOp dIx (.v 0) (.e (cC (.int 2))))))))) (.e (cC (.int 19)))))])) (.e (cC (.int 2147483647)))))
    (cSeq (cPutI 0 (cC (.int 1)) (cOp dMod (.e (cCb fInt [(.e (cOp dAdd (.e (cOp dMul (.e (cOp dIx (.v 0) (.e (cC (.int 1))))) (.e (cOp dIx (.v 0) (.e (cC (.int 1))))))) (.e (cC (.int 5)))))])) (.e (cC (.int 2147483629)))))
    (cRet (asN (cOp dMod (.e (cCb fInt [(.e (cOp dFdiv (.e (cOp dIx (.v 0) (.e (cC (.int 1))))) (.e (cC (.int 16)))))])) (.v 1))))))))
def cr__law_same (cr : CF) : CF := cFun 3 2
    (cSeq (cIfS (cB (cOp (dIsNone false) (.v 1) (.e (cC .none)))) (cRet (asN (cOp (dIsNone false) (.v 0) (.e (cC .none))))) cNext)
    (cSeq (cIfS (cB (cIsiT (.v 1) ["bool", "str"])) (cRet (asN (cAndV (cOp (dEq false) (.e (cIsi (.v 0) "bool")) (.e (cIsi (.v 1) "bool"))) (cAndV (cIsiT (.v 0) ["bool", "str"]) (cOp (dEq false) (.v 0) (.v 1)))))) cNext)
    (cSeq (cIfS (cB (cIsi (.v 1) "int")) (cRet (asN (cAndV (cIsi (.v 0) "int") (cAndV (cNotV (cIsi (.v 0) "bool")) (cOp (dEq false) (.v 0) (.v 1)))))) cNext)
    (cSeq (cIfS (cOr (cB (cOp (dEq true) (.e (cIsi (.v 1) "list")) (.e (cIsi (.v 0) "list")))) (cB (cOp (dEq true) (.e (cIsi (.v 1) "tuple")) (.e (cIsi (.v 0) "tuple"))))) (cRet (asN (cC (.bool false)))) cNext)
    (cRet (asN (cAndV (cOp (dEq false) (.e (cCb fLen [(.v 0)])) (.e (cCb fLen [(.v 1)]))) (cCb fAll [(.e (frz (cLc [2] (cRng1 (cCons (cCb fLen [(.v 1)]) cNil)) (gN 2) cYes (frz (cCall cr [] (cCons (cOp dIx (.v 0) (.v 2)) (cCons (cOp dIx (.v 1) (.v 2)) cNil)))))))]))))))))
def ci__law_same : Nat → CF
  | 0 => fun _ => none
  | n + 1 => cr__law_same (ci__law_same n)
def c__law_same : CF := ci__law_same 60
def cr__law_small_saying (cr : CF) : CF := cFun 9 3
    (cSeq (cIfS (cB (cOp dGt (.v 2) (.e (cC (.int 1))))) (cSeq (cSet 3 (cOp dAdd (.e (cC (.int 1))) (.e (frz (cCall c__law_take [0] (cCons (cOp dSub (.v 2) (.e (cC (.int 1)))) cNil))))))
    (cSeq (cSet 4 (cTup (cCons (cOp dIx (.e (frz (cLst (cCons (cC (.str "both")) (cCons (cC (.str "either")) cNil))))) (.e (frz (cCall c__law_take [0] (cCons (cC (.int 2)) cNil))))) (cCons (frz (cCall cr [0] (cCons (cVar 1) (cCons (cVar 3) cNil)))) (cCons (frz (cCall cr [0] (cCons (cVar 1) (cCons (cOp dSub (.v 2) (.v 3)) cNil)))) cNil)))))
    (cRet (asN (cIf (cB (cOp (dEq false) (.e (frz (cCall c__law_take [0] (cCons (cC (.int 4)) cNil)))) (.e (cC (.int 0))))) (cTup (cCons (cC (.str "not")) (cCons (cVar 4) cNil))) (cVar 4)))))) cNext)
    (cSeq (cPar 5 6 (cCons (cCb fTuple [(.e (frz (cLc [8] (cRng1 (cCons (cVar 1) cNil)) (gN 8) cYes (cOp dSub (.e (frz (cCall c__law_take [0] (cCons (cC (.int 5)) cNil)))) (.e (cC (.int 2)))))))]) (cCons (frz (cCall c__law_take [0] (cCons (cC (.int 5)) cNil))) cNil)))
    (cSeq (cIfS (cB (cOp (dEq false) (.v 6) (.e (cC (.int 0))))) (cSeq (cSet 7 (cOp dAdd (.e (cC (.int 2))) (.e (frz (cCall c__law_take [0] (cCons (cC (.int 2)) cNil))))))
    (cRet (asN (cTup (cCons (cC (.str "leaves")) (cCons (cVar 5) (cCons (cVar 7) (cCons (frz (cCall c__law_take [0] (cCons (cVar 7) cNil))) cNil)))))))) cNext)
    (cSeq (cSet 4 (cTup (cCons (cOp dIx (.e (frz (cLst (cCons (cC (.str "less")) (cCons (cC (.str "is")) (cCons (cC (.str "more")) cNil)))))) (.e (frz (cCall c__law_take [0] (cCons (cC (.int 3)) cNil))))) (cCons (cVar 5) (cCons (cOp dSub (.e (frz (cCall c__law_take [0] (cCons (cC (.int 13)) cNil)))) (.e (cC (.int 6)))) cNil)))))
    (cRet (asN (cIf (cB (cOp (dEq false) (.v 6) (.e (cC (.int 1))))) (cTup (cCons (cC (.str "not")) (cCons (cVar 4) cNil))) (cVar 4))))))))
def ci__law_small_saying : Nat → CF
  | 0 => fun _ => none
  | n + 1 => cr__law_small_saying (ci__law_small_saying n)
def c__law_small_saying : CF := ci__law_small_saying 60
def cr__law_mutant (cr : CF) : CF := cFun 6 3
    (cSeq (cSet 3 (cOp dIx (.e (frz (cLst (cCons (cC .none) (cCons (cC (.bool true)) (cCons (cC (.bool false)) (cCons (cC (.str "1")) (cCons (cUn dNeg (.e (cC (.int 1)))) (cCons (cC (.int 0)) (cCons (cC (.int 1)) (cCons (cC (.int 2)) (cCons (cC (.int 9)) (cCons (cTup cNil) (cCons (cTup (cCons (cC (.int 1)) cNil)) (cCons (frz (cLst (cCons (cC (.int 1)) cNil))) (cCons (cTup (cCons (cC (.int 1)) (cCons (cC (.int 2)) cNil))) (cCons (cTup (cCons (cC (.int 2)) (cCons (cC (.int 4)) cNil))) (cCons (cC (.str "less")) cNil)))))))))))))))))) (.e (frz (cCall c__law_take [0] (cCons (cC (.int 15)) cNil))))))
    (cSeq (cIfS (cOr (cNot (cB (cIsi (.v 1) "tuple"))) (cOr (cB (cOp (dEq false) (.v 1) (.e (cTup cNil)))) (cOr (cB (cOp (dEq false) (.v 2) (.e (cC (.int 0))))) (cB (cOp (dEq false) (.e (frz (cCall c__law_take [0] (cCons (cC (.int 8)) cNil)))) (.e (cC (.int 0)))))))) (cRet (asN (cVar 3))) cNext)
    (cSeq (cPar 4 5 (cCons (frz (cCall c__law_take [0] (cCons (cCb fLen [(.v 1)]) cNil))) (cCons (frz (cCall c__law_take [0] (cCons (cC (.int 12)) cNil))) cNil)))
    (cSeq (cIfS (cB (cOp dLt (.v 5) (.e (cC (.int 7))))) (cRet (asN (cOp dAdd (.e (cOp dAdd (.e (cSlT (.v 1) cNoI (cSomeI (cVar 4)))) (.e (cTup (cCons (frz (cCall cr [0] (cCons (cOp dIx (.v 1) (.v 4)) (cCons (cOp dSub (.v 2) (.e (cC (.int 1)))) cNil)))) cNil))))) (.e (cSlT (.v 1) (cSomeI (cOp dAdd (.v 4) (.e (cC (.int 1))))) cNoI))))) cNext)
    (cSeq (cIfS (cB (cOp (dEq false) (.v 5) (.e (cC (.int 7))))) (cRet (cCbN fList [(.v 1)])) cNext)
    (cSeq (cIfS (cB (cOp (dEq false) (.v 5) (.e (cC (.int 8))))) (cRet (asN (cOp dAdd (.v 1) (.e (cTup (cCons (cVar 3) cNil)))))) cNext)
    (cSeq (cIfS (cB (cOp (dEq false) (.v 5) (.e (cC (.int 9))))) (cRet (asN (cOp dAdd (.e (cSlT (.v 1) cNoI (cSomeI (cVar 4)))) (.e (cSlT (.v 1) (cSomeI (cOp dAdd (.v 4) (.e (cC (.int 1))))) cNoI))))) cNext)
    (cSeq (cIfS (cB (cOp (dEq false) (.v 5) (.e (cC (.int 10))))) (cRet (asN (cRevT (.v 1)))) cNext)
    (cRet (asN (cOp dAdd (.v 1) (.e (cSlT (.v 1) (cSomeI (cVar 4)) (cSomeI (cOp dAdd (.v 4) (.e (cC (.int 1))))))))))))))))))
def ci__law_mutant : Nat → CF
  | 0 => fun _ => none
  | n + 1 => cr__law_mutant (ci__law_mutant n)
def c__law_mutant : CF := ci__law_mutant 60
def c__law_integer : CF := cFun 1 1
    (cRet (asN (cAndV (cIsi (.v 0) "int") (cNotV (cIsi (.v 0) "bool")))))
def c__law_row_of_integers : CF := cFun 3 2
    (cRet (asN (cAndV (cIsi (.v 0) "tuple") (cAndV (cOp (dEq false) (.e (cCb fLen [(.v 0)])) (.v 1)) (cCb fAll [(.e (frz (cLc [2] (cIt (cVar 0)) (gN 2) cYes (frz (cCall c__law_integer [] (cCons (cVar 2) cNil))))))])))))
def cr__law_is_said (cr : CF) : CF := cFun 5 3
    (cSeq (cIfS (cOr (cNot (cB (cIsi (.v 1) "tuple"))) (cOr (cB (cOp (dEq false) (.v 1) (.e (cTup cNil)))) (cNot (cB (cIsi (.e (cOp dIx (.v 1) (.e (cC (.int 0))))) "str"))))) (cRet (asN (cC (.bool false)))) cNext)
    (cSeq (cIfS (cB (cOp (dIn false) (.e (cOp dIx (.v 1) (.e (cC (.int 0))))) (.e (cTup (cCons (cC (.str "less")) (cCons (cC (.str "is")) (cCons (cC (.str "more")) cNil))))))) (cRet (asN (cAndV (cOp (dEq false) (.e (cCb fLen [(.v 1)])) (.e (cC (.int 3)))) (cAndV (frz (cCall c__law_row_of_integers [] (cCons (cOp dIx (.v 1) (.e (cC (.int 1)))) (cCons (cVar 0) cNil)))) (frz (cCall c__law_integer [] (cCons (cOp dIx (.v 1) (.e (cC (.int 2)))) cNil))))))) cNext)
    (cSeq (cIfS (cAnd (cB (cOp (dEq false) (.e (cOp dIx (.v 1) (.e (cC (.int 0))))) (.e (cC (.str "leaves"))))) (cB (cVar 2))) (cRet (asN (cAndV (cOp (dEq false) (.e (cCb fLen [(.v 1)])) (.e (cC (.int 4)))) (cAndV (frz (cCall c__law_row_of_integers [] (cCons (cOp dIx (.v 1) (.e (cC (.int 1)))) (cCons (cVar 0) cNil)))) (cAndV (frz (cCall c__law_integer [] (cCons (cOp dIx (.v 1) (.e (cC (.int 2)))) cNil))) (cAndV (frz (cCall c__law_integer [] (cCons (cOp dIx (.v 1) (.e (cC (.int 3)))) cNil))) (cChain dLe dLt (.e (cC (.int 0))) (.e (cOp dIx (.v 1) (.e (cC (.int 3))))) (.e (cOp dIx (.v 1) (.e (cC (.int 2)))))))))))) cNext)
    (cSeq (cSet 3 (cUn (fGetD [("not", (.int 2)), ("both", (.int 3)), ("either", (.int 3))] (.int 0)) (.e (cOp dIx (.v 1) (.e (cC (.int 0)))))))
    (cRet (asN (cAndV (cOp (dEq false) (.e (cCb fLen [(.v 1)])) (.v 3)) (cCb fAll [(.e (frz (cLc [4] (cIt (cSlT (.v 1) (cSomeI (cC (.int 1))) cNoI)) (gN 4) cYes (frz (cCall cr [] (cCons (cVar 0) (cCons (cVar 4) (cCons (cVar 2) cNil))))))))]))))))))
def ci__law_is_said : Nat → CF
  | 0 => fun _ => none
  | n + 1 => cr__law_is_said (ci__law_is_said n)
def c__law_is_said : CF := ci__law_is_said 60
def c__law_is_each : CF := cFun 1 1
    (cRet (asN (cAndV (cIsi (.v 0) "tuple") (cAndV (cOp (dEq false) (.e (cCb fLen [(.v 0)])) (.e (cC (.int 3)))) (cAndV (cIsi (.e (cOp dIx (.v 0) (.e (cC (.int 0))))) "str") (cAndV (cOp (dIn false) (.e (cOp dIx (.v 0) (.e (cC (.int 0))))) (.e (cTup (cCons (cC (.str "some")) (cCons (cC (.str "every")) cNil))))) (cAndV (frz (cCall c__law_integer [] (cCons (cOp dIx (.v 0) (.e (cC (.int 1)))) cNil))) (cOp (dIn false) (.e (cOp dIx (.v 0) (.e (cC (.int 1))))) (.e (cTup (cCons (cC (.int 0)) (cCons (cC (.int 1)) cNil))))))))))))
def c__law_is_half : CF := cFun 1 1
    (cRet (asN (cAndV (frz (cCall c__law_is_each [] (cCons (cVar 0) cNil))) (frz (cCall c__law_is_said [] (cCons (cC (.int 2)) (cCons (cOp dIx (.v 0) (.e (cC (.int 2)))) (cCons (cC (.bool true)) cNil))))))))
def c__law_is_closed : CF := cFun 1 1
    (cRet (asN (cAndV (frz (cCall c__law_is_each [] (cCons (cVar 0) cNil))) (cAndV (frz (cCall c__law_is_half [] (cCons (cOp dIx (.v 0) (.e (cC (.int 2)))) cNil))) (cOp (dEq false) (.e (cOp dIx (.e (cOp dIx (.v 0) (.e (cC (.int 2))))) (.e (cC (.int 1))))) (.e (cOp dSub (.e (cC (.int 1))) (.e (cOp dIx (.v 0) (.e (cC (.int 1))))))))))))
def c__law_kinds : CF := cFun 2 1
    (cRet (cCat (.e (cOp dAdd (.e (frz (cLc [1] (cIt (cTup (cCons (cC (.int 1)) (cCons (cC (.int 2)) (cCons (cC (.int 3)) cNil))))) (gN 1) cYes (frz (cCall c__law_is_said [] (cCons (cVar 1) (cCons (cVar 0) (cCons (cC (.bool false)) cNil)))))))) (.e (frz (cLc [1] (cIt (cTup (cCons (cC (.int 1)) (cCons (cC (.int 2)) cNil)))) (gN 1) cYes (frz (cCall c__law_is_said [] (cCons (cVar 1) (cCons (cVar 0) (cCons (cC (.bool true)) cNil)))))))))) (.e (frz (cLst (cCons (frz (cCall c__law_is_half [] (cCons (cVar 0) cNil))) (cCons (frz (cCall c__law_is_closed [] (cCons (cVar 0) cNil))) cNil)))))))
def c__law_told : CF := cFun 1 1
    (cRet (cLst (cCons (frz (cCall c_is_saying [] (cCons (cC (.int 1)) (cCons (cVar 0) cNil)))) (cCons (frz (cCallK c_is_saying 0 2 [1, 0] cNil (cCons (cVar 0) (cCons (cC (.int 2)) cNil)))) (cCons (frz (cCall c_is_saying [] (cCons (cC (.int 3)) (cCons (cVar 0) cNil)))) (cCons (frz (cCall c_is_open [] (cCons (cC (.int 1)) (cCons (cVar 0) cNil)))) (cCons (frz (cCallK c_is_open 0 2 [1, 0] cNil (cCons (cVar 0) (cCons (cC (.int 2)) cNil)))) (cCons (frz (cCall c_is_half_open [] (cCons (cVar 0) cNil))) (cCons (frz (cCallK c_is_closed 0 1 [0] cNil (cCons (cVar 0) cNil))) cNil)))))))))
def cr__law_plain (cr : CF) : CF := cFun 5 3
    (cSeq (cSet 3 (frz (cCall c__law_take [0] (cCons (cC (.int 6)) cNil))))
    (cSeq (cIfS (cOr (cB (cOp dLt (.v 2) (.e (cC (.int 2))))) (cB (cOp dLt (.v 3) (.e (cC (.int 3)))))) (cRet (asN (cTup (cCons (cOp dIx (.e (frz (cLst (cCons (cC (.str "less")) (cCons (cC (.str "is")) (cCons (cC (.str "more")) cNil)))))) (.e (frz (cCall c__law_take [0] (cCons (cC (.int 3)) cNil))))) (cCons (cCb fTuple [(.e (frz (cLc [4] (cRng1 (cCons (cVar 1) cNil)) (gN 4) cYes (cOp dSub (.e (frz (cCall c__law_take [0] (cCons (cC (.int 7)) cNil)))) (.e (cC (.int 3)))))))]) (cCons (cOp dSub (.e (frz (cCall c__law_take [0] (cCons (cC (.int 9)) cNil)))) (.e (cC (.int 4)))) cNil)))))) cNext)
    (cSeq (cIfS (cB (cOp (dEq false) (.v 3) (.e (cC (.int 3))))) (cRet (asN (cTup (cCons (cC (.str "not")) (cCons (frz (cCall cr [0] (cCons (cVar 1) (cCons (cOp dSub (.v 2) (.e (cC (.int 1)))) cNil)))) cNil))))) cNext)
    (cRet (asN (cTup (cCons (cOp dIx (.e (frz (cLst (cCons (cC (.str "both")) (cCons (cC (.str "either")) cNil))))) (.e (cOp dSub (.v 3) (.e (cC (.int 4)))))) (cCons (frz (cCall cr [0] (cCons (cVar 1) (cCons (cC (.int 1)) cNil)))) (cCons (frz (cCall cr [0] (cCons (cVar 1) (cCons (cOp dSub (.v 2) (.e (cC (.int 1)))) cNil)))) cNil)))))))))
def ci__law_plain : Nat → CF
  | 0 => fun _ => none
  | n + 1 => cr__law_plain (ci__law_plain n)
def c__law_plain : CF := ci__law_plain 60
def c__law_near : CF := cFun 3 2
    (cSeq (cFor (cRng1 (cCons (frz (cCall c__law_take [0] (cCons (cC (.int 4)) cNil))) cNil)) (gN 2) (cSet 1 (frz (cCall c__law_mutant [0] (cCons (cVar 1) (cCons (cC (.int 4)) cNil))))))
    (cRet (asN (cVar 1))))
def c_law : CF := cFun 15 1
    (cSeq (cSetN 1 (cCall c__law_pot [] (cCons (cVar 0) cNil)))
    (cSeq (cFor (cRng1 (cCons (cC (.int 10)) cNil)) (gN 2) (cSeq (cPar 3 4 (cCons (frz (cCall c__law_take [1] (cCons (cC (.int 2)) cNil))) (cCons (cOp dAdd (.e (cC (.int 1))) (.e (frz (cCall c__law_take [1] (cCons (cC (.int 2)) cNil))))) cNil)))
    (cSeq (cPar 5 6 (cCons (frz (cCall c__law_small_saying [1] (cCons (cC (.int 2)) (cCons (cC (.int 3)) cNil)))) (cCons (frz (cCall c__law_small_saying [1] (cCons (cVar 4) (cCons (cC (.int 2)) cNil)))) cNil)))
    (cSeq (cSet 7 (cTup (cCons (cOp dIx (.e (frz (cLst (cCons (cC (.str "some")) (cCons (cC (.str "every")) cNil))))) (.e (frz (cCall c__law_take [1] (cCons (cC (.int 2)) cNil))))) (cCons (cVar 3) (cCons (cVar 5) cNil)))))
    (cSeq (cSet 8 (cTup (cCons (cOp dIx (.e (frz (cLst (cCons (cC (.str "some")) (cCons (cC (.str "every")) cNil))))) (.e (frz (cCall c__law_take [1] (cCons (cC (.int 2)) cNil))))) (cCons (cOp dSub (.e (cC (.int 1))) (.v 3)) (cCons (cVar 7) cNil)))))
    (cSeq (cPar 9 10 (cCons (frz (cCall c__law_plain [1] (cCons (cOp dAdd (.e (cC (.int 1))) (.e (frz (cCall c__law_take [1] (cCons (cC (.int 3)) cNil))))) (cCons (cC (.int 4)) cNil)))) (cCons (cOp dAdd (.e (cC (.int 1))) (.e (frz (cCall c__law_take [1] (cCons (cC (.int 4)) cNil))))) cNil)))
    (cSeq (cSet 11 (cTup (cCons (cC (.str "leaves")) (cCons (cOp dMulT (.e (cTup (cCons (cC (.int 1)) cNil))) (.v 4)) (cCons (cVar 10) (cCons (cOp dIx (.e (frz (cLst (cCons (cC (.int 0)) (cCons (cOp dSub (.v 10) (.e (cC (.int 1)))) (cCons (cVar 10) (cCons (cUn dNeg (.e (cC (.int 1)))) cNil))))))) (.e (frz (cCall c__law_take [1] (cCons (cC (.int 4)) cNil))))) cNil))))))
    (cSeq (cSet 12 (frz (cLst (cCons (cVar 5) (cCons (cVar 6) (cCons (cVar 7) (cCons (cVar 8) (cCons (cVar 9) (cCons (cVar 11) (cCons (cTup (cCons (cC (.str "not")) (cCons (cVar 11) cNil))) (cCons (cTup (cCons (cOp dIx (.v 8) (.e (cC (.int 0)))) (cCons (cVar 3) (cCons (cVar 7) cNil)))) (cCons (cTup (cCons (cC (.str "not")) (cCons (cVar 7) cNil))) (cCons (cTup (cCons (cC (.str "some")) (cCons (cC (.int 2)) (cCons (cVar 5) cNil)))) (cCons (cTup (cCons (cC (.str "every")) (cCons (cC (.bool true)) (cCons (cVar 5) cNil)))) cNil))))))))))))))
    (cFor (cIt (cOp dAdd (.v 12) (.e (frz (cLc [14] (cRng1 (cCons (cC (.int 6)) cNil)) (gN 14) cYes (frz (cCall c__law_near [1] (cCons (cOp dIx (.v 12) (.e (frz (cCall c__law_take [1] (cCons (cCb fLen [(.v 12)]) cNil))))) cNil)))))))) (gN 13) (cIfS (cNot (cB (frz (cCall c__law_same [] (cCons (frz (cCall c__law_told [] (cCons (cVar 13) cNil))) (cCons (frz (cCall c__law_kinds [] (cCons (cVar 13) cNil))) cNil)))))) (cRet (asN (cC (.bool false)))) cNext))))))))))
    (cRet (asN (cC (.bool true))))))
end W83

namespace W83
open PySem PySem.Spec PyProof.Rows L2 Pu
structure Txt (w : World) (K : Fr) (mg : Str → Option Value) where
  z_all : mg "all" = none
  z_bool : mg "bool" = none
  z_int : mg "int" = none
  z_isinstance : mg "isinstance" = none
  z_len : mg "len" = none
  z_list : mg "list" = none
  z_range : mg "range" = none
  z_str : mg "str" = none
  z_tuple : mg "tuple" = none
  a_is_integer : Addr
  f_is_integer : FuncData
  t_is_integer : Fun K "is_integer" "is_integer" s_is_integer a_is_integer f_is_integer
  b_is_integer : Binds K f_is_integer ["value"] []
  a_are_integers : Addr
  f_are_integers : FuncData
  t_are_integers : Fun K "are_integers" "are_integers" s_are_integers a_are_integers f_are_integers
  b_are_integers : Binds K f_are_integers ["value"] []
  a_are_sides : Addr
  f_are_sides : FuncData
  t_are_sides : Fun K "are_sides" "are_sides" s_are_sides a_are_sides f_are_sides
  b_are_sides : Binds K f_are_sides ["d", "told"] []
  a_is_said : Addr
  f_is_said : FuncData
  t_is_said : Fun K "is_said" "is_said" s_is_said a_is_said f_is_said
  b_is_said : Binds K f_is_said ["d", "told"] []
  a_check_unknowns : Addr
  f_check_unknowns : FuncData
  t_check_unknowns : Fun K "check_unknowns" "check_unknowns" s_check_unknowns a_check_unknowns f_check_unknowns
  b_check_unknowns : Binds K f_check_unknowns ["d"] []
  a_is_saying : Addr
  f_is_saying : FuncData
  t_is_saying : Fun K "is_saying" "is_saying" s_is_saying a_is_saying f_is_saying
  b_is_saying : Binds K f_is_saying ["d", "told"] []
  a_check_unknowns_18 : Addr
  f_check_unknowns_18 : FuncData
  t_check_unknowns_18 : Fun K "check_unknowns" "check_unknowns" s_check_unknowns_18 a_check_unknowns_18 f_check_unknowns_18
  b_check_unknowns_18 : Binds K f_check_unknowns_18 ["d"] []
  a_is_said_20 : Addr
  f_is_said_20 : FuncData
  t_is_said_20 : Fun K "is_said" "is_said" s_is_said_20 a_is_said_20 f_is_said_20
  b_is_said_20 : Binds K f_is_said_20 ["d", "told"] []
  a_is_open : Addr
  f_is_open : FuncData
  t_is_open : Fun K "is_open" "is_open" s_is_open a_is_open f_is_open
  b_is_open : Binds K f_is_open ["d", "told"] []
  a_is_headed : Addr
  f_is_headed : FuncData
  t_is_headed : Fun K "is_headed" "is_headed" s_is_headed a_is_headed f_is_headed
  b_is_headed : Binds K f_is_headed ["told"] []
  a_is_half_open : Addr
  f_is_half_open : FuncData
  t_is_half_open : Fun K "is_half_open" "is_half_open" s_is_half_open a_is_half_open f_is_half_open
  b_is_half_open : Binds K f_is_half_open ["told"] []
  a_is_closed : Addr
  f_is_closed : FuncData
  t_is_closed : Fun K "is_closed" "is_closed" s_is_closed a_is_closed f_is_closed
  b_is_closed : Binds K f_is_closed ["told"] []
  a__law_pot : Addr
  f__law_pot : FuncData
  t__law_pot : Fun K "_law_pot" "_law_pot" s__law_pot a__law_pot f__law_pot
  b__law_pot : Binds K f__law_pot ["script"] []
  a__law_take : Addr
  f__law_take : FuncData
  t__law_take : Fun K "_law_take" "_law_take" s__law_take a__law_take f__law_take
  b__law_take : Binds K f__law_take ["pot", "many"] []
  a__law_same : Addr
  f__law_same : FuncData
  t__law_same : Fun K "_law_same" "_law_same" s__law_same a__law_same f__law_same
  b__law_same : Binds K f__law_same ["got", "due"] []
  a__law_small_saying : Addr
  f__law_small_saying : FuncData
  t__law_small_saying : Fun K "_law_small_saying" "_law_small_saying" s__law_small_saying a__law_small_saying f__law_small_saying
  b__law_small_saying : Binds K f__law_small_saying ["pot", "d", "parts"] []
  a__law_mutant : Addr
  f__law_mutant : FuncData
  t__law_mutant : Fun K "_law_mutant" "_law_mutant" s__law_mutant a__law_mutant f__law_mutant
  b__law_mutant : Binds K f__law_mutant ["pot", "value", "deep"] []
  a__law_integer : Addr
  f__law_integer : FuncData
  t__law_integer : Fun K "_law_integer" "_law_integer" s__law_integer a__law_integer f__law_integer
  b__law_integer : Binds K f__law_integer ["told"] []
  a__law_row_of_integers : Addr
  f__law_row_of_integers : FuncData
  t__law_row_of_integers : Fun K "_law_row_of_integers" "_law_row_of_integers" s__law_row_of_integers a__law_row_of_integers f__law_row_of_integers
  b__law_row_of_integers : Binds K f__law_row_of_integers ["told", "many"] []
  a__law_is_said : Addr
  f__law_is_said : FuncData
  t__law_is_said : Fun K "_law_is_said" "_law_is_said" s__law_is_said a__law_is_said f__law_is_said
  b__law_is_said : Binds K f__law_is_said ["d", "told", "whole"] []
  a__law_is_each : Addr
  f__law_is_each : FuncData
  t__law_is_each : Fun K "_law_is_each" "_law_is_each" s__law_is_each a__law_is_each f__law_is_each
  b__law_is_each : Binds K f__law_is_each ["told"] []
  a__law_is_half : Addr
  f__law_is_half : FuncData
  t__law_is_half : Fun K "_law_is_half" "_law_is_half" s__law_is_half a__law_is_half f__law_is_half
  b__law_is_half : Binds K f__law_is_half ["told"] []
  a__law_is_closed : Addr
  f__law_is_closed : FuncData
  t__law_is_closed : Fun K "_law_is_closed" "_law_is_closed" s__law_is_closed a__law_is_closed f__law_is_closed
  b__law_is_closed : Binds K f__law_is_closed ["told"] []
  a__law_kinds : Addr
  f__law_kinds : FuncData
  t__law_kinds : Fun K "_law_kinds" "_law_kinds" s__law_kinds a__law_kinds f__law_kinds
  b__law_kinds : Binds K f__law_kinds ["told"] []
  a__law_told : Addr
  f__law_told : FuncData
  t__law_told : Fun K "_law_told" "_law_told" s__law_told a__law_told f__law_told
  b__law_told : Binds K f__law_told ["value"] []
  a__law_plain : Addr
  f__law_plain : FuncData
  t__law_plain : Fun K "_law_plain" "_law_plain" s__law_plain a__law_plain f__law_plain
  b__law_plain : Binds K f__law_plain ["pot", "d", "deep"] []
  a__law_near : Addr
  f__law_near : FuncData
  t__law_near : Fun K "_law_near" "_law_near" s__law_near a__law_near f__law_near
  b__law_near : Binds K f__law_near ["pot", "value"] []
  a_law : Addr
  f_law : FuncData
  t_law : Fun K "law" "law" s_law a_law f_law
  b_law : Binds K f_law ["script"] []
  g__law_integer : mg "_law_integer" = some (.ref a__law_integer)
  g__law_is_closed : mg "_law_is_closed" = some (.ref a__law_is_closed)
  g__law_is_each : mg "_law_is_each" = some (.ref a__law_is_each)
  g__law_is_half : mg "_law_is_half" = some (.ref a__law_is_half)
  g__law_is_said : mg "_law_is_said" = some (.ref a__law_is_said)
  g__law_kinds : mg "_law_kinds" = some (.ref a__law_kinds)
  g__law_mutant : mg "_law_mutant" = some (.ref a__law_mutant)
  g__law_near : mg "_law_near" = some (.ref a__law_near)
  g__law_plain : mg "_law_plain" = some (.ref a__law_plain)
  g__law_pot : mg "_law_pot" = some (.ref a__law_pot)
  g__law_row_of_integers : mg "_law_row_of_integers" = some (.ref a__law_row_of_integers)
  g__law_same : mg "_law_same" = some (.ref a__law_same)
  g__law_small_saying : mg "_law_small_saying" = some (.ref a__law_small_saying)
  g__law_take : mg "_law_take" = some (.ref a__law_take)
  g__law_told : mg "_law_told" = some (.ref a__law_told)
  g_are_integers : mg "are_integers" = some (.ref a_are_integers)
  g_are_sides : mg "are_sides" = some (.ref a_are_sides)
  g_check_unknowns_sayings : mg "check_unknowns_sayings" = some (.ref a_check_unknowns)
  g_check_unknowns_whole_sayings : mg "check_unknowns_whole_sayings" = some (.ref a_check_unknowns_18)
  g_is_closed : mg "is_closed" = some (.ref a_is_closed)
  g_is_half_open : mg "is_half_open" = some (.ref a_is_half_open)
  g_is_headed : mg "is_headed" = some (.ref a_is_headed)
  g_is_integer : mg "is_integer" = some (.ref a_is_integer)
  g_is_open : mg "is_open" = some (.ref a_is_open)
  g_is_said_sayings : mg "is_said_sayings" = some (.ref a_is_said)
  g_is_said_whole_sayings : mg "is_said_whole_sayings" = some (.ref a_is_said_20)
  g_is_saying : mg "is_saying" = some (.ref a_is_saying)
  kb_is_closed_told_0 : KBinds K f_is_closed ["told"] ["told"] (perm 0 1 [0]) (perm 0 1 [0])
  kb_is_open_told_d_0 : KBinds K f_is_open ["d", "told"] ["told", "d"] (perm 0 2 [1, 0]) (perm 0 2 [1, 0])
  kb_is_saying_told_d_0 : KBinds K f_is_saying ["d", "told"] ["told", "d"] (perm 0 2 [1, 0]) (perm 0 2 [1, 0])
  v_MADE_OF : Addr
  m_MADE_OF : mg "MADE_OF" = some (.ref v_MADE_OF)
  k_MADE_OF : KD K w v_MADE_OF k_MADE_OF
  v_WORDS : Addr
  m_WORDS : mg "WORDS" = some (.ref v_WORDS)
  k_WORDS : KD K w v_WORDS k_WORDS
  v_BY_WALLS : V
  u_BY_WALLS : Value
  m_BY_WALLS : mg "BY_WALLS" = some u_BY_WALLS
  r_BY_WALLS : RelV v_BY_WALLS u_BY_WALLS
  d_BY_WALLS : ∀ F : Hp, Dp K F v_BY_WALLS g_BY_WALLS
  v_EACH : V
  u_EACH : Value
  m_EACH : mg "EACH" = some u_EACH
  r_EACH : RelV v_EACH u_EACH
  d_EACH : ∀ F : Hp, Dp K F v_EACH g_EACH
section
variable {P : Program} {w : World} {K : Fr} {mg : Str → Option Value} {base : Heap}
theorem ok_is_integer (T : Txt w K mg) : FnOk P w K mg base CX0 1 T.a_is_integer T.f_is_integer ["value"] (spP K c_is_integer) := ok_fun T.t_is_integer sc_is_integer (by decide) fun cdv A outer s H E hr =>
    (b_one (s_ret (n_e (e_and (e_isi rfl T.z_isinstance (o_v (pv 0)) (pe_ty rfl T.z_int (by decide +kernel))) (e_one (e_not (e_isi rfl T.z_isinstance (o_v (pv 0)) (pe_ty rfl T.z_bool (by decide +kernel)))))))))
theorem ok_are_integers (T : Txt w K mg) : FnOk P w K mg base CX0 2 T.a_are_integers T.f_are_integers ["value"] (spP K c_are_integers) := ok_fun T.t_are_integers sc_are_integers (by decide) fun cdv A outer s H E hr =>
    (b_one (s_ret (n_e (e_and (e_isi rfl T.z_isinstance (o_v (pv 0)) (pe_ty rfl T.z_tuple (by decide +kernel))) (e_one (e_cb (cd_all rfl) rfl T.z_all (by decide +kernel) (os_cons (o_e (e_n (n_lc (own := [("a", 1)]) rfl sc_are_integers.nd (i_seq (e_v (pv 0))) (blkOk_by (own := [("a", 1)]) (N := N_are_integers) (sc := defScope s_are_integers) (by decide +kernel)) (fun _ _ _ _ _ => (g_name (i := 1) sc_are_integers.nd rfl (Or.inl rfl))) (fun _ _ _ _ _ => ts_nil) (fun _ _ _ _ _ => (e_n (n_call (ok_is_integer T) (hr.mono (by decide)) rfl T.g_is_integer T.t_is_integer.kp T.b_is_integer (al_nil (a_cons (e_v (pv 1)) a_nil)))))))) os_nil)))))))
theorem ok_are_sides (T : Txt w K mg) : FnOk P w K mg base CX0 3 T.a_are_sides T.f_are_sides ["d", "told"] (spP K c_are_sides) := ok_fun T.t_are_sides sc_are_sides (by decide) fun cdv A outer s H E hr =>
    (b_one (s_ret (n_e (e_and (e_n (n_call (ok_are_integers T) (hr.mono (by decide)) rfl T.g_are_integers T.t_are_integers.kp T.b_are_integers (al_nil (a_cons (e_v (pv 1)) a_nil)))) (e_one (e_cmp (od_eq hr.units) (o_e (e_cb cd_len rfl T.z_len (by decide +kernel) (os_cons (o_v (pv 1)) os_nil))) (o_v (pv 0)) (nomark _)))))))
theorem ok_is_said (T : Txt w K mg) : FnOk P w K mg base CX0 63 T.a_is_said T.f_is_said ["d", "told"] (spP K c_is_said) := by
  have h : ∀ n, FnOk P w K mg base CX0 (3 + n) T.a_is_said T.f_is_said ["d", "told"] (spP K (ci_is_said n)) := fun n => by
    induction n with
    | zero => exact ok_none
    | succ n ih => exact ok_fun (k := 3 + n) T.t_is_said sc_is_said (by decide) fun cdv A outer s H E hr =>
    (b_cons (s_if (t_w (tw_or (t_not (t_val (e_isi rfl T.z_isinstance (o_v (pv 1)) (pe_ty rfl T.z_tuple (by decide +kernel))))) (tw_or (t_cmp (od_eq hr.units) (o_e (e_cb cd_len rfl T.z_len (by decide +kernel) (os_cons (o_v (pv 1)) os_nil))) (o_e e_int) (nomark _)) (tw_or1 (t_not (t_val (e_isi rfl T.z_isinstance (o_e (e_ix id_ix (o_v (pv 1)) (o_e e_int))) (pe_ty rfl T.z_str (by decide +kernel))))))))) (b_one (s_ret (n_e e_bl))) b_nil)
    (b_cons (s_if (t_inK T.k_WORDS (o_e (e_ix id_ix (o_v (pv 1)) (o_e e_int))) (pe_glob rfl T.m_WORDS rfl)) (b_one (s_ret (n_e (e_and (e_cmp (od_eq hr.units) (o_e (e_cb cd_len rfl T.z_len (by decide +kernel) (os_cons (o_v (pv 1)) os_nil))) (o_e e_int) (nomark _)) (e_and (e_n (n_call (ok_are_sides T) (hr.mono (by omega)) rfl T.g_are_sides T.t_are_sides.kp T.b_are_sides (al_nil (a_cons (e_v (pv 0)) (a_cons (e_ix id_ix (o_v (pv 1)) (o_e e_int)) a_nil))))) (e_one (e_n (n_call (ok_is_integer T) (hr.mono (by omega)) rfl T.g_is_integer T.t_is_integer.kp T.b_is_integer (al_nil (a_cons (e_ix id_ix (o_v (pv 1)) (o_e e_int)) a_nil)))))))))) b_nil)
    (b_cons (s_if (t_w (tw_or (t_notinK T.k_MADE_OF (o_e (e_ix id_ix (o_v (pv 1)) (o_e e_int))) (pe_glob rfl T.m_MADE_OF rfl)) (tw_or1 (t_cmp (od_ne hr.units) (o_e (e_op od_sub (o_e (e_cb cd_len rfl T.z_len (by decide +kernel) (os_cons (o_v (pv 1)) os_nil))) (o_e e_int))) (o_e (e_ixK T.k_MADE_OF (pe_glob rfl T.m_MADE_OF rfl) (o_e (e_ix id_ix (o_v (pv 1)) (o_e e_int))))) (nomark _))))) (b_one (s_ret (n_e e_bl))) b_nil)
    (b_one (s_ret (n_e (e_cb (cd_all rfl) rfl T.z_all (by decide +kernel) (os_cons (o_e (e_n (n_lc (own := [("part", 2)]) rfl sc_is_said.nd (i_seq (e_slT (o_v (pv 1)) (o_some e_int) o_none)) (blkOk_by (own := [("part", 2)]) (N := N_is_said) (sc := defScope s_is_said) (by decide +kernel)) (fun _ _ _ _ _ => (g_name (i := 2) sc_is_said.nd rfl (Or.inl rfl))) (fun _ _ _ _ _ => ts_nil) (fun _ _ _ _ _ => (e_n (n_call ih hr rfl T.g_is_said_sayings T.t_is_said.kp T.b_is_said (al_nil (a_cons (e_v (pv 0)) (a_cons (e_v (pv 2)) a_nil))))))))) os_nil))))))))
  exact h 60
theorem ok_check_unknowns (T : Txt w K mg) : FnOk P w K mg base CX0 2 T.a_check_unknowns T.f_check_unknowns ["d"] (spP K c_check_unknowns) := ok_fun T.t_check_unknowns sc_check_unknowns (by decide) fun cdv A outer s H E hr =>
    (b_one (s_if (t_w (tw_or (t_not (t_val (e_n (n_call (ok_is_integer T) (hr.mono (by decide)) rfl T.g_is_integer T.t_is_integer.kp T.b_is_integer (al_nil (a_cons (e_v (pv 0)) a_nil)))))) (tw_or1 (t_cmp od_lt (o_v (pv 0)) (o_e e_int) (nomark _))))) (b_one s_never) b_nil))
theorem ok_is_saying (T : Txt w K mg) : FnOk P w K mg base CX0 64 T.a_is_saying T.f_is_saying ["d", "told"] (spP K c_is_saying) := ok_fun T.t_is_saying sc_is_saying (by decide) fun cdv A outer s H E hr =>
    (b_cons (s_expr (e_n (n_call (ok_check_unknowns T) (hr.mono (by decide)) rfl T.g_check_unknowns_sayings T.t_check_unknowns.kp T.b_check_unknowns (al_nil (a_cons (e_v (pv 0)) a_nil)))))
    (b_one (s_ret (n_call (ok_is_said T) (hr.mono (by decide)) rfl T.g_is_said_sayings T.t_is_said.kp T.b_is_said (al_nil (a_cons (e_v (pv 0)) (a_cons (e_v (pv 1)) a_nil)))))))
theorem ok_check_unknowns_18 (T : Txt w K mg) : FnOk P w K mg base CX0 2 T.a_check_unknowns_18 T.f_check_unknowns_18 ["d"] (spP K c_check_unknowns_18) := ok_fun T.t_check_unknowns_18 sc_check_unknowns_18 (by decide) fun cdv A outer s H E hr =>
    (b_one (s_if (t_w (tw_or (t_not (t_val (e_n (n_call (ok_is_integer T) (hr.mono (by decide)) rfl T.g_is_integer T.t_is_integer.kp T.b_is_integer (al_nil (a_cons (e_v (pv 0)) a_nil)))))) (tw_or1 (t_cmp (od_notin (room65 hr)) (o_v (pv 0)) (o_e (e_tup (a_cons e_int (a_cons e_int a_nil)))) (by rfl))))) (b_one s_never) b_nil))
theorem ok_is_said_20 (T : Txt w K mg) : FnOk P w K mg base CX0 62 T.a_is_said_20 T.f_is_said_20 ["d", "told"] (spP K c_is_said_20) := by
  have h : ∀ n, FnOk P w K mg base CX0 (2 + n) T.a_is_said_20 T.f_is_said_20 ["d", "told"] (spP K (ci_is_said_20 n)) := fun n => by
    induction n with
    | zero => exact ok_none
    | succ n ih => exact ok_fun (k := 2 + n) T.t_is_said_20 sc_is_said_20 (by decide) fun cdv A outer s H E hr =>
    (b_cons (s_if (t_w (tw_or (t_not (t_val (e_isi rfl T.z_isinstance (o_v (pv 1)) (pe_ty rfl T.z_tuple (by decide +kernel))))) (tw_or (t_cmp (od_eq hr.units) (o_e (e_cb cd_len rfl T.z_len (by decide +kernel) (os_cons (o_v (pv 1)) os_nil))) (o_e e_int) (nomark _)) (tw_or1 (t_not (t_val (e_isi rfl T.z_isinstance (o_e (e_ix id_ix (o_v (pv 1)) (o_e e_int))) (pe_ty rfl T.z_str (by decide +kernel))))))))) (b_one (s_ret (n_e e_bl))) b_nil)
    (b_cons (s_if (t_cmp (od_in (room65 hr)) (o_e (e_ix id_ix (o_v (pv 1)) (o_e e_int))) (o_e (e_c (pe_glob rfl T.m_BY_WALLS T.r_BY_WALLS) T.d_BY_WALLS)) (by rfl)) (b_one (s_ret (n_e (e_and (e_cmp (od_eq hr.units) (o_e (e_cb cd_len rfl T.z_len (by decide +kernel) (os_cons (o_v (pv 1)) os_nil))) (o_e e_int) (nomark _)) (e_and (e_n (n_call (ok_are_integers T) (hr.mono (by omega)) rfl T.g_are_integers T.t_are_integers.kp T.b_are_integers (al_nil (a_cons (e_ix id_ix (o_v (pv 1)) (o_e e_int)) a_nil)))) (e_and (e_cmp (od_eq hr.units) (o_e (e_cb cd_len rfl T.z_len (by decide +kernel) (os_cons (o_e (e_ix id_ix (o_v (pv 1)) (o_e e_int))) os_nil))) (o_v (pv 0)) (nomark _)) (e_one (e_n (n_call (ok_is_integer T) (hr.mono (by omega)) rfl T.g_is_integer T.t_is_integer.kp T.b_is_integer (al_nil (a_cons (e_ix id_ix (o_v (pv 1)) (o_e e_int)) a_nil))))))))))) b_nil)
    (b_cons (s_if (t_cmp (od_eq hr.units) (o_e (e_ix id_ix (o_v (pv 1)) (o_e e_int))) (o_e e_str) (nomark _)) (b_cons (s_if (t_w (tw_or (t_cmp (od_ne hr.units) (o_e (e_cb cd_len rfl T.z_len (by decide +kernel) (os_cons (o_v (pv 1)) os_nil))) (o_e e_int) (nomark _)) (tw_or (t_not (t_val (e_n (n_call (ok_are_integers T) (hr.mono (by omega)) rfl T.g_are_integers T.t_are_integers.kp T.b_are_integers (al_nil (a_cons (e_ix id_ix (o_v (pv 1)) (o_e e_int)) a_nil)))))) (tw_or (t_cmp (od_ne hr.units) (o_e (e_cb cd_len rfl T.z_len (by decide +kernel) (os_cons (o_e (e_ix id_ix (o_v (pv 1)) (o_e e_int))) os_nil))) (o_v (pv 0)) (nomark _)) (tw_or1 (t_not (t_val (e_n (n_call (ok_are_integers T) (hr.mono (by omega)) rfl T.g_are_integers T.t_are_integers.kp T.b_are_integers (al_nil (a_cons (e_slT (o_v (pv 1)) (o_some e_int) o_none) a_nil))))))))))) (b_one (s_ret (n_e e_bl))) b_nil)
    (b_one (s_ret (n_e (e_chain od_le od_lt (o_e e_int) (o_e (e_ix id_ix (o_v (pv 1)) (o_e e_int))) (o_e (e_ix id_ix (o_v (pv 1)) (o_e e_int)))))))) b_nil)
    (b_cons (s_if (t_cmp (od_eq hr.units) (o_e (e_ix id_ix (o_v (pv 1)) (o_e e_int))) (o_e e_str) (nomark _)) (b_one (s_ret (n_e (e_and (e_cmp (od_eq hr.units) (o_e (e_cb cd_len rfl T.z_len (by decide +kernel) (os_cons (o_v (pv 1)) os_nil))) (o_e e_int) (nomark _)) (e_one (e_n (n_call ih hr rfl T.g_is_said_whole_sayings T.t_is_said_20.kp T.b_is_said_20 (al_nil (a_cons (e_v (pv 0)) (a_cons (e_ix id_ix (o_v (pv 1)) (o_e e_int)) a_nil)))))))))) b_nil)
    (b_one (s_ret (n_e (e_and (e_cmp (od_in (room65 hr)) (o_e (e_ix id_ix (o_v (pv 1)) (o_e e_int))) (o_e (e_tup (a_cons e_str (a_cons e_str a_nil)))) (by rfl)) (e_and (e_cmp (od_eq hr.units) (o_e (e_cb cd_len rfl T.z_len (by decide +kernel) (os_cons (o_v (pv 1)) os_nil))) (o_e e_int) (nomark _)) (e_and (e_n (n_call ih hr rfl T.g_is_said_whole_sayings T.t_is_said_20.kp T.b_is_said_20 (al_nil (a_cons (e_v (pv 0)) (a_cons (e_ix id_ix (o_v (pv 1)) (o_e e_int)) a_nil))))) (e_one (e_n (n_call ih hr rfl T.g_is_said_whole_sayings T.t_is_said_20.kp T.b_is_said_20 (al_nil (a_cons (e_v (pv 0)) (a_cons (e_ix id_ix (o_v (pv 1)) (o_e e_int)) a_nil))))))))))))))))
  exact h 60
theorem ok_is_open (T : Txt w K mg) : FnOk P w K mg base CX0 63 T.a_is_open T.f_is_open ["d", "told"] (spP K c_is_open) := ok_fun T.t_is_open sc_is_open (by decide) fun cdv A outer s H E hr =>
    (b_cons (s_expr (e_n (n_call (ok_check_unknowns_18 T) (hr.mono (by decide)) rfl T.g_check_unknowns_whole_sayings T.t_check_unknowns_18.kp T.b_check_unknowns_18 (al_nil (a_cons (e_v (pv 0)) a_nil)))))
    (b_one (s_ret (n_call (ok_is_said_20 T) (hr.mono (by decide)) rfl T.g_is_said_whole_sayings T.t_is_said_20.kp T.b_is_said_20 (al_nil (a_cons (e_v (pv 0)) (a_cons (e_v (pv 1)) a_nil)))))))
theorem ok_is_headed (T : Txt w K mg) : FnOk P w K mg base CX0 2 T.a_is_headed T.f_is_headed ["told"] (spP K c_is_headed) := ok_fun T.t_is_headed sc_is_headed (by decide) fun cdv A outer s H E hr =>
    (b_cons (s_if (t_w (tw_or (t_not (t_val (e_isi rfl T.z_isinstance (o_v (pv 0)) (pe_ty rfl T.z_tuple (by decide +kernel))))) (tw_or (t_cmp (od_ne hr.units) (o_e (e_cb cd_len rfl T.z_len (by decide +kernel) (os_cons (o_v (pv 0)) os_nil))) (o_e e_int) (nomark _)) (tw_or (t_not (t_val (e_isi rfl T.z_isinstance (o_e (e_ix id_ix (o_v (pv 0)) (o_e e_int))) (pe_ty rfl T.z_str (by decide +kernel))))) (tw_or1 (t_not (t_val (e_n (n_call (ok_is_integer T) (hr.mono (by decide)) rfl T.g_is_integer T.t_is_integer.kp T.b_is_integer (al_nil (a_cons (e_ix id_ix (o_v (pv 0)) (o_e e_int)) a_nil))))))))))) (b_one (s_ret (n_e e_bl))) b_nil)
    (b_one (s_ret (n_e (e_and (e_cmp (od_in (room65 hr)) (o_e (e_ix id_ix (o_v (pv 0)) (o_e e_int))) (o_e (e_c (pe_glob rfl T.m_EACH T.r_EACH) T.d_EACH)) (by rfl)) (e_one (e_cmp (od_in (room65 hr)) (o_e (e_ix id_ix (o_v (pv 0)) (o_e e_int))) (o_e (e_tup (a_cons e_int (a_cons e_int a_nil)))) (by rfl))))))))
theorem ok_is_half_open (T : Txt w K mg) : FnOk P w K mg base CX0 63 T.a_is_half_open T.f_is_half_open ["told"] (spP K c_is_half_open) := ok_fun T.t_is_half_open sc_is_half_open (by decide) fun cdv A outer s H E hr =>
    (b_one (s_ret (n_e (e_and (e_n (n_call (ok_is_headed T) (hr.mono (by decide)) rfl T.g_is_headed T.t_is_headed.kp T.b_is_headed (al_nil (a_cons (e_v (pv 0)) a_nil)))) (e_one (e_n (n_call (ok_is_said_20 T) (hr.mono (by decide)) rfl T.g_is_said_whole_sayings T.t_is_said_20.kp T.b_is_said_20 (al_nil (a_cons e_int (a_cons (e_ix id_ix (o_v (pv 0)) (o_e e_int)) a_nil))))))))))
theorem ok_is_closed (T : Txt w K mg) : FnOk P w K mg base CX0 64 T.a_is_closed T.f_is_closed ["told"] (spP K c_is_closed) := ok_fun T.t_is_closed sc_is_closed (by decide) fun cdv A outer s H E hr =>
    (b_one (s_ret (n_e (e_and (e_n (n_call (ok_is_headed T) (hr.mono (by decide)) rfl T.g_is_headed T.t_is_headed.kp T.b_is_headed (al_nil (a_cons (e_v (pv 0)) a_nil)))) (e_and (e_n (n_call (ok_is_half_open T) (hr.mono (by decide)) rfl T.g_is_half_open T.t_is_half_open.kp T.b_is_half_open (al_nil (a_cons (e_ix id_ix (o_v (pv 0)) (o_e e_int)) a_nil)))) (e_one (e_cmp (od_eq hr.units) (o_e (e_ix id_ix (o_e (e_ix id_ix (o_v (pv 0)) (o_e e_int))) (o_e e_int))) (o_e (e_op od_sub (o_e e_int) (o_e (e_ix id_ix (o_v (pv 0)) (o_e e_int))))) (nomark _))))))))
theorem ok__law_pot (T : Txt w K mg) : FnOk P w K mg base CX0 1 T.a__law_pot T.f__law_pot ["script"] (spP K c__law_pot) := ok_fun T.t__law_pot sc__law_pot (by decide) fun cdv A outer s H E hr =>
    (b_one (s_ret (n_cat (o_e (e_n (n_lst (a_cons e_int (a_cons e_int (a_cons e_int a_nil)))))) (o_e (e_n (n_cty cd_list rfl T.z_list (by decide +kernel) (os_cons (o_v (pv 0)) os_nil)))))))
theorem ok__law_take (T : Txt w K mg) : FnOk P w K mg base CX0 1 T.a__law_take T.f__law_take ["pot", "many"] (spP K c__law_take) := ok_fun T.t__law_take sc__law_take (by decide) fun cdv A outer s H E hr =>
    (b_cons (s_if (t_w (tw_and (t_cmp (od_eq hr.units) (o_e (e_ix id_ix (o_v (pv 0)) (o_e e_int))) (o_e e_int) (nomark _)) (tw_and1 (t_cmp od_lt (o_e (e_ix id_ix (o_v (pv 0)) (o_e e_int))) (o_e (e_cb cd_len rfl T.z_len (by decide +kernel) (os_cons (o_v (pv 0)) os_nil))) (nomark _))))) (b_cons (s_set (i := 2) sc__law_take.nd rfl (Or.inl rfl) (e_ix id_ix (o_v (pv 0)) (o_e (e_ix id_ix (o_v (pv 0)) (o_e e_int)))))
    (b_cons (s_augI (pv 0) e_int e_int ipd_add)
    (b_one (s_if (t_cmp od_ge (o_v (pv 2)) (o_e (e_op od_pow (o_e e_int) (o_e e_int))) (nomark _)) (b_one (s_putI (pv 0) e_int (e_op od_sub (o_v (pv 2)) (o_e (e_op od_pow (o_e e_int) (o_e e_int)))) (fun a b c => pg_sub a b c))) (b_cons (s_set (i := 3) sc__law_take.nd rfl (Or.inl rfl) (e_op od_mod (o_e (e_cty cd_int rfl T.z_int (by decide +kernel) (os_cons (o_v (pv 2)) os_nil))) (o_e e_int)))
    (b_cons (s_set (i := 3) sc__law_take.nd rfl (Or.inl rfl) (e_op od_mod (o_e (e_cty cd_int rfl T.z_int (by decide +kernel) (os_cons (o_e (e_op od_add (o_e (e_op od_add (o_e (e_op od_mul (o_v (pv 3)) (o_v (pv 3)))) (o_e (e_op od_mul (o_e e_int) (o_v (pv 3)))))) (o_e (e_op od_mul (o_e e_int) (o_e (e_ix id_ix (o_v (pv 0)) (o_e e_int))))))) os_nil))) (o_e e_int)))
    (b_one (s_putI (pv 0) e_int (e_op od_mod (o_e (e_cty cd_int rfl T.z_int (by decide +kernel) (os_cons (o_e (e_op od_add (o_e (e_ix id_ix (o_v (pv 0)) (o_e e_int))) (o_v (pv 3)))) os_nil))) (o_e e_int)) (fun a b c => pg_sub a b c))))))))) b_nil)
    (b_cons (s_if (t_cmp od_gt (o_e (e_ix id_ix (o_v (pv 0)) (o_e e_int))) (o_e e_int) (nomark _)) (b_cons (s_set (i := 4) sc__law_take.nd rfl (Or.inl rfl) (e_op od_mod (o_e (e_cty cd_int rfl T.z_int (by decide +kernel) (os_cons (o_e (e_ix id_ix (o_v (pv 0)) (o_e e_int))) os_nil))) (o_v (pv 1))))
    (b_cons (s_putI (pv 0) e_int (e_op od_fdiv (o_e (e_ix id_ix (o_v (pv 0)) (o_e e_int))) (o_v (pv 1))) (fun a b c => pg_sub a b c))
    (b_one (s_ret (n_e (e_v (pv 4))))))) b_nil)
    (b_cons (s_putI (pv 0) e_int (e_op od_mod (o_e (e_cty cd_int rfl T.z_int (by decide +kernel) (os_cons (o_e (e_op od_add (o_e (e_op od_add (o_e (e_op od_mul (o_e (e_ix id_ix (o_v (pv 0)) (o_e e_int))) (o_e e_int))) (o_e (e_op od_mul (o_e e_int) (o_e (e_ix id_ix (o_v (pv 0)) (o_e e_int))))))) (o_e e_int))) os_nil))) (o_e e_int)) (fun a b c => pg_sub a b c))
    (b_cons (s_putI (pv 0) e_int (e_op od_mod (o_e (e_cty cd_int rfl T.z_int (by decide +kernel) (os_cons (o_e (e_op od_add (o_e (e_op od_mul (o_e (e_ix id_ix (o_v (pv 0)) (o_e e_int))) (o_e (e_ix id_ix (o_v (pv 0)) (o_e e_int))))) (o_e e_int))) os_nil))) (o_e e_int)) (fun a b c => pg_sub a b c))
    (b_one (s_ret (n_e (e_op od_mod (o_e (e_cty cd_int rfl T.z_int (by decide +kernel) (os_cons (o_e (e_op od_fdiv (o_e (e_ix id_ix (o_v (pv 0)) (o_e e_int))) (o_e e_int))) os_nil))) (o_v (pv 1))))))))))
theorem ok__law_same (T : Txt w K mg) : FnOk P w K mg base CX0 60 T.a__law_same T.f__law_same ["got", "due"] (spP K c__law_same) := by
  have h : ∀ n, FnOk P w K mg base CX0 (0 + n) T.a__law_same T.f__law_same ["got", "due"] (spP K (ci__law_same n)) := fun n => by
    induction n with
    | zero => exact ok_none
    | succ n ih => exact ok_fun (k := 0 + n) T.t__law_same sc__law_same (by decide) fun cdv A outer s H E hr =>
    (b_cons (s_if (t_cmp od_is (o_v (pv 1)) (o_e e_non) (nomark _)) (b_one (s_ret (n_e (e_cmp od_is (o_v (pv 0)) (o_e e_non) (nomark _))))) b_nil)
    (b_cons (s_if (t_val (e_isiT (ns := ["bool", "str"]) rfl T.z_isinstance (o_v (pv 1)) (pa_cons (pe_ty rfl T.z_bool (by decide +kernel)) (pa_cons (pe_ty rfl T.z_str (by decide +kernel)) pa_nil)) (fun _ _ _ h => h) (by decide))) (b_one (s_ret (n_e (e_and (e_cmp (od_eq hr.units) (o_e (e_isi rfl T.z_isinstance (o_v (pv 0)) (pe_ty rfl T.z_bool (by decide +kernel)))) (o_e (e_isi rfl T.z_isinstance (o_v (pv 1)) (pe_ty rfl T.z_bool (by decide +kernel)))) (nomark _)) (e_and (e_isiT (ns := ["bool", "str"]) rfl T.z_isinstance (o_v (pv 0)) (pa_cons (pe_ty rfl T.z_bool (by decide +kernel)) (pa_cons (pe_ty rfl T.z_str (by decide +kernel)) pa_nil)) (fun _ _ _ h => h) (by decide)) (e_one (e_cmp (od_eq hr.units) (o_v (pv 0)) (o_v (pv 1)) (nomark _)))))))) b_nil)
    (b_cons (s_if (t_val (e_isi rfl T.z_isinstance (o_v (pv 1)) (pe_ty rfl T.z_int (by decide +kernel)))) (b_one (s_ret (n_e (e_and (e_isi rfl T.z_isinstance (o_v (pv 0)) (pe_ty rfl T.z_int (by decide +kernel))) (e_and (e_not (e_isi rfl T.z_isinstance (o_v (pv 0)) (pe_ty rfl T.z_bool (by decide +kernel)))) (e_one (e_cmp (od_eq hr.units) (o_v (pv 0)) (o_v (pv 1)) (nomark _)))))))) b_nil)
    (b_cons (s_if (t_w (tw_or (t_cmp (od_ne hr.units) (o_e (e_isi rfl T.z_isinstance (o_v (pv 1)) (pe_ty rfl T.z_list (by decide +kernel)))) (o_e (e_isi rfl T.z_isinstance (o_v (pv 0)) (pe_ty rfl T.z_list (by decide +kernel)))) (nomark _)) (tw_or1 (t_cmp (od_ne hr.units) (o_e (e_isi rfl T.z_isinstance (o_v (pv 1)) (pe_ty rfl T.z_tuple (by decide +kernel)))) (o_e (e_isi rfl T.z_isinstance (o_v (pv 0)) (pe_ty rfl T.z_tuple (by decide +kernel)))) (nomark _))))) (b_one (s_ret (n_e e_bl))) b_nil)
    (b_one (s_ret (n_e (e_and (e_cmp (od_eq hr.units) (o_e (e_cb cd_len rfl T.z_len (by decide +kernel) (os_cons (o_v (pv 0)) os_nil))) (o_e (e_cb cd_len rfl T.z_len (by decide +kernel) (os_cons (o_v (pv 1)) os_nil))) (nomark _)) (e_one (e_cb (cd_all rfl) rfl T.z_all (by decide +kernel) (os_cons (o_e (e_n (n_lc (own := [("k", 2)]) rfl sc__law_same.nd (i_rng1 rfl T.z_range (a_cons (e_cb cd_len rfl T.z_len (by decide +kernel) (os_cons (o_v (pv 1)) os_nil)) a_nil)) (blkOk_by (own := [("k", 2)]) (N := N__law_same) (sc := defScope s__law_same) (by decide +kernel)) (fun _ _ _ _ _ => (g_name (i := 2) sc__law_same.nd rfl (Or.inl rfl))) (fun _ _ _ _ _ => ts_nil) (fun _ _ _ _ _ => (e_n (n_call ih hr rfl T.g__law_same T.t__law_same.kp T.b__law_same (al_nil (a_cons (e_ix id_ix (o_v (pv 0)) (o_v (pv 2))) (a_cons (e_ix id_ix (o_v (pv 1)) (o_v (pv 2))) a_nil))))))))) os_nil)))))))))))
  exact h 60
theorem ok__law_small_saying (T : Txt w K mg) : FnOk P w K mg base CX0 61 T.a__law_small_saying T.f__law_small_saying ["pot", "d", "parts"] (spP K c__law_small_saying) := by
  have h : ∀ n, FnOk P w K mg base CX0 (1 + n) T.a__law_small_saying T.f__law_small_saying ["pot", "d", "parts"] (spP K (ci__law_small_saying n)) := fun n => by
    induction n with
    | zero => exact ok_none
    | succ n ih => exact ok_fun (k := 1 + n) T.t__law_small_saying sc__law_small_saying (by decide) fun cdv A outer s H E hr =>
    (b_cons (s_if (t_cmp od_gt (o_v (pv 2)) (o_e e_int) (nomark _)) (b_cons (s_set (i := 3) sc__law_small_saying.nd rfl (Or.inl rfl) (e_op od_add (o_e e_int) (o_e (e_n (n_call (ok__law_take T) (hr.mono (by omega)) rfl T.g__law_take T.t__law_take.kp T.b__law_take (al_cons (pv 0) (al_nil (a_cons (e_op od_sub (o_v (pv 2)) (o_e e_int)) a_nil))))))))
    (b_cons (s_set (i := 4) sc__law_small_saying.nd rfl (Or.inl rfl) (e_tup (a_cons (e_ix id_ix (o_e (e_n (n_lst (a_cons e_str (a_cons e_str a_nil))))) (o_e (e_n (n_call (ok__law_take T) (hr.mono (by omega)) rfl T.g__law_take T.t__law_take.kp T.b__law_take (al_cons (pv 0) (al_nil (a_cons e_int a_nil))))))) (a_cons (e_n (n_call ih hr rfl T.g__law_small_saying T.t__law_small_saying.kp T.b__law_small_saying (al_cons (pv 0) (al_nil (a_cons (e_v (pv 1)) (a_cons (e_v (pv 3)) a_nil)))))) (a_cons (e_n (n_call ih hr rfl T.g__law_small_saying T.t__law_small_saying.kp T.b__law_small_saying (al_cons (pv 0) (al_nil (a_cons (e_v (pv 1)) (a_cons (e_op od_sub (o_v (pv 2)) (o_v (pv 3))) a_nil)))))) a_nil)))))
    (b_one (s_ret (n_e (e_if (t_cmp (od_eq hr.units) (o_e (e_n (n_call (ok__law_take T) (hr.mono (by omega)) rfl T.g__law_take T.t__law_take.kp T.b__law_take (al_cons (pv 0) (al_nil (a_cons e_int a_nil)))))) (o_e e_int) (nomark _)) (e_tup (a_cons e_str (a_cons (e_v (pv 4)) a_nil))) (e_v (pv 4)))))))) b_nil)
    (b_cons (s_par (i := 5) (j := 6) rfl sc__law_small_saying.nd rfl rfl (by decide) rfl rfl (a_cons (e_cty cd_tuple rfl T.z_tuple (by decide +kernel) (os_cons (o_e (e_n (n_lc (own := [("unknown", 8)]) rfl sc__law_small_saying.nd (i_rng1 rfl T.z_range (a_cons (e_v (pv 1)) a_nil)) (blkOk_by (own := [("unknown", 8)]) (N := N__law_small_saying) (sc := defScope s__law_small_saying) (by decide +kernel)) (fun _ _ _ _ _ => (g_name (i := 8) sc__law_small_saying.nd rfl (Or.inl rfl))) (fun _ _ _ _ _ => ts_nil) (fun _ _ _ _ _ => (e_op od_sub (o_e (e_n (n_call (ok__law_take T) (hr.mono (by omega)) rfl T.g__law_take T.t__law_take.kp T.b__law_take (al_cons (pv 0) (al_nil (a_cons e_int a_nil)))))) (o_e e_int)))))) os_nil)) (a_cons (e_n (n_call (ok__law_take T) (hr.mono (by omega)) rfl T.g__law_take T.t__law_take.kp T.b__law_take (al_cons (pv 0) (al_nil (a_cons e_int a_nil))))) a_nil)) (by rfl))
    (b_cons (s_if (t_cmp (od_eq hr.units) (o_v (pv 6)) (o_e e_int) (nomark _)) (b_cons (s_set (i := 7) sc__law_small_saying.nd rfl (Or.inl rfl) (e_op od_add (o_e e_int) (o_e (e_n (n_call (ok__law_take T) (hr.mono (by omega)) rfl T.g__law_take T.t__law_take.kp T.b__law_take (al_cons (pv 0) (al_nil (a_cons e_int a_nil))))))))
    (b_one (s_ret (n_e (e_tup (a_cons e_str (a_cons (e_v (pv 5)) (a_cons (e_v (pv 7)) (a_cons (e_n (n_call (ok__law_take T) (hr.mono (by omega)) rfl T.g__law_take T.t__law_take.kp T.b__law_take (al_cons (pv 0) (al_nil (a_cons (e_v (pv 7)) a_nil))))) a_nil))))))))) b_nil)
    (b_cons (s_set (i := 4) sc__law_small_saying.nd rfl (Or.inl rfl) (e_tup (a_cons (e_ix id_ix (o_e (e_n (n_lst (a_cons e_str (a_cons e_str (a_cons e_str a_nil)))))) (o_e (e_n (n_call (ok__law_take T) (hr.mono (by omega)) rfl T.g__law_take T.t__law_take.kp T.b__law_take (al_cons (pv 0) (al_nil (a_cons e_int a_nil))))))) (a_cons (e_v (pv 5)) (a_cons (e_op od_sub (o_e (e_n (n_call (ok__law_take T) (hr.mono (by omega)) rfl T.g__law_take T.t__law_take.kp T.b__law_take (al_cons (pv 0) (al_nil (a_cons e_int a_nil)))))) (o_e e_int)) a_nil)))))
    (b_one (s_ret (n_e (e_if (t_cmp (od_eq hr.units) (o_v (pv 6)) (o_e e_int) (nomark _)) (e_tup (a_cons e_str (a_cons (e_v (pv 4)) a_nil))) (e_v (pv 4))))))))))
  exact h 60
theorem ok__law_mutant (T : Txt w K mg) : FnOk P w K mg base CX0 61 T.a__law_mutant T.f__law_mutant ["pot", "value", "deep"] (spP K c__law_mutant) := by
  have h : ∀ n, FnOk P w K mg base CX0 (1 + n) T.a__law_mutant T.f__law_mutant ["pot", "value", "deep"] (spP K (ci__law_mutant n)) := fun n => by
    induction n with
    | zero => exact ok_none
    | succ n ih => exact ok_fun (k := 1 + n) T.t__law_mutant sc__law_mutant (by decide) fun cdv A outer s H E hr =>
    (b_cons (s_set (i := 3) sc__law_mutant.nd rfl (Or.inl rfl) (e_ix id_ix (o_e (e_n (n_lst (a_cons e_non (a_cons e_bl (a_cons e_bl (a_cons e_str (a_cons (e_un ud_neg (o_e e_int)) (a_cons e_int (a_cons e_int (a_cons e_int (a_cons e_int (a_cons (e_tup a_nil) (a_cons (e_tup (a_cons e_int a_nil)) (a_cons (e_n (n_lst (a_cons e_int a_nil))) (a_cons (e_tup (a_cons e_int (a_cons e_int a_nil))) (a_cons (e_tup (a_cons e_int (a_cons e_int a_nil))) (a_cons e_str a_nil)))))))))))))))))) (o_e (e_n (n_call (ok__law_take T) (hr.mono (by omega)) rfl T.g__law_take T.t__law_take.kp T.b__law_take (al_cons (pv 0) (al_nil (a_cons e_int a_nil))))))))
    (b_cons (s_if (t_w (tw_or (t_not (t_val (e_isi rfl T.z_isinstance (o_v (pv 1)) (pe_ty rfl T.z_tuple (by decide +kernel))))) (tw_or (t_cmp (od_eq hr.units) (o_v (pv 1)) (o_e (e_tup a_nil)) (nomark _)) (tw_or (t_cmp (od_eq hr.units) (o_v (pv 2)) (o_e e_int) (nomark _)) (tw_or1 (t_cmp (od_eq hr.units) (o_e (e_n (n_call (ok__law_take T) (hr.mono (by omega)) rfl T.g__law_take T.t__law_take.kp T.b__law_take (al_cons (pv 0) (al_nil (a_cons e_int a_nil)))))) (o_e e_int) (nomark _))))))) (b_one (s_ret (n_e (e_v (pv 3))))) b_nil)
    (b_cons (s_par (i := 4) (j := 5) rfl sc__law_mutant.nd rfl rfl (by decide) rfl rfl (a_cons (e_n (n_call (ok__law_take T) (hr.mono (by omega)) rfl T.g__law_take T.t__law_take.kp T.b__law_take (al_cons (pv 0) (al_nil (a_cons (e_cb cd_len rfl T.z_len (by decide +kernel) (os_cons (o_v (pv 1)) os_nil)) a_nil))))) (a_cons (e_n (n_call (ok__law_take T) (hr.mono (by omega)) rfl T.g__law_take T.t__law_take.kp T.b__law_take (al_cons (pv 0) (al_nil (a_cons e_int a_nil))))) a_nil)) (by rfl))
    (b_cons (s_if (t_cmp od_lt (o_v (pv 5)) (o_e e_int) (nomark _)) (b_one (s_ret (n_e (e_op od_add (o_e (e_op od_add (o_e (e_slT (o_v (pv 1)) o_none (o_some (e_v (pv 4))))) (o_e (e_tup (a_cons (e_n (n_call ih hr rfl T.g__law_mutant T.t__law_mutant.kp T.b__law_mutant (al_cons (pv 0) (al_nil (a_cons (e_ix id_ix (o_v (pv 1)) (o_v (pv 4))) (a_cons (e_op od_sub (o_v (pv 2)) (o_e e_int)) a_nil)))))) a_nil))))) (o_e (e_slT (o_v (pv 1)) (o_some (e_op od_add (o_v (pv 4)) (o_e e_int))) o_none)))))) b_nil)
    (b_cons (s_if (t_cmp (od_eq hr.units) (o_v (pv 5)) (o_e e_int) (nomark _)) (b_one (s_ret (n_cty cd_list rfl T.z_list (by decide +kernel) (os_cons (o_v (pv 1)) os_nil)))) b_nil)
    (b_cons (s_if (t_cmp (od_eq hr.units) (o_v (pv 5)) (o_e e_int) (nomark _)) (b_one (s_ret (n_e (e_op od_add (o_v (pv 1)) (o_e (e_tup (a_cons (e_v (pv 3)) a_nil))))))) b_nil)
    (b_cons (s_if (t_cmp (od_eq hr.units) (o_v (pv 5)) (o_e e_int) (nomark _)) (b_one (s_ret (n_e (e_op od_add (o_e (e_slT (o_v (pv 1)) o_none (o_some (e_v (pv 4))))) (o_e (e_slT (o_v (pv 1)) (o_some (e_op od_add (o_v (pv 4)) (o_e e_int))) o_none)))))) b_nil)
    (b_cons (s_if (t_cmp (od_eq hr.units) (o_v (pv 5)) (o_e e_int) (nomark _)) (b_one (s_ret (n_e (e_revT (o_v (pv 1)))))) b_nil)
    (b_one (s_ret (n_e (e_op od_add (o_v (pv 1)) (o_e (e_slT (o_v (pv 1)) (o_some (e_v (pv 4))) (o_some (e_op od_add (o_v (pv 4)) (o_e e_int)))))))))))))))))
  exact h 60
theorem ok__law_integer (T : Txt w K mg) : FnOk P w K mg base CX0 1 T.a__law_integer T.f__law_integer ["told"] (spP K c__law_integer) := ok_fun T.t__law_integer sc__law_integer (by decide) fun cdv A outer s H E hr =>
    (b_one (s_ret (n_e (e_and (e_isi rfl T.z_isinstance (o_v (pv 0)) (pe_ty rfl T.z_int (by decide +kernel))) (e_one (e_not (e_isi rfl T.z_isinstance (o_v (pv 0)) (pe_ty rfl T.z_bool (by decide +kernel)))))))))
theorem ok__law_row_of_integers (T : Txt w K mg) : FnOk P w K mg base CX0 2 T.a__law_row_of_integers T.f__law_row_of_integers ["told", "many"] (spP K c__law_row_of_integers) := ok_fun T.t__law_row_of_integers sc__law_row_of_integers (by decide) fun cdv A outer s H E hr =>
    (b_one (s_ret (n_e (e_and (e_isi rfl T.z_isinstance (o_v (pv 0)) (pe_ty rfl T.z_tuple (by decide +kernel))) (e_and (e_cmp (od_eq hr.units) (o_e (e_cb cd_len rfl T.z_len (by decide +kernel) (os_cons (o_v (pv 0)) os_nil))) (o_v (pv 1)) (nomark _)) (e_one (e_cb (cd_all rfl) rfl T.z_all (by decide +kernel) (os_cons (o_e (e_n (n_lc (own := [("own", 2)]) rfl sc__law_row_of_integers.nd (i_seq (e_v (pv 0))) (blkOk_by (own := [("own", 2)]) (N := N__law_row_of_integers) (sc := defScope s__law_row_of_integers) (by decide +kernel)) (fun _ _ _ _ _ => (g_name (i := 2) sc__law_row_of_integers.nd rfl (Or.inl rfl))) (fun _ _ _ _ _ => ts_nil) (fun _ _ _ _ _ => (e_n (n_call (ok__law_integer T) (hr.mono (by decide)) rfl T.g__law_integer T.t__law_integer.kp T.b__law_integer (al_nil (a_cons (e_v (pv 2)) a_nil)))))))) os_nil))))))))
theorem ok__law_is_said (T : Txt w K mg) : FnOk P w K mg base CX0 62 T.a__law_is_said T.f__law_is_said ["d", "told", "whole"] (spP K c__law_is_said) := by
  have h : ∀ n, FnOk P w K mg base CX0 (2 + n) T.a__law_is_said T.f__law_is_said ["d", "told", "whole"] (spP K (ci__law_is_said n)) := fun n => by
    induction n with
    | zero => exact ok_none
    | succ n ih => exact ok_fun (k := 2 + n) T.t__law_is_said sc__law_is_said (by decide) fun cdv A outer s H E hr =>
    (b_cons (s_if (t_w (tw_or (t_not (t_val (e_isi rfl T.z_isinstance (o_v (pv 1)) (pe_ty rfl T.z_tuple (by decide +kernel))))) (tw_or (t_cmp (od_eq hr.units) (o_v (pv 1)) (o_e (e_tup a_nil)) (nomark _)) (tw_or1 (t_not (t_val (e_isi rfl T.z_isinstance (o_e (e_ix id_ix (o_v (pv 1)) (o_e e_int))) (pe_ty rfl T.z_str (by decide +kernel))))))))) (b_one (s_ret (n_e e_bl))) b_nil)
    (b_cons (s_if (t_cmp (od_in (room65 hr)) (o_e (e_ix id_ix (o_v (pv 1)) (o_e e_int))) (o_e (e_tup (a_cons e_str (a_cons e_str (a_cons e_str a_nil))))) (by rfl)) (b_one (s_ret (n_e (e_and (e_cmp (od_eq hr.units) (o_e (e_cb cd_len rfl T.z_len (by decide +kernel) (os_cons (o_v (pv 1)) os_nil))) (o_e e_int) (nomark _)) (e_and (e_n (n_call (ok__law_row_of_integers T) (hr.mono (by omega)) rfl T.g__law_row_of_integers T.t__law_row_of_integers.kp T.b__law_row_of_integers (al_nil (a_cons (e_ix id_ix (o_v (pv 1)) (o_e e_int)) (a_cons (e_v (pv 0)) a_nil))))) (e_one (e_n (n_call (ok__law_integer T) (hr.mono (by omega)) rfl T.g__law_integer T.t__law_integer.kp T.b__law_integer (al_nil (a_cons (e_ix id_ix (o_v (pv 1)) (o_e e_int)) a_nil)))))))))) b_nil)
    (b_cons (s_if (t_w (tw_and (t_cmp (od_eq hr.units) (o_e (e_ix id_ix (o_v (pv 1)) (o_e e_int))) (o_e e_str) (nomark _)) (tw_and1 (t_val (e_v (pv 2)))))) (b_one (s_ret (n_e (e_and (e_cmp (od_eq hr.units) (o_e (e_cb cd_len rfl T.z_len (by decide +kernel) (os_cons (o_v (pv 1)) os_nil))) (o_e e_int) (nomark _)) (e_and (e_n (n_call (ok__law_row_of_integers T) (hr.mono (by omega)) rfl T.g__law_row_of_integers T.t__law_row_of_integers.kp T.b__law_row_of_integers (al_nil (a_cons (e_ix id_ix (o_v (pv 1)) (o_e e_int)) (a_cons (e_v (pv 0)) a_nil))))) (e_and (e_n (n_call (ok__law_integer T) (hr.mono (by omega)) rfl T.g__law_integer T.t__law_integer.kp T.b__law_integer (al_nil (a_cons (e_ix id_ix (o_v (pv 1)) (o_e e_int)) a_nil)))) (e_and (e_n (n_call (ok__law_integer T) (hr.mono (by omega)) rfl T.g__law_integer T.t__law_integer.kp T.b__law_integer (al_nil (a_cons (e_ix id_ix (o_v (pv 1)) (o_e e_int)) a_nil)))) (e_one (e_chain od_le od_lt (o_e e_int) (o_e (e_ix id_ix (o_v (pv 1)) (o_e e_int))) (o_e (e_ix id_ix (o_v (pv 1)) (o_e e_int)))))))))))) b_nil)
    (b_cons (s_set (i := 3) sc__law_is_said.nd rfl (Or.inl rfl) (e_getD (kvs := [("not", .int 2), ("both", .int 3), ("either", .int 3)]) (dvs := [("not", (.int 2)), ("both", (.int 3)), ("either", (.int 3))]) (room1 hr) (pps_cons pe_str pe_int (pps_cons pe_str pe_int (pps_cons pe_str pe_int pps_nil))) (o_e (e_ix id_ix (o_v (pv 1)) (o_e e_int))) pe_int (fun _ => by constructor) (.cons ⟨rfl, fun _ => by constructor⟩ (.cons ⟨rfl, fun _ => by constructor⟩ (.cons ⟨rfl, fun _ => by constructor⟩ .nil))) (by decide +kernel) rfl rfl (by intro z; cases z) (by decide) (by decide) ⟨rfl, rfl, rfl, rfl⟩))
    (b_one (s_ret (n_e (e_and (e_cmp (od_eq hr.units) (o_e (e_cb cd_len rfl T.z_len (by decide +kernel) (os_cons (o_v (pv 1)) os_nil))) (o_v (pv 3)) (nomark _)) (e_one (e_cb (cd_all rfl) rfl T.z_all (by decide +kernel) (os_cons (o_e (e_n (n_lc (own := [("own", 4)]) rfl sc__law_is_said.nd (i_seq (e_slT (o_v (pv 1)) (o_some e_int) o_none)) (blkOk_by (own := [("own", 4)]) (N := N__law_is_said) (sc := defScope s__law_is_said) (by decide +kernel)) (fun _ _ _ _ _ => (g_name (i := 4) sc__law_is_said.nd rfl (Or.inl rfl))) (fun _ _ _ _ _ => ts_nil) (fun _ _ _ _ _ => (e_n (n_call ih hr rfl T.g__law_is_said T.t__law_is_said.kp T.b__law_is_said (al_nil (a_cons (e_v (pv 0)) (a_cons (e_v (pv 4)) (a_cons (e_v (pv 2)) a_nil)))))))))) os_nil)))))))))))
  exact h 60
theorem ok__law_is_each (T : Txt w K mg) : FnOk P w K mg base CX0 2 T.a__law_is_each T.f__law_is_each ["told"] (spP K c__law_is_each) := ok_fun T.t__law_is_each sc__law_is_each (by decide) fun cdv A outer s H E hr =>
    (b_one (s_ret (n_e (e_and (e_isi rfl T.z_isinstance (o_v (pv 0)) (pe_ty rfl T.z_tuple (by decide +kernel))) (e_and (e_cmp (od_eq hr.units) (o_e (e_cb cd_len rfl T.z_len (by decide +kernel) (os_cons (o_v (pv 0)) os_nil))) (o_e e_int) (nomark _)) (e_and (e_isi rfl T.z_isinstance (o_e (e_ix id_ix (o_v (pv 0)) (o_e e_int))) (pe_ty rfl T.z_str (by decide +kernel))) (e_and (e_cmp (od_in (room65 hr)) (o_e (e_ix id_ix (o_v (pv 0)) (o_e e_int))) (o_e (e_tup (a_cons e_str (a_cons e_str a_nil)))) (by rfl)) (e_and (e_n (n_call (ok__law_integer T) (hr.mono (by decide)) rfl T.g__law_integer T.t__law_integer.kp T.b__law_integer (al_nil (a_cons (e_ix id_ix (o_v (pv 0)) (o_e e_int)) a_nil)))) (e_one (e_cmp (od_in (room65 hr)) (o_e (e_ix id_ix (o_v (pv 0)) (o_e e_int))) (o_e (e_tup (a_cons e_int (a_cons e_int a_nil)))) (by rfl)))))))))))
theorem ok__law_is_half (T : Txt w K mg) : FnOk P w K mg base CX0 63 T.a__law_is_half T.f__law_is_half ["told"] (spP K c__law_is_half) := ok_fun T.t__law_is_half sc__law_is_half (by decide) fun cdv A outer s H E hr =>
    (b_one (s_ret (n_e (e_and (e_n (n_call (ok__law_is_each T) (hr.mono (by decide)) rfl T.g__law_is_each T.t__law_is_each.kp T.b__law_is_each (al_nil (a_cons (e_v (pv 0)) a_nil)))) (e_one (e_n (n_call (ok__law_is_said T) (hr.mono (by decide)) rfl T.g__law_is_said T.t__law_is_said.kp T.b__law_is_said (al_nil (a_cons e_int (a_cons (e_ix id_ix (o_v (pv 0)) (o_e e_int)) (a_cons e_bl a_nil)))))))))))
theorem ok__law_is_closed (T : Txt w K mg) : FnOk P w K mg base CX0 64 T.a__law_is_closed T.f__law_is_closed ["told"] (spP K c__law_is_closed) := ok_fun T.t__law_is_closed sc__law_is_closed (by decide) fun cdv A outer s H E hr =>
    (b_one (s_ret (n_e (e_and (e_n (n_call (ok__law_is_each T) (hr.mono (by decide)) rfl T.g__law_is_each T.t__law_is_each.kp T.b__law_is_each (al_nil (a_cons (e_v (pv 0)) a_nil)))) (e_and (e_n (n_call (ok__law_is_half T) (hr.mono (by decide)) rfl T.g__law_is_half T.t__law_is_half.kp T.b__law_is_half (al_nil (a_cons (e_ix id_ix (o_v (pv 0)) (o_e e_int)) a_nil)))) (e_one (e_cmp (od_eq hr.units) (o_e (e_ix id_ix (o_e (e_ix id_ix (o_v (pv 0)) (o_e e_int))) (o_e e_int))) (o_e (e_op od_sub (o_e e_int) (o_e (e_ix id_ix (o_v (pv 0)) (o_e e_int))))) (nomark _))))))))
theorem ok__law_kinds (T : Txt w K mg) : FnOk P w K mg base CX0 65 T.a__law_kinds T.f__law_kinds ["told"] (spP K c__law_kinds) := ok_fun T.t__law_kinds sc__law_kinds (by decide) fun cdv A outer s H E hr =>
    (b_one (s_ret (n_cat (o_e (e_op od_add (o_e (e_n (n_lc (own := [("d", 1)]) rfl sc__law_kinds.nd (i_seq (e_tup (a_cons e_int (a_cons e_int (a_cons e_int a_nil))))) (blkOk_by (own := [("d", 1)]) (N := N__law_kinds) (sc := defScope s__law_kinds) (by decide +kernel)) (fun _ _ _ _ _ => (g_name (i := 1) sc__law_kinds.nd rfl (Or.inl rfl))) (fun _ _ _ _ _ => ts_nil) (fun _ _ _ _ _ => (e_n (n_call (ok__law_is_said T) (hr.mono (by decide)) rfl T.g__law_is_said T.t__law_is_said.kp T.b__law_is_said (al_nil (a_cons (e_v (pv 1)) (a_cons (e_v (pv 0)) (a_cons e_bl a_nil)))))))))) (o_e (e_n (n_lc (own := [("d", 1)]) rfl sc__law_kinds.nd (i_seq (e_tup (a_cons e_int (a_cons e_int a_nil)))) (blkOk_by (own := [("d", 1)]) (N := N__law_kinds) (sc := defScope s__law_kinds) (by decide +kernel)) (fun _ _ _ _ _ => (g_name (i := 1) sc__law_kinds.nd rfl (Or.inl rfl))) (fun _ _ _ _ _ => ts_nil) (fun _ _ _ _ _ => (e_n (n_call (ok__law_is_said T) (hr.mono (by decide)) rfl T.g__law_is_said T.t__law_is_said.kp T.b__law_is_said (al_nil (a_cons (e_v (pv 1)) (a_cons (e_v (pv 0)) (a_cons e_bl a_nil)))))))))))) (o_e (e_n (n_lst (a_cons (e_n (n_call (ok__law_is_half T) (hr.mono (by decide)) rfl T.g__law_is_half T.t__law_is_half.kp T.b__law_is_half (al_nil (a_cons (e_v (pv 0)) a_nil)))) (a_cons (e_n (n_call (ok__law_is_closed T) (hr.mono (by decide)) rfl T.g__law_is_closed T.t__law_is_closed.kp T.b__law_is_closed (al_nil (a_cons (e_v (pv 0)) a_nil)))) a_nil))))))))
theorem ok__law_told (T : Txt w K mg) : FnOk P w K mg base CX0 65 T.a__law_told T.f__law_told ["value"] (spP K c__law_told) := ok_fun T.t__law_told sc__law_told (by decide) fun cdv A outer s H E hr =>
    (b_one (s_ret (n_lst (a_cons (e_n (n_call (ok_is_saying T) (hr.mono (by decide)) rfl T.g_is_saying T.t_is_saying.kp T.b_is_saying (al_nil (a_cons e_int (a_cons (e_v (pv 0)) a_nil))))) (a_cons (e_n (n_callK0 (ok_is_saying T) (hr.mono (by decide)) rfl T.g_is_saying T.t_is_saying.kp T.kb_is_saying_told_d_0 (k_cons (e_v (pv 0)) (k_cons e_int k_nil)))) (a_cons (e_n (n_call (ok_is_saying T) (hr.mono (by decide)) rfl T.g_is_saying T.t_is_saying.kp T.b_is_saying (al_nil (a_cons e_int (a_cons (e_v (pv 0)) a_nil))))) (a_cons (e_n (n_call (ok_is_open T) (hr.mono (by decide)) rfl T.g_is_open T.t_is_open.kp T.b_is_open (al_nil (a_cons e_int (a_cons (e_v (pv 0)) a_nil))))) (a_cons (e_n (n_callK0 (ok_is_open T) (hr.mono (by decide)) rfl T.g_is_open T.t_is_open.kp T.kb_is_open_told_d_0 (k_cons (e_v (pv 0)) (k_cons e_int k_nil)))) (a_cons (e_n (n_call (ok_is_half_open T) (hr.mono (by decide)) rfl T.g_is_half_open T.t_is_half_open.kp T.b_is_half_open (al_nil (a_cons (e_v (pv 0)) a_nil)))) (a_cons (e_n (n_callK0 (ok_is_closed T) (hr.mono (by decide)) rfl T.g_is_closed T.t_is_closed.kp T.kb_is_closed_told_0 (k_cons (e_v (pv 0)) k_nil))) a_nil))))))))))
theorem ok__law_plain (T : Txt w K mg) : FnOk P w K mg base CX0 61 T.a__law_plain T.f__law_plain ["pot", "d", "deep"] (spP K c__law_plain) := by
  have h : ∀ n, FnOk P w K mg base CX0 (1 + n) T.a__law_plain T.f__law_plain ["pot", "d", "deep"] (spP K (ci__law_plain n)) := fun n => by
    induction n with
    | zero => exact ok_none
    | succ n ih => exact ok_fun (k := 1 + n) T.t__law_plain sc__law_plain (by decide) fun cdv A outer s H E hr =>
    (b_cons (s_set (i := 3) sc__law_plain.nd rfl (Or.inl rfl) (e_n (n_call (ok__law_take T) (hr.mono (by omega)) rfl T.g__law_take T.t__law_take.kp T.b__law_take (al_cons (pv 0) (al_nil (a_cons e_int a_nil))))))
    (b_cons (s_if (t_w (tw_or (t_cmp od_lt (o_v (pv 2)) (o_e e_int) (nomark _)) (tw_or1 (t_cmp od_lt (o_v (pv 3)) (o_e e_int) (nomark _))))) (b_one (s_ret (n_e (e_tup (a_cons (e_ix id_ix (o_e (e_n (n_lst (a_cons e_str (a_cons e_str (a_cons e_str a_nil)))))) (o_e (e_n (n_call (ok__law_take T) (hr.mono (by omega)) rfl T.g__law_take T.t__law_take.kp T.b__law_take (al_cons (pv 0) (al_nil (a_cons e_int a_nil))))))) (a_cons (e_cty cd_tuple rfl T.z_tuple (by decide +kernel) (os_cons (o_e (e_n (n_lc (own := [("unknown", 4)]) rfl sc__law_plain.nd (i_rng1 rfl T.z_range (a_cons (e_v (pv 1)) a_nil)) (blkOk_by (own := [("unknown", 4)]) (N := N__law_plain) (sc := defScope s__law_plain) (by decide +kernel)) (fun _ _ _ _ _ => (g_name (i := 4) sc__law_plain.nd rfl (Or.inl rfl))) (fun _ _ _ _ _ => ts_nil) (fun _ _ _ _ _ => (e_op od_sub (o_e (e_n (n_call (ok__law_take T) (hr.mono (by omega)) rfl T.g__law_take T.t__law_take.kp T.b__law_take (al_cons (pv 0) (al_nil (a_cons e_int a_nil)))))) (o_e e_int)))))) os_nil)) (a_cons (e_op od_sub (o_e (e_n (n_call (ok__law_take T) (hr.mono (by omega)) rfl T.g__law_take T.t__law_take.kp T.b__law_take (al_cons (pv 0) (al_nil (a_cons e_int a_nil)))))) (o_e e_int)) a_nil))))))) b_nil)
    (b_cons (s_if (t_cmp (od_eq hr.units) (o_v (pv 3)) (o_e e_int) (nomark _)) (b_one (s_ret (n_e (e_tup (a_cons e_str (a_cons (e_n (n_call ih hr rfl T.g__law_plain T.t__law_plain.kp T.b__law_plain (al_cons (pv 0) (al_nil (a_cons (e_v (pv 1)) (a_cons (e_op od_sub (o_v (pv 2)) (o_e e_int)) a_nil)))))) a_nil)))))) b_nil)
    (b_one (s_ret (n_e (e_tup (a_cons (e_ix id_ix (o_e (e_n (n_lst (a_cons e_str (a_cons e_str a_nil))))) (o_e (e_op od_sub (o_v (pv 3)) (o_e e_int)))) (a_cons (e_n (n_call ih hr rfl T.g__law_plain T.t__law_plain.kp T.b__law_plain (al_cons (pv 0) (al_nil (a_cons (e_v (pv 1)) (a_cons e_int a_nil)))))) (a_cons (e_n (n_call ih hr rfl T.g__law_plain T.t__law_plain.kp T.b__law_plain (al_cons (pv 0) (al_nil (a_cons (e_v (pv 1)) (a_cons (e_op od_sub (o_v (pv 2)) (o_e e_int)) a_nil)))))) a_nil))))))))))
  exact h 60
theorem ok__law_near (T : Txt w K mg) : FnOk P w K mg base CX0 62 T.a__law_near T.f__law_near ["pot", "value"] (spP K c__law_near) := ok_fun T.t__law_near sc__law_near (by decide) fun cdv A outer s H E hr =>
    (b_cons (s_for PassesOwn.never rfl (i_rng1 rfl T.z_range (a_cons (e_n (n_call (ok__law_take T) (hr.mono (by decide)) rfl T.g__law_take T.t__law_take.kp T.b__law_take (al_cons (pv 0) (al_nil (a_cons e_int a_nil))))) a_nil)) (g_name (i := 2) sc__law_near.nd rfl (Or.inl rfl)) (b_one (s_set (i := 1) sc__law_near.nd rfl (Or.inl rfl) (e_n (n_call (ok__law_mutant T) (hr.mono (by decide)) rfl T.g__law_mutant T.t__law_mutant.kp T.b__law_mutant (al_cons (pv 0) (al_nil (a_cons (e_v (pv 1)) (a_cons e_int a_nil)))))))))
    (b_one (s_ret (n_e (e_v (pv 1))))))
theorem ok_law (T : Txt w K mg) : FnOk P w K mg base CX0 66 T.a_law T.f_law ["script"] (spP K c_law) := ok_fun T.t_law sc_law (by decide) fun cdv A outer s H E hr =>
    (b_cons (s_setN (i := 1) sc_law.nd rfl (Or.inr rfl) (n_call (ok__law_pot T) (hr.mono (by decide)) rfl T.g__law_pot T.t__law_pot.kp T.b__law_pot (al_nil (a_cons (e_v (pv 0)) a_nil))))
    (b_cons (s_for PassesOwn.never rfl (i_rng1 rfl T.z_range (a_cons e_int a_nil)) (g_name (i := 2) sc_law.nd rfl (Or.inl rfl)) (b_cons (s_par (i := 3) (j := 4) rfl sc_law.nd rfl rfl (by decide) rfl rfl (a_cons (e_n (n_call (ok__law_take T) (hr.mono (by decide)) rfl T.g__law_take T.t__law_take.kp T.b__law_take (al_cons (pv 1) (al_nil (a_cons e_int a_nil))))) (a_cons (e_op od_add (o_e e_int) (o_e (e_n (n_call (ok__law_take T) (hr.mono (by decide)) rfl T.g__law_take T.t__law_take.kp T.b__law_take (al_cons (pv 1) (al_nil (a_cons e_int a_nil))))))) a_nil)) (by rfl))
    (b_cons (s_par (i := 5) (j := 6) rfl sc_law.nd rfl rfl (by decide) rfl rfl (a_cons (e_n (n_call (ok__law_small_saying T) (hr.mono (by decide)) rfl T.g__law_small_saying T.t__law_small_saying.kp T.b__law_small_saying (al_cons (pv 1) (al_nil (a_cons e_int (a_cons e_int a_nil)))))) (a_cons (e_n (n_call (ok__law_small_saying T) (hr.mono (by decide)) rfl T.g__law_small_saying T.t__law_small_saying.kp T.b__law_small_saying (al_cons (pv 1) (al_nil (a_cons (e_v (pv 4)) (a_cons e_int a_nil)))))) a_nil)) (by rfl))
    (b_cons (s_set (i := 7) sc_law.nd rfl (Or.inl rfl) (e_tup (a_cons (e_ix id_ix (o_e (e_n (n_lst (a_cons e_str (a_cons e_str a_nil))))) (o_e (e_n (n_call (ok__law_take T) (hr.mono (by decide)) rfl T.g__law_take T.t__law_take.kp T.b__law_take (al_cons (pv 1) (al_nil (a_cons e_int a_nil))))))) (a_cons (e_v (pv 3)) (a_cons (e_v (pv 5)) a_nil)))))
    (b_cons (s_set (i := 8) sc_law.nd rfl (Or.inl rfl) (e_tup (a_cons (e_ix id_ix (o_e (e_n (n_lst (a_cons e_str (a_cons e_str a_nil))))) (o_e (e_n (n_call (ok__law_take T) (hr.mono (by decide)) rfl T.g__law_take T.t__law_take.kp T.b__law_take (al_cons (pv 1) (al_nil (a_cons e_int a_nil))))))) (a_cons (e_op od_sub (o_e e_int) (o_v (pv 3))) (a_cons (e_v (pv 7)) a_nil)))))
    (b_cons (s_par (i := 9) (j := 10) rfl sc_law.nd rfl rfl (by decide) rfl rfl (a_cons (e_n (n_call (ok__law_plain T) (hr.mono (by decide)) rfl T.g__law_plain T.t__law_plain.kp T.b__law_plain (al_cons (pv 1) (al_nil (a_cons (e_op od_add (o_e e_int) (o_e (e_n (n_call (ok__law_take T) (hr.mono (by decide)) rfl T.g__law_take T.t__law_take.kp T.b__law_take (al_cons (pv 1) (al_nil (a_cons e_int a_nil))))))) (a_cons e_int a_nil)))))) (a_cons (e_op od_add (o_e e_int) (o_e (e_n (n_call (ok__law_take T) (hr.mono (by decide)) rfl T.g__law_take T.t__law_take.kp T.b__law_take (al_cons (pv 1) (al_nil (a_cons e_int a_nil))))))) a_nil)) (by rfl))
    (b_cons (s_set (i := 11) sc_law.nd rfl (Or.inl rfl) (e_tup (a_cons e_str (a_cons (e_op od_mulT (o_e (e_tup (a_cons e_int a_nil))) (o_v (pv 4))) (a_cons (e_v (pv 10)) (a_cons (e_ix id_ix (o_e (e_n (n_lst (a_cons e_int (a_cons (e_op od_sub (o_v (pv 10)) (o_e e_int)) (a_cons (e_v (pv 10)) (a_cons (e_un ud_neg (o_e e_int)) a_nil))))))) (o_e (e_n (n_call (ok__law_take T) (hr.mono (by decide)) rfl T.g__law_take T.t__law_take.kp T.b__law_take (al_cons (pv 1) (al_nil (a_cons e_int a_nil))))))) a_nil))))))
    (b_cons (s_set (i := 12) sc_law.nd rfl (Or.inr rfl) (e_n (n_lst (a_cons (e_v (pv 5)) (a_cons (e_v (pv 6)) (a_cons (e_v (pv 7)) (a_cons (e_v (pv 8)) (a_cons (e_v (pv 9)) (a_cons (e_v (pv 11)) (a_cons (e_tup (a_cons e_str (a_cons (e_v (pv 11)) a_nil))) (a_cons (e_tup (a_cons (e_ix id_ix (o_v (pv 8)) (o_e e_int)) (a_cons (e_v (pv 3)) (a_cons (e_v (pv 7)) a_nil)))) (a_cons (e_tup (a_cons e_str (a_cons (e_v (pv 7)) a_nil))) (a_cons (e_tup (a_cons e_str (a_cons e_int (a_cons (e_v (pv 5)) a_nil)))) (a_cons (e_tup (a_cons e_str (a_cons e_bl (a_cons (e_v (pv 5)) a_nil)))) a_nil))))))))))))))
    (b_one (s_for PassesOwn.never rfl (i_seq (e_op od_add (o_v (pv 12)) (o_e (e_n (n_lc (own := [("again", 14)]) rfl sc_law.nd (i_rng1 rfl T.z_range (a_cons e_int a_nil)) (blkOk_by (own := [("again", 14)]) (N := N_law) (sc := defScope s_law) (by decide +kernel)) (fun _ _ _ _ _ => (g_name (i := 14) sc_law.nd rfl (Or.inl rfl))) (fun _ _ _ _ _ => ts_nil) (fun _ _ _ _ _ => (e_n (n_call (ok__law_near T) (hr.mono (by decide)) rfl T.g__law_near T.t__law_near.kp T.b__law_near (al_cons (pv 1) (al_nil (a_cons (e_ix id_ix (o_v (pv 12)) (o_e (e_n (n_call (ok__law_take T) (hr.mono (by decide)) rfl T.g__law_take T.t__law_take.kp T.b__law_take (al_cons (pv 1) (al_nil (a_cons (e_cb cd_len rfl T.z_len (by decide +kernel) (os_cons (o_v (pv 12)) os_nil)) a_nil))))))) a_nil))))))))))) (g_name (i := 13) sc_law.nd rfl (Or.inl rfl)) (b_one (s_if (t_not (t_val (e_n (n_call (ok__law_same T) (hr.mono (by decide)) rfl T.g__law_same T.t__law_same.kp T.b__law_same (al_nil (a_cons (e_n (n_call (ok__law_told T) (hr.mono (by decide)) rfl T.g__law_told T.t__law_told.kp T.b__law_told (al_nil (a_cons (e_v (pv 13)) a_nil)))) (a_cons (e_n (n_call (ok__law_kinds T) (hr.mono (by decide)) rfl T.g__law_kinds T.t__law_kinds.kp T.b__law_kinds (al_nil (a_cons (e_v (pv 13)) a_nil)))) a_nil))))))) (b_one (s_ret (n_e e_bl))) b_nil))))))))))))
    (b_one (s_ret (n_e e_bl)))))
end
theorem all_mk {P : Program} {w : World} {K : Fr} {h : Heap} {mg : Str → Option Value} {fa : Addr} (X : K.In h) (G : h.Ns mainGlobals mg) (hfa : mg "law" = some (.ref fa))
    {a_is_integer : Addr} {od_is_integer an_is_integer : Option Addr} {sl_is_integer : Array (Option Value)} {oc_is_integer kV_is_integer dc_is_integer pm_is_integer cd_is_integer ct_is_integer : Value}
    {a_are_integers : Addr} {od_are_integers an_are_integers : Option Addr} {sl_are_integers : Array (Option Value)} {oc_are_integers kV_are_integers dc_are_integers pm_are_integers cd_are_integers ct_are_integers : Value}
    {a_are_sides : Addr} {od_are_sides an_are_sides : Option Addr} {sl_are_sides : Array (Option Value)} {oc_are_sides kV_are_sides dc_are_sides pm_are_sides cd_are_sides ct_are_sides : Value}
    {a_is_said : Addr} {od_is_said an_is_said : Option Addr} {sl_is_said : Array (Option Value)} {oc_is_said kV_is_said dc_is_said pm_is_said cd_is_said ct_is_said : Value}
    {a_check_unknowns : Addr} {od_check_unknowns an_check_unknowns : Option Addr} {sl_check_unknowns : Array (Option Value)} {oc_check_unknowns kV_check_unknowns dc_check_unknowns pm_check_unknowns cd_check_unknowns ct_check_unknowns : Value}
    {a_is_saying : Addr} {od_is_saying an_is_saying : Option Addr} {sl_is_saying : Array (Option Value)} {oc_is_saying kV_is_saying dc_is_saying pm_is_saying cd_is_saying ct_is_saying : Value}
    {a_check_unknowns_18 : Addr} {od_check_unknowns_18 an_check_unknowns_18 : Option Addr} {sl_check_unknowns_18 : Array (Option Value)} {oc_check_unknowns_18 kV_check_unknowns_18 dc_check_unknowns_18 pm_check_unknowns_18 cd_check_unknowns_18 ct_check_unknowns_18 : Value}
    {a_is_said_20 : Addr} {od_is_said_20 an_is_said_20 : Option Addr} {sl_is_said_20 : Array (Option Value)} {oc_is_said_20 kV_is_said_20 dc_is_said_20 pm_is_said_20 cd_is_said_20 ct_is_said_20 : Value}
    {a_is_open : Addr} {od_is_open an_is_open : Option Addr} {sl_is_open : Array (Option Value)} {oc_is_open kV_is_open dc_is_open pm_is_open cd_is_open ct_is_open : Value}
    {a_is_headed : Addr} {od_is_headed an_is_headed : Option Addr} {sl_is_headed : Array (Option Value)} {oc_is_headed kV_is_headed dc_is_headed pm_is_headed cd_is_headed ct_is_headed : Value}
    {a_is_half_open : Addr} {od_is_half_open an_is_half_open : Option Addr} {sl_is_half_open : Array (Option Value)} {oc_is_half_open kV_is_half_open dc_is_half_open pm_is_half_open cd_is_half_open ct_is_half_open : Value}
    {a_is_closed : Addr} {od_is_closed an_is_closed : Option Addr} {sl_is_closed : Array (Option Value)} {oc_is_closed kV_is_closed dc_is_closed pm_is_closed cd_is_closed ct_is_closed : Value}
    {a__law_pot : Addr} {od__law_pot an__law_pot : Option Addr} {sl__law_pot : Array (Option Value)} {oc__law_pot kV__law_pot dc__law_pot pm__law_pot cd__law_pot ct__law_pot : Value}
    {a__law_take : Addr} {od__law_take an__law_take : Option Addr} {sl__law_take : Array (Option Value)} {oc__law_take kV__law_take dc__law_take pm__law_take cd__law_take ct__law_take : Value}
    {a__law_same : Addr} {od__law_same an__law_same : Option Addr} {sl__law_same : Array (Option Value)} {oc__law_same kV__law_same dc__law_same pm__law_same cd__law_same ct__law_same : Value}
    {a__law_small_saying : Addr} {od__law_small_saying an__law_small_saying : Option Addr} {sl__law_small_saying : Array (Option Value)} {oc__law_small_saying kV__law_small_saying dc__law_small_saying pm__law_small_saying cd__law_small_saying ct__law_small_saying : Value}
    {a__law_mutant : Addr} {od__law_mutant an__law_mutant : Option Addr} {sl__law_mutant : Array (Option Value)} {oc__law_mutant kV__law_mutant dc__law_mutant pm__law_mutant cd__law_mutant ct__law_mutant : Value}
    {a__law_integer : Addr} {od__law_integer an__law_integer : Option Addr} {sl__law_integer : Array (Option Value)} {oc__law_integer kV__law_integer dc__law_integer pm__law_integer cd__law_integer ct__law_integer : Value}
    {a__law_row_of_integers : Addr} {od__law_row_of_integers an__law_row_of_integers : Option Addr} {sl__law_row_of_integers : Array (Option Value)} {oc__law_row_of_integers kV__law_row_of_integers dc__law_row_of_integers pm__law_row_of_integers cd__law_row_of_integers ct__law_row_of_integers : Value}
    {a__law_is_said : Addr} {od__law_is_said an__law_is_said : Option Addr} {sl__law_is_said : Array (Option Value)} {oc__law_is_said kV__law_is_said dc__law_is_said pm__law_is_said cd__law_is_said ct__law_is_said : Value}
    {a__law_is_each : Addr} {od__law_is_each an__law_is_each : Option Addr} {sl__law_is_each : Array (Option Value)} {oc__law_is_each kV__law_is_each dc__law_is_each pm__law_is_each cd__law_is_each ct__law_is_each : Value}
    {a__law_is_half : Addr} {od__law_is_half an__law_is_half : Option Addr} {sl__law_is_half : Array (Option Value)} {oc__law_is_half kV__law_is_half dc__law_is_half pm__law_is_half cd__law_is_half ct__law_is_half : Value}
    {a__law_is_closed : Addr} {od__law_is_closed an__law_is_closed : Option Addr} {sl__law_is_closed : Array (Option Value)} {oc__law_is_closed kV__law_is_closed dc__law_is_closed pm__law_is_closed cd__law_is_closed ct__law_is_closed : Value}
    {a__law_kinds : Addr} {od__law_kinds an__law_kinds : Option Addr} {sl__law_kinds : Array (Option Value)} {oc__law_kinds kV__law_kinds dc__law_kinds pm__law_kinds cd__law_kinds ct__law_kinds : Value}
    {a__law_told : Addr} {od__law_told an__law_told : Option Addr} {sl__law_told : Array (Option Value)} {oc__law_told kV__law_told dc__law_told pm__law_told cd__law_told ct__law_told : Value}
    {a__law_plain : Addr} {od__law_plain an__law_plain : Option Addr} {sl__law_plain : Array (Option Value)} {oc__law_plain kV__law_plain dc__law_plain pm__law_plain cd__law_plain ct__law_plain : Value}
    {a__law_near : Addr} {od__law_near an__law_near : Option Addr} {sl__law_near : Array (Option Value)} {oc__law_near kV__law_near dc__law_near pm__law_near cd__law_near ct__law_near : Value}
    {a_law : Addr} {od_law an_law : Option Addr} {sl_law : Array (Option Value)} {oc_law kV_law dc_law pm_law cd_law ct_law : Value}
    {v_MADE_OF : Addr} {n_MADE_OF : Nat} {hk_MADE_OF_0 : Int} {hk_MADE_OF_1 : Int} {hk_MADE_OF_2 : Int} {tk_MADE_OF_0 : Tok} {tv_MADE_OF_0 : Tok} {tk_MADE_OF_1 : Tok} {tv_MADE_OF_1 : Tok} {tk_MADE_OF_2 : Tok} {tv_MADE_OF_2 : Tok}
    {v_WORDS : Addr} {n_WORDS : Nat} {hk_WORDS_0 : Int} {hk_WORDS_1 : Int} {hk_WORDS_2 : Int} {tk_WORDS_0 : Tok} {tv_WORDS_0 : Tok} {tk_WORDS_1 : Tok} {tv_WORDS_1 : Tok} {tk_WORDS_2 : Tok} {tv_WORDS_2 : Tok}
    {p_BY_WALLS : Addr} {dd_BY_WALLS : Option Addr} {n_BY_WALLS : Nat} {sl_BY_WALLS : Array (Option Value)} {tg_BY_WALLS_0 : Tok} {tg_BY_WALLS_1 : Tok} {tg_BY_WALLS_2 : Tok}
    {p_EACH : Addr} {dd_EACH : Option Addr} {n_EACH : Nat} {sl_EACH : Array (Option Value)} {tg_EACH_0 : Tok} {tg_EACH_1 : Tok}
    (z_all : PySem.W.nsIn K mainGlobals "all" = some none)
    (z_bool : PySem.W.nsIn K mainGlobals "bool" = some none)
    (z_int : PySem.W.nsIn K mainGlobals "int" = some none)
    (z_isinstance : PySem.W.nsIn K mainGlobals "isinstance" = some none)
    (z_len : PySem.W.nsIn K mainGlobals "len" = some none)
    (z_list : PySem.W.nsIn K mainGlobals "list" = some none)
    (z_range : PySem.W.nsIn K mainGlobals "range" = some none)
    (z_str : PySem.W.nsIn K mainGlobals "str" = some none)
    (z_tuple : PySem.W.nsIn K mainGlobals "tuple" = some none)
    (a_is_integer_ : PySem.W.nsIn K mainGlobals "is_integer" = some (some (.ref a_is_integer)))
    (l_is_integer : K.lookup a_is_integer = some ⟨oc_is_integer, od_is_integer, .func (PySem.W.fnOf "is_integer" "is_integer" (defArgs s_is_integer) (defBody s_is_integer) (defScope s_is_integer) .none kV_is_integer dc_is_integer pm_is_integer an_is_integer cd_is_integer ct_is_integer), sl_is_integer⟩)
    (c_is_integer_ : PySem.W.codeIn K cd_is_integer "is_integer" = true)
    (k_is_integer_ : PySem.W.keepIn K (.ref a_is_integer) = true)
    (a_are_integers_ : PySem.W.nsIn K mainGlobals "are_integers" = some (some (.ref a_are_integers)))
    (l_are_integers : K.lookup a_are_integers = some ⟨oc_are_integers, od_are_integers, .func (PySem.W.fnOf "are_integers" "are_integers" (defArgs s_are_integers) (defBody s_are_integers) (defScope s_are_integers) .none kV_are_integers dc_are_integers pm_are_integers an_are_integers cd_are_integers ct_are_integers), sl_are_integers⟩)
    (c_are_integers_ : PySem.W.codeIn K cd_are_integers "are_integers" = true)
    (k_are_integers_ : PySem.W.keepIn K (.ref a_are_integers) = true)
    (a_are_sides_ : PySem.W.nsIn K mainGlobals "are_sides" = some (some (.ref a_are_sides)))
    (l_are_sides : K.lookup a_are_sides = some ⟨oc_are_sides, od_are_sides, .func (PySem.W.fnOf "are_sides" "are_sides" (defArgs s_are_sides) (defBody s_are_sides) (defScope s_are_sides) .none kV_are_sides dc_are_sides pm_are_sides an_are_sides cd_are_sides ct_are_sides), sl_are_sides⟩)
    (c_are_sides_ : PySem.W.codeIn K cd_are_sides "are_sides" = true)
    (k_are_sides_ : PySem.W.keepIn K (.ref a_are_sides) = true)
    (a_is_said_ : PySem.W.nsIn K mainGlobals "is_said_sayings" = some (some (.ref a_is_said)))
    (l_is_said : K.lookup a_is_said = some ⟨oc_is_said, od_is_said, .func (PySem.W.fnOf "is_said" "is_said" (defArgs s_is_said) (defBody s_is_said) (defScope s_is_said) .none kV_is_said dc_is_said pm_is_said an_is_said cd_is_said ct_is_said), sl_is_said⟩)
    (c_is_said_ : PySem.W.codeIn K cd_is_said "is_said" = true)
    (k_is_said_ : PySem.W.keepIn K (.ref a_is_said) = true)
    (a_check_unknowns_ : PySem.W.nsIn K mainGlobals "check_unknowns_sayings" = some (some (.ref a_check_unknowns)))
    (l_check_unknowns : K.lookup a_check_unknowns = some ⟨oc_check_unknowns, od_check_unknowns, .func (PySem.W.fnOf "check_unknowns" "check_unknowns" (defArgs s_check_unknowns) (defBody s_check_unknowns) (defScope s_check_unknowns) .none kV_check_unknowns dc_check_unknowns pm_check_unknowns an_check_unknowns cd_check_unknowns ct_check_unknowns), sl_check_unknowns⟩)
    (c_check_unknowns_ : PySem.W.codeIn K cd_check_unknowns "check_unknowns" = true)
    (k_check_unknowns_ : PySem.W.keepIn K (.ref a_check_unknowns) = true)
    (a_is_saying_ : PySem.W.nsIn K mainGlobals "is_saying" = some (some (.ref a_is_saying)))
    (l_is_saying : K.lookup a_is_saying = some ⟨oc_is_saying, od_is_saying, .func (PySem.W.fnOf "is_saying" "is_saying" (defArgs s_is_saying) (defBody s_is_saying) (defScope s_is_saying) .none kV_is_saying dc_is_saying pm_is_saying an_is_saying cd_is_saying ct_is_saying), sl_is_saying⟩)
    (c_is_saying_ : PySem.W.codeIn K cd_is_saying "is_saying" = true)
    (k_is_saying_ : PySem.W.keepIn K (.ref a_is_saying) = true)
    (a_check_unknowns_18_ : PySem.W.nsIn K mainGlobals "check_unknowns_whole_sayings" = some (some (.ref a_check_unknowns_18)))
    (l_check_unknowns_18 : K.lookup a_check_unknowns_18 = some ⟨oc_check_unknowns_18, od_check_unknowns_18, .func (PySem.W.fnOf "check_unknowns" "check_unknowns" (defArgs s_check_unknowns_18) (defBody s_check_unknowns_18) (defScope s_check_unknowns_18) .none kV_check_unknowns_18 dc_check_unknowns_18 pm_check_unknowns_18 an_check_unknowns_18 cd_check_unknowns_18 ct_check_unknowns_18), sl_check_unknowns_18⟩)
    (c_check_unknowns_18_ : PySem.W.codeIn K cd_check_unknowns_18 "check_unknowns" = true)
    (k_check_unknowns_18_ : PySem.W.keepIn K (.ref a_check_unknowns_18) = true)
    (a_is_said_20_ : PySem.W.nsIn K mainGlobals "is_said_whole_sayings" = some (some (.ref a_is_said_20)))
    (l_is_said_20 : K.lookup a_is_said_20 = some ⟨oc_is_said_20, od_is_said_20, .func (PySem.W.fnOf "is_said" "is_said" (defArgs s_is_said_20) (defBody s_is_said_20) (defScope s_is_said_20) .none kV_is_said_20 dc_is_said_20 pm_is_said_20 an_is_said_20 cd_is_said_20 ct_is_said_20), sl_is_said_20⟩)
    (c_is_said_20_ : PySem.W.codeIn K cd_is_said_20 "is_said" = true)
    (k_is_said_20_ : PySem.W.keepIn K (.ref a_is_said_20) = true)
    (a_is_open_ : PySem.W.nsIn K mainGlobals "is_open" = some (some (.ref a_is_open)))
    (l_is_open : K.lookup a_is_open = some ⟨oc_is_open, od_is_open, .func (PySem.W.fnOf "is_open" "is_open" (defArgs s_is_open) (defBody s_is_open) (defScope s_is_open) .none kV_is_open dc_is_open pm_is_open an_is_open cd_is_open ct_is_open), sl_is_open⟩)
    (c_is_open_ : PySem.W.codeIn K cd_is_open "is_open" = true)
    (k_is_open_ : PySem.W.keepIn K (.ref a_is_open) = true)
    (a_is_headed_ : PySem.W.nsIn K mainGlobals "is_headed" = some (some (.ref a_is_headed)))
    (l_is_headed : K.lookup a_is_headed = some ⟨oc_is_headed, od_is_headed, .func (PySem.W.fnOf "is_headed" "is_headed" (defArgs s_is_headed) (defBody s_is_headed) (defScope s_is_headed) .none kV_is_headed dc_is_headed pm_is_headed an_is_headed cd_is_headed ct_is_headed), sl_is_headed⟩)
    (c_is_headed_ : PySem.W.codeIn K cd_is_headed "is_headed" = true)
    (k_is_headed_ : PySem.W.keepIn K (.ref a_is_headed) = true)
    (a_is_half_open_ : PySem.W.nsIn K mainGlobals "is_half_open" = some (some (.ref a_is_half_open)))
    (l_is_half_open : K.lookup a_is_half_open = some ⟨oc_is_half_open, od_is_half_open, .func (PySem.W.fnOf "is_half_open" "is_half_open" (defArgs s_is_half_open) (defBody s_is_half_open) (defScope s_is_half_open) .none kV_is_half_open dc_is_half_open pm_is_half_open an_is_half_open cd_is_half_open ct_is_half_open), sl_is_half_open⟩)
    (c_is_half_open_ : PySem.W.codeIn K cd_is_half_open "is_half_open" = true)
    (k_is_half_open_ : PySem.W.keepIn K (.ref a_is_half_open) = true)
    (a_is_closed_ : PySem.W.nsIn K mainGlobals "is_closed" = some (some (.ref a_is_closed)))
    (l_is_closed : K.lookup a_is_closed = some ⟨oc_is_closed, od_is_closed, .func (PySem.W.fnOf "is_closed" "is_closed" (defArgs s_is_closed) (defBody s_is_closed) (defScope s_is_closed) .none kV_is_closed dc_is_closed pm_is_closed an_is_closed cd_is_closed ct_is_closed), sl_is_closed⟩)
    (c_is_closed_ : PySem.W.codeIn K cd_is_closed "is_closed" = true)
    (k_is_closed_ : PySem.W.keepIn K (.ref a_is_closed) = true)
    (a__law_pot_ : PySem.W.nsIn K mainGlobals "_law_pot" = some (some (.ref a__law_pot)))
    (l__law_pot : K.lookup a__law_pot = some ⟨oc__law_pot, od__law_pot, .func (PySem.W.fnOf "_law_pot" "_law_pot" (defArgs s__law_pot) (defBody s__law_pot) (defScope s__law_pot) .none kV__law_pot dc__law_pot pm__law_pot an__law_pot cd__law_pot ct__law_pot), sl__law_pot⟩)
    (c__law_pot_ : PySem.W.codeIn K cd__law_pot "_law_pot" = true)
    (k__law_pot_ : PySem.W.keepIn K (.ref a__law_pot) = true)
    (a__law_take_ : PySem.W.nsIn K mainGlobals "_law_take" = some (some (.ref a__law_take)))
    (l__law_take : K.lookup a__law_take = some ⟨oc__law_take, od__law_take, .func (PySem.W.fnOf "_law_take" "_law_take" (defArgs s__law_take) (defBody s__law_take) (defScope s__law_take) .none kV__law_take dc__law_take pm__law_take an__law_take cd__law_take ct__law_take), sl__law_take⟩)
    (c__law_take_ : PySem.W.codeIn K cd__law_take "_law_take" = true)
    (k__law_take_ : PySem.W.keepIn K (.ref a__law_take) = true)
    (a__law_same_ : PySem.W.nsIn K mainGlobals "_law_same" = some (some (.ref a__law_same)))
    (l__law_same : K.lookup a__law_same = some ⟨oc__law_same, od__law_same, .func (PySem.W.fnOf "_law_same" "_law_same" (defArgs s__law_same) (defBody s__law_same) (defScope s__law_same) .none kV__law_same dc__law_same pm__law_same an__law_same cd__law_same ct__law_same), sl__law_same⟩)
    (c__law_same_ : PySem.W.codeIn K cd__law_same "_law_same" = true)
    (k__law_same_ : PySem.W.keepIn K (.ref a__law_same) = true)
    (a__law_small_saying_ : PySem.W.nsIn K mainGlobals "_law_small_saying" = some (some (.ref a__law_small_saying)))
    (l__law_small_saying : K.lookup a__law_small_saying = some ⟨oc__law_small_saying, od__law_small_saying, .func (PySem.W.fnOf "_law_small_saying" "_law_small_saying" (defArgs s__law_small_saying) (defBody s__law_small_saying) (defScope s__law_small_saying) .none kV__law_small_saying dc__law_small_saying pm__law_small_saying an__law_small_saying cd__law_small_saying ct__law_small_saying), sl__law_small_saying⟩)
    (c__law_small_saying_ : PySem.W.codeIn K cd__law_small_saying "_law_small_saying" = true)
    (k__law_small_saying_ : PySem.W.keepIn K (.ref a__law_small_saying) = true)
    (a__law_mutant_ : PySem.W.nsIn K mainGlobals "_law_mutant" = some (some (.ref a__law_mutant)))
    (l__law_mutant : K.lookup a__law_mutant = some ⟨oc__law_mutant, od__law_mutant, .func (PySem.W.fnOf "_law_mutant" "_law_mutant" (defArgs s__law_mutant) (defBody s__law_mutant) (defScope s__law_mutant) .none kV__law_mutant dc__law_mutant pm__law_mutant an__law_mutant cd__law_mutant ct__law_mutant), sl__law_mutant⟩)
    (c__law_mutant_ : PySem.W.codeIn K cd__law_mutant "_law_mutant" = true)
    (k__law_mutant_ : PySem.W.keepIn K (.ref a__law_mutant) = true)
    (a__law_integer_ : PySem.W.nsIn K mainGlobals "_law_integer" = some (some (.ref a__law_integer)))
    (l__law_integer : K.lookup a__law_integer = some ⟨oc__law_integer, od__law_integer, .func (PySem.W.fnOf "_law_integer" "_law_integer" (defArgs s__law_integer) (defBody s__law_integer) (defScope s__law_integer) .none kV__law_integer dc__law_integer pm__law_integer an__law_integer cd__law_integer ct__law_integer), sl__law_integer⟩)
    (c__law_integer_ : PySem.W.codeIn K cd__law_integer "_law_integer" = true)
    (k__law_integer_ : PySem.W.keepIn K (.ref a__law_integer) = true)
    (a__law_row_of_integers_ : PySem.W.nsIn K mainGlobals "_law_row_of_integers" = some (some (.ref a__law_row_of_integers)))
    (l__law_row_of_integers : K.lookup a__law_row_of_integers = some ⟨oc__law_row_of_integers, od__law_row_of_integers, .func (PySem.W.fnOf "_law_row_of_integers" "_law_row_of_integers" (defArgs s__law_row_of_integers) (defBody s__law_row_of_integers) (defScope s__law_row_of_integers) .none kV__law_row_of_integers dc__law_row_of_integers pm__law_row_of_integers an__law_row_of_integers cd__law_row_of_integers ct__law_row_of_integers), sl__law_row_of_integers⟩)
    (c__law_row_of_integers_ : PySem.W.codeIn K cd__law_row_of_integers "_law_row_of_integers" = true)
    (k__law_row_of_integers_ : PySem.W.keepIn K (.ref a__law_row_of_integers) = true)
    (a__law_is_said_ : PySem.W.nsIn K mainGlobals "_law_is_said" = some (some (.ref a__law_is_said)))
    (l__law_is_said : K.lookup a__law_is_said = some ⟨oc__law_is_said, od__law_is_said, .func (PySem.W.fnOf "_law_is_said" "_law_is_said" (defArgs s__law_is_said) (defBody s__law_is_said) (defScope s__law_is_said) .none kV__law_is_said dc__law_is_said pm__law_is_said an__law_is_said cd__law_is_said ct__law_is_said), sl__law_is_said⟩)
    (c__law_is_said_ : PySem.W.codeIn K cd__law_is_said "_law_is_said" = true)
    (k__law_is_said_ : PySem.W.keepIn K (.ref a__law_is_said) = true)
    (a__law_is_each_ : PySem.W.nsIn K mainGlobals "_law_is_each" = some (some (.ref a__law_is_each)))
    (l__law_is_each : K.lookup a__law_is_each = some ⟨oc__law_is_each, od__law_is_each, .func (PySem.W.fnOf "_law_is_each" "_law_is_each" (defArgs s__law_is_each) (defBody s__law_is_each) (defScope s__law_is_each) .none kV__law_is_each dc__law_is_each pm__law_is_each an__law_is_each cd__law_is_each ct__law_is_each), sl__law_is_each⟩)
    (c__law_is_each_ : PySem.W.codeIn K cd__law_is_each "_law_is_each" = true)
    (k__law_is_each_ : PySem.W.keepIn K (.ref a__law_is_each) = true)
    (a__law_is_half_ : PySem.W.nsIn K mainGlobals "_law_is_half" = some (some (.ref a__law_is_half)))
    (l__law_is_half : K.lookup a__law_is_half = some ⟨oc__law_is_half, od__law_is_half, .func (PySem.W.fnOf "_law_is_half" "_law_is_half" (defArgs s__law_is_half) (defBody s__law_is_half) (defScope s__law_is_half) .none kV__law_is_half dc__law_is_half pm__law_is_half an__law_is_half cd__law_is_half ct__law_is_half), sl__law_is_half⟩)
    (c__law_is_half_ : PySem.W.codeIn K cd__law_is_half "_law_is_half" = true)
    (k__law_is_half_ : PySem.W.keepIn K (.ref a__law_is_half) = true)
    (a__law_is_closed_ : PySem.W.nsIn K mainGlobals "_law_is_closed" = some (some (.ref a__law_is_closed)))
    (l__law_is_closed : K.lookup a__law_is_closed = some ⟨oc__law_is_closed, od__law_is_closed, .func (PySem.W.fnOf "_law_is_closed" "_law_is_closed" (defArgs s__law_is_closed) (defBody s__law_is_closed) (defScope s__law_is_closed) .none kV__law_is_closed dc__law_is_closed pm__law_is_closed an__law_is_closed cd__law_is_closed ct__law_is_closed), sl__law_is_closed⟩)
    (c__law_is_closed_ : PySem.W.codeIn K cd__law_is_closed "_law_is_closed" = true)
    (k__law_is_closed_ : PySem.W.keepIn K (.ref a__law_is_closed) = true)
    (a__law_kinds_ : PySem.W.nsIn K mainGlobals "_law_kinds" = some (some (.ref a__law_kinds)))
    (l__law_kinds : K.lookup a__law_kinds = some ⟨oc__law_kinds, od__law_kinds, .func (PySem.W.fnOf "_law_kinds" "_law_kinds" (defArgs s__law_kinds) (defBody s__law_kinds) (defScope s__law_kinds) .none kV__law_kinds dc__law_kinds pm__law_kinds an__law_kinds cd__law_kinds ct__law_kinds), sl__law_kinds⟩)
    (c__law_kinds_ : PySem.W.codeIn K cd__law_kinds "_law_kinds" = true)
    (k__law_kinds_ : PySem.W.keepIn K (.ref a__law_kinds) = true)
    (a__law_told_ : PySem.W.nsIn K mainGlobals "_law_told" = some (some (.ref a__law_told)))
    (l__law_told : K.lookup a__law_told = some ⟨oc__law_told, od__law_told, .func (PySem.W.fnOf "_law_told" "_law_told" (defArgs s__law_told) (defBody s__law_told) (defScope s__law_told) .none kV__law_told dc__law_told pm__law_told an__law_told cd__law_told ct__law_told), sl__law_told⟩)
    (c__law_told_ : PySem.W.codeIn K cd__law_told "_law_told" = true)
    (k__law_told_ : PySem.W.keepIn K (.ref a__law_told) = true)
    (a__law_plain_ : PySem.W.nsIn K mainGlobals "_law_plain" = some (some (.ref a__law_plain)))
    (l__law_plain : K.lookup a__law_plain = some ⟨oc__law_plain, od__law_plain, .func (PySem.W.fnOf "_law_plain" "_law_plain" (defArgs s__law_plain) (defBody s__law_plain) (defScope s__law_plain) .none kV__law_plain dc__law_plain pm__law_plain an__law_plain cd__law_plain ct__law_plain), sl__law_plain⟩)
    (c__law_plain_ : PySem.W.codeIn K cd__law_plain "_law_plain" = true)
    (k__law_plain_ : PySem.W.keepIn K (.ref a__law_plain) = true)
    (a__law_near_ : PySem.W.nsIn K mainGlobals "_law_near" = some (some (.ref a__law_near)))
    (l__law_near : K.lookup a__law_near = some ⟨oc__law_near, od__law_near, .func (PySem.W.fnOf "_law_near" "_law_near" (defArgs s__law_near) (defBody s__law_near) (defScope s__law_near) .none kV__law_near dc__law_near pm__law_near an__law_near cd__law_near ct__law_near), sl__law_near⟩)
    (c__law_near_ : PySem.W.codeIn K cd__law_near "_law_near" = true)
    (k__law_near_ : PySem.W.keepIn K (.ref a__law_near) = true)
    (a_law_ : PySem.W.nsIn K mainGlobals "law" = some (some (.ref a_law)))
    (l_law : K.lookup a_law = some ⟨oc_law, od_law, .func (PySem.W.fnOf "law" "law" (defArgs s_law) (defBody s_law) (defScope s_law) .none kV_law dc_law pm_law an_law cd_law ct_law), sl_law⟩)
    (c_law_ : PySem.W.codeIn K cd_law "law" = true)
    (k_law_ : PySem.W.keepIn K (.ref a_law) = true)
    (m_MADE_OF_ : PySem.W.nsIn K mainGlobals "MADE_OF" = some (some (.ref v_MADE_OF)))
    (l_MADE_OF : K.lookup v_MADE_OF = some ⟨.type "dict", none, .dict #[⟨hk_MADE_OF_0, .str "not" tk_MADE_OF_0, .int 1 tv_MADE_OF_0⟩, ⟨hk_MADE_OF_1, .str "both" tk_MADE_OF_1, .int 2 tv_MADE_OF_1⟩, ⟨hk_MADE_OF_2, .str "either" tk_MADE_OF_2, .int 2 tv_MADE_OF_2⟩] n_MADE_OF, #[]⟩)
    (h_MADE_OF : PySem.W.KeysLit w.params (#[⟨hk_MADE_OF_0, .str "not" tk_MADE_OF_0, .int 1 tv_MADE_OF_0⟩, ⟨hk_MADE_OF_1, .str "both" tk_MADE_OF_1, .int 2 tv_MADE_OF_1⟩, ⟨hk_MADE_OF_2, .str "either" tk_MADE_OF_2, .int 2 tv_MADE_OF_2⟩] : Array DictEntry).toList)
    (y_MADE_OF : (v_MADE_OF == sysModules) = false)
    (m_WORDS_ : PySem.W.nsIn K mainGlobals "WORDS" = some (some (.ref v_WORDS)))
    (l_WORDS : K.lookup v_WORDS = some ⟨.type "dict", none, .dict #[⟨hk_WORDS_0, .str "less" tk_WORDS_0, .int (-1) tv_WORDS_0⟩, ⟨hk_WORDS_1, .str "is" tk_WORDS_1, .int 0 tv_WORDS_1⟩, ⟨hk_WORDS_2, .str "more" tk_WORDS_2, .int 1 tv_WORDS_2⟩] n_WORDS, #[]⟩)
    (h_WORDS : PySem.W.KeysLit w.params (#[⟨hk_WORDS_0, .str "less" tk_WORDS_0, .int (-1) tv_WORDS_0⟩, ⟨hk_WORDS_1, .str "is" tk_WORDS_1, .int 0 tv_WORDS_1⟩, ⟨hk_WORDS_2, .str "more" tk_WORDS_2, .int 1 tv_WORDS_2⟩] : Array DictEntry).toList)
    (y_WORDS : (v_WORDS == sysModules) = false)
    (m_BY_WALLS_ : PySem.W.nsIn K mainGlobals "BY_WALLS" = some (some (.ref p_BY_WALLS)))
    (l_BY_WALLS : K.lookup p_BY_WALLS = some ⟨.type "tuple", dd_BY_WALLS, .seq #[.str "less" tg_BY_WALLS_0, .str "is" tg_BY_WALLS_1, .str "more" tg_BY_WALLS_2] n_BY_WALLS, sl_BY_WALLS⟩)
    (m_EACH_ : PySem.W.nsIn K mainGlobals "EACH" = some (some (.ref p_EACH)))
    (l_EACH : K.lookup p_EACH = some ⟨.type "tuple", dd_EACH, .seq #[.str "some" tg_EACH_0, .str "every" tg_EACH_1] n_EACH, sl_EACH⟩)
    : ∃ fd : FuncData, (∀ (s : Shared) (u : Value), BindsTo s fd ⟨[u], []⟩ [("script", u)]) ∧ ∀ base : Heap, K.In base → base.Ns mainGlobals mg → FnOk P w K mg base CX0 66 fa fd ["script"] (spP K c_law) := by
  have e := (PySem.W.mg_of X G a_law_).symm.trans hfa
  cases e
  have F_is_integer := fun_mk (st := s_is_integer) l_is_integer c_is_integer_ k_is_integer_
  have F_are_integers := fun_mk (st := s_are_integers) l_are_integers c_are_integers_ k_are_integers_
  have F_are_sides := fun_mk (st := s_are_sides) l_are_sides c_are_sides_ k_are_sides_
  have F_is_said := fun_mk (st := s_is_said) l_is_said c_is_said_ k_is_said_
  have F_check_unknowns := fun_mk (st := s_check_unknowns) l_check_unknowns c_check_unknowns_ k_check_unknowns_
  have F_is_saying := fun_mk (st := s_is_saying) l_is_saying c_is_saying_ k_is_saying_
  have F_check_unknowns_18 := fun_mk (st := s_check_unknowns_18) l_check_unknowns_18 c_check_unknowns_18_ k_check_unknowns_18_
  have F_is_said_20 := fun_mk (st := s_is_said_20) l_is_said_20 c_is_said_20_ k_is_said_20_
  have F_is_open := fun_mk (st := s_is_open) l_is_open c_is_open_ k_is_open_
  have F_is_headed := fun_mk (st := s_is_headed) l_is_headed c_is_headed_ k_is_headed_
  have F_is_half_open := fun_mk (st := s_is_half_open) l_is_half_open c_is_half_open_ k_is_half_open_
  have F_is_closed := fun_mk (st := s_is_closed) l_is_closed c_is_closed_ k_is_closed_
  have F__law_pot := fun_mk (st := s__law_pot) l__law_pot c__law_pot_ k__law_pot_
  have F__law_take := fun_mk (st := s__law_take) l__law_take c__law_take_ k__law_take_
  have F__law_same := fun_mk (st := s__law_same) l__law_same c__law_same_ k__law_same_
  have F__law_small_saying := fun_mk (st := s__law_small_saying) l__law_small_saying c__law_small_saying_ k__law_small_saying_
  have F__law_mutant := fun_mk (st := s__law_mutant) l__law_mutant c__law_mutant_ k__law_mutant_
  have F__law_integer := fun_mk (st := s__law_integer) l__law_integer c__law_integer_ k__law_integer_
  have F__law_row_of_integers := fun_mk (st := s__law_row_of_integers) l__law_row_of_integers c__law_row_of_integers_ k__law_row_of_integers_
  have F__law_is_said := fun_mk (st := s__law_is_said) l__law_is_said c__law_is_said_ k__law_is_said_
  have F__law_is_each := fun_mk (st := s__law_is_each) l__law_is_each c__law_is_each_ k__law_is_each_
  have F__law_is_half := fun_mk (st := s__law_is_half) l__law_is_half c__law_is_half_ k__law_is_half_
  have F__law_is_closed := fun_mk (st := s__law_is_closed) l__law_is_closed c__law_is_closed_ k__law_is_closed_
  have F__law_kinds := fun_mk (st := s__law_kinds) l__law_kinds c__law_kinds_ k__law_kinds_
  have F__law_told := fun_mk (st := s__law_told) l__law_told c__law_told_ k__law_told_
  have F__law_plain := fun_mk (st := s__law_plain) l__law_plain c__law_plain_ k__law_plain_
  have F__law_near := fun_mk (st := s__law_near) l__law_near c__law_near_ k__law_near_
  have F_law := fun_mk (st := s_law) l_law c_law_ k_law_
  let T : Txt w K mg := {
    z_all := PySem.W.mg_none_of X G z_all,
    z_bool := PySem.W.mg_none_of X G z_bool,
    z_int := PySem.W.mg_none_of X G z_int,
    z_isinstance := PySem.W.mg_none_of X G z_isinstance,
    z_len := PySem.W.mg_none_of X G z_len,
    z_list := PySem.W.mg_none_of X G z_list,
    z_range := PySem.W.mg_none_of X G z_range,
    z_str := PySem.W.mg_none_of X G z_str,
    z_tuple := PySem.W.mg_none_of X G z_tuple,
    a_is_integer := a_is_integer,
    f_is_integer := _,
    t_is_integer := F_is_integer,
    b_is_integer := F_is_integer.binds fun _ _ _ _ _ _ us hl => match us, hl with | [_], _ => rfl,
    g_is_integer := PySem.W.mg_of X G a_is_integer_,
    a_are_integers := a_are_integers,
    f_are_integers := _,
    t_are_integers := F_are_integers,
    b_are_integers := F_are_integers.binds fun _ _ _ _ _ _ us hl => match us, hl with | [_], _ => rfl,
    g_are_integers := PySem.W.mg_of X G a_are_integers_,
    a_are_sides := a_are_sides,
    f_are_sides := _,
    t_are_sides := F_are_sides,
    b_are_sides := F_are_sides.binds fun _ _ _ _ _ _ us hl => match us, hl with | [_, _], _ => rfl,
    g_are_sides := PySem.W.mg_of X G a_are_sides_,
    a_is_said := a_is_said,
    f_is_said := _,
    t_is_said := F_is_said,
    b_is_said := F_is_said.binds fun _ _ _ _ _ _ us hl => match us, hl with | [_, _], _ => rfl,
    g_is_said_sayings := PySem.W.mg_of X G a_is_said_,
    a_check_unknowns := a_check_unknowns,
    f_check_unknowns := _,
    t_check_unknowns := F_check_unknowns,
    b_check_unknowns := F_check_unknowns.binds fun _ _ _ _ _ _ us hl => match us, hl with | [_], _ => rfl,
    g_check_unknowns_sayings := PySem.W.mg_of X G a_check_unknowns_,
    a_is_saying := a_is_saying,
    f_is_saying := _,
    t_is_saying := F_is_saying,
    b_is_saying := F_is_saying.binds fun _ _ _ _ _ _ us hl => match us, hl with | [_, _], _ => rfl,
    g_is_saying := PySem.W.mg_of X G a_is_saying_,
    a_check_unknowns_18 := a_check_unknowns_18,
    f_check_unknowns_18 := _,
    t_check_unknowns_18 := F_check_unknowns_18,
    b_check_unknowns_18 := F_check_unknowns_18.binds fun _ _ _ _ _ _ us hl => match us, hl with | [_], _ => rfl,
    g_check_unknowns_whole_sayings := PySem.W.mg_of X G a_check_unknowns_18_,
    a_is_said_20 := a_is_said_20,
    f_is_said_20 := _,
    t_is_said_20 := F_is_said_20,
    b_is_said_20 := F_is_said_20.binds fun _ _ _ _ _ _ us hl => match us, hl with | [_, _], _ => rfl,
    g_is_said_whole_sayings := PySem.W.mg_of X G a_is_said_20_,
    a_is_open := a_is_open,
    f_is_open := _,
    t_is_open := F_is_open,
    b_is_open := F_is_open.binds fun _ _ _ _ _ _ us hl => match us, hl with | [_, _], _ => rfl,
    g_is_open := PySem.W.mg_of X G a_is_open_,
    a_is_headed := a_is_headed,
    f_is_headed := _,
    t_is_headed := F_is_headed,
    b_is_headed := F_is_headed.binds fun _ _ _ _ _ _ us hl => match us, hl with | [_], _ => rfl,
    g_is_headed := PySem.W.mg_of X G a_is_headed_,
    a_is_half_open := a_is_half_open,
    f_is_half_open := _,
    t_is_half_open := F_is_half_open,
    b_is_half_open := F_is_half_open.binds fun _ _ _ _ _ _ us hl => match us, hl with | [_], _ => rfl,
    g_is_half_open := PySem.W.mg_of X G a_is_half_open_,
    a_is_closed := a_is_closed,
    f_is_closed := _,
    t_is_closed := F_is_closed,
    b_is_closed := F_is_closed.binds fun _ _ _ _ _ _ us hl => match us, hl with | [_], _ => rfl,
    g_is_closed := PySem.W.mg_of X G a_is_closed_,
    a__law_pot := a__law_pot,
    f__law_pot := _,
    t__law_pot := F__law_pot,
    b__law_pot := F__law_pot.binds fun _ _ _ _ _ _ us hl => match us, hl with | [_], _ => rfl,
    g__law_pot := PySem.W.mg_of X G a__law_pot_,
    a__law_take := a__law_take,
    f__law_take := _,
    t__law_take := F__law_take,
    b__law_take := F__law_take.binds fun _ _ _ _ _ _ us hl => match us, hl with | [_, _], _ => rfl,
    g__law_take := PySem.W.mg_of X G a__law_take_,
    a__law_same := a__law_same,
    f__law_same := _,
    t__law_same := F__law_same,
    b__law_same := F__law_same.binds fun _ _ _ _ _ _ us hl => match us, hl with | [_, _], _ => rfl,
    g__law_same := PySem.W.mg_of X G a__law_same_,
    a__law_small_saying := a__law_small_saying,
    f__law_small_saying := _,
    t__law_small_saying := F__law_small_saying,
    b__law_small_saying := F__law_small_saying.binds fun _ _ _ _ _ _ us hl => match us, hl with | [_, _, _], _ => rfl,
    g__law_small_saying := PySem.W.mg_of X G a__law_small_saying_,
    a__law_mutant := a__law_mutant,
    f__law_mutant := _,
    t__law_mutant := F__law_mutant,
    b__law_mutant := F__law_mutant.binds fun _ _ _ _ _ _ us hl => match us, hl with | [_, _, _], _ => rfl,
    g__law_mutant := PySem.W.mg_of X G a__law_mutant_,
    a__law_integer := a__law_integer,
    f__law_integer := _,
    t__law_integer := F__law_integer,
    b__law_integer := F__law_integer.binds fun _ _ _ _ _ _ us hl => match us, hl with | [_], _ => rfl,
    g__law_integer := PySem.W.mg_of X G a__law_integer_,
    a__law_row_of_integers := a__law_row_of_integers,
    f__law_row_of_integers := _,
    t__law_row_of_integers := F__law_row_of_integers,
    b__law_row_of_integers := F__law_row_of_integers.binds fun _ _ _ _ _ _ us hl => match us, hl with | [_, _], _ => rfl,
    g__law_row_of_integers := PySem.W.mg_of X G a__law_row_of_integers_,
    a__law_is_said := a__law_is_said,
    f__law_is_said := _,
    t__law_is_said := F__law_is_said,
    b__law_is_said := F__law_is_said.binds fun _ _ _ _ _ _ us hl => match us, hl with | [_, _, _], _ => rfl,
    g__law_is_said := PySem.W.mg_of X G a__law_is_said_,
    a__law_is_each := a__law_is_each,
    f__law_is_each := _,
    t__law_is_each := F__law_is_each,
    b__law_is_each := F__law_is_each.binds fun _ _ _ _ _ _ us hl => match us, hl with | [_], _ => rfl,
    g__law_is_each := PySem.W.mg_of X G a__law_is_each_,
    a__law_is_half := a__law_is_half,
    f__law_is_half := _,
    t__law_is_half := F__law_is_half,
    b__law_is_half := F__law_is_half.binds fun _ _ _ _ _ _ us hl => match us, hl with | [_], _ => rfl,
    g__law_is_half := PySem.W.mg_of X G a__law_is_half_,
    a__law_is_closed := a__law_is_closed,
    f__law_is_closed := _,
    t__law_is_closed := F__law_is_closed,
    b__law_is_closed := F__law_is_closed.binds fun _ _ _ _ _ _ us hl => match us, hl with | [_], _ => rfl,
    g__law_is_closed := PySem.W.mg_of X G a__law_is_closed_,
    a__law_kinds := a__law_kinds,
    f__law_kinds := _,
    t__law_kinds := F__law_kinds,
    b__law_kinds := F__law_kinds.binds fun _ _ _ _ _ _ us hl => match us, hl with | [_], _ => rfl,
    g__law_kinds := PySem.W.mg_of X G a__law_kinds_,
    a__law_told := a__law_told,
    f__law_told := _,
    t__law_told := F__law_told,
    b__law_told := F__law_told.binds fun _ _ _ _ _ _ us hl => match us, hl with | [_], _ => rfl,
    g__law_told := PySem.W.mg_of X G a__law_told_,
    a__law_plain := a__law_plain,
    f__law_plain := _,
    t__law_plain := F__law_plain,
    b__law_plain := F__law_plain.binds fun _ _ _ _ _ _ us hl => match us, hl with | [_, _, _], _ => rfl,
    g__law_plain := PySem.W.mg_of X G a__law_plain_,
    a__law_near := a__law_near,
    f__law_near := _,
    t__law_near := F__law_near,
    b__law_near := F__law_near.binds fun _ _ _ _ _ _ us hl => match us, hl with | [_, _], _ => rfl,
    g__law_near := PySem.W.mg_of X G a__law_near_,
    a_law := fa,
    f_law := _,
    t_law := F_law,
    b_law := F_law.binds fun _ _ _ _ _ _ us hl => match us, hl with | [_], _ => rfl,
    kb_is_closed_told_0 := kbinds F_is_closed (by decide) fun _ _ _ _ _ _ us ws h1 h2 => match us, ws, h1, h2 with | [], [_], _, _ => rfl,
    kb_is_open_told_d_0 := kbinds F_is_open (by decide) fun _ _ _ _ _ _ us ws h1 h2 => match us, ws, h1, h2 with | [], [_, _], _, _ => rfl,
    kb_is_saying_told_d_0 := kbinds F_is_saying (by decide) fun _ _ _ _ _ _ us ws h1 h2 => match us, ws, h1, h2 with | [], [_, _], _, _ => rfl,
    v_MADE_OF := v_MADE_OF,
    m_MADE_OF := PySem.W.mg_of X G m_MADE_OF_,
    k_MADE_OF := ⟨_, _, l_MADE_OF, h_MADE_OF, y_MADE_OF, (.cons ⟨fun z => isStr_dec _ _ _, rfl, _, (show RelV (.int 1) _ from ⟨_, rfl⟩), fun _ => by constructor⟩ (.cons ⟨fun z => isStr_dec _ _ _, rfl, _, (show RelV (.int 2) _ from ⟨_, rfl⟩), fun _ => by constructor⟩ (.cons ⟨fun z => isStr_dec _ _ _, rfl, _, (show RelV (.int 2) _ from ⟨_, rfl⟩), fun _ => by constructor⟩ .nil)))⟩,
    v_WORDS := v_WORDS,
    m_WORDS := PySem.W.mg_of X G m_WORDS_,
    k_WORDS := ⟨_, _, l_WORDS, h_WORDS, y_WORDS, (.cons ⟨fun z => isStr_dec _ _ _, rfl, _, (show RelV (.int (-1)) _ from ⟨_, rfl⟩), fun _ => by constructor⟩ (.cons ⟨fun z => isStr_dec _ _ _, rfl, _, (show RelV (.int 0) _ from ⟨_, rfl⟩), fun _ => by constructor⟩ (.cons ⟨fun z => isStr_dec _ _ _, rfl, _, (show RelV (.int 1) _ from ⟨_, rfl⟩), fun _ => by constructor⟩ .nil)))⟩,
    v_BY_WALLS := .ref p_BY_WALLS,
    u_BY_WALLS := .ref p_BY_WALLS,
    m_BY_WALLS := PySem.W.mg_of X G m_BY_WALLS_,
    r_BY_WALLS := rfl,
    d_BY_WALLS := fun _ => .tup (.inr ⟨_, _, _, l_BY_WALLS, rfl, rfl, (show 3 ≤ sizeLine by decide), (show Vals _ [.str "less" tg_BY_WALLS_0, .str "is" tg_BY_WALLS_1, .str "more" tg_BY_WALLS_2] from (.cons (show RelV (.str "less") _ from ⟨_, rfl⟩) (.cons (show RelV (.str "is") _ from ⟨_, rfl⟩) (.cons (show RelV (.str "more") _ from ⟨_, rfl⟩) .nil))))⟩) (.cons (by constructor) (.cons (by constructor) (.cons (by constructor) .nil))),
    v_EACH := .ref p_EACH,
    u_EACH := .ref p_EACH,
    m_EACH := PySem.W.mg_of X G m_EACH_,
    r_EACH := rfl,
    d_EACH := fun _ => .tup (.inr ⟨_, _, _, l_EACH, rfl, rfl, (show 2 ≤ sizeLine by decide), (show Vals _ [.str "some" tg_EACH_0, .str "every" tg_EACH_1] from (.cons (show RelV (.str "some") _ from ⟨_, rfl⟩) (.cons (show RelV (.str "every") _ from ⟨_, rfl⟩) .nil)))⟩) (.cons (by constructor) (.cons (by constructor) .nil)) }
  exact ⟨_, fun s u => .of_eq rfl, fun base _ _ => ok_law T⟩
end W83

namespace Pu
open PySem PySem.Spec PyProof.Rows L2

/-! ### plain truths about data -/
def tInt : D → Bool
  | .int _ => true
  | .bool _ => true
  | _ => false
def tBool : D → Bool
  | .bool _ => true
  | _ => false
def tTup : D → Bool
  | .tuple _ => true
  | _ => false
def tList : D → Bool
  | .list _ => true
  | _ => false
def tStr : D → Bool
  | .str _ => true
  | _ => false
theorem dTy_mem (d : D) : dTy d ∈ ["NoneType", "bool", "int", "str", "list", "tuple", "dict"] := by cases d <;> simp [dTy]
theorem isD_int (d : D) : isD d ["int"] = some (.bool (tInt d)) := by
  have h : ∀ a ∈ ["NoneType", "bool", "int", "str", "list", "tuple", "dict"], kitBs a ["int"] = some (a == "int" || a == "bool") := by decide +kernel
  unfold isD
  rw [h (dTy d) (dTy_mem d)]
  cases d <;> rfl
theorem isD_bool (d : D) : isD d ["bool"] = some (.bool (tBool d)) := by
  have h : ∀ a ∈ ["NoneType", "bool", "int", "str", "list", "tuple", "dict"], kitBs a ["bool"] = some (a == "bool") := by decide +kernel
  unfold isD
  rw [h (dTy d) (dTy_mem d)]
  cases d <;> rfl
theorem isD_str (d : D) : isD d ["str"] = some (.bool (tStr d)) := by
  have h : ∀ a ∈ ["NoneType", "bool", "int", "str", "list", "tuple", "dict"], kitBs a ["str"] = some (a == "str") := by decide +kernel
  unfold isD
  rw [h (dTy d) (dTy_mem d)]
  cases d <;> rfl
theorem isD_tuple (d : D) : isD d ["tuple"] = some (.bool (tTup d)) := by
  have h : ∀ a ∈ ["NoneType", "bool", "int", "str", "list", "tuple", "dict"], kitBs a ["tuple"] = some (a == "tuple") := by decide +kernel
  unfold isD
  rw [h (dTy d) (dTy_mem d)]
  cases d <;> rfl
theorem isD_list (d : D) : isD d ["list"] = some (.bool (tList d)) := by
  have h : ∀ a ∈ ["NoneType", "bool", "int", "str", "list", "tuple", "dict"], kitBs a ["list"] = some (a == "list") := by decide +kernel
  unfold isD
  rw [h (dTy d) (dTy_mem d)]
  cases d <;> rfl
theorem isD_bs (d : D) : isD d ["bool", "str"] = some (.bool (tBool d || tStr d)) := by
  have h : ∀ a ∈ ["NoneType", "bool", "int", "str", "list", "tuple", "dict"], kitBs a ["bool", "str"] = some (a == "bool" || a == "str") := by decide +kernel
  unfold isD
  rw [h (dTy d) (dTy_mem d)]
  cases d <;> rfl
/-- an integer, never a truth value -/
def isZ : D → Bool
  | .int _ => true
  | _ => false
theorem isZ_eq (d : D) : (tInt d && !tBool d) = isZ d := by cases d <;> rfl

/-! ### one step of a computation -/
@[simp] theorem ev_0 {s t : CS} {Γ : En} : cSeq s t Γ = (s Γ).bind fun p => match p.1 with | .nx => t p.2 | f => some (f, p.2) := rfl
@[simp] theorem ev_1 {c : CT} {s t : CS} {Γ : En} : cIfS c s t Γ = (c Γ).bind fun p => if p.1 = true then s p.2 else t p.2 := rfl
@[simp] theorem ev_2 {c : CN} {Γ : En} : cRet c Γ = (c Γ).bind fun p => some (.rt p.1, p.2) := rfl
@[simp] theorem ev_3 {c : CE} {Γ : En} : asN c Γ = (c Γ).bind fun p => some (.fr p.1, p.2) := rfl
@[simp] theorem ev_4 {c : CN} {Γ : En} : frz c Γ = (c Γ).bind fun p => some (p.1.d, p.2) := rfl
@[simp] theorem ev_5 {d : D} : (Rv.fr d).d = d := rfl
@[simp] theorem ev_6 {d : D} : (Rv.nw d).d = d := rfl
@[simp] theorem ev_7 {f : D → D → Option D} {a b : Od} {Γ : En} : cOp f a b Γ = (a.run Γ).bind fun p => (b.run p.2).bind fun q => (a.fin p.1 q.2).bind fun x => (b.fin q.1 q.2).bind fun y => (f x y).bind fun z => some (z, q.2) := rfl
@[simp] theorem ev_8 {f : D → Option D} {a : Od} {Γ : En} : cUn f a Γ = (a.run Γ).bind fun p => (a.fin p.1 p.2).bind fun x => (f x).bind fun z => some (z, p.2) := rfl
@[simp] theorem ev_9 {o : Od} {n : String} : cIsi o n = cUn (fun d => isD d [n]) o := rfl
@[simp] theorem ev_10 {o : Od} {ns : List String} : cIsiT o ns = cUn (fun d => isD d ns) o := rfl
@[simp] theorem ev_11 {g : List D → Option D} {os : List Od} {Γ : En} : cCb g os Γ = (runL os Γ).bind fun p => (finL os p.1 p.2).bind fun ds => (g ds).bind fun z => some (z, p.2) := rfl
@[simp] theorem ev_12 {g : List D → Option (List D)} {os : List Od} {Γ : En} : cCbN g os Γ = (runL os Γ).bind fun p => (finL os p.1 p.2).bind fun ds => (g ds).bind fun z => some (.nw (.list z), p.2) := rfl
@[simp] theorem ev_13 {Γ : En} : runL [] Γ = some ([], Γ) := rfl
@[simp] theorem ev_14 {o : Od} {os : List Od} {Γ : En} : runL (o :: os) Γ = (o.run Γ).bind fun p => (runL os p.2).bind fun q => some (p.1 :: q.1, q.2) := rfl
@[simp] theorem ev_15 {Γ : En} {ds : List D} : finL [] ds Γ = some [] := by cases ds <;> rfl
@[simp] theorem ev_16 {o : Od} {os : List Od} {d : D} {ds : List D} {Γ : En} : finL (o :: os) (d :: ds) Γ = (o.fin d Γ).bind fun x => (finL os ds Γ).bind fun r => some (x :: r) := rfl
@[simp] theorem ev_17 {c : CE} {Γ : En} : (Od.e c).run Γ = c Γ := rfl
@[simp] theorem ev_18 {i : Nat} {Γ : En} : (Od.v i).run Γ = (datAt Γ i).bind fun d => some (d, Γ) := rfl
@[simp] theorem ev_19 {c : CE} {d : D} {Γ : En} : (Od.e c).fin d Γ = some d := rfl
@[simp] theorem ev_20 {i : Nat} {d : D} {Γ : En} : (Od.v i).fin d Γ = datAt Γ i := rfl
@[simp] theorem ev_21 {i : Nat} {Γ : En} : datAt Γ i = Γ[i]?.bind Sl.dat := rfl
@[simp] theorem ev_22  : Sl.dat .no = none := rfl
@[simp] theorem ev_23 {d : D} : Sl.dat (.fr d) = some d := rfl
@[simp] theorem ev_24 {d : D} : Sl.dat (.ow d) = some d := rfl
@[simp] theorem ev_25 {d : D} : Sl.dat (.ln d) = some d := rfl
@[simp] theorem ev_26 {d : D} {Γ : En} : cC d Γ = some (d, Γ) := rfl
@[simp] theorem ev_27 {i : Nat} {Γ : En} : cVar i Γ = (match Γ[i]? with | some (.fr d) => some (d, Γ) | some (.ow d) => some (d, Γ.set i (.fr d)) | _ => none) := rfl
@[simp] theorem ev_28 {i : Nat} {Γ : En} : nVar i Γ = (match Γ[i]? with | some (.fr d) => some (.fr d, Γ) | some (.ow d) => some (.nw d, Γ.set i .no) | _ => none) := rfl
@[simp] theorem ev_29 {s t : CE} {Γ : En} : cAndV s t Γ = (cB s Γ).bind fun p => if p.1 = true then t p.2 else some (.bool false, p.2) := rfl
@[simp] theorem ev_30 {s t : CE} {Γ : En} : cOrV s t Γ = (cB s Γ).bind fun p => if p.1 = true then some (.bool true, p.2) else t p.2 := rfl
@[simp] theorem ev_31 {s : CE} {Γ : En} : cNotV s Γ = (cB s Γ).bind fun p => some (.bool (!p.1), p.2) := rfl
@[simp] theorem ev_32 {s t : CT} {Γ : En} : cAnd s t Γ = (s Γ).bind fun p => if p.1 = true then t p.2 else some (false, p.2) := rfl
@[simp] theorem ev_33 {s t : CT} {Γ : En} : cOr s t Γ = (s Γ).bind fun p => if p.1 = true then some (true, p.2) else t p.2 := rfl
@[simp] theorem ev_34 {s : CT} {Γ : En} : cNot s Γ = (s Γ).bind fun p => some (!p.1, p.2) := rfl
@[simp] theorem ev_35 {c : CE} {Γ : En} : cB c Γ = (c Γ).bind fun p => (toB p.1).bind fun b => some (b, p.2) := rfl
@[simp] theorem ev_36 {b : Bool} : toB (.bool b) = some b := rfl
@[simp] theorem ev_37 {s : CT} {t u : CE} {Γ : En} : cIf s t u Γ = (s Γ).bind fun p => if p.1 = true then t p.2 else u p.2 := rfl
@[simp] theorem ev_38 {r : CA} {Γ : En} : cTup r Γ = (r Γ).bind fun p => if p.1.length ≤ sizeLine then some (.tuple p.1, p.2) else none := rfl
@[simp] theorem ev_39 {r : CA} {Γ : En} : cLst r Γ = (r Γ).bind fun p => if p.1.length ≤ sizeLine then some (.nw (.list p.1), p.2) else none := rfl
@[simp] theorem ev_40 {c : CE} {r : CA} {Γ : En} : cCons c r Γ = (c Γ).bind fun p => (r p.2).bind fun q => some (p.1 :: q.1, q.2) := rfl
@[simp] theorem ev_41 {Γ : En} : cNil Γ = some ([], Γ) := rfl
@[simp] theorem ev_42 {cf : CF} {ca : CA} {Γ : En} : cCall cf [] ca Γ = (ca Γ).bind fun p => (cf (p.1.map .fr)).bind fun q => some (q.1, p.2) := by
  unfold cCall lnd
  simp [backL]
@[simp] theorem ev_43 {cf : CF} {m n : Nat} {pi : List Nat} {ca ck : CA} {Γ : En} : cCallK cf m n pi ca ck Γ = (ca Γ).bind fun p => (ck p.2).bind fun q => (cf ((perm m n pi p.1 q.1).map .fr)).bind fun r => some (r.1, q.2) := rfl
@[simp] theorem ev_44 {c : CE} {g : CG} {Γ : En} : cAsg c g Γ = (c Γ).bind fun p => (g p.1 p.2).bind fun Γ' => some (.nx, Γ') := rfl
@[simp] theorem ev_45 {i : Nat} {c : CE} : cSet i c = cAsg c (gN i) := rfl
@[simp] theorem ev_46 {i : Nat} {d : D} {Γ : En} : gN i d Γ = put Γ i (.fr d) := rfl
@[simp] theorem ev_47 {i : Nat} {s : Sl} {Γ : En} : put Γ i s = (match Γ[i]? with | some (.ln _) => none | some _ => some (Γ.set i s) | none => none) := rfl
@[simp] theorem ev_48 {i : Nat} {c : CN} {Γ : En} : cSetN i c Γ = (c Γ).bind fun p => (put p.2 i (slOf p.1)).bind fun Γ' => some (.nx, Γ') := rfl
@[simp] theorem ev_49 {d : D} : slOf (.fr d) = .fr d := rfl
@[simp] theorem ev_50 {d : D} : slOf (.nw d) = .ow d := rfl
@[simp] theorem ev_51 {i j : Nat} {c : CA} {Γ : En} : cPar i j c Γ = (c Γ).bind fun p => match p.1 with | [a, b] => (put p.2 i (.fr a)).bind fun Γ1 => (put Γ1 j (.fr b)).bind fun Γ2 => some (.nx, Γ2) | _ => none := rfl
@[simp] theorem ev_52 {i j l : Nat} {c : CA} {Γ : En} : cPar3 i j l c Γ = (c Γ).bind fun p => match p.1 with | [a, b, d] => (put p.2 i (.fr a)).bind fun Γ1 => (put Γ1 j (.fr b)).bind fun Γ2 => (put Γ2 l (.fr d)).bind fun Γ3 => some (.nx, Γ3) | _ => none := rfl
@[simp] theorem ev_53 {c : CE} {Γ : En} : cDrop c Γ = (c Γ).bind fun p => some (.nx, p.2) := rfl
@[simp] theorem ev_54 {Γ : En} : cNext Γ = some (.nx, Γ) := rfl
@[simp] theorem ev_55 {Γ : En} : cBreak Γ = some (.bk, Γ) := rfl
@[simp] theorem ev_56 {Γ : En} : cCont Γ = some (.ct, Γ) := rfl
@[simp] theorem ev_57 {Γ : En} : cNever Γ = none := rfl
@[simp] theorem ev_58 {ci : CI} {g : CG} {body : CS} {Γ : En} : cFor ci g body Γ = (ci Γ).bind fun p => forL g body p.1 p.2 := rfl
@[simp] theorem ev_59 {c : CE} {Γ : En} : cIt c Γ = (c Γ).bind fun p => match p.1 with | .list ds => some (ds, p.2) | .tuple ds => some (ds, p.2) | _ => none := rfl
@[simp] theorem ev_60 {c : CA} {Γ : En} : cRng1 c Γ = (c Γ).bind fun p => match p.1 with | [.int j] => if -(2 ^ 62) ≤ j ∧ j < 2 ^ 62 then some (rngD 0 j.toNat, p.2) else none | _ => none := rfl
@[simp] theorem ev_61 {c : CA} {Γ : En} : cRng2 c Γ = (c Γ).bind fun p => match p.1 with | [.int i, .int j] => if -(2 ^ 62) ≤ i ∧ i < 2 ^ 62 ∧ -(2 ^ 62) ≤ j ∧ j < 2 ^ 62 then some (rngD i (j - i).toNat, p.2) else none | _ => none := rfl
@[simp] theorem ev_62 {vs : List Nat} {ci : CI} {g : CG} {cond : CT} {elt : CE} {Γ : En} : cLc vs ci g cond elt Γ = (ci Γ).bind fun p => if vs.all (notOwn p.2) = true then (lcL g cond elt vs p.1 [] (wipeG p.2 vs)).bind fun q => some (.nw (.list q.1), restore p.2 q.2 vs) else none := rfl
@[simp] theorem ev_63 {f g : D → D → Option D} {a b c : Od} {Γ : En} : cChain f g a b c Γ = (a.run Γ).bind fun p => (b.run p.2).bind fun q => (a.fin p.1 q.2).bind fun x => (b.fin q.1 q.2).bind fun y => (f x y).bind fun z => (toB z).bind fun k => if k = true then (c.run q.2).bind fun r => (b.fin q.1 r.2).bind fun y2 => (c.fin r.1 r.2).bind fun w => (g y2 w).bind fun u => some (u, r.2) else some (.bool false, q.2) := rfl
@[simp] theorem ev_64 {Γ : En} {v : Nat} : notOwn Γ v = (match Γ[v]? with | some s => !s.own | none => false) := rfl
@[simp] theorem ev_65 {d : D} : Sl.own (.fr d) = false := rfl
@[simp] theorem ev_66 {d : D} : Sl.own (.ow d) = true := rfl
@[simp] theorem ev_67 {d : D} : Sl.own (.ln d) = true := rfl
@[simp] theorem ev_68  : Sl.own .no = false := rfl
@[simp] theorem ev_69 {Γ : En} : wipeG Γ [] = Γ := rfl
@[simp] theorem ev_70 {Γ : En} {v : Nat} {vs : List Nat} : wipeG Γ (v :: vs) = (wipeG Γ vs).set v .no := rfl
@[simp] theorem ev_71 {Γ Δ : En} : restore Γ Δ [] = Δ := rfl
@[simp] theorem ev_72 {Γ Δ : En} {v : Nat} {vs : List Nat} : restore Γ Δ (v :: vs) = (match Γ[v]? with | some s => (restore Γ Δ vs).set v s | none => restore Γ Δ vs) := rfl
@[simp] theorem ev_73 {d : D} : kept (.fr d) = .no := rfl
@[simp] theorem ev_74 {d : D} : kept (.ow d) = .no := rfl
@[simp] theorem ev_75 {d : D} : kept (.ln d) = .ln d := rfl
@[simp] theorem ev_76  : kept .no = .no := rfl
@[simp] theorem ev_77 {Γ : En} : cNoI Γ = some (none, Γ) := rfl
@[simp] theorem ev_78 {c : CE} {Γ : En} : cSomeI c Γ = (c Γ).bind fun p => match p.1 with | .int i => some (some i, p.2) | _ => none := rfl
@[simp] theorem ev_79 {oe : Od} {lo hi : CO} {Γ : En} : cSlT oe lo hi Γ = (oe.run Γ).bind fun p => (lo p.2).bind fun l => (hi l.2).bind fun h => (oe.fin p.1 h.2).bind fun d => match d with | .tuple ds => some (.tuple (cutD ds l.1 h.1), h.2) | _ => none := rfl
@[simp] theorem ev_80 {oe : Od} : cRevT oe = cUn (fun d => match d with | .tuple ds => some (.tuple ds.reverse) | _ => none) oe := rfl
@[simp] theorem ev_81 {n m : Nat} {body : CS} {as : En} (h : as.length = m) : cFun n m body as = (body (as ++ List.replicate (n - m) .no)).bind fun p => match p.1 with | .nx => some (.fr .none, (p.2.take m).map kept) | .rt r => some (r, (p.2.take m).map kept) | _ => none := by
  unfold cFun; rw [if_pos h]; try rfl
@[simp] theorem ev_82 {d : D} : isD d ["int"] = some (.bool (tInt d)) := isD_int d
@[simp] theorem ev_83 {d : D} : isD d ["bool"] = some (.bool (tBool d)) := isD_bool d
@[simp] theorem ev_84 {d : D} : isD d ["str"] = some (.bool (tStr d)) := isD_str d
@[simp] theorem ev_85 {d : D} : isD d ["tuple"] = some (.bool (tTup d)) := isD_tuple d
@[simp] theorem ev_86 {d : D} : isD d ["list"] = some (.bool (tList d)) := isD_list d
@[simp] theorem ev_87 {d : D} : isD d ["bool", "str"] = some (.bool (tBool d || tStr d)) := isD_bs d
@[simp] theorem ev_88  : tInt (.none) = false := rfl
@[simp] theorem ev_89 {b : Bool} : tInt (.bool b) = true := rfl
@[simp] theorem ev_90 {i : Int} : tInt (.int i) = true := rfl
@[simp] theorem ev_91 {s : Str} : tInt (.str s) = false := rfl
@[simp] theorem ev_92 {l : List D} : tInt (.list l) = false := rfl
@[simp] theorem ev_93 {l : List D} : tInt (.tuple l) = false := rfl
@[simp] theorem ev_94 {l : List (D × D)} : tInt (.dict l) = false := rfl
@[simp] theorem ev_95  : tBool (.none) = false := rfl
@[simp] theorem ev_96 {b : Bool} : tBool (.bool b) = true := rfl
@[simp] theorem ev_97 {i : Int} : tBool (.int i) = false := rfl
@[simp] theorem ev_98 {s : Str} : tBool (.str s) = false := rfl
@[simp] theorem ev_99 {l : List D} : tBool (.list l) = false := rfl
@[simp] theorem ev_100 {l : List D} : tBool (.tuple l) = false := rfl
@[simp] theorem ev_101 {l : List (D × D)} : tBool (.dict l) = false := rfl
@[simp] theorem ev_102  : tTup (.none) = false := rfl
@[simp] theorem ev_103 {b : Bool} : tTup (.bool b) = false := rfl
@[simp] theorem ev_104 {i : Int} : tTup (.int i) = false := rfl
@[simp] theorem ev_105 {s : Str} : tTup (.str s) = false := rfl
@[simp] theorem ev_106 {l : List D} : tTup (.list l) = false := rfl
@[simp] theorem ev_107 {l : List D} : tTup (.tuple l) = true := rfl
@[simp] theorem ev_108 {l : List (D × D)} : tTup (.dict l) = false := rfl
@[simp] theorem ev_109  : tList (.none) = false := rfl
@[simp] theorem ev_110 {b : Bool} : tList (.bool b) = false := rfl
@[simp] theorem ev_111 {i : Int} : tList (.int i) = false := rfl
@[simp] theorem ev_112 {s : Str} : tList (.str s) = false := rfl
@[simp] theorem ev_113 {l : List D} : tList (.list l) = true := rfl
@[simp] theorem ev_114 {l : List D} : tList (.tuple l) = false := rfl
@[simp] theorem ev_115 {l : List (D × D)} : tList (.dict l) = false := rfl
@[simp] theorem ev_116  : tStr (.none) = false := rfl
@[simp] theorem ev_117 {b : Bool} : tStr (.bool b) = false := rfl
@[simp] theorem ev_118 {i : Int} : tStr (.int i) = false := rfl
@[simp] theorem ev_119 {s : Str} : tStr (.str s) = true := rfl
@[simp] theorem ev_120 {l : List D} : tStr (.list l) = false := rfl
@[simp] theorem ev_121 {l : List D} : tStr (.tuple l) = false := rfl
@[simp] theorem ev_122 {l : List (D × D)} : tStr (.dict l) = false := rfl
@[simp] theorem ev_123  : isZ (.none) = false := rfl
@[simp] theorem ev_124 {b : Bool} : isZ (.bool b) = false := rfl
@[simp] theorem ev_125 {i : Int} : isZ (.int i) = true := rfl
@[simp] theorem ev_126 {s : Str} : isZ (.str s) = false := rfl
@[simp] theorem ev_127 {l : List D} : isZ (.list l) = false := rfl
@[simp] theorem ev_128 {l : List D} : isZ (.tuple l) = false := rfl
@[simp] theorem ev_129 {l : List (D × D)} : isZ (.dict l) = false := rfl
@[simp] theorem ev_130 {l : List D} : fLen [.list l] = some (.int l.length) := rfl
@[simp] theorem ev_131 {l : List D} : fLen [.tuple l] = some (.int l.length) := rfl
@[simp] theorem ev_132 {i : Int} : fInt [.int i] = some (.int i) := rfl
@[simp] theorem ev_133 {b : Bool} : fInt [.bool b] = some (.int (if b then 1 else 0)) := rfl
@[simp] theorem ev_134 {l : List D} : fTuple [.list l] = some (.tuple l) := rfl
@[simp] theorem ev_135 {l : List D} : fTuple [.tuple l] = some (.tuple l) := rfl
@[simp] theorem ev_136 {l : List D} : fList [.list l] = some l := rfl
@[simp] theorem ev_137 {l : List D} : fList [.tuple l] = some l := rfl
@[simp] theorem ev_138 {l : List D} {i : Int} : dIx (.list l) (.int i) = atI l i := rfl
@[simp] theorem ev_139 {l : List D} {i : Int} : dIx (.tuple l) (.int i) = atI l i := rfl
@[simp] theorem ev_140 {i j : Int} : dLt (.int i) (.int j) = some (.bool (decide (i < j))) := rfl
@[simp] theorem ev_141 {i j : Int} : dLe (.int i) (.int j) = some (.bool (decide (i ≤ j))) := rfl
@[simp] theorem ev_142 {i j : Int} : dGt (.int i) (.int j) = some (.bool (decide (j < i))) := rfl
@[simp] theorem ev_143 {i j : Int} : dGe (.int i) (.int j) = some (.bool (decide (j ≤ i))) := rfl
@[simp] theorem ev_144 {i j : Int} : dAdd (.int i) (.int j) = some (.int (i + j)) := rfl
@[simp] theorem ev_145 {i j : Int} : dSub (.int i) (.int j) = some (.int (i - j)) := rfl
@[simp] theorem ev_146 {i : Int} : dNeg (.int i) = some (.int (-i)) := rfl
@[simp] theorem ev_147 {i j : Int} : dAddI (.int i) (.int j) = some (.int (i + j)) := rfl
@[simp] theorem ev_148 {a : D} : dIsNone false a .none = some (.bool (match a with | .none => true | _ => false)) := rfl
@[simp] theorem ev_149 {a : D} : dIsNone true a .none = some (.bool (match a with | .none => false | _ => true)) := rfl
@[simp] theorem ev_150 {k : List (Str × D)} {z : Str} : fHasK k false (.str z) = some (.bool (lookD k z).isSome) := rfl
@[simp] theorem ev_151 {k : List (Str × D)} {z : Str} : fHasK k true (.str z) = some (.bool (!(lookD k z).isSome)) := rfl
@[simp] theorem ev_152 {k : List (Str × D)} {z : Str} : fGetK k (.str z) = lookD k z := rfl
@[simp] theorem ev_153 {k : List (Str × D)} {df : D} {z : Str} : fGetD k df (.str z) = some ((lookD k z).getD df) := rfl

/-! ### runs -/
theorem lcL_map {g : CG} {elt : CE} {vs : List Nat} {Γ : En} {f : D → D} : ∀ (ds acc : List D), (∀ d ∈ ds, ∃ Γ1, g d Γ = some Γ1 ∧ ∃ Γ2, elt Γ1 = some (f d, Γ2) ∧ wipeG Γ2 vs = Γ) → acc.length + ds.length ≤ sizeLine →
    lcL g cYes elt vs ds acc Γ = some (acc ++ ds.map f, Γ)
  | [], acc, _, _ => by simp [lcL]
  | d :: ds, acc, h, hz => by
    obtain ⟨Γ1, h1, Γ2, h2, h3⟩ := h d (by simp)
    simp only [List.length_cons] at hz
    unfold lcL
    simp only [h1, Option.bind_some, cYes, if_true, h2]
    rw [if_pos (by omega), h3, lcL_map ds (acc ++ [f d]) (fun x hx => h x (by simp [hx])) (by simp; omega)]
    simp
theorem bools_map {α : Type} (f : α → Bool) : ∀ xs : List α, bools (xs.map fun x => PyData.bool (f x)) = some (xs.map f)
  | [] => rfl
  | x :: xs => by
    show ((toB (.bool (f x))).bind fun b => (bools (xs.map fun x => PyData.bool (f x))).bind fun r => some (b :: r)) = _
    rw [bools_map f xs]
    rfl
theorem fAll_map {α : Type} (f : α → Bool) (xs : List α) : fAll [.list (xs.map fun x => PyData.bool (f x))] = some (.bool (xs.all f)) := by
  show ((bools (xs.map fun x => PyData.bool (f x))).bind fun bs => some (PyData.bool (bs.all id))) = _
  rw [bools_map f xs]
  simp [List.all_map, Function.comp_def]
theorem fAny_map {α : Type} (f : α → Bool) (xs : List α) : fAny [.list (xs.map fun x => PyData.bool (f x))] = some (.bool (xs.any f)) := by
  show ((bools (xs.map fun x => PyData.bool (f x))).bind fun bs => some (PyData.bool (bs.any id))) = _
  rw [bools_map f xs]
  simp [List.any_map, Function.comp_def]
end Pu

namespace Pu
open PySem PySem.Spec PyProof.Rows L2

/-! ### equality and search of plain data -/
def okStr (s : Str) : Bool := (PyData.str s).canLay0
theorem beqD {α : Type} [BEq α] [LawfulBEq α] [DecidableEq α] (i j : α) : (i == j) = decide (i = j) := by
  by_cases h : i = j
  · simp [h]
  · simp [h]
@[simp] theorem shaped_int (i : Int) : SeqAt.shaped (.int i) = true := by simp [SeqAt.shaped, PyData.canLay0, PyData.depth]
@[simp] theorem shaped_bool (i : Bool) : SeqAt.shaped (.bool i) = true := by simp [SeqAt.shaped, PyData.canLay0, PyData.depth]
@[simp] theorem shaped_none : SeqAt.shaped .none = true := by simp [SeqAt.shaped, PyData.canLay0, PyData.depth]
@[simp] theorem shaped_str (s : Str) : SeqAt.shaped (.str s) = okStr s := by simp [SeqAt.shaped, okStr, PyData.depth]
@[simp] theorem shaped_nil : SeqAt.shaped (.tuple []) = true := by simp [SeqAt.shaped, PyData.canLay0, PyData.canLayAll0, PyData.depth, PyData.depthAll]
@[simp] theorem dEq_int (i j : Int) : dEq false (.int i) (.int j) = some (.bool (decide (i = j))) := by
  simp [dEq, PyData.eqv, beqD]
@[simp] theorem dNe_int (i j : Int) : dEq true (.int i) (.int j) = some (.bool (!decide (i = j))) := by
  simp [dEq, PyData.eqv, beqD]
@[simp] theorem dEq_bool (i j : Bool) : dEq false (.bool i) (.bool j) = some (.bool (i == j)) := by
  simp [dEq, PyData.eqv]
@[simp] theorem dNe_bool (i j : Bool) : dEq true (.bool i) (.bool j) = some (.bool (!(i == j))) := by
  simp [dEq, PyData.eqv]
theorem dEq_str (i j : Str) (h : okStr i = true) (k : okStr j = true) : dEq false (.str i) (.str j) = some (.bool (decide (i = j))) := by
  simp [dEq, PyData.eqv, h, k, beqD]
def isNil : D → Bool
  | .tuple [] => true
  | _ => false
theorem dEq_nil (d : D) (h : SeqAt.shaped d = true) : dEq false d (.tuple []) = some (.bool (isNil d)) := by
  unfold dEq
  rw [if_pos ⟨h, shaped_nil⟩]
  cases d <;> simp [PyData.eqv, isNil]
  rename_i l
  cases l <;> simp [PyData.eqvAll, isNil]
@[simp] theorem dIn_tup (neg : Bool) (a : D) (ds : List D) : dIn neg a (.tuple ds) = if flatD a = true ∧ ds.all flatD = true then some (.bool (if neg then !ds.any fun z => PyData.eqv z a else ds.any fun z => PyData.eqv z a)) else none := rfl
@[simp] theorem flat_int (i : Int) : flatD (.int i) = true := rfl
@[simp] theorem flat_bool (i : Bool) : flatD (.bool i) = true := rfl
@[simp] theorem flat_str (i : Str) : flatD (.str i) = true := rfl
@[simp] theorem eqv_str (i j : Str) : PyData.eqv (.str i) (.str j) = decide (j = i) := by simp [PyData.eqv, beqD, eq_comm]
@[simp] theorem eqv_int (i j : Int) : PyData.eqv (.int i) (.int j) = decide (j = i) := by simp [PyData.eqv, beqD, eq_comm]

/-! ### parts of lists -/
@[simp] theorem at0 {α : Type} (x : α) (xs : List α) : atI (x :: xs) 0 = some x := by simp [atI, ixN]
theorem ixN_pos {n : Nat} {i : Int} (h : 0 ≤ i) (k : i < n) : ixN n i = some i.toNat := by simp [ixN, h, k]
theorem atI_pos {α : Type} {xs : List α} {i : Int} (h : 0 ≤ i) (k : i < xs.length) : atI xs i = xs[i.toNat]? := by simp [atI, ixN_pos h k]
@[simp] theorem at1 {α : Type} (x y : α) (xs : List α) : atI (x :: y :: xs) 1 = some y := by
  rw [atI_pos (by omega) (by simp only [List.length_cons]; omega)]; rfl
@[simp] theorem at2 {α : Type} (x y z : α) (xs : List α) : atI (x :: y :: z :: xs) 2 = some z := by
  rw [atI_pos (by omega) (by simp only [List.length_cons]; omega)]; rfl
@[simp] theorem at3 {α : Type} (x y z u : α) (xs : List α) : atI (x :: y :: z :: u :: xs) 3 = some u := by
  rw [atI_pos (by omega) (by simp only [List.length_cons]; omega)]; rfl
theorem atI_mem {α : Type} {xs : List α} {i : Int} {z : α} (h : atI xs i = some z) : z ∈ xs := by
  unfold atI at h
  rw [Option.bind_eq_some_iff] at h
  obtain ⟨j, _, h⟩ := h
  exact List.mem_of_getElem? h
theorem atI_in {α : Type} {xs : List α} {i : Int} (h : 0 ≤ i) (k : i < xs.length) : ∃ z, atI xs i = some z ∧ z ∈ xs := by
  have e : atI xs i = some (xs[i.toNat]'(by omega)) := by rw [atI_pos h k]; exact List.getElem?_eq_getElem _
  exact ⟨_, e, atI_mem e⟩
def putI {α : Type} (ds : List α) (k : Int) (z : α) : Option (List α) := (ixN ds.length k).map fun j => ds.set j z
@[simp] theorem put0 {α : Type} (x z : α) (xs : List α) : putI (x :: xs) 0 z = some (z :: xs) := by simp [putI, ixN]
@[simp] theorem put1 {α : Type} (x y z : α) (xs : List α) : putI (x :: y :: xs) 1 z = some (x :: z :: xs) := by
  unfold putI; rw [ixN_pos (by omega) (by simp only [List.length_cons]; omega)]; rfl
@[simp] theorem put2 {α : Type} (x y u z : α) (xs : List α) : putI (x :: y :: u :: xs) 2 z = some (x :: y :: z :: xs) := by
  unfold putI; rw [ixN_pos (by omega) (by simp only [List.length_cons]; omega)]; rfl
@[simp] theorem own_ow (d : List D) (Γ : En) (i : Nat) (h : Γ[i]? = some (.ow (.list d))) : ownAt Γ i = some d := by simp [ownAt, h]
@[simp] theorem ev_own {Γ : En} {i : Nat} : ownAt Γ i = (match Γ[i]? with | some (.ow (.list ds)) => some ds | some (.ln (.list ds)) => some ds | _ => none) := rfl
@[simp] theorem ev_back {Γ : En} {i : Nat} {d : D} : backS Γ i d = Γ.set i (match Γ[i]? with | some (.ln _) => .ln d | _ => .ow d) := rfl
@[simp] theorem ev_putI {i : Nat} {ix c : CE} {Γ : En} : cPutI i ix c Γ = (c Γ).bind fun p => (ownAt p.2 i).bind fun _ => (ix p.2).bind fun q => match q.1 with
  | .int k => (ownAt q.2 i).bind fun ds => (putI ds k p.1).bind fun es => some (.nx, backS q.2 i (.list es))
  | _ => none := by
  unfold cPutI
  congr 1; funext p; congr 1; funext _; congr 1; funext q
  obtain ⟨qd, qe⟩ := q
  cases qd <;> simp [putI, Option.map_eq_bind, Option.bind_assoc, Function.comp_def]
@[simp] theorem ev_augI {i : Nat} {ix c : CE} {f : D → D → Option D} {Γ : En} : cAugI i ix f c Γ = (ownAt Γ i).bind fun _ => (ix Γ).bind fun p => match p.1 with
  | .int k => (ownAt p.2 i).bind fun ds => (atI ds k).bind fun d => (c p.2).bind fun q => (f d q.1).bind fun z => (ownAt q.2 i).bind fun es => (putI es k z).bind fun xs => some (.nx, backS q.2 i (.list xs))
  | _ => none := by
  unfold cAugI
  congr 1; funext _; congr 1; funext p
  obtain ⟨pd, pe⟩ := p
  cases pd <;> simp [putI, Option.map_eq_bind, Option.bind_assoc, Function.comp_def]
@[simp] theorem ev_cat {a b : Od} {Γ : En} : cCat a b Γ = (a.run Γ).bind fun p => (b.run p.2).bind fun q => (a.fin p.1 q.2).bind fun x => (b.fin q.1 q.2).bind fun y => match x, y with
  | .list ds, .list es => if ds.length + es.length ≤ sizeLine then some (.nw (.list (ds ++ es)), q.2) else none
  | _, _ => none := rfl
@[simp] theorem ev_call1 {cf : CF} {i : Nat} {ca : CA} {Γ : En} : cCall cf [i] ca Γ = (lnd Γ [i]).bind fun _ => (ca Γ).bind fun p => (lnd p.2 [i]).bind fun as => (cf (as ++ p.1.map .fr)).bind fun q => (backL p.2 [i] q.2).bind fun Γ2 => some (q.1, Γ2) := by
  unfold cCall
  simp
@[simp] theorem ev_lnd0 {Γ : En} : lnd Γ [] = some [] := rfl
@[simp] theorem ev_lnd {Γ : En} {i : Nat} {is : List Nat} : lnd Γ (i :: is) = (match Γ[i]? with | some (.ow d) => (lnd Γ is).bind fun r => some (.ln d :: r) | some (.ln d) => (lnd Γ is).bind fun r => some (.ln d :: r) | _ => none) := rfl
@[simp] theorem ev_backL {Γ : En} {i : Nat} {is : List Nat} {d : D} {r : En} : backL Γ (i :: is) (.ln d :: r) = backL (backS Γ i d) is r := rfl
@[simp] theorem ev_backL0 {Γ r : En} : backL Γ [] r = some Γ := by cases r <;> rfl
@[simp] theorem mod_int {i j : Int} (h : j ≠ 0) : dMod (.int i) (.int j) = some (.int (i.fmod j)) := by simp [dMod, h]
theorem mul_int {i j : Int} (h : CMul i j) : dMul (.int i) (.int j) = some (.int (i * j)) := by simp [dMul, h]
theorem fdiv_int {i j : Int} (h : CDivN i j) : dFdiv (.int i) (.int j) = some (.int (i.fdiv j)) := by simp [dFdiv, h]
theorem fmod_range (a b : Int) (h : 0 < b) : 0 ≤ a.fmod b ∧ a.fmod b < b := ⟨Int.fmod_nonneg_of_pos a h, Int.fmod_lt_of_pos a h⟩

/-! ### the pot -/
def cPot : CF := cFun 1 1
    (cRet (cCat (.e (frz (cLst (cCons (cC (.int 0)) (cCons (cC (.int 5801)) (cCons (cC (.int 3)) cNil)))))) (.e (frz (cCbN fList [(.v 0)])))))
def cTakeEnd : CS :=
    (cSeq (cIfS (cB (cOp dGt (.e (cOp dIx (.v 0) (.e (cC (.int 0))))) (.e (cC (.int 0))))) (cSeq (cSet 4 (cOp dMod (.e (cCb fInt [(.e (cOp dIx (.v 0) (.e (cC (.int 0)))))])) (.v 1)))
    (cSeq (cPutI 0 (cC (.int 0)) (cOp dFdiv (.e (cOp dIx (.v 0) (.e (cC (.int 0))))) (.v 1)))
    (cRet (asN (cVar 4))))) cNext)
    (cSeq (cPutI 0 (cC (.int 1)) (cOp dMod (.e (cCb fInt [(.e (cOp dAdd (.e (cOp dAdd (.e (cOp dMul (.e (cOp dIx (.v 0) (.e (cC (.int 1))))) (.e (cC (.int 69621))))) (.e (cOp dMul (.e (cC (.int 30323))) (.e (cOp dIx (.v 0) (.e (cC (.int 2))))))))) (.e (cC (.int 19)))))])) (.e (cC (.int 2147483647)))))
    (cSeq (cPutI 0 (cC (.int 1)) (cOp dMod (.e (cCb fInt [(.e (cOp dAdd (.e (cOp dMul (.e (cOp dIx (.v 0) (.e (cC (.int 1))))) (.e (cOp dIx (.v 0) (.e (cC (.int 1))))))) (.e (cC (.int 5)))))])) (.e (cC (.int 2147483629)))))
    (cRet (asN (cOp dMod (.e (cCb fInt [(.e (cOp dFdiv (.e (cOp dIx (.v 0) (.e (cC (.int 1))))) (.e (cC (.int 16)))))])) (.v 1)))))))
def cTake : CF := cFun 5 2
    (cSeq (cIfS (cAnd (cB (cOp (dEq false) (.e (cOp dIx (.v 0) (.e (cC (.int 0))))) (.e (cC (.int 0))))) (cB (cOp dLt (.e (cOp dIx (.v 0) (.e (cC (.int 2))))) (.e (cCb fLen [(.v 0)]))))) (cSeq (cSet 2 (cOp dIx (.v 0) (.e (cOp dIx (.v 0) (.e (cC (.int 2)))))))
    (cSeq (cAugI 0 (cC (.int 2)) dAddI (cC (.int 1)))
    (cIfS (cB (cOp dGe (.v 2) (.e (cOp dPow (.e (cC (.int 10))) (.e (cC (.int 18))))))) (cPutI 0 (cC (.int 0)) (cOp dSub (.v 2) (.e (cOp dPow (.e (cC (.int 10))) (.e (cC (.int 18))))))) (cSeq (cSet 3 (cOp dMod (.e (cCb fInt [(.v 2)])) (.e (cC (.int 2147483647)))))
    (cSeq (cSet 3 (cOp dMod (.e (cCb fInt [(.e (cOp dAdd (.e (cOp dAdd (.e (cOp dMul (.v 3) (.v 3))) (.e (cOp dMul (.e (cC (.int 48271))) (.v 3))))) (.e (cOp dMul (.e (cC (.int 613))) (.e (cOp dIx (.v 0) (.e (cC (.int 2)))))))))])) (.e (cC (.int 2147483629)))))
    (cPutI 0 (cC (.int 1)) (cOp dMod (.e (cCb fInt [(.e (cOp dAdd (.e (cOp dIx (.v 0) (.e (cC (.int 1))))) (.v 3)))])) (.e (cC (.int 2147483629)))))))))) cNext)
    cTakeEnd)
def Pot (ds : List D) : Prop := ∃ (a b c : Int) (r : List Int), ds = .int a :: .int b :: .int c :: r.map .int ∧ 0 ≤ b ∧ b < 2 ^ 31 ∧ 3 ≤ c ∧ c ≤ 100 ∧ r.length ≤ 90
theorem pot0 {ns : List Int} (h : ns.length ≤ 90) : cPot [.fr (.list (ns.map .int))] = some (.nw (.list (.int 0 :: .int 5801 :: .int 3 :: ns.map .int)), [.no]) := by
  have h1 : ns.length + 1 + 1 + 1 ≤ sizeLine := Nat.le_trans (show _ ≤ 93 by omega) (by decide)
  have h2 : 3 + ns.length ≤ sizeLine := by omega
  have h3 : 3 ≤ sizeLine := by decide
  simp [cPot, h2, h3]
theorem take_end {a b c m : Int} {r : List Int} (hb : 0 ≤ b ∧ b < 2 ^ 31) (hc : 3 ≤ c ∧ c ≤ 100) (hr : r.length ≤ 90) (hm : 1 ≤ m ∧ m < 2 ^ 30) (s2 s3 : Sl) :
    ∃ (q : Int) (ds : List D) (s4 : Sl), cTakeEnd
      [.ln (.list (.int a :: .int b :: .int c :: r.map .int)), .fr (.int m), s2, s3, .no] = some (.rt (.fr (.int q)), [.ln (.list ds), .fr (.int m), s2, s3, s4]) ∧ 0 ≤ q ∧ q < m ∧ Pot ds := by
  have m0 : m ≠ 0 := by omega
  have md : ∀ i, dMod (.int i) (.int m) = some (.int (i.fmod m)) := fun i => by simp [dMod, m0]
  have md1 : ∀ i, dMod (.int i) (.int 2147483647) = some (.int (i.fmod 2147483647)) := fun i => by simp [dMod]
  have md2 : ∀ i, dMod (.int i) (.int 2147483629) = some (.int (i.fmod 2147483629)) := fun i => by simp [dMod]
  have fd : ∀ i, dFdiv (.int i) (.int m) = some (.int (i.fdiv m)) := fun i => fdiv_int ⟨m0, by omega⟩
  have fd16 : ∀ i, dFdiv (.int i) (.int 16) = some (.int (i.fdiv 16)) := fun i => fdiv_int ⟨by omega, by omega⟩
  have u1 : ∀ i, dMul (.int i) (.int 69621) = some (.int (i * 69621)) := fun i => mul_int (.inr ⟨by omega, by omega⟩)
  have u2 : ∀ i, dMul (.int 30323) (.int i) = some (.int (30323 * i)) := fun i => mul_int (.inl ⟨by omega, by omega⟩)
  have fm := fmod_range
  by_cases ha : 0 < a
  · refine ⟨a.fmod m, _, .fr (.int (a.fmod m)), ?_, (fm a m (by omega)).1, (fm a m (by omega)).2, a.fdiv m, b, c, r, rfl, hb.1, hb.2, hc.1, hc.2, hr⟩
    unfold cTakeEnd
    simp [ha, md, fd]
  · have b1 := fm (b * 69621 + 30323 * c + 19) 2147483647 (by omega)
    have u3 : dMul (.int ((b * 69621 + 30323 * c + 19).fmod 2147483647)) (.int ((b * 69621 + 30323 * c + 19).fmod 2147483647)) = some (.int ((b * 69621 + 30323 * c + 19).fmod 2147483647 * (b * 69621 + 30323 * c + 19).fmod 2147483647)) := mul_int (.inl ⟨by omega, by omega⟩)
    have b2 := fm ((b * 69621 + 30323 * c + 19).fmod 2147483647 * (b * 69621 + 30323 * c + 19).fmod 2147483647 + 5) 2147483629 (by omega)
    refine ⟨((((b * 69621 + 30323 * c + 19).fmod 2147483647 * (b * 69621 + 30323 * c + 19).fmod 2147483647 + 5).fmod 2147483629).fdiv 16).fmod m, _, .no, ?_, (fm _ m (by omega)).1, (fm _ m (by omega)).2, a, ((b * 69621 + 30323 * c + 19).fmod 2147483647 * (b * 69621 + 30323 * c + 19).fmod 2147483647 + 5).fmod 2147483629, c, r, rfl, b2.1, by omega, hc.1, hc.2, hr⟩
    unfold cTakeEnd
    simp [ha, md, md1, md2, fd16, u1, u2, u3]
theorem take_ok {ds : List D} {m : Int} (h : Pot ds) (hm : 1 ≤ m ∧ m < 2 ^ 30) : ∃ (q : Int) (es : List D), cTake [.ln (.list ds), .fr (.int m)] = some (.fr (.int q), [.ln (.list es), .no]) ∧ 0 ≤ q ∧ q < m ∧ Pot es := by
  obtain ⟨a, b, c, r, rfl, hb0, hb1, hc0, hc1, hr⟩ := h
  have md1 : ∀ i, dMod (.int i) (.int 2147483647) = some (.int (i.fmod 2147483647)) := fun i => by simp [dMod]
  have md2 : ∀ i, dMod (.int i) (.int 2147483629) = some (.int (i.fmod 2147483629)) := fun i => by simp [dMod]
  have pw : dPow (.int 10) (.int 18) = some (.int (10 ^ 18)) := by
    show (if CPow 10 18 then some (PyData.int ((10 : Int) ^ (18 : Int).toNat)) else none) = _
    rw [if_pos (show CPow 10 18 from ⟨by omega, by omega, by omega⟩)]
    rfl
  have u1 : ∀ i, dMul (.int 48271) (.int i) = some (.int (48271 * i)) := fun i => mul_int (.inl ⟨by omega, by omega⟩)
  have u2 : ∀ i, dMul (.int 613) (.int i) = some (.int (613 * i)) := fun i => mul_int (.inl ⟨by omega, by omega⟩)
  have fm := fmod_range
  by_cases h0 : a = 0 ∧ c < (r.length : Int) + 3
  · obtain ⟨rfl, hcl⟩ := h0
    obtain ⟨j, hj⟩ : ∃ j : Int, atI (PyData.int 0 :: .int b :: .int c :: r.map .int) c = some (.int j) := by
      rw [atI_pos (by omega) (by simp; omega)]
      obtain ⟨k, hk⟩ : ∃ k, c.toNat = k + 3 := ⟨c.toNat - 3, by omega⟩
      rw [hk]
      simp only [List.getElem?_cons_succ, List.getElem?_map]
      rw [List.getElem?_eq_getElem (by omega)]
      exact ⟨_, rfl⟩
    by_cases hj0 : (10 : Int) ^ 18 ≤ j
    · obtain ⟨q, es, s4, e, q1, q2, q3⟩ := take_end (a := j - 10 ^ 18) (b := b) (c := c + 1) (r := r) ⟨hb0, hb1⟩ ⟨by omega, by omega⟩ hr hm (.fr (.int j)) .no
      refine ⟨q, es, ?_, q1, q2, q3⟩
      unfold cTake
      have e1 : ((1000000000000000000 : Int) ≤ j) := by simpa using hj0
      have w1 : (c < (r.length : Int) + 1 + 1 + 1) := by omega
      simp [hj, pw, e1, w1, hcl] at e ⊢ <;> simp [e]
    · have j1 := fm j 2147483647 (by omega)
      have u3 : dMul (.int (j.fmod 2147483647)) (.int (j.fmod 2147483647)) = some (.int (j.fmod 2147483647 * j.fmod 2147483647)) := mul_int (.inl ⟨by omega, by omega⟩)
      have b2 := fm (b + (j.fmod 2147483647 * j.fmod 2147483647 + 48271 * j.fmod 2147483647 + 613 * (c + 1)).fmod 2147483629) 2147483629 (by omega)
      obtain ⟨q, es, s4, e, q1, q2, q3⟩ := take_end (a := 0) (b := (b + (j.fmod 2147483647 * j.fmod 2147483647 + 48271 * j.fmod 2147483647 + 613 * (c + 1)).fmod 2147483629).fmod 2147483629) (c := c + 1) (r := r) ⟨b2.1, by omega⟩ ⟨by omega, by omega⟩ hr hm (.fr (.int j)) (.fr (.int ((j.fmod 2147483647 * j.fmod 2147483647 + 48271 * j.fmod 2147483647 + 613 * (c + 1)).fmod 2147483629)))
      refine ⟨q, es, ?_, q1, q2, q3⟩
      unfold cTake
      have e1 : ¬ ((1000000000000000000 : Int) ≤ j) := by simpa using hj0
      have w1 : (c < (r.length : Int) + 1 + 1 + 1) := by omega
      simp [hj, pw, e1, w1, hcl, md1, md2, u1, u2, u3] at e ⊢ <;> simp [e]
  · obtain ⟨q, es, s4, e, q1, q2, q3⟩ := take_end (a := a) (b := b) (c := c) (r := r) ⟨hb0, hb1⟩ ⟨by omega, by omega⟩ hr hm .no .no
    refine ⟨q, es, ?_, q1, q2, q3⟩
    unfold cTake
    by_cases ha : a = 0
    · have w1 : ¬ (c < (r.length : Int) + 1 + 1 + 1) := fun w => h0 ⟨ha, by omega⟩
      have w2 : ¬ (c < (r.length : Int) + 3) := fun w => h0 ⟨ha, by omega⟩
      simp [ha, w1, w2] at e ⊢ <;> simp [e]
    · simp [ha] at e ⊢ <;> simp [e]
end Pu

namespace Pu
open PySem PySem.Spec PyProof.Rows L2

/-! ### data of bounded width and depth -/
def atomD : D → Prop
  | .none => True
  | .bool _ => True
  | .int _ => True
  | .str s => okStr s = true
  | _ => False
def fit (w : Nat) : Nat → D → Prop
  | 0, d => atomD d
  | k + 1, d => atomD d ∨ ∃ xs, (d = .list xs ∨ d = .tuple xs) ∧ xs.length ≤ w ∧ ∀ x ∈ xs, fit w k x
theorem fit_atom {w k : Nat} {d : D} (h : atomD d) : fit w k d := by
  cases k
  · exact h
  · exact .inl h
@[simp] theorem fit_int {w k : Nat} {i : Int} : fit w k (.int i) := fit_atom trivial
@[simp] theorem fit_bool {w k : Nat} {i : Bool} : fit w k (.bool i) := fit_atom trivial
@[simp] theorem fit_none {w k : Nat} : fit w k .none := fit_atom trivial
@[simp] theorem fit_str {w k : Nat} {s : Str} : fit w k (.str s) ↔ okStr s = true := by
  cases k
  · exact .rfl
  · constructor
    · rintro (h | ⟨xs, h | h, _⟩)
      · exact h
      · cases h
      · cases h
    · exact .inl
theorem fit_tup {w k : Nat} {xs : List D} : fit w (k + 1) (.tuple xs) ↔ xs.length ≤ w ∧ ∀ x ∈ xs, fit w k x := by
  constructor
  · rintro (h | ⟨ys, h | h, h1, h2⟩)
    · exact h.elim
    · cases h
    · cases h; exact ⟨h1, h2⟩
  · exact fun h => .inr ⟨xs, .inr rfl, h⟩
theorem fit_list {w k : Nat} {xs : List D} : fit w (k + 1) (.list xs) ↔ xs.length ≤ w ∧ ∀ x ∈ xs, fit w k x := by
  constructor
  · rintro (h | ⟨ys, h | h, h1, h2⟩)
    · exact h.elim
    · cases h; exact ⟨h1, h2⟩
    · cases h
  · exact fun h => .inr ⟨xs, .inl rfl, h⟩
@[simp] theorem fit_tup0 {w : Nat} {xs : List D} : ¬ fit w 0 (.tuple xs) := id
@[simp] theorem fit_list0 {w : Nat} {xs : List D} : ¬ fit w 0 (.list xs) := id
@[simp] theorem fit_dict {w k : Nat} {xs : List (D × D)} : ¬ fit w k (.dict xs) := by
  cases k
  · exact id
  · rintro (h | ⟨ys, h | h, h1, h2⟩)
    · exact h.elim
    · cases h
    · cases h
theorem fit_mono {w v : Nat} (hw : w ≤ v) : ∀ {k j : Nat} {d : D}, k ≤ j → fit w k d → fit v j d
  | 0, j, d, _, h => fit_atom h
  | k + 1, 0, d, hk, h => by omega
  | k + 1, j + 1, d, hk, h => by
    rcases h with h | ⟨xs, h, h1, h2⟩
    · exact .inl h
    · exact .inr ⟨xs, h, Nat.le_trans h1 hw, fun x hx => fit_mono hw (by omega) (h2 x hx)⟩
theorem lay_all : ∀ {xs : List D}, (∀ x ∈ xs, x.canLay0 = true) → PyData.canLayAll0 xs = true
  | [], _ => by simp [PyData.canLayAll0]
  | x :: xs, h => by
    have h2 := lay_all fun y hy => h y (List.mem_cons_of_mem x hy)
    simp [PyData.canLayAll0, h x (by simp), h2]
theorem deep_all {n : Nat} : ∀ {xs : List D}, (∀ x ∈ xs, x.depth ≤ n) → PyData.depthAll xs ≤ n
  | [], _ => by simp [PyData.depthAll]
  | x :: xs, h => by
    have h1 := h x (by simp)
    have h2 := deep_all fun y hy => h y (List.mem_cons_of_mem x hy)
    simp only [PyData.depthAll]
    omega
theorem fit_shape {w : Nat} : ∀ {k : Nat} {d : D}, fit w k d → d.canLay0 = true ∧ d.depth ≤ k
  | 0, d, h => by cases d <;> first | exact h.elim | (simp [PyData.canLay0, PyData.depth]; try exact h)
  | k + 1, d, h => by
    rcases h with h | ⟨xs, rfl | rfl, h1, h2⟩
    · cases d <;> first | exact h.elim | (simp [PyData.canLay0, PyData.depth]; try exact h)
    · refine ⟨by simp only [PyData.canLay0]; exact lay_all fun x hx => (fit_shape (h2 x hx)).1, ?_⟩
      have := deep_all fun x hx => (fit_shape (h2 x hx)).2
      simp only [PyData.depth]; omega
    · refine ⟨by simp only [PyData.canLay0]; exact lay_all fun x hx => (fit_shape (h2 x hx)).1, ?_⟩
      have := deep_all fun x hx => (fit_shape (h2 x hx)).2
      simp only [PyData.depth]; omega
theorem fit_shaped {w k : Nat} {d : D} (h : fit w k d) (hk : k ≤ 64) : SeqAt.shaped d = true := by
  have := fit_shape h
  simp only [SeqAt.shaped, Bool.and_eq_true, decide_eq_true_eq]
  exact ⟨this.1, by omega⟩

/-! ### tables, cuts -/
@[simp] theorem look_nil {z : Str} : lookD [] z = none := rfl
@[simp] theorem look_cons {a z : Str} {d : D} {t : List (Str × D)} : lookD ((a, d) :: t) z = if z = a then some d else lookD t z := by
  unfold lookD
  rw [List.find?_cons]
  by_cases h : z = a
  · simp [h]
  · have : ¬ a = z := fun e => h e.symm
    simp [h, this]
@[simp] theorem cut1 {x : D} {ds : List D} : cutD (x :: ds) (some 1) none = ds := by
  unfold cutD
  have e : HT.sIx (x :: ds).length 0 (some 1) = 1 := by
    rw [show (some (1 : Int)) = some ((1 : Nat) : Int) from rfl, HT.sIx_nat]; simp
  rw [e, HT.sIx_none]
  simp
@[simp] theorem cut2 {x y : D} {ds : List D} : cutD (x :: y :: ds) (some 2) none = ds := by
  unfold cutD
  have e : HT.sIx (x :: y :: ds).length 0 (some 2) = 2 := by
    rw [show (some (2 : Int)) = some ((2 : Nat) : Int) from rfl, HT.sIx_nat]; simp
  rw [e, HT.sIx_none]
  simp
theorem cut_le {ds : List D} {lo hi : Option Int} : (cutD ds lo hi).length ≤ ds.length := by
  unfold cutD; simp; omega
theorem cut_mem {ds : List D} {lo hi : Option Int} {x : D} (h : x ∈ cutD ds lo hi) : x ∈ ds := List.mem_of_mem_drop (List.mem_of_mem_take h)

/-! ### lengths -/
@[simp] theorem ln_1_0 (k : Nat) : (((k : Int) + 1) = 0) = False := by simp only [eq_iff_iff, iff_false]; omega
@[simp] theorem ln_2_0 (k : Nat) : (((k : Int) + 1 + 1) = 0) = False := by simp only [eq_iff_iff, iff_false]; omega
@[simp] theorem ln_2_1 (k : Nat) : (((k : Int) + 1 + 1) = 1) = False := by simp only [eq_iff_iff, iff_false]; omega
@[simp] theorem ln_3_0 (k : Nat) : (((k : Int) + 1 + 1 + 1) = 0) = False := by simp only [eq_iff_iff, iff_false]; omega
@[simp] theorem ln_3_1 (k : Nat) : (((k : Int) + 1 + 1 + 1) = 1) = False := by simp only [eq_iff_iff, iff_false]; omega
@[simp] theorem ln_3_2 (k : Nat) : (((k : Int) + 1 + 1 + 1) = 2) = False := by simp only [eq_iff_iff, iff_false]; omega
@[simp] theorem ln_4_0 (k : Nat) : (((k : Int) + 1 + 1 + 1 + 1) = 0) = False := by simp only [eq_iff_iff, iff_false]; omega
@[simp] theorem ln_4_1 (k : Nat) : (((k : Int) + 1 + 1 + 1 + 1) = 1) = False := by simp only [eq_iff_iff, iff_false]; omega
@[simp] theorem ln_4_2 (k : Nat) : (((k : Int) + 1 + 1 + 1 + 1) = 2) = False := by simp only [eq_iff_iff, iff_false]; omega
@[simp] theorem ln_4_3 (k : Nat) : (((k : Int) + 1 + 1 + 1 + 1) = 3) = False := by simp only [eq_iff_iff, iff_false]; omega
@[simp] theorem ln_5_0 (k : Nat) : (((k : Int) + 1 + 1 + 1 + 1 + 1) = 0) = False := by simp only [eq_iff_iff, iff_false]; omega
@[simp] theorem ln_5_1 (k : Nat) : (((k : Int) + 1 + 1 + 1 + 1 + 1) = 1) = False := by simp only [eq_iff_iff, iff_false]; omega
@[simp] theorem ln_5_2 (k : Nat) : (((k : Int) + 1 + 1 + 1 + 1 + 1) = 2) = False := by simp only [eq_iff_iff, iff_false]; omega
@[simp] theorem ln_5_3 (k : Nat) : (((k : Int) + 1 + 1 + 1 + 1 + 1) = 3) = False := by simp only [eq_iff_iff, iff_false]; omega
@[simp] theorem ln_5_4 (k : Nat) : (((k : Int) + 1 + 1 + 1 + 1 + 1) = 4) = False := by simp only [eq_iff_iff, iff_false]; omega
@[simp] theorem ln_6_0 (k : Nat) : (((k : Int) + 1 + 1 + 1 + 1 + 1 + 1) = 0) = False := by simp only [eq_iff_iff, iff_false]; omega
@[simp] theorem ln_6_1 (k : Nat) : (((k : Int) + 1 + 1 + 1 + 1 + 1 + 1) = 1) = False := by simp only [eq_iff_iff, iff_false]; omega
@[simp] theorem ln_6_2 (k : Nat) : (((k : Int) + 1 + 1 + 1 + 1 + 1 + 1) = 2) = False := by simp only [eq_iff_iff, iff_false]; omega
@[simp] theorem ln_6_3 (k : Nat) : (((k : Int) + 1 + 1 + 1 + 1 + 1 + 1) = 3) = False := by simp only [eq_iff_iff, iff_false]; omega
@[simp] theorem ln_6_4 (k : Nat) : (((k : Int) + 1 + 1 + 1 + 1 + 1 + 1) = 4) = False := by simp only [eq_iff_iff, iff_false]; omega
@[simp] theorem ln_6_5 (k : Nat) : (((k : Int) + 1 + 1 + 1 + 1 + 1 + 1) = 5) = False := by simp only [eq_iff_iff, iff_false]; omega
@[simp] theorem sz_0 : (0 ≤ sizeLine) = True := by simp only [eq_iff_iff, iff_true]; decide
@[simp] theorem sz_1 : (1 ≤ sizeLine) = True := by simp only [eq_iff_iff, iff_true]; decide
@[simp] theorem sz_2 : (2 ≤ sizeLine) = True := by simp only [eq_iff_iff, iff_true]; decide
@[simp] theorem sz_3 : (3 ≤ sizeLine) = True := by simp only [eq_iff_iff, iff_true]; decide
@[simp] theorem sz_4 : (4 ≤ sizeLine) = True := by simp only [eq_iff_iff, iff_true]; decide
@[simp] theorem sz_5 : (5 ≤ sizeLine) = True := by simp only [eq_iff_iff, iff_true]; decide
@[simp] theorem sz_6 : (6 ≤ sizeLine) = True := by simp only [eq_iff_iff, iff_true]; decide
@[simp] theorem sz_7 : (7 ≤ sizeLine) = True := by simp only [eq_iff_iff, iff_true]; decide
@[simp] theorem sz_8 : (8 ≤ sizeLine) = True := by simp only [eq_iff_iff, iff_true]; decide
@[simp] theorem sz_9 : (9 ≤ sizeLine) = True := by simp only [eq_iff_iff, iff_true]; decide
@[simp] theorem sz_10 : (10 ≤ sizeLine) = True := by simp only [eq_iff_iff, iff_true]; decide
@[simp] theorem sz_11 : (11 ≤ sizeLine) = True := by simp only [eq_iff_iff, iff_true]; decide
@[simp] theorem sz_12 : (12 ≤ sizeLine) = True := by simp only [eq_iff_iff, iff_true]; decide
@[simp] theorem sz_13 : (13 ≤ sizeLine) = True := by simp only [eq_iff_iff, iff_true]; decide
@[simp] theorem sz_14 : (14 ≤ sizeLine) = True := by simp only [eq_iff_iff, iff_true]; decide
@[simp] theorem sz_15 : (15 ≤ sizeLine) = True := by simp only [eq_iff_iff, iff_true]; decide
@[simp] theorem sz_16 : (16 ≤ sizeLine) = True := by simp only [eq_iff_iff, iff_true]; decide
@[simp] theorem sz_17 : (17 ≤ sizeLine) = True := by simp only [eq_iff_iff, iff_true]; decide
@[simp] theorem sz_18 : (18 ≤ sizeLine) = True := by simp only [eq_iff_iff, iff_true]; decide
@[simp] theorem sz_19 : (19 ≤ sizeLine) = True := by simp only [eq_iff_iff, iff_true]; decide
@[simp] theorem sl_0 : (0 < sizeLine) = True := by simp only [eq_iff_iff, iff_true]; decide
@[simp] theorem sl_1 : (1 < sizeLine) = True := by simp only [eq_iff_iff, iff_true]; decide
@[simp] theorem sl_2 : (2 < sizeLine) = True := by simp only [eq_iff_iff, iff_true]; decide
@[simp] theorem sl_3 : (3 < sizeLine) = True := by simp only [eq_iff_iff, iff_true]; decide
@[simp] theorem sl_4 : (4 < sizeLine) = True := by simp only [eq_iff_iff, iff_true]; decide
@[simp] theorem sl_5 : (5 < sizeLine) = True := by simp only [eq_iff_iff, iff_true]; decide
@[simp] theorem sl_6 : (6 < sizeLine) = True := by simp only [eq_iff_iff, iff_true]; decide
@[simp] theorem sl_7 : (7 < sizeLine) = True := by simp only [eq_iff_iff, iff_true]; decide
@[simp] theorem sl_8 : (8 < sizeLine) = True := by simp only [eq_iff_iff, iff_true]; decide
@[simp] theorem sl_9 : (9 < sizeLine) = True := by simp only [eq_iff_iff, iff_true]; decide
@[simp] theorem sl_10 : (10 < sizeLine) = True := by simp only [eq_iff_iff, iff_true]; decide
@[simp] theorem sl_11 : (11 < sizeLine) = True := by simp only [eq_iff_iff, iff_true]; decide
@[simp] theorem sl_12 : (12 < sizeLine) = True := by simp only [eq_iff_iff, iff_true]; decide
@[simp] theorem sl_13 : (13 < sizeLine) = True := by simp only [eq_iff_iff, iff_true]; decide
@[simp] theorem sl_14 : (14 < sizeLine) = True := by simp only [eq_iff_iff, iff_true]; decide
@[simp] theorem sl_15 : (15 < sizeLine) = True := by simp only [eq_iff_iff, iff_true]; decide
@[simp] theorem sl_16 : (16 < sizeLine) = True := by simp only [eq_iff_iff, iff_true]; decide
@[simp] theorem sl_17 : (17 < sizeLine) = True := by simp only [eq_iff_iff, iff_true]; decide
@[simp] theorem sl_18 : (18 < sizeLine) = True := by simp only [eq_iff_iff, iff_true]; decide
@[simp] theorem sl_19 : (19 < sizeLine) = True := by simp only [eq_iff_iff, iff_true]; decide
@[simp] theorem at4 {α : Type} (a0 a1 a2 a3 a4 : α) (xs : List α) : atI (a0 :: a1 :: a2 :: a3 :: a4 :: xs) 4 = some a4 := by
  rw [atI_pos (by omega) (by simp only [List.length_cons]; omega)]; rfl
@[simp] theorem at5 {α : Type} (a0 a1 a2 a3 a4 a5 : α) (xs : List α) : atI (a0 :: a1 :: a2 :: a3 :: a4 :: a5 :: xs) 5 = some a5 := by
  rw [atI_pos (by omega) (by simp only [List.length_cons]; omega)]; rfl
@[simp] theorem at6 {α : Type} (a0 a1 a2 a3 a4 a5 a6 : α) (xs : List α) : atI (a0 :: a1 :: a2 :: a3 :: a4 :: a5 :: a6 :: xs) 6 = some a6 := by
  rw [atI_pos (by omega) (by simp only [List.length_cons]; omega)]; rfl
@[simp] theorem at7 {α : Type} (a0 a1 a2 a3 a4 a5 a6 a7 : α) (xs : List α) : atI (a0 :: a1 :: a2 :: a3 :: a4 :: a5 :: a6 :: a7 :: xs) 7 = some a7 := by
  rw [atI_pos (by omega) (by simp only [List.length_cons]; omega)]; rfl
@[simp] theorem at8 {α : Type} (a0 a1 a2 a3 a4 a5 a6 a7 a8 : α) (xs : List α) : atI (a0 :: a1 :: a2 :: a3 :: a4 :: a5 :: a6 :: a7 :: a8 :: xs) 8 = some a8 := by
  rw [atI_pos (by omega) (by simp only [List.length_cons]; omega)]; rfl
@[simp] theorem at9 {α : Type} (a0 a1 a2 a3 a4 a5 a6 a7 a8 a9 : α) (xs : List α) : atI (a0 :: a1 :: a2 :: a3 :: a4 :: a5 :: a6 :: a7 :: a8 :: a9 :: xs) 9 = some a9 := by
  rw [atI_pos (by omega) (by simp only [List.length_cons]; omega)]; rfl
@[simp] theorem at10 {α : Type} (a0 a1 a2 a3 a4 a5 a6 a7 a8 a9 a10 : α) (xs : List α) : atI (a0 :: a1 :: a2 :: a3 :: a4 :: a5 :: a6 :: a7 :: a8 :: a9 :: a10 :: xs) 10 = some a10 := by
  rw [atI_pos (by omega) (by simp only [List.length_cons]; omega)]; rfl
@[simp] theorem at11 {α : Type} (a0 a1 a2 a3 a4 a5 a6 a7 a8 a9 a10 a11 : α) (xs : List α) : atI (a0 :: a1 :: a2 :: a3 :: a4 :: a5 :: a6 :: a7 :: a8 :: a9 :: a10 :: a11 :: xs) 11 = some a11 := by
  rw [atI_pos (by omega) (by simp only [List.length_cons]; omega)]; rfl
@[simp] theorem at12 {α : Type} (a0 a1 a2 a3 a4 a5 a6 a7 a8 a9 a10 a11 a12 : α) (xs : List α) : atI (a0 :: a1 :: a2 :: a3 :: a4 :: a5 :: a6 :: a7 :: a8 :: a9 :: a10 :: a11 :: a12 :: xs) 12 = some a12 := by
  rw [atI_pos (by omega) (by simp only [List.length_cons]; omega)]; rfl
@[simp] theorem at13 {α : Type} (a0 a1 a2 a3 a4 a5 a6 a7 a8 a9 a10 a11 a12 a13 : α) (xs : List α) : atI (a0 :: a1 :: a2 :: a3 :: a4 :: a5 :: a6 :: a7 :: a8 :: a9 :: a10 :: a11 :: a12 :: a13 :: xs) 13 = some a13 := by
  rw [atI_pos (by omega) (by simp only [List.length_cons]; omega)]; rfl
@[simp] theorem at14 {α : Type} (a0 a1 a2 a3 a4 a5 a6 a7 a8 a9 a10 a11 a12 a13 a14 : α) (xs : List α) : atI (a0 :: a1 :: a2 :: a3 :: a4 :: a5 :: a6 :: a7 :: a8 :: a9 :: a10 :: a11 :: a12 :: a13 :: a14 :: xs) 14 = some a14 := by
  rw [atI_pos (by omega) (by simp only [List.length_cons]; omega)]; rfl
@[simp] theorem at15 {α : Type} (a0 a1 a2 a3 a4 a5 a6 a7 a8 a9 a10 a11 a12 a13 a14 a15 : α) (xs : List α) : atI (a0 :: a1 :: a2 :: a3 :: a4 :: a5 :: a6 :: a7 :: a8 :: a9 :: a10 :: a11 :: a12 :: a13 :: a14 :: a15 :: xs) 15 = some a15 := by
  rw [atI_pos (by omega) (by simp only [List.length_cons]; omega)]; rfl
/-! ### runs that draw -/
@[simp] theorem ite_bind {α β : Type} {c : Prop} [Decidable c] {x y : Option α} {f : α → Option β} : (if c then x else y).bind f = if c then x.bind f else y.bind f := by split <;> rfl

theorem lcL_ex {g : CG} {elt : CE} {vs : List Nat} {I : En → Prop} {Q : D → Prop} : ∀ (ds acc : List D) (Γ : En), I Γ → (∀ d ∈ ds, ∀ Γ, I Γ → ∃ Γ1, g d Γ = some Γ1 ∧ ∃ z Γ2, elt Γ1 = some (z, Γ2) ∧ Q z ∧ I (wipeG Γ2 vs)) → acc.length + ds.length ≤ sizeLine →
    ∃ zs Γ', lcL g cYes elt vs ds acc Γ = some (acc ++ zs, Γ') ∧ I Γ' ∧ zs.length = ds.length ∧ ∀ z ∈ zs, Q z
  | [], acc, Γ, hI, _, _ => ⟨[], Γ, by simp [lcL], hI, rfl, by simp⟩
  | d :: ds, acc, Γ, hI, h, hz => by
    obtain ⟨Γ1, h1, z, Γ2, h2, h3, h4⟩ := h d (by simp) Γ hI
    simp only [List.length_cons] at hz
    obtain ⟨zs, Γ', k1, k2, k3, k4⟩ := lcL_ex ds (acc ++ [z]) _ h4 (fun x hx => h x (by simp [hx])) (by simp; omega)
    refine ⟨z :: zs, Γ', ?_, k2, by simp [k3], by simpa using ⟨h3, k4⟩⟩
    unfold lcL
    simp only [h1, Option.bind_some, cYes, if_true, h2]
    rw [if_pos (by omega), k1]
    simp
theorem forL_inv {g : CG} {body : CS} {I : En → Prop} : ∀ (ds : List D) (Γ : En), I Γ → (∀ d ∈ ds, ∀ Γ, I Γ → ∃ Γ1, g d Γ = some Γ1 ∧ ∃ Γ2, body Γ1 = some (.nx, Γ2) ∧ I Γ2) → ∃ Γ', forL g body ds Γ = some (.nx, Γ') ∧ I Γ'
  | [], Γ, hI, _ => ⟨Γ, by simp [forL], hI⟩
  | d :: ds, Γ, hI, h => by
    obtain ⟨Γ1, h1, Γ2, h2, h3⟩ := h d (by simp) Γ hI
    obtain ⟨Γ', k1, k2⟩ := forL_inv ds Γ2 h3 fun x hx => h x (by simp [hx])
    refine ⟨Γ', ?_, k2⟩
    unfold forL
    simp [h1, h2, k1]
theorem rng_len (i : Int) (n : Nat) : (rngD i n).length = n := by simp [rngD]
end Pu

namespace W83
open PySem PySem.Spec PyProof.Rows L2 Pu
@[simp] theorem ok_less : okStr "less" = true := by decide +kernel
@[simp] theorem ok_is : okStr "is" = true := by decide +kernel
@[simp] theorem ok_more : okStr "more" = true := by decide +kernel
@[simp] theorem ok_leaves : okStr "leaves" = true := by decide +kernel
@[simp] theorem ok_not : okStr "not" = true := by decide +kernel
@[simp] theorem ok_both : okStr "both" = true := by decide +kernel
@[simp] theorem ok_either : okStr "either" = true := by decide +kernel
@[simp] theorem ok_some : okStr "some" = true := by decide +kernel
@[simp] theorem ok_every : okStr "every" = true := by decide +kernel
@[simp] theorem ok_1 : okStr "1" = true := by decide +kernel
@[simp] theorem ne_less_is : (("less" : Str) = "is") = False := by decide +kernel
@[simp] theorem ne_less_more : (("less" : Str) = "more") = False := by decide +kernel
@[simp] theorem ne_less_leaves : (("less" : Str) = "leaves") = False := by decide +kernel
@[simp] theorem ne_less_not : (("less" : Str) = "not") = False := by decide +kernel
@[simp] theorem ne_less_both : (("less" : Str) = "both") = False := by decide +kernel
@[simp] theorem ne_less_either : (("less" : Str) = "either") = False := by decide +kernel
@[simp] theorem ne_less_some : (("less" : Str) = "some") = False := by decide +kernel
@[simp] theorem ne_less_every : (("less" : Str) = "every") = False := by decide +kernel
@[simp] theorem ne_less_1 : (("less" : Str) = "1") = False := by decide +kernel
@[simp] theorem ne_is_less : (("is" : Str) = "less") = False := by decide +kernel
@[simp] theorem ne_is_more : (("is" : Str) = "more") = False := by decide +kernel
@[simp] theorem ne_is_leaves : (("is" : Str) = "leaves") = False := by decide +kernel
@[simp] theorem ne_is_not : (("is" : Str) = "not") = False := by decide +kernel
@[simp] theorem ne_is_both : (("is" : Str) = "both") = False := by decide +kernel
@[simp] theorem ne_is_either : (("is" : Str) = "either") = False := by decide +kernel
@[simp] theorem ne_is_some : (("is" : Str) = "some") = False := by decide +kernel
@[simp] theorem ne_is_every : (("is" : Str) = "every") = False := by decide +kernel
@[simp] theorem ne_is_1 : (("is" : Str) = "1") = False := by decide +kernel
@[simp] theorem ne_more_less : (("more" : Str) = "less") = False := by decide +kernel
@[simp] theorem ne_more_is : (("more" : Str) = "is") = False := by decide +kernel
@[simp] theorem ne_more_leaves : (("more" : Str) = "leaves") = False := by decide +kernel
@[simp] theorem ne_more_not : (("more" : Str) = "not") = False := by decide +kernel
@[simp] theorem ne_more_both : (("more" : Str) = "both") = False := by decide +kernel
@[simp] theorem ne_more_either : (("more" : Str) = "either") = False := by decide +kernel
@[simp] theorem ne_more_some : (("more" : Str) = "some") = False := by decide +kernel
@[simp] theorem ne_more_every : (("more" : Str) = "every") = False := by decide +kernel
@[simp] theorem ne_more_1 : (("more" : Str) = "1") = False := by decide +kernel
@[simp] theorem ne_leaves_less : (("leaves" : Str) = "less") = False := by decide +kernel
@[simp] theorem ne_leaves_is : (("leaves" : Str) = "is") = False := by decide +kernel
@[simp] theorem ne_leaves_more : (("leaves" : Str) = "more") = False := by decide +kernel
@[simp] theorem ne_leaves_not : (("leaves" : Str) = "not") = False := by decide +kernel
@[simp] theorem ne_leaves_both : (("leaves" : Str) = "both") = False := by decide +kernel
@[simp] theorem ne_leaves_either : (("leaves" : Str) = "either") = False := by decide +kernel
@[simp] theorem ne_leaves_some : (("leaves" : Str) = "some") = False := by decide +kernel
@[simp] theorem ne_leaves_every : (("leaves" : Str) = "every") = False := by decide +kernel
@[simp] theorem ne_leaves_1 : (("leaves" : Str) = "1") = False := by decide +kernel
@[simp] theorem ne_not_less : (("not" : Str) = "less") = False := by decide +kernel
@[simp] theorem ne_not_is : (("not" : Str) = "is") = False := by decide +kernel
@[simp] theorem ne_not_more : (("not" : Str) = "more") = False := by decide +kernel
@[simp] theorem ne_not_leaves : (("not" : Str) = "leaves") = False := by decide +kernel
@[simp] theorem ne_not_both : (("not" : Str) = "both") = False := by decide +kernel
@[simp] theorem ne_not_either : (("not" : Str) = "either") = False := by decide +kernel
@[simp] theorem ne_not_some : (("not" : Str) = "some") = False := by decide +kernel
@[simp] theorem ne_not_every : (("not" : Str) = "every") = False := by decide +kernel
@[simp] theorem ne_not_1 : (("not" : Str) = "1") = False := by decide +kernel
@[simp] theorem ne_both_less : (("both" : Str) = "less") = False := by decide +kernel
@[simp] theorem ne_both_is : (("both" : Str) = "is") = False := by decide +kernel
@[simp] theorem ne_both_more : (("both" : Str) = "more") = False := by decide +kernel
@[simp] theorem ne_both_leaves : (("both" : Str) = "leaves") = False := by decide +kernel
@[simp] theorem ne_both_not : (("both" : Str) = "not") = False := by decide +kernel
@[simp] theorem ne_both_either : (("both" : Str) = "either") = False := by decide +kernel
@[simp] theorem ne_both_some : (("both" : Str) = "some") = False := by decide +kernel
@[simp] theorem ne_both_every : (("both" : Str) = "every") = False := by decide +kernel
@[simp] theorem ne_both_1 : (("both" : Str) = "1") = False := by decide +kernel
@[simp] theorem ne_either_less : (("either" : Str) = "less") = False := by decide +kernel
@[simp] theorem ne_either_is : (("either" : Str) = "is") = False := by decide +kernel
@[simp] theorem ne_either_more : (("either" : Str) = "more") = False := by decide +kernel
@[simp] theorem ne_either_leaves : (("either" : Str) = "leaves") = False := by decide +kernel
@[simp] theorem ne_either_not : (("either" : Str) = "not") = False := by decide +kernel
@[simp] theorem ne_either_both : (("either" : Str) = "both") = False := by decide +kernel
@[simp] theorem ne_either_some : (("either" : Str) = "some") = False := by decide +kernel
@[simp] theorem ne_either_every : (("either" : Str) = "every") = False := by decide +kernel
@[simp] theorem ne_either_1 : (("either" : Str) = "1") = False := by decide +kernel
@[simp] theorem ne_some_less : (("some" : Str) = "less") = False := by decide +kernel
@[simp] theorem ne_some_is : (("some" : Str) = "is") = False := by decide +kernel
@[simp] theorem ne_some_more : (("some" : Str) = "more") = False := by decide +kernel
@[simp] theorem ne_some_leaves : (("some" : Str) = "leaves") = False := by decide +kernel
@[simp] theorem ne_some_not : (("some" : Str) = "not") = False := by decide +kernel
@[simp] theorem ne_some_both : (("some" : Str) = "both") = False := by decide +kernel
@[simp] theorem ne_some_either : (("some" : Str) = "either") = False := by decide +kernel
@[simp] theorem ne_some_every : (("some" : Str) = "every") = False := by decide +kernel
@[simp] theorem ne_some_1 : (("some" : Str) = "1") = False := by decide +kernel
@[simp] theorem ne_every_less : (("every" : Str) = "less") = False := by decide +kernel
@[simp] theorem ne_every_is : (("every" : Str) = "is") = False := by decide +kernel
@[simp] theorem ne_every_more : (("every" : Str) = "more") = False := by decide +kernel
@[simp] theorem ne_every_leaves : (("every" : Str) = "leaves") = False := by decide +kernel
@[simp] theorem ne_every_not : (("every" : Str) = "not") = False := by decide +kernel
@[simp] theorem ne_every_both : (("every" : Str) = "both") = False := by decide +kernel
@[simp] theorem ne_every_either : (("every" : Str) = "either") = False := by decide +kernel
@[simp] theorem ne_every_some : (("every" : Str) = "some") = False := by decide +kernel
@[simp] theorem ne_every_1 : (("every" : Str) = "1") = False := by decide +kernel
@[simp] theorem ne_1_less : (("1" : Str) = "less") = False := by decide +kernel
@[simp] theorem ne_1_is : (("1" : Str) = "is") = False := by decide +kernel
@[simp] theorem ne_1_more : (("1" : Str) = "more") = False := by decide +kernel
@[simp] theorem ne_1_leaves : (("1" : Str) = "leaves") = False := by decide +kernel
@[simp] theorem ne_1_not : (("1" : Str) = "not") = False := by decide +kernel
@[simp] theorem ne_1_both : (("1" : Str) = "both") = False := by decide +kernel
@[simp] theorem ne_1_either : (("1" : Str) = "either") = False := by decide +kernel
@[simp] theorem ne_1_some : (("1" : Str) = "some") = False := by decide +kernel
@[simp] theorem ne_1_every : (("1" : Str) = "every") = False := by decide +kernel
@[simp] theorem r_is_integer (d : D) : c_is_integer [.fr d] = some (.fr (.bool (isZ d)), [.no]) := by
  cases d <;> simp [c_is_integer]
@[simp] theorem r__law_integer (d : D) : c__law_integer [.fr d] = some (.fr (.bool (isZ d)), [.no]) := by
  cases d <;> simp [c__law_integer]
def rowZ : D → Bool
  | .tuple xs => xs.all isZ
  | _ => false
def short : D → Prop
  | .tuple xs => xs.length ≤ 1000
  | _ => True
theorem fit_short {w k : Nat} {d : D} (hw : w ≤ 1000) (h : fit w k d) : short d := by
  cases d <;> try exact trivial
  cases k
  · exact (fit_tup0 h).elim
  · exact Nat.le_trans (fit_tup.mp h).1 hw
theorem r_are_integers (d : D) (h : short d) : c_are_integers [.fr d] = some (.fr (.bool (rowZ d)), [.no]) := by
  cases d with
  | tuple xs =>
    have hz : xs.length ≤ 1000 := h
    have e := lcL_map (g := gN 1) (elt := frz (cCall c_is_integer [] (cCons (cVar 1) cNil))) (vs := [1]) (Γ := [.fr (.tuple xs), .no]) (f := fun d => .bool (isZ d)) xs [] (fun d _ => by simp) (Nat.le_trans (by simpa using hz) (by decide))
    simp [c_are_integers, e, fAll_map, rowZ]
  | _ => simp [c_are_integers, rowZ]
def sideN (n : Int) : D → Bool
  | .tuple xs => decide ((xs.length : Int) = n) && xs.all isZ
  | _ => false
theorem r_are_sides (n : Int) (d : D) (h : short d) : c_are_sides [.fr (.int n), .fr d] = some (.fr (.bool (sideN n d)), [.no, .no]) := by
  have e := r_are_integers d h
  cases d with
  | tuple xs =>
    by_cases hx : xs.all isZ = true
    · simp [c_are_sides, e, rowZ, sideN, hx]
    · simp [c_are_sides, e, rowZ, sideN, hx]
  | _ => simp [c_are_sides, e, rowZ, sideN]
theorem r__law_row (n : Int) (d : D) (h : short d) : c__law_row_of_integers [.fr d, .fr (.int n)] = some (.fr (.bool (sideN n d)), [.no, .no]) := by
  cases d with
  | tuple xs =>
    have hz : xs.length ≤ 1000 := h
    have e := lcL_map (g := gN 2) (elt := frz (cCall c__law_integer [] (cCons (cVar 2) cNil))) (vs := [2]) (Γ := [.fr (.tuple xs), .fr (.int n), .no]) (f := fun d => .bool (isZ d)) xs [] (fun d _ => by simp) (Nat.le_trans (by simpa using hz) (by decide))
    by_cases hx : (xs.length : Int) = n
    · simp [c__law_row_of_integers, e, fAll_map, sideN, hx]
    · simp [c__law_row_of_integers, e, fAll_map, sideN, hx]
  | _ => simp [c__law_row_of_integers, sideN]
def lvs : D → D → Bool
  | .int m, .int q => decide (0 ≤ q) && decide (q < m)
  | _, _ => false
def said (whole : Bool) (n : Int) : Nat → D → Bool
  | 0, _ => false
  | k + 1, .tuple (.str s :: r) =>
    if s = "less" ∨ s = "is" ∨ s = "more" then (match r with | [a, b] => sideN n a && isZ b | _ => false)
    else if s = "leaves" then (match r with | [a, b, c] => whole && (sideN n a && lvs b c) | _ => false)
    else if s = "not" then (match r with | [x] => said whole n k x | _ => false)
    else if s = "both" ∨ s = "either" then (match r with | [x, y] => said whole n k x && said whole n k y | _ => false)
    else false
  | _, _ => false
theorem words (s : Str) : s = "less" ∨ s = "is" ∨ s = "more" ∨ s = "leaves" ∨ s = "not" ∨ s = "both" ∨ s = "either" ∨ (s ≠ "less" ∧ s ≠ "is" ∧ s ≠ "more" ∧ s ≠ "leaves" ∧ s ≠ "not" ∧ s ≠ "both" ∧ s ≠ "either") := by
  by_cases h1 : s = "less" <;> by_cases h2 : s = "is" <;> by_cases h3 : s = "more" <;> by_cases h4 : s = "leaves" <;> by_cases h5 : s = "not" <;> by_cases h6 : s = "both" <;> by_cases h7 : s = "either" <;> simp [h1, h2, h3, h4, h5, h6, h7]
end W83

namespace W83
open PySem PySem.Spec PyProof.Rows L2 Pu
theorem fAll_l (ds : List D) : fAll [.list ds] = (bools ds).bind fun bs => some (PyData.bool (bs.all id)) := rfl
@[simp] theorem bools_nil : bools [] = some [] := rfl
@[simp] theorem bools_cons (d : D) (ds : List D) : bools (d :: ds) = (toB d).bind fun b => (bools ds).bind fun r => some (b :: r) := rfl
theorem lc_rest {cf : CF} {n : Nat} {f : D → Bool} {elt : CE} {Γ : En} (r : List D) (h : ∀ d ∈ r, ∃ Γ1, gN n d Γ = some Γ1 ∧ ∃ Γ2, elt Γ1 = some (.bool (f d), Γ2) ∧ wipeG Γ2 [n] = Γ) (hr : r.length ≤ 1000) :
    lcL (gN n) cYes elt [n] r [] Γ = some (r.map fun d => .bool (f d), Γ) := by
  have := lcL_map (g := gN n) (elt := elt) (vs := [n]) (Γ := Γ) (f := fun d => .bool (f d)) r [] h (Nat.le_trans (by simpa using hr) (by decide))
  simpa using this
set_option maxHeartbeats 0 in
theorem said_a (n : Int) : ∀ (m k : Nat) (d : D), fit 200 k d → k < m → k ≤ 64 → ci_is_said m [.fr (.int n), .fr d] = some (.fr (.bool (said false n m d)), [.no, .no])
  | 0, k, d, _, h, _ => by omega
  | m + 1, k, d, hd, hk, h64 => by
    have ih := said_a n m
    cases d with
    | tuple xs =>
      obtain _ | k := k
      · exact (fit_tup0 hd).elim
      obtain ⟨hl, hx⟩ := fit_tup.mp hd
      cases xs with
      | nil => simp [ci_is_said, cr_is_said, said]
      | cons x r =>
        have hr : ∀ z ∈ r, ci_is_said m [.fr (.int n), .fr z] = some (.fr (.bool (said false n m z)), [.no, .no]) := fun z hz => ih k z (hx z (by simp [hz])) (by omega) (by omega)
        have hsz : r.length ≤ 1000 := by simp at hl; omega
        cases x with
        | str s =>
          have e := lc_rest (cf := ci_is_said m) (n := 2) (f := said false n m) (elt := frz (cCall (ci_is_said m) [] (cCons (cVar 0) (cCons (cVar 2) cNil)))) (Γ := [.fr (.int n), .fr (.tuple (.str s :: r)), .no]) r (fun d hd => by simp [hr d hd]) hsz
          have hs : ∀ z ∈ r, short z := fun z hz => fit_short (by omega) (hx z (by simp [hz]))
          have hh := True.intro
          rcases words s with rfl | rfl | rfl | rfl | rfl | rfl | rfl | hh
          all_goals rcases r with _ | ⟨a, _ | ⟨b, _ | ⟨c, _ | ⟨d, t⟩⟩⟩⟩
          all_goals simp [wipeG, Od.run] at e hs hr
          all_goals simp [ci_is_said, cr_is_said, said, r_are_sides, hs, e, hh, fAll_l]
          all_goals try (split <;> simp_all)
        | _ => 
          simp [ci_is_said, cr_is_said, said]
          try omega
    | _ => simp [ci_is_said, cr_is_said, said]
end W83

namespace W83
open PySem PySem.Spec PyProof.Rows L2 Pu
def lenT : D → Int
  | .tuple xs => xs.length
  | _ => 0
def toI : D → Int
  | .int i => i
  | _ => 0
theorem fLen_row {a : D} (h : rowZ a = true) : fLen [a] = some (.int (lenT a)) := by
  cases a <;> first | rfl | cases h
theorem sideN_eq {n : Int} {a : D} : sideN n a = (rowZ a && decide (lenT a = n)) := by
  cases a <;> simp only [sideN, rowZ, lenT, Bool.false_and]
  rw [Bool.and_comm]; congr
theorem dLe_Z {c : D} {i : Int} (h : isZ c = true) : dLe (.int i) c = some (.bool (decide (i ≤ toI c))) := by
  cases c <;> first | rfl | cases h
theorem dLt_Z {b c : D} (h : isZ b = true) (k : isZ c = true) : dLt c b = some (.bool (decide (toI c < toI b))) := by
  cases b <;> (try (simp at h; done)) <;> cases c <;> (try (simp at k; done)) <;> rfl
theorem lvs_eq {b c : D} : lvs b c = (isZ b && (isZ c && (decide (0 ≤ toI c) && decide (toI c < toI b)))) := by
  cases b <;> cases c <;> simp only [lvs, toI, isZ, Bool.false_and, Bool.true_and, Bool.and_false]
  congr
theorem r_pair (b c : D) : c_are_integers [.fr (.tuple [b, c])] = some (.fr (.bool (isZ b && isZ c)), [.no]) := by
  rw [r_are_integers (.tuple [b, c]) (show (2 : Nat) ≤ 1000 by omega)]; simp [rowZ]
set_option maxHeartbeats 0 in
theorem said_b (n : Int) : ∀ (m k : Nat) (d : D), fit 200 k d → k < m → k ≤ 64 → ci_is_said_20 m [.fr (.int n), .fr d] = some (.fr (.bool (said true n m d)), [.no, .no])
  | 0, k, d, _, h, _ => by omega
  | m + 1, k, d, hd, hk, h64 => by
    have ih := said_b n m
    cases d with
    | tuple xs =>
      obtain _ | k := k
      · exact (fit_tup0 hd).elim
      obtain ⟨hl, hx⟩ := fit_tup.mp hd
      cases xs with
      | nil => simp [ci_is_said_20, cr_is_said_20, said]
      | cons x r =>
        have hr : ∀ z ∈ r, ci_is_said_20 m [.fr (.int n), .fr z] = some (.fr (.bool (said true n m z)), [.no, .no]) := fun z hz => ih k z (hx z (by simp [hz])) (by omega) (by omega)
        have hsz : r.length ≤ 1000 := by simp at hl; omega
        have hv := okStr
        cases x with
        | str s =>
          have hs : ∀ z ∈ r, short z := fun z hz => fit_short (by omega) (hx z (by simp [hz]))
          have hok : okStr s = true := fit_str.mp (hx (.str s) (by simp))
          have hh := True.intro
          rcases words s with rfl | rfl | rfl | rfl | rfl | rfl | rfl | hh
          all_goals rcases r with _ | ⟨a, _ | ⟨b, _ | ⟨c, _ | ⟨d, t⟩⟩⟩⟩
          all_goals simp [wipeG, Od.run] at hs hr
          all_goals simp [ci_is_said_20, cr_is_said_20, said, r_are_integers, hs, hr, hh, hok, dEq_str, sideN_eq, lvs_eq]
          all_goals try (by_cases hz : rowZ a = true <;> simp [hz, fLen_row])
          all_goals try (by_cases hn : lenT a = n <;> simp [hn])
          all_goals try (by_cases hb : isZ b = true <;> by_cases hc : isZ c = true <;> simp [hb, hc, dLe_Z, dLt_Z, r_pair])
          all_goals try (split <;> simp_all)
          all_goals try (intros; omega)
        | _ => 
          simp [ci_is_said_20, cr_is_said_20, said]
          try omega
    | _ => simp [ci_is_said_20, cr_is_said_20, said]
end W83

namespace W83
open PySem PySem.Spec PyProof.Rows L2 Pu
set_option maxHeartbeats 0 in
theorem said_c (n : Int) (w : Bool) : ∀ (m k : Nat) (d : D), fit 200 k d → k < m → k ≤ 64 → ci__law_is_said m [.fr (.int n), .fr d, .fr (.bool w)] = some (.fr (.bool (said w n m d)), [.no, .no, .no])
  | 0, k, d, _, h, _ => by omega
  | m + 1, k, d, hd, hk, h64 => by
    have ih := said_c n w m
    have hnil : dEq false d (.tuple []) = some (.bool (isNil d)) := dEq_nil d (fit_shaped hd h64)
    cases d with
    | tuple xs =>
      obtain _ | k := k
      · exact (fit_tup0 hd).elim
      obtain ⟨hl, hx⟩ := fit_tup.mp hd
      cases xs with
      | nil => simp [ci__law_is_said, cr__law_is_said, said, hnil, isNil]
      | cons x r =>
        simp only [isNil] at hnil
        have hr : ∀ z ∈ r, ci__law_is_said m [.fr (.int n), .fr z, .fr (.bool w)] = some (.fr (.bool (said w n m z)), [.no, .no, .no]) := fun z hz => ih k z (hx z (by simp [hz])) (by omega) (by omega)
        have hsz : r.length ≤ 1000 := by simp at hl; omega
        have hv := okStr
        cases x with
        | str s =>
          have hs : ∀ z ∈ r, short z := fun z hz => fit_short (by omega) (hx z (by simp [hz]))
          have hok : okStr s = true := fit_str.mp (hx (.str s) (by simp))
          have e : ∀ own : D, lcL (gN 4) cYes (frz (cCall (ci__law_is_said m) [] (cCons (cVar 0) (cCons (cVar 4) (cCons (cVar 2) cNil))))) [4] r [] [.fr (.int n), .fr (.tuple (.str s :: r)), .fr (.bool w), .fr own, .no] = some (r.map fun d => .bool (said w n m d), [.fr (.int n), .fr (.tuple (.str s :: r)), .fr (.bool w), .fr own, .no]) :=
            fun own => lc_rest (cf := ci__law_is_said m) (n := 4) (f := said w n m) r (fun d hd => by simp [hr d hd]) hsz
          have hh := True.intro
          rcases words s with rfl | rfl | rfl | rfl | rfl | rfl | rfl | hh
          all_goals rcases r with _ | ⟨a, _ | ⟨b, _ | ⟨c, _ | ⟨d, t⟩⟩⟩⟩
          all_goals simp [wipeG, Od.run] at hs hr e
          all_goals cases w
          all_goals simp [ci__law_is_said, cr__law_is_said, said, r__law_row, hs, hr, hh, hok, dEq_str, lvs_eq, hnil, e, fAll_l]
          all_goals try (by_cases hn : sideN n a = true <;> simp [hn])
          all_goals try (by_cases hb : isZ b = true <;> by_cases hc : isZ c = true <;> simp [hb, hc, dLe_Z, dLt_Z, r_pair])
          all_goals try (split <;> simp_all)
          all_goals try (intros; omega)
        | _ => 
          simp [ci__law_is_said, cr__law_is_said, said, hnil, isNil]
    | _ => simp [ci__law_is_said, cr__law_is_said, said, hnil, isNil]
end W83

namespace W83
open PySem PySem.Spec PyProof.Rows L2 Pu
def headT : D → Bool
  | .tuple [.str s, b, _] => isZ b && (decide (s = "some") || decide (s = "every")) && (decide (toI b = 0) || decide (toI b = 1))
  | _ => false
theorem r_headed (d : D) : c_is_headed [.fr d] = some (.fr (.bool (headT d)), [.no]) := by
  cases d with
  | tuple xs =>
    rcases xs with _ | ⟨x, _ | ⟨b, _ | ⟨c, _ | ⟨e, t⟩⟩⟩⟩ <;> try (simp [c_is_headed, headT]; done)
    cases x <;> try (simp [c_is_headed, headT]; done)
    rename_i s
    cases b <;> try (simp [c_is_headed, headT]; done)
    rename_i i
    by_cases h1 : s = "some"
    · subst h1; simp [c_is_headed, headT, toI] <;> congr
    · by_cases h2 : s = "every"
      · subst h2; simp [c_is_headed, headT, toI] <;> congr
      · simp [c_is_headed, headT, h1, h2]
  | _ => simp [c_is_headed, headT]
theorem r__law_each (d : D) : c__law_is_each [.fr d] = some (.fr (.bool (headT d)), [.no]) := by
  cases d with
  | tuple xs =>
    rcases xs with _ | ⟨x, _ | ⟨b, _ | ⟨c, _ | ⟨e, t⟩⟩⟩⟩ <;> try (simp [c__law_is_each, headT]; done)
    cases x <;> try (simp [c__law_is_each, headT]; done)
    rename_i s
    by_cases h1 : s = "some"
    · subst h1; cases b <;> simp [c__law_is_each, headT, toI] <;> congr
    · by_cases h2 : s = "every"
      · subst h2; cases b <;> simp [c__law_is_each, headT, toI] <;> congr
      · simp [c__law_is_each, headT, h1, h2]
  | _ => simp [c__law_is_each, headT]
def halfT : D → Bool
  | .tuple [x, b, c] => headT (.tuple [x, b, c]) && said true 2 60 c
  | _ => false
def closedT : D → Bool
  | .tuple [x, b, .tuple [y, e, z]] => headT (.tuple [x, b, .tuple [y, e, z]]) && halfT (.tuple [y, e, z]) && decide (toI e = 1 - toI b)
  | _ => false
theorem headT_three {d : D} (h : headT d = true) : ∃ s i c, d = .tuple [.str s, .int i, c] := by
  unfold headT at h
  split at h
  · rename_i s b c
    cases b <;> simp at h
    exact ⟨_, _, _, rfl⟩
  · cases h
theorem r_half {k : Nat} (d : D) (hd : fit 200 k d) (hk : k < 60) : c_is_half_open [.fr d] = some (.fr (.bool (halfT d)), [.no]) := by
  by_cases h : headT d = true
  · obtain ⟨s, i, c, rfl⟩ := headT_three h
    obtain _ | k := k
    · exact (fit_tup0 hd).elim
    have e : c_is_said_20 [.fr (.int 2), .fr c] = some (.fr (.bool (said true 2 60 c)), [.no, .no]) := said_b 2 60 k c ((fit_tup.mp hd).2 c (by simp)) (by omega) (by omega)
    simp [c_is_half_open, r_headed, h, halfT, e]
  · have : halfT d = false := by
      unfold halfT
      split
      · simp [h]
      · rfl
    simp [c_is_half_open, r_headed, h, this]
theorem r__law_half {k : Nat} (d : D) (hd : fit 200 k d) (hk : k < 60) : c__law_is_half [.fr d] = some (.fr (.bool (halfT d)), [.no]) := by
  by_cases h : headT d = true
  · obtain ⟨s, i, c, rfl⟩ := headT_three h
    obtain _ | k := k
    · exact (fit_tup0 hd).elim
    have e : c__law_is_said [.fr (.int 2), .fr c, .fr (.bool true)] = some (.fr (.bool (said true 2 60 c)), [.no, .no, .no]) := said_c 2 true 60 k c ((fit_tup.mp hd).2 c (by simp)) (by omega) (by omega)
    simp [c__law_is_half, r__law_each, h, halfT, e]
  · have : halfT d = false := by
      unfold halfT
      split
      · simp [h]
      · rfl
    simp [c__law_is_half, r__law_each, h, this]
theorem halfT_head {d : D} (h : halfT d = true) : headT d = true := by
  unfold halfT at h
  split at h
  · simp at h; exact h.1
  · cases h
theorem r_closed {k : Nat} (d : D) (hd : fit 200 k d) (hk : k < 60) : c_is_closed [.fr d] = some (.fr (.bool (closedT d)), [.no]) ∧ c__law_is_closed [.fr d] = some (.fr (.bool (closedT d)), [.no]) := by
  by_cases h : headT d = true
  · obtain ⟨s, i, c, rfl⟩ := headT_three h
    obtain _ | k := k
    · exact (fit_tup0 hd).elim
    have e1 := r_half c ((fit_tup.mp hd).2 c (by simp)) (by omega)
    have e2 := r__law_half c ((fit_tup.mp hd).2 c (by simp)) (by omega)
    by_cases hc : halfT c = true
    · obtain ⟨t, j, u, rfl⟩ := headT_three (halfT_head hc)
      simp [c_is_closed, c__law_is_closed, r_headed, r__law_each, h, e1, e2, hc, closedT, toI] <;> congr
    · have : closedT (.tuple [.str s, .int i, c]) = false := by
        unfold closedT
        split
        · rename_i q; cases q; simp [hc]
        · rfl
      simp [c_is_closed, c__law_is_closed, r_headed, r__law_each, h, e1, e2, hc, this]
  · have : closedT d = false := by
      unfold closedT
      split
      · simp [h]
      · rfl
    simp [c_is_closed, c__law_is_closed, r_headed, r__law_each, h, this]
def kinds (d : D) : List D := [.bool (said false 1 60 d), .bool (said false 2 60 d), .bool (said false 3 60 d), .bool (said true 1 60 d), .bool (said true 2 60 d), .bool (halfT d), .bool (closedT d)]
theorem r_saying {k : Nat} (n : Int) (hn : n = 1 ∨ n = 2 ∨ n = 3) (d : D) (hd : fit 200 k d) (hk : k < 60) : c_is_saying [.fr (.int n), .fr d] = some (.fr (.bool (said false n 60 d)), [.no, .no]) := by
  have e : c_is_said [.fr (.int n), .fr d] = some (.fr (.bool (said false n 60 d)), [.no, .no]) := said_a n 60 k d hd hk (by omega)
  rcases hn with rfl | rfl | rfl <;> simp [c_is_saying, c_check_unknowns, e]
theorem r_open {k : Nat} (n : Int) (hn : n = 1 ∨ n = 2) (d : D) (hd : fit 200 k d) (hk : k < 60) : c_is_open [.fr (.int n), .fr d] = some (.fr (.bool (said true n 60 d)), [.no, .no]) := by
  have e : c_is_said_20 [.fr (.int n), .fr d] = some (.fr (.bool (said true n 60 d)), [.no, .no]) := said_b n 60 k d hd hk (by omega)
  rcases hn with rfl | rfl <;> simp [c_is_open, c_check_unknowns_18, e]
theorem r__law_told {k : Nat} (d : D) (hd : fit 200 k d) (hk : k < 60) : c__law_told [.fr d] = some (.nw (.list (kinds d)), [.no]) := by
  have s1 := r_saying 1 (by omega) d hd hk
  have s2 := r_saying 2 (by omega) d hd hk
  have s3 := r_saying 3 (by omega) d hd hk
  have o1 := r_open 1 (by omega) d hd hk
  have o2 := r_open 2 (by omega) d hd hk
  simp [c__law_told, kinds, s1, s2, s3, o1, o2, r_half d hd hk, (r_closed d hd hk).1, perm]
theorem r__law_kinds {k : Nat} (d : D) (hd : fit 200 k d) (hk : k < 60) : c__law_kinds [.fr d] = some (.nw (.list (kinds d)), [.no]) := by
  have s : ∀ n w, c__law_is_said [.fr (.int n), .fr d, .fr (.bool w)] = some (.fr (.bool (said w n 60 d)), [.no, .no, .no]) := fun n w => said_c n w 60 k d hd hk (by omega)
  simp [c__law_kinds, kinds, s, r__law_half d hd hk, (r_closed d hd hk).2, lcL, cYes, dAdd]
theorem same_bool (m : Nat) (b : Bool) : ci__law_same (m + 1) [.fr (.bool b), .fr (.bool b)] = some (.fr (.bool true), [.no, .no]) := by
  simp [ci__law_same, cr__law_same]
theorem same_kinds (d : D) : c__law_same [.fr (.list (kinds d)), .fr (.list (kinds d))] = some (.fr (.bool true), [.no, .no]) := by
  simp [c__law_same, ci__law_same, cr__law_same, kinds, rngD, List.range_succ, lcL, cYes, fAll_l]
end W83

namespace W83
open PySem PySem.Spec PyProof.Rows L2 Pu
theorem tk {ds : List D} {m : Int} (h : Pot ds) (h1 : 1 ≤ m) (h2 : m < 1000) : ∃ (q : Int) (es : List D), c__law_take [.ln (.list ds), .fr (.int m)] = some (.fr (.int q), [.ln (.list es), .no]) ∧ 0 ≤ q ∧ q < m ∧ Pot es := take_ok h ⟨h1, by omega⟩
theorem at_two {α : Type} (a b : α) {q : Int} (h0 : 0 ≤ q) (h1 : q < 2) : ∃ z, atI [a, b] q = some z ∧ (z = a ∨ z = b) := by
  obtain ⟨z, h, k⟩ := atI_in (xs := [a, b]) h0 (by simpa using h1)
  exact ⟨z, h, by simpa using k⟩
theorem at_three {α : Type} (a b c : α) {q : Int} (h0 : 0 ≤ q) (h1 : q < 3) : ∃ z, atI [a, b, c] q = some z ∧ (z = a ∨ z = b ∨ z = c) := by
  obtain ⟨z, h, k⟩ := atI_in (xs := [a, b, c]) h0 (by simpa using h1)
  exact ⟨z, h, by simpa using k⟩
def isI : D → Prop := fun d => ∃ i, d = .int i
theorem fit_ints {w k : Nat} {zs : List D} (h : ∀ z ∈ zs, isI z) (hl : zs.length ≤ w) : fit w (k + 1) (.tuple zs) :=
  fit_tup.mpr ⟨hl, fun x hx => by obtain ⟨i, rfl⟩ := h x hx; exact fit_int⟩
set_option maxHeartbeats 0 in
theorem small_ok : ∀ (m : Nat) (p n : Int) (ds : List D), 1 ≤ p → p < m → p ≤ 4 → 1 ≤ n → n ≤ 3 → Pot ds →
    ∃ v es, ci__law_small_saying m [.ln (.list ds), .fr (.int n), .fr (.int p)] = some (.fr v, [.ln (.list es), .no, .no]) ∧ Pot es ∧ fit 5 (2 * p.toNat + 1) v
  | 0, p, n, ds, h1, h2, _, _, _, _ => by omega
  | m + 1, p, n, ds, h1, h2, h4, hn, hn3, hp => by
    by_cases hp1 : 1 < p
    · obtain ⟨q1, d1, e1, a1, b1, p1⟩ := tk hp (m := p - 1) (by omega) (by omega)
      obtain ⟨q2, d2, e2, a2, b2, p2⟩ := tk p1 (m := 2) (by omega) (by omega)
      obtain ⟨w, e3, hw⟩ := at_two (PyData.str "both") (PyData.str "either") a2 b2
      obtain ⟨v1, d3, e4, p3, f1⟩ := small_ok m (1 + q1) n d2 (by omega) (by omega) (by omega) hn hn3 p2
      obtain ⟨v2, d4, e5, p4, f2⟩ := small_ok m (p - (1 + q1)) n d3 (by omega) (by omega) (by omega) hn hn3 p3
      obtain ⟨q3, d5, e6, a3, b3, p5⟩ := tk p4 (m := 4) (by omega) (by omega)
      have fw : fit 5 (2 * (p.toNat - 1) + 1) w := by rcases hw with rfl | rfl <;> simp
      have g1 : fit 5 (2 * (p.toNat - 1) + 1) v1 := fit_mono (Nat.le_refl _) (by omega) f1
      have g2 : fit 5 (2 * (p.toNat - 1) + 1) v2 := fit_mono (Nat.le_refl _) (by omega) f2
      have hv : fit 5 (2 * (p.toNat - 1) + 2) (.tuple [w, v1, v2]) := fit_tup.mpr ⟨by simp, by simpa using ⟨fw, g1, g2⟩⟩
      by_cases hq : q3 = 0
      · refine ⟨.tuple [.str "not", .tuple [w, v1, v2]], d5, ?_, p5, ?_⟩
        · simp [ci__law_small_saying, cr__law_small_saying, hp1, e1, e2, e3, e4, e5, e6, hq]
        · refine fit_mono (Nat.le_refl _) (k := 2 * (p.toNat - 1) + 3) (by omega) (fit_tup.mpr ⟨by simp, ?_⟩)
          simpa using hv
      · refine ⟨.tuple [w, v1, v2], d5, ?_, p5, fit_mono (Nat.le_refl _) (by omega) hv⟩
        simp [ci__law_small_saying, cr__law_small_saying, hp1, e1, e2, e3, e4, e5, e6, hq]
    · have hpe : p = 1 := by omega
      subst hpe
      obtain ⟨zs, Γ', k1, ⟨d1, p1, rfl⟩, k3, k4⟩ := lcL_ex (g := gN 8) (elt := cOp dSub (.e (frz (cCall c__law_take [0] (cCons (cC (.int 5)) cNil)))) (.e (cC (.int 2)))) (vs := [8])
        (I := fun Γ => ∃ es, Pot es ∧ Γ = [.ln (.list es), .fr (.int n), .fr (.int 1), .no, .no, .no, .no, .no, .no]) (Q := isI) (rngD 0 n.toNat) [] [.ln (.list ds), .fr (.int n), .fr (.int 1), .no, .no, .no, .no, .no, .no] ⟨ds, hp, rfl⟩
        (by
          rintro d hd Γ ⟨es, hes, rfl⟩
          obtain ⟨q1, d1, e1, a1, b1, p1⟩ := tk hes (m := 5) (by omega) (by omega)
          refine ⟨_, by simp; rfl, .int (q1 - 2), [.ln (.list d1), .fr (.int n), .fr (.int 1), .no, .no, .no, .no, .no, .fr d], ?_, ⟨_, rfl⟩, d1, p1, by simp⟩
          simp [e1])
        (by rw [rng_len]; exact Nat.le_trans (show _ ≤ 4 by simp; omega) (by decide))
      rw [rng_len] at k3
      obtain ⟨q2, d2, e2, a2, b2, p2⟩ := tk p1 (m := 5) (by omega) (by omega)
      have fz : fit 5 1 (.tuple zs) := fit_ints k4 (by omega)
      have hr : (-4611686018427387904 ≤ n) := by omega
      have hr2 : (n < 4611686018427387904) := by omega
      by_cases hq0 : q2 = 0
      · obtain ⟨q3, d3, e3, a3, b3, p3⟩ := tk p2 (m := 2) (by omega) (by omega)
        obtain ⟨q4, d4, e4, a4, b4, p4⟩ := tk p3 (m := 2 + q3) (by omega) (by omega)
        refine ⟨.tuple [.str "leaves", .tuple zs, .int (2 + q3), .int q4], d4, ?_, p4, fit_mono (Nat.le_refl _) (k := 2) (by omega) (fit_tup.mpr ⟨by simp, ?_⟩)⟩
        · simp [ci__law_small_saying, cr__law_small_saying, k1, e2, e3, e4, hq0, hr, hr2]
        · simpa using fz
      · obtain ⟨q3, d3, e3, a3, b3, p3⟩ := tk p2 (m := 3) (by omega) (by omega)
        obtain ⟨w, e4, hw⟩ := at_three (PyData.str "less") (PyData.str "is") (PyData.str "more") a3 b3
        obtain ⟨q4, d4, e5, a4, b4, p4⟩ := tk p3 (m := 13) (by omega) (by omega)
        have fw : fit 5 1 w := by rcases hw with rfl | rfl | rfl <;> simp
        have fv : fit 5 2 (.tuple [w, .tuple zs, .int (q4 - 6)]) := fit_tup.mpr ⟨by simp, by simpa using ⟨fw, fz⟩⟩
        by_cases hq1 : q2 = 1
        · refine ⟨.tuple [.str "not", .tuple [w, .tuple zs, .int (q4 - 6)]], d4, ?_, p4, fit_tup.mpr ⟨by simp, by simpa using fv⟩⟩
          simp [ci__law_small_saying, cr__law_small_saying, k1, e2, e3, e4, e5, hq1, hr, hr2]
        · refine ⟨.tuple [w, .tuple zs, .int (q4 - 6)], d4, ?_, p4, fit_mono (Nat.le_refl _) (k := 2) (by omega) fv⟩
          simp [ci__law_small_saying, cr__law_small_saying, k1, e2, e3, e4, e5, hq0, hq1, hr, hr2]
end W83

namespace W83
open PySem PySem.Spec PyProof.Rows L2 Pu
theorem dAdd_tup {a b : List D} (h : a.length + b.length ≤ 1000) : dAdd (.tuple a) (.tuple b) = some (.tuple (a ++ b)) := by
  show (if a.length + b.length ≤ sizeLine then some (PyData.tuple (a ++ b)) else none) = _
  rw [if_pos (Nat.le_trans h (by decide))]
def odds : List D := [.none, .bool true, .bool false, .str "1", .int (-1), .int 0, .int 1, .int 2, .int 9, .tuple [], .tuple [.int 1], .list [.int 1], .tuple [.int 1, .int 2], .tuple [.int 2, .int 4], .str "less"]
theorem odds_fit : ∀ z ∈ odds, fit 2 1 z := by
  intro z hz
  simp only [odds, List.mem_cons, List.not_mem_nil, or_false] at hz
  rcases hz with rfl | rfl | rfl | rfl | rfl | rfl | rfl | rfl | rfl | rfl | rfl | rfl | rfl | rfl | rfl <;> simp [fit_tup, fit_list]
set_option maxHeartbeats 0 in
theorem mutant_ok : ∀ (m : Nat) (e : Int) (w k : Nat) (v : D) (ds : List D), 0 ≤ e → e < m → 2 ≤ w → w ≤ 300 → k ≤ 64 → fit w k v → Pot ds →
    ∃ r es, ci__law_mutant m [.ln (.list ds), .fr v, .fr (.int e)] = some (r, [.ln (.list es), .no, .no]) ∧ Pot es ∧ fit (2 * w + 1) (k + 1) r.d
  | 0, e, w, k, v, ds, h1, h2, _, _, _, _, _ => by omega
  | m + 1, e, w, k, v, ds, h1, h2, hw, hw3, hk, hv, hp => by
    obtain ⟨q1, d1, e1, a1, b1, p1⟩ := tk hp (m := 15) (by omega) (by omega)
    obtain ⟨z, hz, hzm⟩ := atI_in (xs := odds) a1 (by simpa [odds] using b1)
    have fz : fit (2 * w + 1) (k + 1) z := fit_mono (by omega) (by omega) (odds_fit z hzm)
    unfold odds at hz
    have hnil : dEq false v (.tuple []) = some (.bool (isNil v)) := dEq_nil v (fit_shaped hv hk)
    by_cases ht : tTup v = true
    · obtain ⟨xs, rfl⟩ : ∃ xs, v = .tuple xs := by cases v <;> simp at ht; exact ⟨_, rfl⟩
      obtain _ | k := k
      · exact (fit_tup0 hv).elim
      obtain ⟨hl, hx⟩ := fit_tup.mp hv
      cases xs with
      | nil => exact ⟨.fr z, d1, by simp [ci__law_mutant, cr__law_mutant, e1, hz, hnil, isNil], p1, fz⟩
      | cons x r =>
        by_cases he : e = 0
        · exact ⟨.fr z, d1, by simp [ci__law_mutant, cr__law_mutant, e1, hz, hnil, isNil, he], p1, fz⟩
        · obtain ⟨q2, d2, e2, a2, b2, p2⟩ := tk p1 (m := 8) (by omega) (by omega)
          by_cases hq2 : q2 = 0
          · exact ⟨.fr z, d2, by simp [ci__law_mutant, cr__law_mutant, e1, e2, hq2, hz, hnil, isNil, he], p2, fz⟩
          · simp only [List.length_cons] at hl
            obtain ⟨q3, d3, e3, a3, b3, p3⟩ := tk p2 (m := ((x :: r).length : Int)) (by simp only [List.length_cons]; omega) (by simp only [List.length_cons]; omega)
            obtain ⟨q4, d4, e4, a4, b4, p4⟩ := tk p3 (m := 12) (by omega) (by omega)
            obtain ⟨y, hy, hym⟩ := atI_in (xs := x :: r) a3 b3
            have lc : ∀ lo hi, (cutD (x :: r) lo hi).length ≤ w := fun lo hi => Nat.le_trans cut_le (by simpa using hl)
            have fc : ∀ lo hi, ∀ y ∈ cutD (x :: r) lo hi, fit (2 * w + 1) (k + 1) y := fun lo hi y hy => fit_mono (by omega) (by omega) (hx y (cut_mem hy))
            have fx : ∀ y ∈ x :: r, fit (2 * w + 1) (k + 1) y := fun y hy => fit_mono (by omega) (by omega) (hx y hy)
            have fz1 : fit (2 * w + 1) (k + 1) z := fit_mono (by omega) (by omega) (odds_fit z hzm)
            simp only [List.length_cons, Int.natCast_add, Int.cast_ofNat_Int] at e3
            by_cases hq7 : q4 < 7
            · obtain ⟨t, d5, e5, p5, f5⟩ := mutant_ok m (e - 1) w k y d4 (by omega) (by omega) hw hw3 (by omega) (hx y hym) p4
              refine ⟨.fr (.tuple (cutD (x :: r) none (some q3) ++ [t.d] ++ cutD (x :: r) (some (q3 + 1)) none)), d5, ?_, p5, fit_tup.mpr ⟨?_, ?_⟩⟩
              · have l1 := lc none (some q3)
                have l2 := lc (some (q3 + 1)) none
                have s1 : dAdd (.tuple (cutD (x :: r) none (some q3))) (.tuple [t.d]) = some (.tuple (cutD (x :: r) none (some q3) ++ [t.d])) := dAdd_tup (by simp; omega)
                have s2 : dAdd (.tuple (cutD (x :: r) none (some q3) ++ [t.d])) (.tuple (cutD (x :: r) (some (q3 + 1)) none)) = some (.tuple (cutD (x :: r) none (some q3) ++ [t.d] ++ cutD (x :: r) (some (q3 + 1)) none)) := dAdd_tup (by simp; omega)
                simp only [List.append_assoc] at s2
                simp [ci__law_mutant, cr__law_mutant, e1, e2, e3, e4, e5, hq2, hz, hnil, isNil, he, hy, hq7, s1, s2]
              · have l1 := lc none (some q3)
                have l2 := lc (some (q3 + 1)) none
                simp; omega
              · intro u hu
                simp only [List.mem_append, List.mem_singleton] at hu
                rcases hu with (hu | rfl) | hu
                · exact fc _ _ u hu
                · exact f5
                · exact fc _ _ u hu
            · have l0 : (x :: r).length ≤ w := by simpa using hl
              by_cases h7 : q4 = 7
              · exact ⟨.nw (.list (x :: r)), d4, by simp [ci__law_mutant, cr__law_mutant, e1, e2, e3, e4, hq2, hz, hnil, isNil, he, h7], p4, fit_list.mpr ⟨by omega, fx⟩⟩
              by_cases h8 : q4 = 8
              · have s1 : dAdd (.tuple (x :: r)) (.tuple [z]) = some (.tuple (x :: r ++ [z])) := dAdd_tup (by simp at l0 ⊢; omega)
                refine ⟨.fr (.tuple (x :: r ++ [z])), d4, ?_, p4, fit_tup.mpr ⟨by simp at l0 ⊢; omega, ?_⟩⟩
                · simp only [List.cons_append] at s1
                  simp [ci__law_mutant, cr__law_mutant, e1, e2, e3, e4, hq2, hz, hnil, isNil, he, h8, s1]
                · intro u hu
                  simp only [List.mem_append, List.mem_singleton] at hu
                  rcases hu with hu | rfl
                  · exact fx u hu
                  · exact fz1
              by_cases h9 : q4 = 9
              · have l1 := lc none (some q3)
                have l2 := lc (some (q3 + 1)) none
                have s1 : dAdd (.tuple (cutD (x :: r) none (some q3))) (.tuple (cutD (x :: r) (some (q3 + 1)) none)) = some (.tuple (cutD (x :: r) none (some q3) ++ cutD (x :: r) (some (q3 + 1)) none)) := dAdd_tup (by omega)
                refine ⟨.fr (.tuple (cutD (x :: r) none (some q3) ++ cutD (x :: r) (some (q3 + 1)) none)), d4, ?_, p4, fit_tup.mpr ⟨by simp; omega, ?_⟩⟩
                · simp [ci__law_mutant, cr__law_mutant, e1, e2, e3, e4, hq2, hz, hnil, isNil, he, h9, s1]
                · intro u hu
                  simp only [List.mem_append] at hu
                  rcases hu with hu | hu
                  · exact fc _ _ u hu
                  · exact fc _ _ u hu
              by_cases h10 : q4 = 10
              · refine ⟨.fr (.tuple (x :: r).reverse), d4, ?_, p4, fit_tup.mpr ⟨by rw [List.length_reverse]; omega, fun u hu => fx u (List.mem_reverse.mp hu)⟩⟩
                simp [ci__law_mutant, cr__law_mutant, e1, e2, e3, e4, hq2, hz, hnil, isNil, he, h10]
              · have l1 := lc (some q3) (some (q3 + 1))
                have s1 : dAdd (.tuple (x :: r)) (.tuple (cutD (x :: r) (some q3) (some (q3 + 1)))) = some (.tuple (x :: r ++ cutD (x :: r) (some q3) (some (q3 + 1)))) := dAdd_tup (by omega)
                refine ⟨.fr (.tuple (x :: r ++ cutD (x :: r) (some q3) (some (q3 + 1)))), d4, ?_, p4, fit_tup.mpr ⟨by rw [List.length_append]; omega, ?_⟩⟩
                · simp only [List.cons_append] at s1
                  simp [ci__law_mutant, cr__law_mutant, e1, e2, e3, e4, hq2, hz, hnil, isNil, he, hq7, h7, h8, h9, h10, s1]
                · intro u hu
                  simp only [List.mem_append] at hu
                  rcases hu with hu | hu
                  · exact fx u hu
                  · exact fc _ _ u hu
    · have ht' : tTup v = false := by simpa using ht
      exact ⟨.fr z, d1, by simp [ci__law_mutant, cr__law_mutant, e1, hz, hnil, ht'], p1, fz⟩
def gw : Nat → Nat → Nat
  | w, 0 => w
  | w, j + 1 => gw (2 * w + 1) j
theorem gw_le : ∀ (j w : Nat), w ≤ gw w j
  | 0, w => Nat.le_refl _
  | j + 1, w => Nat.le_trans (by omega) (gw_le j (2 * w + 1))
theorem near_run : ∀ (qs : List D) (w k : Nat) (v : D) (ds : List D) (s : Sl), 2 ≤ w → gw w qs.length ≤ 300 → k + qs.length ≤ 64 → fit w k v → Pot ds → (s = .no ∨ ∃ d, s = .fr d) →
    ∃ u es t, forL (gN 2) (cSet 1 (frz (cCall c__law_mutant [0] (cCons (cVar 1) (cCons (cC (.int 4)) cNil))))) qs [.ln (.list ds), .fr v, s] = some (.nx, [.ln (.list es), .fr u, t]) ∧ Pot es ∧ fit (gw w qs.length) (k + qs.length) u
  | [], w, k, v, ds, s, _, _, _, hv, hp, _ => ⟨v, ds, s, by simp [forL], hp, hv⟩
  | q :: qs, w, k, v, ds, s, hw, hg, hk, hv, hp, hs => by
    simp only [List.length_cons] at hk hg
    have hgw : 2 * w + 1 ≤ gw (2 * w + 1) qs.length := gw_le _ _
    have hg' : gw (2 * w + 1) qs.length ≤ 300 := hg
    obtain ⟨r, d1, e1, p1, f1⟩ := mutant_ok 60 4 w k v ds (by omega) (by omega) hw (by omega) (by omega) hv hp
    have e2 : c__law_mutant [.ln (.list ds), .fr v, .fr (.int 4)] = some (r, [.ln (.list d1), .no, .no]) := e1
    obtain ⟨u, es, t, k1, k2, k3⟩ := near_run qs (2 * w + 1) (k + 1) r.d d1 (.fr q) (by omega) hg' (by omega) f1 p1 (.inr ⟨q, rfl⟩)
    refine ⟨u, es, t, ?_, k2, ?_⟩
    · simp only [ev_45] at k1
      unfold forL
      rcases hs with rfl | ⟨d, rfl⟩ <;> simp [e2, k1]
    · have : k + 1 + qs.length = k + (qs.length + 1) := by omega
      rw [this] at k3
      exact k3
theorem near_ok (k : Nat) (v : D) (ds : List D) (hk : k ≤ 40) (hv : fit 12 k v) (hp : Pot ds) : ∃ u es, c__law_near [.ln (.list ds), .fr v] = some (.fr u, [.ln (.list es), .no]) ∧ Pot es ∧ fit 200 (k + 3) u := by
  obtain ⟨q, d1, e1, a1, b1, p1⟩ := tk hp (m := 4) (by omega) (by omega)
  have hl : (rngD 0 q.toNat).length ≤ 3 := by rw [rng_len]; omega
  have hg : gw 12 (rngD 0 q.toNat).length ≤ gw 12 3 := by
    have : ∀ j, j ≤ 3 → gw 12 j ≤ gw 12 3 := by decide
    exact this _ hl
  have h3 : gw 12 3 = 103 := by decide
  obtain ⟨u, es, t, e2, p2, f2⟩ := near_run (rngD 0 q.toNat) 12 k v d1 .no (by omega) (by omega) (by omega) hv p1 (.inl rfl)
  refine ⟨u, es, ?_, p2, fit_mono (by omega) (by omega) f2⟩
  have hr : (-4611686018427387904 ≤ q) := by omega
  have hr2 : (q < 4611686018427387904) := by omega
  simp only [ev_45] at e2
  simp [c__law_near, e1, hr, hr2, e2]
set_option maxHeartbeats 0 in
theorem plain_ok : ∀ (m : Nat) (e n : Int) (ds : List D), 1 ≤ e → e < m → e ≤ 10 → 1 ≤ n → n ≤ 4 → Pot ds →
    ∃ v es, ci__law_plain m [.ln (.list ds), .fr (.int n), .fr (.int e)] = some (.fr v, [.ln (.list es), .no, .no]) ∧ Pot es ∧ fit 5 (e.toNat + 1) v
  | 0, e, n, ds, h1, h2, _, _, _, _ => by omega
  | m + 1, e, n, ds, h1, h2, h3, hn, hn3, hp => by
    obtain ⟨q1, d1, e1, a1, b1, p1⟩ := tk hp (m := 6) (by omega) (by omega)
    by_cases hc : e < 2 ∨ q1 < 3
    · obtain ⟨q2, d2, e2, a2, b2, p2⟩ := tk p1 (m := 3) (by omega) (by omega)
      obtain ⟨w, e3, hw⟩ := at_three (PyData.str "less") (PyData.str "is") (PyData.str "more") a2 b2
      obtain ⟨zs, Γ', k1, ⟨d3, p3, rfl⟩, k3, k4⟩ := lcL_ex (g := gN 4) (elt := cOp dSub (.e (frz (cCall c__law_take [0] (cCons (cC (.int 7)) cNil)))) (.e (cC (.int 3)))) (vs := [4])
        (I := fun Γ => ∃ es, Pot es ∧ Γ = [.ln (.list es), .fr (.int n), .fr (.int e), .fr (.int q1), .no]) (Q := isI) (rngD 0 n.toNat) [] [.ln (.list d2), .fr (.int n), .fr (.int e), .fr (.int q1), .no] ⟨d2, p2, rfl⟩
        (by
          rintro d hd Γ ⟨es, hes, rfl⟩
          obtain ⟨q3, d3, e3, a3, b3, p3⟩ := tk hes (m := 7) (by omega) (by omega)
          refine ⟨_, by simp; rfl, .int (q3 - 3), [.ln (.list d3), .fr (.int n), .fr (.int e), .fr (.int q1), .fr d], ?_, ⟨_, rfl⟩, d3, p3, by simp⟩
          simp [e3])
        (by rw [rng_len]; exact Nat.le_trans (show _ ≤ 4 by simp; omega) (by decide))
      rw [rng_len] at k3
      obtain ⟨q4, d4, e4, a4, b4, p4⟩ := tk p3 (m := 9) (by omega) (by omega)
      have fz : fit 5 1 (.tuple zs) := fit_ints k4 (by omega)
      have fw : fit 5 1 w := by rcases hw with rfl | rfl | rfl <;> simp
      have hr : (-4611686018427387904 ≤ n) := by omega
      have hr2 : (n < 4611686018427387904) := by omega
      refine ⟨.tuple [w, .tuple zs, .int (q4 - 4)], d4, ?_, p4, fit_mono (Nat.le_refl _) (k := 2) (by omega) (fit_tup.mpr ⟨by simp, by simpa using ⟨fw, fz⟩⟩)⟩
      by_cases he2 : e < 2
      · simp [ci__law_plain, cr__law_plain, e1, e2, e3, e4, k1, hr, hr2, he2]
      · have hq : q1 < 3 := by omega
        simp [ci__law_plain, cr__law_plain, e1, e2, e3, e4, k1, hr, hr2, he2, hq]
    · have he2 : ¬ e < 2 := by omega
      have hq3 : ¬ q1 < 3 := by omega
      obtain ⟨j, hj⟩ : ∃ j, e.toNat = j + 1 := ⟨e.toNat - 1, by omega⟩
      by_cases h3' : q1 = 3
      · obtain ⟨v1, d2, e2, p2, f2⟩ := plain_ok m (e - 1) n d1 (by omega) (by omega) (by omega) hn hn3 p1
        refine ⟨.tuple [.str "not", v1], d2, ?_, p2, fit_tup.mpr ⟨by simp, ?_⟩⟩
        · simp [ci__law_plain, cr__law_plain, e1, e2, he2, h3']
        · have := fit_mono (Nat.le_refl 5) (show (e - 1).toNat + 1 ≤ e.toNat by omega) f2
          simpa using this
      · obtain ⟨w, e3, hw⟩ := at_two (PyData.str "both") (PyData.str "either") (q := q1 - 4) (by omega) (by omega)
        obtain ⟨v1, d2, e4, p2, f2⟩ := plain_ok m 1 n d1 (by omega) (by omega) (by omega) hn hn3 p1
        obtain ⟨v2, d3, e5, p3, f3⟩ := plain_ok m (e - 1) n d2 (by omega) (by omega) (by omega) hn hn3 p2
        have g2 := fit_mono (Nat.le_refl 5) (show (1 : Int).toNat + 1 ≤ e.toNat by omega) f2
        have g3 := fit_mono (Nat.le_refl 5) (show (e - 1).toNat + 1 ≤ e.toNat by omega) f3
        have fw : fit 5 e.toNat w := by rcases hw with rfl | rfl <;> simp
        refine ⟨.tuple [w, v1, v2], d3, ?_, p3, fit_tup.mpr ⟨by simp, by simpa using ⟨fw, g2, g3⟩⟩⟩
        simp [ci__law_plain, cr__law_plain, e1, e3, e4, e5, he2, hq3, h3']
end W83

namespace W83
open PySem PySem.Spec PyProof.Rows L2 Pu
def cInner : CS := (cIfS (cNot (cB (frz (cCall c__law_same [] (cCons (frz (cCall c__law_told [] (cCons (cVar 13) cNil))) (cCons (frz (cCall c__law_kinds [] (cCons (cVar 13) cNil))) cNil)))))) (cRet (asN (cC (.bool false)))) cNext)
def cEnd : CS := (cFor (cIt (cOp dAdd (.v 12) (.e (frz (cLc [14] (cRng1 (cCons (cC (.int 6)) cNil)) (gN 14) cYes (frz (cCall c__law_near [1] (cCons (cOp dIx (.v 12) (.e (frz (cCall c__law_take [1] (cCons (cCb fLen [(.v 12)]) cNil))))) cNil)))))))) (gN 13) cInner)
def cBody : CS := (cSeq (cPar 3 4 (cCons (frz (cCall c__law_take [1] (cCons (cC (.int 2)) cNil))) (cCons (cOp dAdd (.e (cC (.int 1))) (.e (frz (cCall c__law_take [1] (cCons (cC (.int 2)) cNil))))) cNil)))
    (cSeq (cPar 5 6 (cCons (frz (cCall c__law_small_saying [1] (cCons (cC (.int 2)) (cCons (cC (.int 3)) cNil)))) (cCons (frz (cCall c__law_small_saying [1] (cCons (cVar 4) (cCons (cC (.int 2)) cNil)))) cNil)))
    (cSeq (cSet 7 (cTup (cCons (cOp dIx (.e (frz (cLst (cCons (cC (.str "some")) (cCons (cC (.str "every")) cNil))))) (.e (frz (cCall c__law_take [1] (cCons (cC (.int 2)) cNil))))) (cCons (cVar 3) (cCons (cVar 5) cNil)))))
    (cSeq (cSet 8 (cTup (cCons (cOp dIx (.e (frz (cLst (cCons (cC (.str "some")) (cCons (cC (.str "every")) cNil))))) (.e (frz (cCall c__law_take [1] (cCons (cC (.int 2)) cNil))))) (cCons (cOp dSub (.e (cC (.int 1))) (.v 3)) (cCons (cVar 7) cNil)))))
    (cSeq (cPar 9 10 (cCons (frz (cCall c__law_plain [1] (cCons (cOp dAdd (.e (cC (.int 1))) (.e (frz (cCall c__law_take [1] (cCons (cC (.int 3)) cNil))))) (cCons (cC (.int 4)) cNil)))) (cCons (cOp dAdd (.e (cC (.int 1))) (.e (frz (cCall c__law_take [1] (cCons (cC (.int 4)) cNil))))) cNil)))
    (cSeq (cSet 11 (cTup (cCons (cC (.str "leaves")) (cCons (cOp dMulT (.e (cTup (cCons (cC (.int 1)) cNil))) (.v 4)) (cCons (cVar 10) (cCons (cOp dIx (.e (frz (cLst (cCons (cC (.int 0)) (cCons (cOp dSub (.v 10) (.e (cC (.int 1)))) (cCons (cVar 10) (cCons (cUn dNeg (.e (cC (.int 1)))) cNil))))))) (.e (frz (cCall c__law_take [1] (cCons (cC (.int 4)) cNil))))) cNil))))))
    (cSeq (cSet 12 (frz (cLst (cCons (cVar 5) (cCons (cVar 6) (cCons (cVar 7) (cCons (cVar 8) (cCons (cVar 9) (cCons (cVar 11) (cCons (cTup (cCons (cC (.str "not")) (cCons (cVar 11) cNil))) (cCons (cTup (cCons (cOp dIx (.v 8) (.e (cC (.int 0)))) (cCons (cVar 3) (cCons (cVar 7) cNil)))) (cCons (cTup (cCons (cC (.str "not")) (cCons (cVar 7) cNil))) (cCons (cTup (cCons (cC (.str "some")) (cCons (cC (.int 2)) (cCons (cVar 5) cNil)))) (cCons (cTup (cCons (cC (.str "every")) (cCons (cC (.bool true)) (cCons (cVar 5) cNil)))) cNil))))))))))))))
    cEnd)))))))
theorem law_eq : c_law = cFun 15 1
    (cSeq (cSetN 1 (cCall c__law_pot [] (cCons (cVar 0) cNil)))
    (cSeq (cFor (cRng1 (cCons (cC (.int 10)) cNil)) (gN 2) cBody)
    (cRet (asN (cC (.bool true)))))) := rfl
def notLn : Sl → Bool
  | .ln _ => false
  | _ => true
@[simp] theorem notLn_fr (d : D) : notLn (.fr d) = true := rfl
@[simp] theorem notLn_no : notLn .no = true := rfl
def okPut (Γ : En) (i : Nat) : Bool := match Γ[i]? with
  | some s => notLn s
  | none => false
@[simp] theorem ev_okPut {Γ : En} {i : Nat} : okPut Γ i = (match Γ[i]? with | some s => notLn s | none => false) := rfl
theorem putF {Γ : En} {i : Nat} {s : Sl} (h : okPut Γ i = true) : put Γ i s = some (Γ.set i s) := by
  unfold okPut at h
  unfold put
  split at h
  · rename_i x e
    rw [e]
    cases x <;> first | rfl | cases h
  · cases h
theorem inner_ok {Γ : En} {v : D} {k : Nat} (hg : Γ[13]? = some (.fr v)) (hv : fit 200 k v) (hk : k < 60) : cInner Γ = some (.nx, Γ) := by
  simp [cInner, hg, r__law_told v hv hk, r__law_kinds v hv hk, same_kinds]
set_option maxHeartbeats 0 in
theorem end_ok (sc t i d a5 a6 a7 a8 a9 a10 a11 : D) (L es : List D) (s13 : Sl) (hs : notLn s13 = true) (hL : L.length = 11) (fL : ∀ x ∈ L, fit 12 9 x) (hp : Pot es) :
    ∃ es' s13', cEnd [.fr sc, .ow (.list es), .fr t, .fr i, .fr d, .fr a5, .fr a6, .fr a7, .fr a8, .fr a9, .fr a10, .fr a11, .fr (.list L), s13, .no] = some (.nx, [.fr sc, .ow (.list es'), .fr t, .fr i, .fr d, .fr a5, .fr a6, .fr a7, .fr a8, .fr a9, .fr a10, .fr a11, .fr (.list L), s13', .no]) ∧ Pot es' ∧ notLn s13' = true := by
  obtain ⟨zs, Γ', k1, ⟨d1, p1, rfl⟩, k3, k4⟩ := lcL_ex (g := gN 14) (elt := (frz (cCall c__law_near [1] (cCons (cOp dIx (.v 12) (.e (frz (cCall c__law_take [1] (cCons (cCb fLen [(.v 12)]) cNil))))) cNil)))) (vs := [14])
        (I := fun Γ => ∃ es, Pot es ∧ Γ = [.fr sc, .ow (.list es), .fr t, .fr i, .fr d, .fr a5, .fr a6, .fr a7, .fr a8, .fr a9, .fr a10, .fr a11, .fr (.list L), s13, .no]) (Q := fun z => fit 200 12 z) (rngD 0 6) [] _ ⟨es, hp, rfl⟩
        (by
          rintro j hj Γ ⟨es, hes, rfl⟩
          obtain ⟨q1, d1, e1, a1, b1, p1⟩ := tk hes (m := 11) (by omega) (by omega)
          obtain ⟨y, hy, hym⟩ := atI_in (xs := L) a1 (by rw [hL]; omega)
          obtain ⟨u, d2, e2, p2, f2⟩ := near_ok 9 y d1 (by omega) (fL y hym) p1
          refine ⟨_, by simp; rfl, u, [.fr sc, .ow (.list d2), .fr t, .fr i, .fr d, .fr a5, .fr a6, .fr a7, .fr a8, .fr a9, .fr a10, .fr a11, .fr (.list L), s13, .fr j], ?_, f2, d2, p2, by simp⟩
          simp [hL, e1, hy, e2])
        (by rw [rng_len]; simp)
  rw [rng_len] at k3
  have hd : dAdd (.list L) (.list zs) = some (.list (L ++ zs)) := by
    show (if L.length + zs.length ≤ sizeLine then some (PyData.list (L ++ zs)) else none) = _
    rw [if_pos (by rw [hL, k3]; simp)]
  obtain ⟨Γ2, k5, s, hs', rfl⟩ := forL_inv (g := gN 13) (body := cInner) (I := fun Γ => ∃ s, notLn s = true ∧ Γ = [.fr sc, .ow (.list d1), .fr t, .fr i, .fr d, .fr a5, .fr a6, .fr a7, .fr a8, .fr a9, .fr a10, .fr a11, .fr (.list L), s, .no]) (L ++ zs) [.fr sc, .ow (.list d1), .fr t, .fr i, .fr d, .fr a5, .fr a6, .fr a7, .fr a8, .fr a9, .fr a10, .fr a11, .fr (.list L), s13, .no] ⟨s13, hs, rfl⟩
    (by
      rintro v hv Γ ⟨s, hs, rfl⟩
      have fv : fit 200 12 v := by
        rcases List.mem_append.mp hv with h | h
        · exact fit_mono (by omega) (by omega) (fL v h)
        · exact k4 v h
      refine ⟨[.fr sc, .ow (.list d1), .fr t, .fr i, .fr d, .fr a5, .fr a6, .fr a7, .fr a8, .fr a9, .fr a10, .fr a11, .fr (.list L), .fr v, .no], by rw [ev_46, putF (by simpa using hs)]; rfl, _, inner_ok (k := 12) (v := v) rfl fv (by omega), .fr v, rfl, rfl⟩)
  refine ⟨d1, s, ?_, p1, hs'⟩
  simp [cEnd, k1, hd, k5]
theorem four (a b c d : Int) {q : Int} (h0 : 0 ≤ q) (h1 : q < 4) : ∃ z, atI [PyData.int a, .int b, .int c, .int d] q = some z ∧ isI z := by
  obtain ⟨z, h, k⟩ := atI_in (xs := [PyData.int a, .int b, .int c, .int d]) h0 (by simpa using h1)
  refine ⟨z, h, ?_⟩
  simp at k
  rcases k with rfl | rfl | rfl | rfl <;> exact ⟨_, rfl⟩
theorem ones {q : Int} (h0 : 0 ≤ q) (h1 : q < 2) : ∃ ys, dMulT (.tuple [.int 1]) (.int (1 + q)) = some (.tuple ys) ∧ ys.length ≤ 2 ∧ ∀ y ∈ ys, isI y := by
  have : q = 0 ∨ q = 1 := by omega
  rcases this with rfl | rfl
  · exact ⟨[.int 1], rfl, by simp, by simp [isI]⟩
  · exact ⟨[.int 1, .int 1], rfl, by simp, by simp [isI]⟩
set_option maxHeartbeats 0 in
theorem body_ok (sc t : D) (es : List D) (s3 s4 s5 s6 s7 s8 s9 s10 s11 s12 s13 : Sl) (hp : Pot es) (h3 : notLn s3 = true) (h4 : notLn s4 = true) (h5 : notLn s5 = true) (h6 : notLn s6 = true) (h7 : notLn s7 = true) (h8 : notLn s8 = true) (h9 : notLn s9 = true) (h10 : notLn s10 = true) (h11 : notLn s11 = true) (h12 : notLn s12 = true) (h13 : notLn s13 = true) :
    ∃ es' i d a5 a6 a7 a8 a9 a10 a11 a12 s13', cBody [.fr sc, .ow (.list es), .fr t, s3, s4, s5, s6, s7, s8, s9, s10, s11, s12, s13, .no] = some (.nx, [.fr sc, .ow (.list es'), .fr t, .fr i, .fr d, .fr a5, .fr a6, .fr a7, .fr a8, .fr a9, .fr a10, .fr a11, .fr a12, s13', .no]) ∧ Pot es' ∧ notLn s13' = true := by
  obtain ⟨q1, d1, e1, a1, b1, p1⟩ := tk hp (m := 2) (by omega) (by omega)
  obtain ⟨q2, d2, e2, a2, b2, p2⟩ := tk p1 (m := 2) (by omega) (by omega)
  obtain ⟨v5, d3, e3, p3, f5⟩ := small_ok 60 3 2 d2 (by omega) (by omega) (by omega) (by omega) (by omega) p2
  obtain ⟨v6, d4, e4, p4, f6⟩ := small_ok 60 2 (1 + q2) d3 (by omega) (by omega) (by omega) (by omega) (by omega) p3
  obtain ⟨q3, d5, e5, a3, b3, p5⟩ := tk p4 (m := 2) (by omega) (by omega)
  obtain ⟨w7, g7, hw7⟩ := at_two (PyData.str "some") (PyData.str "every") a3 b3
  obtain ⟨q4, d6, e6, a4, b4, p6⟩ := tk p5 (m := 2) (by omega) (by omega)
  obtain ⟨w8, g8, hw8⟩ := at_two (PyData.str "some") (PyData.str "every") a4 b4
  obtain ⟨q5, d7, e7, a5, b5, p7⟩ := tk p6 (m := 3) (by omega) (by omega)
  obtain ⟨v9, d8, e8, p8, f9⟩ := plain_ok 60 4 (1 + q5) d7 (by omega) (by omega) (by omega) (by omega) (by omega) p7
  obtain ⟨q6, d9, e9, a6, b6, p9⟩ := tk p8 (m := 4) (by omega) (by omega)
  obtain ⟨q7, d10, e10, a7, b7, p10⟩ := tk p9 (m := 4) (by omega) (by omega)
  obtain ⟨z, g10, hz⟩ := four 0 (1 + q6 - 1) (1 + q6) (-1) a7 b7
  obtain ⟨ys, hy, yl, yi⟩ := ones a2 b2
  have e3' : c__law_small_saying [.ln (.list d2), .fr (.int 2), .fr (.int 3)] = some (.fr v5, [.ln (.list d3), .no, .no]) := e3
  have e4' : c__law_small_saying [.ln (.list d3), .fr (.int (1 + q2)), .fr (.int 2)] = some (.fr v6, [.ln (.list d4), .no, .no]) := e4
  have e8' : c__law_plain [.ln (.list d7), .fr (.int (1 + q5)), .fr (.int 4)] = some (.fr v9, [.ln (.list d8), .no, .no]) := e8
  have fw7 : ∀ k, fit 12 k w7 := fun k => by rcases hw7 with rfl | rfl <;> simp
  have fw8 : ∀ k, fit 12 k w8 := fun k => by rcases hw8 with rfl | rfl <;> simp
  have fz : ∀ k, fit 12 k z := fun k => by obtain ⟨i, rfl⟩ := hz; simp
  have f5' : ∀ k, 7 ≤ k → fit 12 k v5 := fun k h => fit_mono (by omega) (by simpa using h) f5
  have f6' : fit 12 9 v6 := fit_mono (by omega) (by decide) f6
  have f9' : fit 12 9 v9 := fit_mono (by omega) (by decide) f9
  have fy : ∀ k, fit 12 (k + 1) (.tuple ys) := fun k => fit_ints yi (by omega)
  have fh : fit 12 8 (.tuple [w7, .int q1, v5]) := fit_tup.mpr ⟨by simp, by simpa using ⟨fw7 7, f5' 7 (by omega)⟩⟩
  have fe : fit 12 8 (.tuple [.str "leaves", .tuple ys, .int (1 + q6), z]) := fit_tup.mpr ⟨by simp, by simpa using ⟨fy 6, fz 7⟩⟩
  obtain ⟨es', s13', k1, k2, k3⟩ := end_ok sc t (.int q1) (.int (1 + q2)) v5 v6 (.tuple [w7, .int q1, v5]) (.tuple [w8, .int (1 - q1), .tuple [w7, .int q1, v5]]) v9 (.int (1 + q6)) (.tuple [.str "leaves", .tuple ys, .int (1 + q6), z])
    [v5, v6, .tuple [w7, .int q1, v5], .tuple [w8, .int (1 - q1), .tuple [w7, .int q1, v5]], v9, .tuple [.str "leaves", .tuple ys, .int (1 + q6), z], .tuple [.str "not", .tuple [.str "leaves", .tuple ys, .int (1 + q6), z]], .tuple [w8, .int q1, .tuple [w7, .int q1, v5]], .tuple [.str "not", .tuple [w7, .int q1, v5]], .tuple [.str "some", .int 2, v5], .tuple [.str "every", .bool true, v5]] d10 s13 h13 (by simp)
    (by
      intro x hx
      simp only [List.mem_cons, List.not_mem_nil, or_false] at hx
      have fh9 : fit 12 9 (.tuple [w7, .int q1, v5]) := fit_mono (by omega) (by omega) fh
      have fe9 : fit 12 9 (.tuple [.str "leaves", .tuple ys, .int (1 + q6), z]) := fit_mono (by omega) (by omega) fe
      rcases hx with rfl | rfl | rfl | rfl | rfl | rfl | rfl | rfl | rfl | rfl | rfl
      · exact f5' 9 (by omega)
      · exact f6'
      · exact fh9
      · exact fit_tup.mpr ⟨by simp, by simpa using ⟨fw8 8, fh⟩⟩
      · exact f9'
      · exact fe9
      · exact fit_tup.mpr ⟨by simp, by simpa using fe⟩
      · exact fit_tup.mpr ⟨by simp, by simpa using ⟨fw8 8, fh⟩⟩
      · exact fit_tup.mpr ⟨by simp, by simpa using fh⟩
      · exact fit_tup.mpr ⟨by simp, by simpa using f5' 8 (by omega)⟩
      · exact fit_tup.mpr ⟨by simp, by simpa using f5' 8 (by omega)⟩) p10
  refine ⟨es', (.int q1), (.int (1 + q2)), v5, v6, (.tuple [w7, .int q1, v5]), (.tuple [w8, .int (1 - q1), .tuple [w7, .int q1, v5]]), v9, (.int (1 + q6)), (.tuple [.str "leaves", .tuple ys, .int (1 + q6), z]), (.list [v5, v6, .tuple [w7, .int q1, v5], .tuple [w8, .int (1 - q1), .tuple [w7, .int q1, v5]], v9, .tuple [.str "leaves", .tuple ys, .int (1 + q6), z], .tuple [.str "not", .tuple [.str "leaves", .tuple ys, .int (1 + q6), z]], .tuple [w8, .int q1, .tuple [w7, .int q1, v5]], .tuple [.str "not", .tuple [w7, .int q1, v5]], .tuple [.str "some", .int 2, v5], .tuple [.str "every", .bool true, v5]]), s13', ?_, k2, k3⟩

  try simp at g10
  simp [cBody, -ev_47, putF, e1, e2, e3', e4', e5, e6, e7, e8', e9, e10, g7, g8, g10, hy, k1, h3, h4, h5, h6, h7, h8, h9, h10, h11, h12, h13]
end W83

namespace W83
open PySem PySem.Spec PyProof.Rows L2 Pu
def Turn (sc : D) (Γ : En) : Prop := ∃ es s2 s3 s4 s5 s6 s7 s8 s9 s10 s11 s12 s13, Pot es ∧ (notLn s2 = true ∧ notLn s3 = true ∧ notLn s4 = true ∧ notLn s5 = true ∧ notLn s6 = true ∧ notLn s7 = true ∧ notLn s8 = true ∧ notLn s9 = true ∧ notLn s10 = true ∧ notLn s11 = true ∧ notLn s12 = true ∧ notLn s13 = true) ∧ Γ = [.fr sc, .ow (.list es), s2, s3, s4, s5, s6, s7, s8, s9, s10, s11, s12, s13, .no]
theorem turn_ok (sc : D) (d : D) (Γ : En) (h : Turn sc Γ) : ∃ Γ1, gN 2 d Γ = some Γ1 ∧ ∃ Γ2, cBody Γ1 = some (.nx, Γ2) ∧ Turn sc Γ2 := by
  obtain ⟨es, s2, s3, s4, s5, s6, s7, s8, s9, s10, s11, s12, s13, hp, ⟨h2, h3, h4, h5, h6, h7, h8, h9, h10, h11, h12, h13⟩, rfl⟩ := h
  obtain ⟨es', i, d', a5, a6, a7, a8, a9, a10, a11, a12, s13', k1, k2, k3⟩ := body_ok sc d es s3 s4 s5 s6 s7 s8 s9 s10 s11 s12 s13 hp h3 h4 h5 h6 h7 h8 h9 h10 h11 h12 h13
  exact ⟨_, by rw [ev_46, putF (by simpa using h2)]; rfl, _, k1, es', _, _, _, _, _, _, _, _, _, _, _, s13', k2, ⟨rfl, rfl, rfl, rfl, rfl, rfl, rfl, rfl, rfl, rfl, rfl, k3⟩, rfl⟩
theorem law_true (ns : List Int) (h : ns.length ≤ 63) : ∃ Γf, c_law [.fr (.list (ns.map fun n => PySem.PyData.int n))] = some (.fr (.bool true), Γf) := by
  have e0 : c__law_pot [.fr (.list (ns.map .int))] = some (.nw (.list (.int 0 :: .int 5801 :: .int 3 :: ns.map .int)), [.no]) := pot0 (by omega)
  have hp : Pot (.int 0 :: .int 5801 :: .int 3 :: ns.map .int) := ⟨0, 5801, 3, ns, rfl, by omega, by omega, by omega, by omega, by omega⟩
  obtain ⟨Γ', k1, es, s2, s3, s4, s5, s6, s7, s8, s9, s10, s11, s12, s13, _, _, rfl⟩ := forL_inv (g := gN 2) (body := cBody) (I := Turn (.list (ns.map .int))) (rngD 0 10) [.fr (.list (ns.map .int)), .ow (.list (.int 0 :: .int 5801 :: .int 3 :: ns.map .int)), .no, .no, .no, .no, .no, .no, .no, .no, .no, .no, .no, .no, .no]
    ⟨_, _, _, _, _, _, _, _, _, _, _, _, _, hp, ⟨rfl, rfl, rfl, rfl, rfl, rfl, rfl, rfl, rfl, rfl, rfl, rfl⟩, rfl⟩ (fun d _ Γ hΓ => turn_ok _ d Γ hΓ)
  refine ⟨[.no], ?_⟩
  rw [law_eq]
  have e0' : c__law_pot [.fr (.list (ns.map fun n => PySem.PyData.int n))] = some (.nw (.list (.int 0 :: .int 5801 :: .int 3 :: ns.map fun n => PySem.PyData.int n)), [.no]) := e0
  simp [e0', k1]
end W83

open PySem PySem.W PyProof.Rows
set_option maxRecDepth 100000 in
set_option maxHeartbeats 0 in
theorem PySem.Challenge.cw_wholesayings_k83_whole_values_that_are_s_holds : PySem.Challenge.rw_wholesayings_k83_whole_values_that_are_s.Holds := by
  w_on; o_law; k_head; (case hw => w_witness2)
  k_fill
  refine L2.walk_of (l := PySem.Challenge.rw_wholesayings_k83_whole_values_that_are_s) (n := 63) (k := 66) (x := "script") (CX := fun _ => L2.CX0) (sp := fun w => Pu.spP _ W83.c_law) rfl (by decide) rfl ⟨rfl, by decide, by decide⟩ (fun w h Y => PySem.W.kIn_of Y) ?F
    (fun _ H a ns hl _ hS => Pu.law_end hS (W83.law_true ns hl)) (fun _ _ _ _ _ h => h)
  case F =>
    intro w mg fa h KX G hmg
    refine' W83.all_mk KX G hmg ?z_all ?z_bool ?z_int ?z_isinstance ?z_len ?z_list ?z_range ?z_str ?z_tuple ?a_is_integer_ ?l_is_integer ?c_is_integer_ ?k_is_integer_ ?a_are_integers_ ?l_are_integers ?c_are_integers_ ?k_are_integers_ ?a_are_sides_ ?l_are_sides ?c_are_sides_ ?k_are_sides_ ?a_is_said_ ?l_is_said ?c_is_said_ ?k_is_said_ ?a_check_unknowns_ ?l_check_unknowns ?c_check_unknowns_ ?k_check_unknowns_ ?a_is_saying_ ?l_is_saying ?c_is_saying_ ?k_is_saying_ ?a_check_unknowns_18_ ?l_check_unknowns_18 ?c_check_unknowns_18_ ?k_check_unknowns_18_ ?a_is_said_20_ ?l_is_said_20 ?c_is_said_20_ ?k_is_said_20_ ?a_is_open_ ?l_is_open ?c_is_open_ ?k_is_open_ ?a_is_headed_ ?l_is_headed ?c_is_headed_ ?k_is_headed_ ?a_is_half_open_ ?l_is_half_open ?c_is_half_open_ ?k_is_half_open_ ?a_is_closed_ ?l_is_closed ?c_is_closed_ ?k_is_closed_ ?a__law_pot_ ?l__law_pot ?c__law_pot_ ?k__law_pot_ ?a__law_take_ ?l__law_take ?c__law_take_ ?k__law_take_ ?a__law_same_ ?l__law_same ?c__law_same_ ?k__law_same_ ?a__law_small_saying_ ?l__law_small_saying ?c__law_small_saying_ ?k__law_small_saying_ ?a__law_mutant_ ?l__law_mutant ?c__law_mutant_ ?k__law_mutant_ ?a__law_integer_ ?l__law_integer ?c__law_integer_ ?k__law_integer_ ?a__law_row_of_integers_ ?l__law_row_of_integers ?c__law_row_of_integers_ ?k__law_row_of_integers_ ?a__law_is_said_ ?l__law_is_said ?c__law_is_said_ ?k__law_is_said_ ?a__law_is_each_ ?l__law_is_each ?c__law_is_each_ ?k__law_is_each_ ?a__law_is_half_ ?l__law_is_half ?c__law_is_half_ ?k__law_is_half_ ?a__law_is_closed_ ?l__law_is_closed ?c__law_is_closed_ ?k__law_is_closed_ ?a__law_kinds_ ?l__law_kinds ?c__law_kinds_ ?k__law_kinds_ ?a__law_told_ ?l__law_told ?c__law_told_ ?k__law_told_ ?a__law_plain_ ?l__law_plain ?c__law_plain_ ?k__law_plain_ ?a__law_near_ ?l__law_near ?c__law_near_ ?k__law_near_ ?a_law_ ?l_law ?c_law_ ?k_law_ ?m_MADE_OF_ ?l_MADE_OF ?h_MADE_OF ?y_MADE_OF ?m_WORDS_ ?l_WORDS ?h_WORDS ?y_WORDS ?m_BY_WALLS_ ?l_BY_WALLS ?m_EACH_ ?l_EACH
    (case z_all => k_is)
    (case z_bool => k_is)
    (case z_int => k_is)
    (case z_isinstance => k_is)
    (case z_len => k_is)
    (case z_list => k_is)
    (case z_range => k_is)
    (case z_str => k_is)
    (case z_tuple => k_is)
    (case a_is_integer_ => k_is)
    (case l_is_integer => k_is)
    (case c_is_integer_ => k_is)
    (case k_is_integer_ => k_is)
    (case a_are_integers_ => k_is)
    (case l_are_integers => k_is)
    (case c_are_integers_ => k_is)
    (case k_are_integers_ => k_is)
    (case a_are_sides_ => k_is)
    (case l_are_sides => k_is)
    (case c_are_sides_ => k_is)
    (case k_are_sides_ => k_is)
    (case a_is_said_ => k_is)
    (case l_is_said => k_is)
    (case c_is_said_ => k_is)
    (case k_is_said_ => k_is)
    (case a_check_unknowns_ => k_is)
    (case l_check_unknowns => k_is)
    (case c_check_unknowns_ => k_is)
    (case k_check_unknowns_ => k_is)
    (case a_is_saying_ => k_is)
    (case l_is_saying => k_is)
    (case c_is_saying_ => k_is)
    (case k_is_saying_ => k_is)
    (case a_check_unknowns_18_ => k_is)
    (case l_check_unknowns_18 => k_is)
    (case c_check_unknowns_18_ => k_is)
    (case k_check_unknowns_18_ => k_is)
    (case a_is_said_20_ => k_is)
    (case l_is_said_20 => k_is)
    (case c_is_said_20_ => k_is)
    (case k_is_said_20_ => k_is)
    (case a_is_open_ => k_is)
    (case l_is_open => k_is)
    (case c_is_open_ => k_is)
    (case k_is_open_ => k_is)
    (case a_is_headed_ => k_is)
    (case l_is_headed => k_is)
    (case c_is_headed_ => k_is)
    (case k_is_headed_ => k_is)
    (case a_is_half_open_ => k_is)
    (case l_is_half_open => k_is)
    (case c_is_half_open_ => k_is)
    (case k_is_half_open_ => k_is)
    (case a_is_closed_ => k_is)
    (case l_is_closed => k_is)
    (case c_is_closed_ => k_is)
    (case k_is_closed_ => k_is)
    (case a__law_pot_ => k_is)
    (case l__law_pot => k_is)
    (case c__law_pot_ => k_is)
    (case k__law_pot_ => k_is)
    (case a__law_take_ => k_is)
    (case l__law_take => k_is)
    (case c__law_take_ => k_is)
    (case k__law_take_ => k_is)
    (case a__law_same_ => k_is)
    (case l__law_same => k_is)
    (case c__law_same_ => k_is)
    (case k__law_same_ => k_is)
    (case a__law_small_saying_ => k_is)
    (case l__law_small_saying => k_is)
    (case c__law_small_saying_ => k_is)
    (case k__law_small_saying_ => k_is)
    (case a__law_mutant_ => k_is)
    (case l__law_mutant => k_is)
    (case c__law_mutant_ => k_is)
    (case k__law_mutant_ => k_is)
    (case a__law_integer_ => k_is)
    (case l__law_integer => k_is)
    (case c__law_integer_ => k_is)
    (case k__law_integer_ => k_is)
    (case a__law_row_of_integers_ => k_is)
    (case l__law_row_of_integers => k_is)
    (case c__law_row_of_integers_ => k_is)
    (case k__law_row_of_integers_ => k_is)
    (case a__law_is_said_ => k_is)
    (case l__law_is_said => k_is)
    (case c__law_is_said_ => k_is)
    (case k__law_is_said_ => k_is)
    (case a__law_is_each_ => k_is)
    (case l__law_is_each => k_is)
    (case c__law_is_each_ => k_is)
    (case k__law_is_each_ => k_is)
    (case a__law_is_half_ => k_is)
    (case l__law_is_half => k_is)
    (case c__law_is_half_ => k_is)
    (case k__law_is_half_ => k_is)
    (case a__law_is_closed_ => k_is)
    (case l__law_is_closed => k_is)
    (case c__law_is_closed_ => k_is)
    (case k__law_is_closed_ => k_is)
    (case a__law_kinds_ => k_is)
    (case l__law_kinds => k_is)
    (case c__law_kinds_ => k_is)
    (case k__law_kinds_ => k_is)
    (case a__law_told_ => k_is)
    (case l__law_told => k_is)
    (case c__law_told_ => k_is)
    (case k__law_told_ => k_is)
    (case a__law_plain_ => k_is)
    (case l__law_plain => k_is)
    (case c__law_plain_ => k_is)
    (case k__law_plain_ => k_is)
    (case a__law_near_ => k_is)
    (case l__law_near => k_is)
    (case c__law_near_ => k_is)
    (case k__law_near_ => k_is)
    (case a_law_ => k_is)
    (case l_law => k_is)
    (case c_law_ => k_is)
    (case k_law_ => k_is)
    (case m_MADE_OF_ => k_is)
    (case l_MADE_OF => k_is)
    (case h_MADE_OF => (repeat (first | exact True.intro | refine ⟨⟨_, _, rfl, rfl⟩, ?_⟩)))
    (case y_MADE_OF => decide)
    (case m_WORDS_ => k_is)
    (case l_WORDS => k_is)
    (case h_WORDS => (repeat (first | exact True.intro | refine ⟨⟨_, _, rfl, rfl⟩, ?_⟩)))
    (case y_WORDS => decide)
    (case m_BY_WALLS_ => k_is)
    (case l_BY_WALLS => k_is)
    (case m_EACH_ => k_is)
    (case l_EACH => k_is)
