import PyProof.Rows.All
import Wide.All
import OpenK.AllK
import Wide.FinOn
import HandS.ForMost
import HandS.Lambda
import HandS.Strs
import HandS.TupMul
import HandS.TupAny
import HandS.IsInst
import HandS.Style
import HandS.Codes
import HandS.WideBits
import HandS.Conv
import HandS.Zip
import HandS.HeadHook4
import HandS.Deep
import KE.GoesEnum
import KE.GoesMore
import PySem.Challenge.RW_handlerims_k60_whole_rounds_folded
import KE.KStateDown
import KE.KExcPX
import HandS.HeadWalk
import HandS.Head0
import HandS.Head1
import HandS.Head2
import HandS.Head3
import HandS.ExcField
import HandS.ExcInit
import KE.KSuper
import HandS.SetBool
import HandS.SetFor
import HandS.Gcd
import KE.KMathGC
import KE.SortData
import HandS.SortInts
import HandS.RepeatKit
import KE.KDictZip
import HandS.Star
import PyProof.CollectWalk
import PyProof.ListNew
import KE.DataMinMax
import KE.KDictSum
import HandS.More
import OpenK.KOps
import HandS.OwnEq
import HandS.Nested
import HandS.MakeKwOnly
import PyProof.InstEq
import KE.KCallOwn
import HandS.MapJoin
import PyProof.Rows.StrFin3
import HandS.HotCalls
import PyProof.Rows.TupIter
import HandS.ExcIs
import KE.KExcIs
import HandS.LawCells
import HandS.ExcInitHot
set_option Elab.async false
set_option linter.all false
set_option maxRecDepth 100000
set_option maxHeartbeats 0
namespace Rf
open PySem PySem.Spec PyProof.Rows L2

/-! ### what a value stands for -/
structure Rp where
  p : Hp → V → Prop
  mono : ∀ {H H' : Hp} {v : V}, Same H H' → p H v → p H' v
def rv (x : V) : Rp := ⟨fun _ v => v = x, fun _ h => h⟩
abbrev rInt (n : Int) : Rp := rv (.int n)
abbrev rBl (b : Bool) : Rp := rv (.bl b)
abbrev rStr (z : Str) : Rp := rv (.str z)
abbrev rNon : Rp := rv .non
def rAny : Rp := ⟨fun _ _ => True, fun _ h => h⟩
def Reps (H : Hp) (rs : List Rp) (vs : List V) : Prop := Paired (fun (r : Rp) v => r.p H v) rs vs
theorem Reps.mono {H H' : Hp} (e : Same H H') {rs : List Rp} {vs : List V} (h : Reps H rs vs) : Reps H' rs vs := Paired.mapP h fun r _ q => r.mono e q
theorem Reps.length {H : Hp} {rs : List Rp} {vs : List V} (h : Reps H rs vs) : rs.length = vs.length := Paired.length h
def rL (rs : List Rp) : Rp := ⟨fun H v => ∃ a vs, v = .ref a ∧ H a = some (.lst vs) ∧ Reps H rs vs, fun e ⟨a, vs, h1, h2, h3⟩ => ⟨a, vs, h1, e _ _ h2, h3.mono e⟩⟩
def rT (rs : List Rp) : Rp := ⟨fun H v => ∃ a vs, v = .ref a ∧ H a = some (.tup vs) ∧ Reps H rs vs, fun e ⟨a, vs, h1, h2, h3⟩ => ⟨a, vs, h1, e _ _ h2, h3.mono e⟩⟩
/-- entries: the keys are as told, the values stand for what is told -/
def Ents {κ : Type} (H : Hp) (es : List (κ × Rp)) (ws : List (κ × V)) : Prop := Paired (fun (p : κ × Rp) (q : κ × V) => p.1 = q.1 ∧ p.2.p H q.2) es ws
theorem Ents.mono {κ : Type} {H H' : Hp} (e : Same H H') {es : List (κ × Rp)} {ws : List (κ × V)} (h : Ents H es ws) : Ents H' es ws := Paired.mapP h fun p _ q => ⟨q.1, p.2.mono e q.2⟩
/-- an instance of the class at C with these attributes, in order -/
def rI (C : Addr) (fs : List (Str × Rp)) : Rp := ⟨fun H v => ∃ a dx ws, v = .ref a ∧ H a = some (.ins C dx ws) ∧ Ents H fs ws, fun e ⟨a, dx, ws, h1, h2, h3⟩ => ⟨a, dx, ws, h1, e _ _ h2, h3.mono e⟩⟩
/-- dicts that stand still (locked) -/
theorem Rd.same {H H' : Hp} {a : Addr} {u : HO} (e : Same H H') (h : Rd H a u) : Rd H' a u := h.elim (fun q => .inl (e _ _ q)) fun ⟨o, q⟩ => .inr ⟨o, e _ _ q⟩
def rDK (es : List (Key × Rp)) : Rp := ⟨fun H v => ∃ a o ws, v = .ref a ∧ H a = some (.frz o (.dK ws)) ∧ Ents H es ws, fun e ⟨a, o, ws, h1, h2, h3⟩ => ⟨a, o, ws, h1, e _ _ h2, h3.mono e⟩⟩
def rDT (es : List (List Key × Rp)) : Rp := ⟨fun H v => ∃ a o ws, v = .ref a ∧ H a = some (.frz o (.dT ws)) ∧ Ents H es ws, fun e ⟨a, o, ws, h1, h2, h3⟩ => ⟨a, o, ws, h1, e _ _ h2, h3.mono e⟩⟩

/-! ### the heap grows: H all that is tracked, D what is told of (it stands still) -/
/-- what never changes and is no name's own: a tuple, a lambda's code object -/
def Still (o : HO) : Prop := (∃ xs, o = .tup xs) ∨ ∃ c q, o = LamX.CodeO c q
theorem still_lst {xs : List V} (h : Still (.lst xs)) : False := by
  rcases h with ⟨_, e⟩ | ⟨c, q, e⟩
  · cases e
  · unfold LamX.CodeO at e; cases e
theorem still_set {w : World} {a : Addr} {S : Int → Bool} {n : Nat} (h : Still (SetO w a S n)) : False := by
  rcases h with ⟨_, e⟩ | ⟨c, q, e⟩
  · unfold SetO at e; cases e
  · unfold SetO LamX.CodeO at e
    have e := HO.ext.inj e
    have at_ : ∀ (b : Addr) (o : Obj), ({ objs := Array.replicate (c + 1) ({ cls := .none, data := .fields #[.none, .str q 0] } : Obj) } : Heap).get? b = some o → o.data = .fields #[.none, .str q 0] := fun b o h => by
      unfold Heap.get? at h
      by_cases hb : b < c + 1
      · have z : (Array.replicate (c + 1) ({ cls := .none, data := .fields #[.none, .str q 0] } : Obj))[b]? = some { cls := .none, data := .fields #[.none, .str q 0] } := by simp [hb]
        simp only [z] at h
        cases h; rfl
      · have z : (Array.replicate (c + 1) ({ cls := .none, data := .fields #[.none, .str q 0] } : Obj))[b]? = none := Array.getElem?_eq_none (by rw [Array.size_replicate]; exact Nat.le_of_not_lt hb)
        simp only [z] at h
        cases h
    have z : (Array.replicate (c + 1) ({ cls := .none, data := .fields #[.none, .str q 0] } : Obj))[c]? = some { cls := .none, data := .fields #[.none, .str q 0] } := by simp
    have hS := (congrFun e { objs := Array.replicate (c + 1) ({ cls := .none, data := .fields #[.none, .str q 0] } : Obj) }).mpr ⟨{ cls := .none, data := .fields #[.none, .str q 0] }, #[.none, .str q 0], 0, (by unfold Heap.get?; simp only [z]), rfl, rfl⟩
    obtain ⟨o, es, ep, t, ho, hex, hd, _⟩ := hS
    rw [at_ _ _ ho] at hd
    cases hd
/-- nothing that is held there, or a thing that stands still by itself -/
def Free (H : Hp) (a : Addr) : Prop := H a = none ∨ ∃ o, H a = some o ∧ Still o
theorem Free.back {H H' : Hp} {a : Addr} (h : Free H' a) (e : Same H H') : Free H a := by
  cases q : H a with
  | none => exact .inl q
  | some u =>
    rcases h with z | ⟨o, z, st⟩
    · rw [e a u q] at z; cases z
    · rw [e a u q] at z; cases z; exact .inr ⟨_, q, st⟩
structure Grow (H D H' D' : Hp) : Prop where
  h : Same H H'
  d : Same D D'
  i : Same D' H'
  f : ∀ a, D' a ≠ none → D a ≠ none ∨ Free H a
theorem Grow.refl {H D : Hp} (s : Same D H) : Grow H D H D := ⟨Same.refl _, Same.refl _, s, fun _ h => .inl h⟩
theorem Grow.trans {H D H1 D1 H2 D2 : Hp} (a : Grow H D H1 D1) (b : Grow H1 D1 H2 D2) : Grow H D H2 D2 := ⟨a.h.trans b.h, a.d.trans b.d, b.i, fun x h => by
  rcases b.f x h with q | q
  · exact a.f x q
  · exact .inr (q.back a.h)⟩
theorem same_upd {H : Hp} {p : Addr} {o : HO} (n : H p = none) : Same H (upd H p o) := fun b u e => by rw [upd_ne (ne_of_none e n)]; exact e
theorem same_upd2 {D H : Hp} {p : Addr} {o : HO} (s : Same D H) (n : H p = none) : Same (upd D p o) (upd H p o) := fun b u e => by
  by_cases hb : b = p
  · subst hb; rw [upd_same] at e ⊢; exact e
  · rw [upd_ne hb] at e ⊢; exact s b u e
/-- a new object, told of -/
theorem Grow.new {H D : Hp} {p : Addr} {o : HO} (s : Same D H) (n : H p = none) : Grow H D (upd H p o) (upd D p o) := ⟨same_upd n, same_upd (s.free n), same_upd2 s n, fun a h => by
  by_cases hb : a = p
  · subst hb; exact .inr (.inl n)
  · rw [upd_ne hb] at h; exact .inl h⟩
/-- a new object, not told of -/
theorem Grow.own {H D : Hp} {p : Addr} {o : HO} (s : Same D H) (n : H p = none) : Grow H D (upd H p o) D := ⟨same_upd n, Same.refl _, s.trans (same_upd n), fun a h => .inl h⟩

/-! ### slots -/
/-- what a name holds: nothing that is known; data; a list, a dict of the def's own (it may change) -/
inductive Sl where
  | non | d (r : Rp) | l (rs : List Rp) | k (es : List (Key × Rp)) | t (es : List (List Key × Rp)) | i (x dx C : Addr) (fs : List (Str × Rp)) | b (x : Addr) (q : Str) | j (x : Addr) (rs : List Rp)
def Sl.own : Sl → Bool
  | .l _ => true
  | .k _ => true
  | .t _ => true
  | .i _ _ _ _ => true
  | .b _ _ => true
  | .j _ _ => true
  | _ => false
/-- a table of code objects of the name q -/
def TabD (D : Hp) (q : Str) (ps : Array Value) : Prop := TriplesOk ps.toList ∧ ∀ (pos : Pos) (cv : Value), codeAmong pos ps.toList = some cv → ∃ c, cv = .ref c ∧ D c = some (LamX.CodeO c q)
def Sl.ho (D : Hp) : Sl → Addr → HO → Prop
  | .l rs, _, .lst vs => Reps D rs vs
  | .k es, _, .dK ws => Ents D es ws
  | .t es, _, .dT ws => Ents D es ws
  | .i x dx C fs, p, .ins C' dx' ws => (p = x ∧ dx' = dx ∧ C' = C) ∧ Ents D fs ws
  | .b x q, p, .tbl ps => p = x ∧ TabD D q ps
  | .j x rs, p, .lst vs => p = x ∧ Reps D rs vs
  | _, _, _ => False
theorem Sl.ho_mono {D D' : Hp} (e : Same D D') {s : Sl} {p : Addr} {o : HO} (h : s.ho D p o) : s.ho D' p o := by
  cases s <;> cases o <;> first | exact Reps.mono e h | exact Ents.mono e h | exact ⟨h.1, Ents.mono e h.2⟩ | exact ⟨h.1, Reps.mono e h.2⟩ | exact ⟨h.1, h.2.1, fun pos cv hc => let ⟨c, e1, e2⟩ := h.2.2 pos cv hc; ⟨c, e1, e _ _ e2⟩⟩ | exact h.elim
theorem own_tup {D : Hp} {s : Sl} {p : Addr} {xs : List V} (h : s.ho D p (.tup xs)) : False := by cases s <;> exact h
theorem own_still {D : Hp} {s : Sl} {p : Addr} {o : HO} (h : s.ho D p o) (st : Still o) : False := by
  rcases st with ⟨xs, e⟩ | ⟨c, q, e⟩
  · subst e; exact own_tup h
  · subst e; unfold LamX.CodeO at h; cases s <;> exact h
/-- the slots s, the data D (it began as D0), what the caller has at F -/
structure Ok (g : List Sl) (F D0 : Hp) (σ : L2.St) (H D : Hp) : Prop where
  sub : Same D H
  fr : Same F H
  d0 : Same D0 D
  new : ∀ a, D a ≠ none → D0 a ≠ none ∨ Free F a
  len : σ.length = g.length
  dat : ∀ (i : Nat) (r : Rp), g[i]? = some (.d r) → ∃ v, σ[i]? = some (some v) ∧ r.p D v
  own : ∀ (i : Nat) (s : Sl), g[i]? = some s → s.own = true → ∃ (p : Addr) (o : HO), σ[i]? = some (some (V.ref p)) ∧ H p = some o ∧ D p = none ∧ F p = none ∧ s.ho D p o
  apart : ∀ (i j : Nat) (s t : Sl) (p : Addr), g[i]? = some s → g[j]? = some t → s.own = true → t.own = true → σ[i]? = some (some (V.ref p)) → σ[j]? = some (some (V.ref p)) → i = j
section
variable {g : List Sl} {F D0 : Hp} {σ : L2.St} {H D H' D' : Hp} {i : Nat} {s s' : Sl} {r : Rp} {v : V} {p : Addr} {o : HO}
theorem Ok.grow (ok : Ok g F D0 σ H D) (e : Grow H D H' D') : Ok g F D0 σ H' D' where
  sub := e.i
  fr := ok.fr.trans e.h
  d0 := ok.d0.trans e.d
  new := fun a h => by
    rcases e.f a h with q | q
    · exact ok.new a q
    · exact .inr (q.back ok.fr)
  len := ok.len
  dat := fun i r h => let ⟨v, a, b⟩ := ok.dat i r h; ⟨v, a, r.mono e.d b⟩
  own := fun i s h h2 => by
    obtain ⟨p, o, a, b, c, d, f⟩ := ok.own i s h h2
    have n : D' p = none := by
      cases q : D' p with
      | none => rfl
      | some u =>
        rcases e.f p (by rw [q]; simp) with z | z
        · exact absurd c z
        · rcases z with z | ⟨y, z, st⟩
          · rw [b] at z; cases z
          · rw [b] at z; cases z; exact (own_still f st).elim
    exact ⟨p, o, a, e.h _ _ b, n, d, Sl.ho_mono e.d f⟩
  apart := ok.apart
theorem get_set {α : Type} {l : List α} {i j : Nat} {x y : α} (h : (l.set i x)[j]? = some y) : (i = j ∧ y = x) ∨ (i ≠ j ∧ l[j]? = some y) := by
  by_cases e : i = j
  · subst e
    by_cases hl : i < l.length
    · rw [List.getElem?_set_self hl] at h; exact .inl ⟨rfl, (Option.some.inj h).symm⟩
    · rw [List.getElem?_eq_none (by simpa using hl)] at h; cases h
  · rw [List.getElem?_set_ne e] at h; exact .inr ⟨e, h⟩
theorem set_len {α : Type} {l : List α} {i : Nat} {x y : α} (h : (l.set i x)[i]? = some y) : i < l.length := by
  obtain ⟨q, _⟩ := List.getElem?_eq_some_iff.mp h
  simpa using q
/-- a name gets data -/
theorem Ok.setD (ok : Ok g F D0 σ H D) (h : r.p D v) : Ok (g.set i (.d r)) F D0 (σ.set i (some v)) H D where
  sub := ok.sub
  fr := ok.fr
  d0 := ok.d0
  new := ok.new
  len := by rw [List.length_set, List.length_set]; exact ok.len
  dat := fun j r' q => by
    rcases get_set q with ⟨e, z⟩ | ⟨e, z⟩
    · subst e
      cases z
      exact ⟨v, by rw [List.getElem?_set_self (by rw [ok.len]; exact set_len q)], h⟩
    · rw [List.getElem?_set_ne e]; exact ok.dat j r' z
  own := fun j s' q o' => by
    rcases get_set q with ⟨e, z⟩ | ⟨e, z⟩
    · subst z; cases o'
    · rw [List.getElem?_set_ne e]; exact ok.own j s' z o'
  apart := fun j k s t p q1 q2 o1 o2 e1 e2 => by
    rcases get_set q1 with ⟨e, z⟩ | ⟨e, z⟩
    · subst z; cases o1
    · rcases get_set q2 with ⟨e', z'⟩ | ⟨e', z'⟩
      · subst z'; cases o2
      · rw [List.getElem?_set_ne e] at e1; rw [List.getElem?_set_ne e'] at e2
        exact ok.apart j k s t p z z' o1 o2 e1 e2
/-- a name is forgotten -/
theorem Ok.non (ok : Ok g F D0 σ H D) (x : Option V) : Ok (g.set i .non) F D0 (σ.set i x) H D where
  sub := ok.sub
  fr := ok.fr
  d0 := ok.d0
  new := ok.new
  len := by rw [List.length_set, List.length_set]; exact ok.len
  dat := fun j r' q => by
    rcases get_set q with ⟨e, z⟩ | ⟨e, z⟩
    · cases z
    · rw [List.getElem?_set_ne e]; exact ok.dat j r' z
  own := fun j s' q o' => by
    rcases get_set q with ⟨e, z⟩ | ⟨e, z⟩
    · subst z; cases o'
    · rw [List.getElem?_set_ne e]; exact ok.own j s' z o'
  apart := fun j k s t p q1 q2 o1 o2 e1 e2 => by
    rcases get_set q1 with ⟨e, z⟩ | ⟨e, z⟩
    · subst z; cases o1
    · rcases get_set q2 with ⟨e', z'⟩ | ⟨e', z'⟩
      · subst z'; cases o2
      · rw [List.getElem?_set_ne e] at e1; rw [List.getElem?_set_ne e'] at e2
        exact ok.apart j k s t p z z' o1 o2 e1 e2
theorem set_self' {α : Type} {l : List α} {i : Nat} {x : α} (h : l[i]? = some x) : l.set i x = l := by
  apply List.ext_getElem?
  intro j
  by_cases e : i = j
  · subst e
    obtain ⟨q, _⟩ := List.getElem?_eq_some_iff.mp h
    rw [List.getElem?_set_self q, h]
  · rw [List.getElem?_set_ne e]
theorem Ok.forget (ok : Ok g F D0 σ H D) : Ok (g.set i .non) F D0 σ H D := by
  cases e : σ[i]? with
  | none =>
    have q : σ.length ≤ i := List.getElem?_eq_none_iff.mp e
    rw [List.set_eq_of_length_le (by rw [← ok.len]; exact q)]
    exact ok
  | some x =>
    have q := ok.non (i := i) x
    rw [set_self' e] at q
    exact q
/-- a name gets a new object of its own -/
theorem Ok.setNew (ok : Ok g F D0 σ H D) (n : H p = none) (hs : s.own = true) (h : s.ho D p o) : Ok (g.set i s) F D0 (σ.set i (some (.ref p))) (upd H p o) D where
  sub := ok.sub.trans (same_upd n)
  fr := ok.fr.trans (same_upd n)
  d0 := ok.d0
  new := ok.new
  len := by rw [List.length_set, List.length_set]; exact ok.len
  dat := fun j r' q => by
    rcases get_set q with ⟨e, z⟩ | ⟨e, z⟩
    · rw [← z] at hs; cases hs
    · rw [List.getElem?_set_ne e]; exact ok.dat j r' z
  own := fun j s' q o' => by
    rcases get_set q with ⟨e, z⟩ | ⟨e, z⟩
    · subst e
      cases z
      exact ⟨p, o, by rw [List.getElem?_set_self (by rw [ok.len]; exact set_len q)], upd_same, ok.sub.free n, ok.fr.free n, h⟩
    · rw [List.getElem?_set_ne e]
      obtain ⟨p', u, a, b, c, d, f⟩ := ok.own j s' z o'
      exact ⟨p', u, a, by rw [upd_ne (ne_of_none b n)]; exact b, c, d, f⟩
  apart := fun j k s1 t1 p' q1 q2 o1 o2 e1 e2 => by
    have no : ∀ {j' : Nat} {s' : Sl}, g[j']? = some s' → s'.own = true → σ[j']? = some (some (V.ref p')) → p' ≠ p := fun a b c z => by
      obtain ⟨p2, u, a1, b1, _⟩ := ok.own _ _ a b
      rw [c] at a1; cases a1; subst z; rw [n] at b1; cases b1
    rcases get_set q1 with ⟨e, z⟩ | ⟨e, z⟩
    · rcases get_set q2 with ⟨e', z'⟩ | ⟨e', z'⟩
      · exact e.symm.trans e'
      · subst e
        rw [List.getElem?_set_self (by rw [ok.len]; exact set_len q1)] at e1
        rw [List.getElem?_set_ne e'] at e2
        cases e1
        exact absurd rfl (no z' o2 e2)
    · rcases get_set q2 with ⟨e', z'⟩ | ⟨e', z'⟩
      · subst e'
        rw [List.getElem?_set_self (by rw [ok.len]; exact set_len q2)] at e2
        rw [List.getElem?_set_ne e] at e1
        cases e2
        exact absurd rfl (no z o1 e1)
      · rw [List.getElem?_set_ne e] at e1; rw [List.getElem?_set_ne e'] at e2
        exact ok.apart j k s1 t1 p' z z' o1 o2 e1 e2
/-- an object of its own changes -/
theorem Ok.change (ok : Ok g F D0 σ H D) (hg : g[i]? = some s) (hs : s.own = true) (hp : σ[i]? = some (some (.ref p))) (hs' : s'.own = true) (h : s'.ho D p o) : Ok (g.set i s') F D0 σ (upd H p o) D := by
  obtain ⟨p1, u1, a1, b1, c1, d1, f1⟩ := ok.own i s hg hs
  rw [hp] at a1; cases a1
  refine ⟨fun b u e => ?_, fun b u e => ?_, ok.d0, ok.new, by rw [List.length_set]; exact ok.len, fun j r' q => ?_, fun j s1 q o1 => ?_, fun j k s1 t1 p' q1 q2 o1 o2 e1 e2 => ?_⟩
  · rw [upd_ne (ne_of_none e c1)]; exact ok.sub b u e
  · rw [upd_ne (ne_of_none e d1)]; exact ok.fr b u e
  · rcases get_set q with ⟨e, z⟩ | ⟨e, z⟩
    · rw [← z] at hs'; cases hs'
    · exact ok.dat j r' z
  · rcases get_set q with ⟨e, z⟩ | ⟨e, z⟩
    · subst e; cases z
      exact ⟨p, o, hp, upd_same, c1, d1, h⟩
    · obtain ⟨p2, u2, a2, b2, c2, d2, f2⟩ := ok.own j s1 z o1
      have ne : p2 ≠ p := fun w => e (ok.apart i j s s1 p hg z hs o1 hp (by rw [← w]; exact a2))
      exact ⟨p2, u2, a2, by rw [upd_ne ne]; exact b2, c2, d2, f2⟩
  · have back : ∀ {j' : Nat} {t' : Sl}, (g.set i s')[j']? = some t' → t'.own = true → ∃ t2 : Sl, g[j']? = some t2 ∧ t2.own = true := fun q o => by
      rcases get_set q with ⟨e, z⟩ | ⟨e, z⟩
      · subst e; exact ⟨s, hg, hs⟩
      · exact ⟨_, z, o⟩
    obtain ⟨t2, h2, w2⟩ := back q1 o1
    obtain ⟨t3, h3, w3⟩ := back q2 o2
    exact ok.apart j k t2 t3 p' h2 h3 w2 w3 e1 e2
/-- what an own object is told to be, once it stands still -/
def Sl.fz : Sl → Rp
  | .l rs => rL rs
  | .k _ => rAny
  | .t _ => rAny
  | .i _ _ C fs => rI C fs
  | .b _ _ => rAny
  | .j _ rs => rL rs
  | .d r => r
  | .non => rAny
theorem Ok.freeze (ok : Ok g F D0 σ H D) (hg : g[i]? = some s) (hs : s.own = true) : ∃ D', Ok (g.set i (.d s.fz)) F D0 σ H D' := by
  obtain ⟨p, o, a, b, c, d, f⟩ := ok.own i s hg hs
  have sD : Same D (upd D p o) := same_upd c
  have hr : s.fz.p (upd D p o) (.ref p) := by
    cases s <;> cases o <;> first | exact f.elim | exact ⟨p, _, rfl, upd_same, Reps.mono sD f⟩ | exact True.intro | (obtain ⟨⟨f0, f00, f1⟩, f2⟩ := f; subst f1; exact ⟨p, _, _, rfl, upd_same, Ents.mono sD f2⟩) | (obtain ⟨f1, f2⟩ := f; exact ⟨p, _, rfl, upd_same, Reps.mono sD f2⟩) | cases hs
  refine ⟨upd D p o, fun x u e => ?_, ok.fr, ok.d0.trans sD, fun x h => ?_, by rw [List.length_set]; exact ok.len, fun j r' q => ?_, fun j s1 q o1 => ?_, fun j k s1 t1 p' q1 q2 o1 o2 e1 e2 => ?_⟩
  · by_cases hx : x = p
    · subst hx; rw [upd_same] at e; cases e; exact b
    · rw [upd_ne hx] at e; exact ok.sub x u e
  · by_cases hx : x = p
    · subst hx; exact .inr (.inl d)
    · rw [upd_ne hx] at h; exact ok.new x h
  · rcases get_set q with ⟨e, z⟩ | ⟨e, z⟩
    · subst e; cases z; exact ⟨_, a, hr⟩
    · obtain ⟨v, q1, q2⟩ := ok.dat j r' z
      exact ⟨v, q1, r'.mono sD q2⟩
  · rcases get_set q with ⟨e, z⟩ | ⟨e, z⟩
    · subst z; cases o1
    · obtain ⟨p2, u2, a2, b2, c2, d2, f2⟩ := ok.own j s1 z o1
      have ne : p2 ≠ p := fun w => e (ok.apart i j s s1 p hg z hs o1 a (by rw [← w]; exact a2))
      exact ⟨p2, u2, a2, b2, by rw [upd_ne ne]; exact c2, d2, Sl.ho_mono sD f2⟩
  · rcases get_set q1 with ⟨e, z⟩ | ⟨e, z⟩
    · subst z; cases o1
    · rcases get_set q2 with ⟨e', z'⟩ | ⟨e', z'⟩
      · subst z'; cases o2
      · exact ok.apart j k s1 t1 p' z z' o1 o2 e1 e2
/-- names of a block are forgotten -/
def wipeG (g : List Sl) : List Nat → List Sl
  | [] => g
  | v :: vs => (wipeG g vs).set v .non
theorem Ok.wipe (ok : Ok g F D0 σ H D) : ∀ vs : List Nat, Ok (wipeG g vs) F D0 (L2.wipe σ vs) H D
  | [] => ok
  | _ :: vs => (Ok.wipe ok vs).non none
end
end Rf

namespace Rf
open PySem PySem.Spec PyProof.Rows L2

/-! ### the readings that are used: from slots that are told of to data that is told of -/
def Give (r : Rp) (H D : Hp) (Q : VK) : Prop := ∀ v H' D', Grow H D H' D' → r.p D' v → Q v H'
/-- a new list -/
def GiveN (rs : List Rp) (H D : Hp) (Q : VK) : Prop := ∀ p vs H' D', Grow H D H' D' → H' p = none → Reps D' rs vs → Q (.ref p) (upd H' p (.lst vs))
def tG (g : List Sl) (r : Rp) : TE := fun σ H Q => ∃ F D0 D, Ok g F D0 σ H D ∧ Give r H D Q
def tN (g : List Sl) (rs : List Rp) : TE := fun σ H Q => ∃ F D0 D, Ok g F D0 σ H D ∧ GiveN rs H D Q
def tT (g : List Sl) (b : Bool) : TT := fun σ H Q => ∃ F D0 D, Ok g F D0 σ H D ∧ ∀ H' D', Grow H D H' D' → Q b H'
def tA (g : List Sl) (rs : List Rp) : TA := fun σ H Q => ∃ F D0 D, Ok g F D0 σ H D ∧ ∀ vs H' D', Grow H D H' D' → Reps D' rs vs → Q vs H'
abbrev EG (X : Cx) (e : Expr) (g : List Sl) (r : Rp) : Prop := PE X e (tG g r)
abbrev NG (X : Cx) (e : Expr) (g : List Sl) (rs : List Rp) : Prop := PE X e (tN g rs)
abbrev BG (X : Cx) (e : Expr) (g : List Sl) (b : Bool) : Prop := PT X e (tT g b)
abbrev AG (X : Cx) (es : List Expr) (g : List Sl) (rs : List Rp) : Prop := PA X es (tA g rs)
theorem pe_to {X : Cx} {e : Expr} {te te' : TE} (h : PE X e te) (m : ∀ σ H Q, te' σ H Q → te σ H Q) : PE X e te' := ⟨fun pins s σ H Q I q => h.run pins s σ H Q I (m _ _ _ q)⟩
theorem pt_to {X : Cx} {e : Expr} {te te' : TT} (h : PT X e te) (m : ∀ σ H Q, te' σ H Q → te σ H Q) : PT X e te' := ⟨fun pins s σ H Q I q => h.run pins s σ H Q I (m _ _ _ q)⟩
theorem pw_to {X : Cx} {e : Expr} {te te' : TT} (h : PW X e te) (m : ∀ σ H Q, te' σ H Q → te σ H Q) : PW X e te' := ⟨fun w pins s σ H Q I q => h.run w pins s σ H Q I (m _ _ _ q)⟩
theorem pa_to {X : Cx} {e : List Expr} {te te' : TA} (h : PA X e te) (m : ∀ σ H Q, te' σ H Q → te σ H Q) : PA X e te' := ⟨fun p pins s σ H Q I q => h.run p pins s σ H Q I (m _ _ _ q)⟩
theorem pe_no {X : Cx} {e : Expr} : PE X e fun _ _ _ => False := ⟨fun _ _ _ _ _ _ h => h.elim⟩
theorem pt_no {X : Cx} {e : Expr} : PT X e fun _ _ _ => False := ⟨fun _ _ _ _ _ _ h => h.elim⟩
theorem pw_no {X : Cx} {e : Expr} : PW X e fun _ _ _ => False := ⟨fun _ _ _ _ _ _ _ h => h.elim⟩
theorem Give.here {r : Rp} {H D : Hp} {Q : VK} {v : V} (k : Give r H D Q) (s : Same D H) (h : r.p D v) : Q v H := k v H D (Grow.refl s) h
theorem Give.later {r : Rp} {H D H1 D1 : Hp} {Q : VK} (k : Give r H D Q) (e : Grow H D H1 D1) : Give r H1 D1 Q := fun v H' D' g h => k v H' D' (e.trans g) h
theorem Give.n {rs : List Rp} {H D : Hp} {Q : VK} (k : Give (rL rs) H D Q) : GiveN rs H D Q := fun p vs H' D' e n h =>
  k (.ref p) _ _ (e.trans (Grow.new e.i n)) ⟨p, vs, rfl, upd_same, h.mono (same_upd (e.i.free n))⟩
/-- a new object that is told of -/
theorem Give.tup {rs : List Rp} {H D : Hp} {Q : VK} {vs : List V} (k : Give (rT rs) H D Q) (s : Same D H) (h : Reps D rs vs) {p : Addr} (n : H p = none) : Q (.ref p) (upd H p (.tup vs)) :=
  k (.ref p) _ _ (Grow.new s n) ⟨p, vs, rfl, upd_same, h.mono (same_upd (s.free n))⟩
section
variable {X : Cx} {g : List Sl} {a b c e : Expr} {es rest : List Expr} {pos p1 p2 : Pos} {r ra rb : Rp} {rs : List Rp} {x f : Str} {k k1 k2 : Bool} {i j : Int}
theorem eg_n (h : NG X e g rs) : EG X e g (rL rs) := pe_to h fun _ _ _ ⟨F, D0, D, ok, k⟩ => ⟨F, D0, D, ok, k.n⟩
/-! ### names, constants -/
theorem eg_name (n : Nat) (hg : g[n]? = some (.d r) := by rfl) (hN : X.N[n]? = some x := by rfl) (hv : Vis X.env.scope x := by first | exact Or.inl rfl | exact Or.inr (Or.inl rfl) | exact Or.inr (Or.inr rfl)) (hd : (x == ("__debug__" : Str)) = false := by decide)
    (hcd : (x == ("__classdict__" : Str)) = false := by decide) : EG X (.Name x pos) g r := pe_to (pe_var hN hv hd hcd) fun σ H Q ⟨F, D0, D, ok, k⟩ => by
  obtain ⟨v, h1, h2⟩ := ok.dat n r hg
  exact ⟨v, h1, k.here ok.sub h2⟩
theorem eg_c {v : V} (h : PE X e (tC v)) : EG X e g (rv v) := pe_to h fun σ H Q ⟨F, D0, D, ok, k⟩ => k.here ok.sub rfl
theorem eg_int {n : Int} {u} : EG X (.Constant (.int n) u pos) g (rInt n) := eg_c pe_int
theorem eg_bl {n : Bool} {u} : EG X (.Constant (.bool n) u pos) g (rBl n) := eg_c pe_bl
theorem eg_non {u} : EG X (.Constant .none u pos) g rNon := eg_c pe_non
theorem eg_str {z : Str} {u} : EG X (.Constant (.str z) u pos) g (rStr z) := eg_c pe_str
theorem eg_glob {v : V} {u : Value} (hm : X.mg x = some u) (hr : RelV v u) (hg : Gl X x := by rfl) (hd : (x == ("__debug__" : Str)) = false := by decide) : EG X (.Name x pos) g (rv v) := eg_c (pe_glob hg hm hr hd)
theorem eg_ty {T : String} (hm : X.mg x = none) (hv : bootBuiltins x = some (.type T)) (hg : Gl X x := by rfl) (hn : x ≠ "__name__" := by decide) (hd : (x == ("__debug__" : Str)) = false := by decide) : EG X (.Name x pos) g (rv (.ty T)) :=
  eg_c (pe_bltn hg hm hv rfl hn hd)
/-! ### two operands -/
theorem two {R : R2} {ta tb : TE} (hR : ∀ x y H D Q, Same D H → ra.p D x → rb.p D y → Give r H D Q → R x y H Q) {σ : L2.St} {H : Hp} {Q : VK} (h : tG g r σ H Q) : tOp R (tG g ra) (tG g rb) σ H Q := by
  obtain ⟨F, D0, D, ok, k⟩ := h
  refine ⟨F, D0, D, ok, fun x H1 D1 e1 hx => ⟨F, D0, D1, ok.grow e1, fun y H2 D2 e2 hy => hR x y H2 D2 Q e2.i (ra.mono e2.d hx) hy (k.later (e1.trans e2))⟩⟩
theorem eg_op {op : Operator} {R : R2} (ho : OpR X (binaryOp op) R) (ha : EG X a g ra) (hb : EG X b g rb) (hR : ∀ x y H D Q, Same D H → ra.p D x → rb.p D y → Give r H D Q → R x y H Q) : EG X (.BinOp a op b pos) g r :=
  pe_to (pe_op ho ha hb) fun _ _ _ h => two (ta := tG g ra) (tb := tG g rb) hR h
theorem eg_cmp {op : CmpOp} {R : R2} (ho : OpR X (compareOp op) R) (ha : EG X a g ra) (hb : EG X b g rb) (hm : behindInMarks op b = false) (hR : ∀ x y H D Q, Same D H → ra.p D x → rb.p D y → Give r H D Q → R x y H Q) : EG X (.Compare a [op] [b] pos) g r :=
  pe_to (pe_cmpR ho ha hb hm) fun _ _ _ h => two (ta := tG g ra) (tb := tG g rb) hR h
theorem bg_cmp {op : CmpOp} {R : R2} (ho : OpR X (compareOp op) R) (ha : EG X a g ra) (hb : EG X b g rb) (hm : behindInMarks op b = false) (hR : ∀ x y H D Q, Same D H → ra.p D x → rb.p D y → Give (rBl k) H D Q → R x y H Q) : BG X (.Compare a [op] [b] pos) g k :=
  pt_to (pt_cmpR ho ha hb hm) fun σ H Q h => by
    obtain ⟨F, D0, D, ok, kk⟩ := h
    refine two (ta := tG g ra) (tb := tG g rb) (r := rBl k) hR ⟨F, D0, D, ok, fun v H' D' e hv => ?_⟩
    exact ⟨k, hv, kk H' D' e⟩
theorem int2 {gg : Int → Int → V} {x y : V} {H D : Hp} {Q : VK} (s : Same D H) (hx : (rInt i).p D x) (hy : (rInt j).p D y) (k : Give (rv (gg i j)) H D Q) : rI0 gg x y H Q := ⟨i, j, hx, hy, k.here s rfl⟩
theorem intsC {C : Int → Int → Prop} {gg : Int → Int → V} {x y : V} {H D : Hp} {Q : VK} (hc : C i j) (s : Same D H) (hx : (rInt i).p D x) (hy : (rInt j).p D y) (k : Give (rv (gg i j)) H D Q) : L2.rI C gg x y H Q := ⟨i, j, hx, hy, hc, k.here s rfl⟩
theorem eg_add (ha : EG X a g (rInt i)) (hb : EG X b g (rInt j)) : EG X (.BinOp a .Add b pos) g (rInt (i + j)) := eg_op op_add ha hb fun _ _ _ _ _ s hx hy k => int2 s hx hy k
theorem eg_sub (ha : EG X a g (rInt i)) (hb : EG X b g (rInt j)) : EG X (.BinOp a .Sub b pos) g (rInt (i - j)) := eg_op op_sub ha hb fun _ _ _ _ _ s hx hy k => int2 s hx hy k
theorem eg_mul (hc : CMul i j) (ha : EG X a g (rInt i)) (hb : EG X b g (rInt j)) : EG X (.BinOp a .Mult b pos) g (rInt (i * j)) := eg_op op_mul ha hb fun _ _ _ _ _ s hx hy k => intsC hc s hx hy k
theorem eg_mod (hc : 0 < j) (ha : EG X a g (rInt i)) (hb : EG X b g (rInt j)) : EG X (.BinOp a .Mod b pos) g (rInt (i % j)) := eg_op op_mod ha hb fun _ _ _ _ _ s hx hy k => intsC hc s hx hy k
theorem eg_fdiv (hc : CDiv i j) (ha : EG X a g (rInt i)) (hb : EG X b g (rInt j)) : EG X (.BinOp a .FloorDiv b pos) g (rInt (i / j)) := eg_op op_fdiv ha hb fun _ _ _ _ _ s hx hy k => intsC hc s hx hy k
theorem eg_neg (ha : EG X a g (rInt i)) : EG X (.UnaryOp .USub a pos) g (rInt (-i)) := pe_to (pe_un un_neg ha) fun _ _ _ ⟨F, D0, D, ok, k⟩ => ⟨F, D0, D, ok, fun v H1 D1 e hv => ⟨i, hv, (k.later e).here e.i rfl⟩⟩
/-! ### comparisons of ints, of flat values -/
theorem eg_lt (ha : EG X a g (rInt i)) (hb : EG X b g (rInt j)) : EG X (.Compare a [.Lt] [b] pos) g (rBl (decide (i < j))) := eg_cmp op_lt ha hb (nomark _) fun _ _ _ _ _ s hx hy k => int2 s hx hy k
theorem eg_le (ha : EG X a g (rInt i)) (hb : EG X b g (rInt j)) : EG X (.Compare a [.LtE] [b] pos) g (rBl (decide (i ≤ j))) := eg_cmp op_le ha hb (nomark _) fun _ _ _ _ _ s hx hy k => int2 s hx hy k
theorem eg_gt (ha : EG X a g (rInt i)) (hb : EG X b g (rInt j)) : EG X (.Compare a [.Gt] [b] pos) g (rBl (decide (j < i))) := eg_cmp op_gt ha hb (nomark _) fun _ _ _ _ _ s hx hy k => int2 s hx hy k
theorem eg_ge (ha : EG X a g (rInt i)) (hb : EG X b g (rInt j)) : EG X (.Compare a [.GtE] [b] pos) g (rBl (decide (j ≤ i))) := eg_cmp op_ge ha hb (nomark _) fun _ _ _ _ _ s hx hy k => int2 s hx hy k
theorem bg_lt (ha : EG X a g (rInt i)) (hb : EG X b g (rInt j)) : BG X (.Compare a [.Lt] [b] pos) g (decide (i < j)) := bg_cmp op_lt ha hb (nomark _) fun _ _ _ _ _ s hx hy k => int2 s hx hy k
theorem bg_le (ha : EG X a g (rInt i)) (hb : EG X b g (rInt j)) : BG X (.Compare a [.LtE] [b] pos) g (decide (i ≤ j)) := bg_cmp op_le ha hb (nomark _) fun _ _ _ _ _ s hx hy k => int2 s hx hy k
theorem bg_gt (ha : EG X a g (rInt i)) (hb : EG X b g (rInt j)) : BG X (.Compare a [.Gt] [b] pos) g (decide (j < i)) := bg_cmp op_gt ha hb (nomark _) fun _ _ _ _ _ s hx hy k => int2 s hx hy k
theorem bg_ge (ha : EG X a g (rInt i)) (hb : EG X b g (rInt j)) : BG X (.Compare a [.GtE] [b] pos) g (decide (j ≤ i)) := bg_cmp op_ge ha hb (nomark _) fun _ _ _ _ _ s hx hy k => int2 s hx hy k
section
variable {u v : V}
theorem eqs {x y : V} {H D : Hp} {Q : VK} (hs : scal u v = true) (s : Same D H) (hx : (rv u).p D x) (hy : (rv v).p D y) (k : Give (rBl (decide (u = v))) H D Q) : rEq x y H Q := by
  have hx : x = u := hx
  have hy : y = v := hy
  subst hx hy; exact ⟨hs, k.here s rfl⟩
theorem nes {x y : V} {H D : Hp} {Q : VK} (hs : scal u v = true) (s : Same D H) (hx : (rv u).p D x) (hy : (rv v).p D y) (k : Give (rBl (!decide (u = v))) H D Q) : rNe x y H Q := by
  have hx : x = u := hx
  have hy : y = v := hy
  subst hx hy; exact ⟨hs, k.here s rfl⟩
theorem eg_eqs (ha : EG X a g (rv u)) (hb : EG X b g (rv v)) (hs : scal u v = true := by rfl) : EG X (.Compare a [.Eq] [b] pos) g (rBl (decide (u = v))) := eg_cmp op_eq ha hb (nomark _) fun _ _ _ _ _ s hx hy k => eqs hs s hx hy k
theorem eg_nes (ha : EG X a g (rv u)) (hb : EG X b g (rv v)) (hs : scal u v = true := by rfl) : EG X (.Compare a [.NotEq] [b] pos) g (rBl (!decide (u = v))) := eg_cmp op_ne ha hb (nomark _) fun _ _ _ _ _ s hx hy k => nes hs s hx hy k
theorem bg_eqs (ha : EG X a g (rv u)) (hb : EG X b g (rv v)) (hs : scal u v = true := by rfl) : BG X (.Compare a [.Eq] [b] pos) g (decide (u = v)) := bg_cmp op_eq ha hb (nomark _) fun _ _ _ _ _ s hx hy k => eqs hs s hx hy k
theorem bg_nes (ha : EG X a g (rv u)) (hb : EG X b g (rv v)) (hs : scal u v = true := by rfl) : BG X (.Compare a [.NotEq] [b] pos) g (!decide (u = v)) := bg_cmp op_ne ha hb (nomark _) fun _ _ _ _ _ s hx hy k => nes hs s hx hy k
end
theorem dec_vint (i j : Int) : decide (V.int i = V.int j) = decide (i = j) := by rw [dec_int]; exact Bool.beq_eq_decide_eq i j
theorem eg_eqi (ha : EG X a g (rInt i)) (hb : EG X b g (rInt j)) : EG X (.Compare a [.Eq] [b] pos) g (rBl (decide (i = j))) := by rw [← dec_vint]; exact eg_eqs ha hb
theorem eg_nei (ha : EG X a g (rInt i)) (hb : EG X b g (rInt j)) : EG X (.Compare a [.NotEq] [b] pos) g (rBl (!decide (i = j))) := by rw [← dec_vint]; exact eg_nes ha hb
theorem bg_eqi (ha : EG X a g (rInt i)) (hb : EG X b g (rInt j)) : BG X (.Compare a [.Eq] [b] pos) g (decide (i = j)) := by rw [← dec_vint]; exact bg_eqs ha hb
theorem bg_nei (ha : EG X a g (rInt i)) (hb : EG X b g (rInt j)) : BG X (.Compare a [.NotEq] [b] pos) g (!decide (i = j)) := by rw [← dec_vint]; exact bg_nes ha hb
/-- x is None, x is not None: what x stands for is told to be None or not -/
def NonR (r : Rp) (k : Bool) : Prop := ∀ D v, r.p D v → decide (v = V.non) = k
theorem nonR_v {v : V} : NonR (rv v) (decide (v = V.non)) := fun D u h => by rw [show u = v from h]
theorem nonR_I {C : Addr} {fs : List (Str × Rp)} : NonR (Rf.rI C fs) false := fun D u ⟨_, _, _, e, _⟩ => by rw [e]; rfl
theorem nonR_L : NonR (rL rs) false := fun D u ⟨_, _, e, _⟩ => by rw [e]; rfl
theorem nonR_T : NonR (rT rs) false := fun D u ⟨_, _, e, _⟩ => by rw [e]; rfl
theorem eg_isN {u q} (ha : EG X a g r) (hn : NonR r k) : EG X (.Compare a [.Is] [.Constant .none u q] pos) g (rBl k) := eg_cmp op_isN ha eg_non (nomark _) fun x y H D Q s hx hy kk => ⟨hy, by rw [hn D x hx]; exact kk.here s rfl⟩
theorem eg_notN {u q} (ha : EG X a g r) (hn : NonR r k) : EG X (.Compare a [.IsNot] [.Constant .none u q] pos) g (rBl (!k)) := eg_cmp op_notN ha eg_non (nomark _) fun x y H D Q s hx hy kk => ⟨hy, by rw [hn D x hx]; exact kk.here s rfl⟩
theorem bg_isN {u q} (ha : EG X a g r) (hn : NonR r k) : BG X (.Compare a [.Is] [.Constant .none u q] pos) g k := bg_cmp op_isN ha eg_non (nomark _) fun x y H D Q s hx hy kk => ⟨hy, by rw [hn D x hx]; exact kk.here s rfl⟩
theorem bg_notN {u q} (ha : EG X a g r) (hn : NonR r k) : BG X (.Compare a [.IsNot] [.Constant .none u q] pos) g (!k) := bg_cmp op_notN ha eg_non (nomark _) fun x y H D Q s hx hy kk => ⟨hy, by rw [hn D x hx]; exact kk.here s rfl⟩
/-- x is True .. -/
theorem eg_isB (ha : EG X a g (rBl k1)) (hb : EG X b g (rBl k2)) : EG X (.Compare a [.Is] [b] pos) g (rBl (decide (k1 = k2))) := eg_cmp op_isBl ha hb (nomark _) fun x y H D Q s hx hy kk => ⟨k1, k2, hx, hy, kk.here s rfl⟩
theorem bg_isB (ha : EG X a g (rBl k1)) (hb : EG X b g (rBl k2)) : BG X (.Compare a [.Is] [b] pos) g (decide (k1 = k2)) := bg_cmp op_isBl ha hb (nomark _) fun x y H D Q s hx hy kk => ⟨k1, k2, hx, hy, kk.here s rfl⟩
theorem bg_notB (ha : EG X a g (rBl k1)) (hb : EG X b g (rBl k2)) : BG X (.Compare a [.IsNot] [b] pos) g (!decide (k1 = k2)) := bg_cmp op_notBl ha hb (nomark _) fun x y H D Q s hx hy kk => ⟨k1, k2, hx, hy, kk.here s rfl⟩
/-! ### tests, and, or, not, .. if .. else .. -/
theorem bg_val (h : EG X e g (rBl k)) (he : ∀ whole, isTrue e X.env whole = (do let v ← whole; standAt e.pos; holding [v] (truthy v)) := by intro _; rfl) : BG X e g k := pt_to (pt_val h he) fun σ H Q ⟨F, D0, D, ok, kk⟩ => ⟨F, D0, D, ok, fun v H' D' e hv => ⟨k, hv, kk H' D' e⟩⟩
theorem bg_not (h : BG X a g k) : BG X (.UnaryOp .Not a pos) g (!k) := pt_to (pt_not h) fun σ H Q h => h
theorem eg_not (h : EG X a g (rBl k)) : EG X (.UnaryOp .Not a pos) g (rBl (!k)) := pe_to (pe_not h) fun σ H Q ⟨F, D0, D, ok, kk⟩ => ⟨F, D0, D, ok, fun v H' D' e hv => ⟨k, hv, (kk.later e).here e.i rfl⟩⟩
/-- a test as a link of and, or -/
abbrev WG (X : Cx) (e : Expr) (g : List Sl) (b : Bool) : Prop := PW X e (tT g b)
theorem wg_and1 (h : BG X a g k) : WG X (.BoolOp .And [a] pos) g k := pw_and1 h
theorem wg_or1 (h : BG X a g k) : WG X (.BoolOp .Or [a] pos) g k := pw_or1 h
theorem tT_and {t2 : TT} (h1 : k1 = true → ∀ σ H Q, tT g k2 σ H Q → t2 σ H Q) (σ : L2.St) (H : Hp) (Q : Bool → Hp → Prop) (h : tT g (k1 && k2) σ H Q) : tAnd (tT g k1) t2 σ H Q := by
  obtain ⟨F, D0, D, ok, kk⟩ := h
  refine ⟨F, D0, D, ok, fun H' D' e => ?_⟩
  cases k1 with
  | true => exact h1 rfl σ H' Q ⟨F, D0, D', ok.grow e, fun H2 D2 e2 => kk H2 D2 (e.trans e2)⟩
  | false => exact kk H' D' e
theorem tT_or {t2 : TT} (h1 : k1 = false → ∀ σ H Q, tT g k2 σ H Q → t2 σ H Q) (σ : L2.St) (H : Hp) (Q : Bool → Hp → Prop) (h : tT g (k1 || k2) σ H Q) : tOr (tT g k1) t2 σ H Q := by
  obtain ⟨F, D0, D, ok, kk⟩ := h
  refine ⟨F, D0, D, ok, fun H' D' e => ?_⟩
  cases k1 with
  | false => exact h1 rfl σ H' Q ⟨F, D0, D', ok.grow e, fun H2 D2 e2 => kk H2 D2 (e.trans e2)⟩
  | true => exact kk H' D' e
theorem wg_and (h : BG X a g k1) (h2 : k1 = true → WG X (.BoolOp .And (b :: rest) pos) g k2) : WG X (.BoolOp .And (a :: b :: rest) pos) g (k1 && k2) := by
  cases k1 with
  | true => exact pw_to (pw_and h (h2 rfl)) (tT_and fun _ _ _ _ q => q)
  | false => exact pw_to (pw_and h pw_no) (tT_and fun q => nomatch q)
theorem wg_or (h : BG X a g k1) (h2 : k1 = false → WG X (.BoolOp .Or (b :: rest) pos) g k2) : WG X (.BoolOp .Or (a :: b :: rest) pos) g (k1 || k2) := by
  cases k1 with
  | false => exact pw_to (pw_or h (h2 rfl)) (tT_or fun _ _ _ _ q => q)
  | true => exact pw_to (pw_or h pw_no) (tT_or fun q => nomatch q)
theorem bg_w (h : WG X e g k) : BG X e g k := h.pt
theorem eg_one {op} (h : EG X a g r) : EG X (.BoolOp op [a] pos) g r := pe_one h
theorem eg_and (h : EG X a g (rBl k1)) (h2 : k1 = true → EG X (.BoolOp .And (b :: rest) pos) g (rBl k2)) : EG X (.BoolOp .And (a :: b :: rest) pos) g (rBl (k1 && k2)) := by
  cases k1 with
  | true => exact pe_to (pe_and h (h2 rfl)) fun σ H Q ⟨F, D0, D, ok, kk⟩ => ⟨F, D0, D, ok, fun v H' D' e hv => ⟨true, hv, F, D0, D', ok.grow e, kk.later e⟩⟩
  | false => exact pe_to (pe_and h pe_no) fun σ H Q ⟨F, D0, D, ok, kk⟩ => ⟨F, D0, D, ok, fun v H' D' e hv => ⟨false, hv, (kk.later e).here e.i rfl⟩⟩
theorem eg_or (h : EG X a g (rBl k1)) (h2 : k1 = false → EG X (.BoolOp .Or (b :: rest) pos) g (rBl k2)) : EG X (.BoolOp .Or (a :: b :: rest) pos) g (rBl (k1 || k2)) := by
  cases k1 with
  | false => exact pe_to (pe_or h (h2 rfl)) fun σ H Q ⟨F, D0, D, ok, kk⟩ => ⟨F, D0, D, ok, fun v H' D' e hv => ⟨false, hv, F, D0, D', ok.grow e, kk.later e⟩⟩
  | true => exact pe_to (pe_or h pe_no) fun σ H Q ⟨F, D0, D, ok, kk⟩ => ⟨F, D0, D, ok, fun v H' D' e hv => ⟨true, hv, (kk.later e).here e.i rfl⟩⟩
theorem eg_if (hc : BG X c g k) (ha : k = true → EG X a g r) (hb : k = false → EG X b g r) : EG X (.IfExp c a b pos) g r := by
  cases k with
  | true => exact pe_to (pe_ifExp hc (ha rfl) pe_no) fun σ H Q ⟨F, D0, D, ok, kk⟩ => ⟨F, D0, D, ok, fun H' D' e => ⟨F, D0, D', ok.grow e, kk.later e⟩⟩
  | false => exact pe_to (pe_ifExp hc pe_no (hb rfl)) fun σ H Q ⟨F, D0, D, ok, kk⟩ => ⟨F, D0, D, ok, fun H' D' e => ⟨F, D0, D', ok.grow e, kk.later e⟩⟩
/-! ### a < b < c of ints -/
theorem bg_chain {op op' : CmpOp} {q1 q2 : Int → Int → Bool} {l : Int} (ho : OpR X (compareOp op) (rI0 fun i j => .bl (q1 i j))) (ho' : OpR X (compareOp op') (rI0 fun i j => .bl (q2 i j))) (ha : EG X a g (rInt i)) (hb : EG X b g (rInt j)) (hc : EG X c g (rInt l))
    (hm : lastMarks [op, op'] [b, c] = false := by rfl) : BG X (.Compare a [op, op'] [b, c] pos) g (q1 i j && q2 j l) := by
  refine pt_to (pt_chain ho ho' ha hb hc hm) fun σ H Q h => ?_
  obtain ⟨F, D0, D, ok, kk⟩ := h
  refine ⟨F, D0, D, ok, fun x H1 D1 e1 hx => ⟨F, D0, D1, ok.grow e1, fun y H2 D2 e2 hy => ⟨i, j, hx, hy, q1 i j, rfl, ?_⟩⟩⟩
  cases h1 : q1 i j with
  | true =>
    rw [h1] at kk
    refine iteT ⟨F, D0, D2, (ok.grow e1).grow e2, fun z H3 D3 e3 hz => ⟨j, l, hy, hz, q2 j l, rfl, ?_⟩⟩
    exact kk H3 D3 ((e1.trans e2).trans e3)
  | false =>
    rw [h1] at kk
    exact iteF ⟨false, rfl, kk H2 D2 (e1.trans e2)⟩
theorem eg_chain {op op' : CmpOp} {q1 q2 : Int → Int → Bool} {l : Int} (ho : OpR X (compareOp op) (rI0 fun i j => .bl (q1 i j))) (ho' : OpR X (compareOp op') (rI0 fun i j => .bl (q2 i j))) (ha : EG X a g (rInt i)) (hb : EG X b g (rInt j)) (hc : EG X c g (rInt l))
    (hm : lastMarks [op, op'] [b, c] = false := by rfl) : EG X (.Compare a [op, op'] [b, c] pos) g (rBl (q1 i j && q2 j l)) := by
  refine pe_to (pe_chain ho ho' ha hb hc hm) fun σ H Q h => ?_
  obtain ⟨F, D0, D, ok, kk⟩ := h
  refine ⟨F, D0, D, ok, fun x H1 D1 e1 hx => ⟨F, D0, D1, ok.grow e1, fun y H2 D2 e2 hy => ⟨i, j, hx, hy, q1 i j, rfl, ?_⟩⟩⟩
  cases h1 : q1 i j with
  | true =>
    rw [h1] at kk
    refine iteT ⟨F, D0, D2, (ok.grow e1).grow e2, fun z H3 D3 e3 hz => ⟨j, l, hy, hz, ?_⟩⟩
    exact (kk.later ((e1.trans e2).trans e3)).here e3.i rfl
  | false =>
    rw [h1] at kk
    exact iteF ((kk.later (e1.trans e2)).here e2.i rfl)
/-! ### arguments, displays -/
theorem ag_nil : AG X [] g [] := pa_to pa_nil fun σ H Q ⟨F, D0, D, ok, k⟩ => k [] H D (Grow.refl ok.sub) .nil
theorem ag_cons (he : EG X e g r) (hr : AG X es g rs) (hs : starEach (e :: es) X.env = (false, eval e X.env) :: starEach es X.env := by rfl) : AG X (e :: es) g (r :: rs) :=
  pa_to (pa_cons he hr hs) fun σ H Q ⟨F, D0, D, ok, k⟩ => ⟨F, D0, D, ok, fun v H1 D1 e1 hv => ⟨F, D0, D1, ok.grow e1, fun vs H2 D2 e2 hvs => k (v :: vs) H2 D2 (e1.trans e2) (.cons (r.mono e2.d hv) hvs)⟩⟩
theorem ng_lst (h : AG X es g rs) (hz : rs.length ≤ 1000 := by exact Nat.le_of_ble_eq_true rfl) : NG X (.List es pos) g rs := pe_to (pe_lst h) fun σ H Q ⟨F, D0, D, ok, k⟩ => ⟨F, D0, D, ok, fun vs H' D' e hvs =>
  ⟨by rw [← hvs.length]; exact Nat.le_trans hz (by decide), fun p n => k p vs H' D' e n hvs⟩⟩
theorem eg_tup {u} (h : AG X es g rs) (hz : rs.length ≤ 1000 := by exact Nat.le_of_ble_eq_true rfl) : EG X (.Tuple es u pos) g (rT rs) := pe_to (pe_tup h) fun σ H Q ⟨F, D0, D, ok, k⟩ => ⟨F, D0, D, ok, fun vs H' D' e hvs =>
  ⟨by rw [← hvs.length]; exact Nat.le_trans hz (by decide), fun p n => (k.later e).tup e.i hvs n⟩⟩
/-! ### built-ins by their names -/
theorem one {t : TA} {R : List V → Hp → VK → Prop} (hR : ∀ vs H D Q, Same D H → Reps D rs vs → Give r H D Q → R vs H Q) {σ : L2.St} {H : Hp} {Q : VK} (h : tG g r σ H Q) : tCB R (tA g rs) σ H Q := by
  obtain ⟨F, D0, D, ok, k⟩ := h
  exact ⟨F, D0, D, ok, fun vs H' D' e hvs => hR vs H' D' Q e.i hvs (k.later e)⟩
theorem eg_bi {id : String} {R : List V → Hp → VK → Prop} (hc : CallR X (.builtin id) R) (hm : X.mg x = none) (hv : bootBuiltins x = some (.builtin id)) (ha : AG X (e :: es) g rs) (hR : ∀ vs H D Q, Same D H → Reps D rs vs → Give r H D Q → R vs H Q) (hg : Gl X x := by rfl)
    (hn : x ≠ "__name__" := by decide) (hdb : (x == ("__debug__" : Str)) = false := by decide) (he : starEach (e :: es) X.env = (false, eval e X.env) :: starEach es X.env := by rfl) (hpl : (backTo pos (starEach es X.env)).any (·.1) = false := by rfl) : EG X (.Call (.Name x p1) (e :: es) [] pos) g r :=
  pe_to (pe_callB hc hg hm hv ha hn hdb he hpl) fun _ _ _ h => one (t := tA g rs) hR h
theorem eg_bt {T : String} {R : List V → Hp → VK → Prop} (hc : CallR X (.type T) R) (hm : X.mg x = none) (hv : bootBuiltins x = some (.type T)) (ha : AG X (e :: es) g rs) (hR : ∀ vs H D Q, Same D H → Reps D rs vs → Give r H D Q → R vs H Q) (hg : Gl X x := by rfl)
    (hn : x ≠ "__name__" := by decide) (hdb : (x == ("__debug__" : Str)) = false := by decide) (he : starEach (e :: es) X.env = (false, eval e X.env) :: starEach es X.env := by rfl) (hpl : (backTo pos (starEach es X.env)).any (·.1) = false := by rfl) : EG X (.Call (.Name x p1) (e :: es) [] pos) g r :=
  pe_to (pe_callTy hc hg hm hv ha hn hdb he hpl) fun _ _ _ h => one (t := tA g rs) hR h
end
end Rf

namespace Rf
open PySem PySem.Spec PyProof.Rows L2

/-! ### lists of what stands for -/
theorem reps_get {D : Hp} : ∀ {rs : List Rp} {vs : List V} {j : Nat} {r : Rp}, Reps D rs vs → rs[j]? = some r → ∃ v, vs[j]? = some v ∧ r.p D v
  | _, _, _, _, .nil, e => by simp at e
  | _, _, 0, _, .cons h _, e => by simp at e; subst e; exact ⟨_, rfl, h⟩
  | _, _, j + 1, _, .cons _ t, e => by
    obtain ⟨v, h1, h2⟩ := reps_get (j := j) t (by simpa using e)
    exact ⟨v, by simpa using h1, h2⟩
theorem reps_at {D : Hp} {rs : List Rp} {vs : List V} {i : Int} {r : Rp} (h : Reps D rs vs) (e : atI rs i = some r) : ∃ v, atI vs i = some v ∧ r.p D v := by
  unfold atI at e ⊢
  rw [h.length] at e
  cases q : ixN vs.length i with
  | none => rw [q] at e; cases e
  | some j => rw [q] at e; exact reps_get h e
theorem atI_map {α β : Type} {f : α → β} {l : List α} {i : Int} {x : α} (h : atI l i = some x) : atI (l.map f) i = some (f x) := by
  unfold atI at h ⊢
  rw [List.length_map]
  cases q : ixN l.length i with
  | none => rw [q] at h; cases h
  | some j =>
    rw [q] at h
    show (l.map f)[j]? = some (f x)
    rw [List.getElem?_map, show l[j]? = some x from h]
    rfl
theorem reps_app {D : Hp} {rs rs' : List Rp} {vs vs' : List V} : Reps D rs vs → Reps D rs' vs' → Reps D (rs ++ rs') (vs ++ vs')
  | .nil, h => h
  | .cons a t, h => .cons a (reps_app t h)
theorem reps_take {D : Hp} : ∀ {rs : List Rp} {vs : List V} (n : Nat), Reps D rs vs → Reps D (rs.take n) (vs.take n)
  | _, _, 0, _ => .nil
  | _, _, _ + 1, .nil => .nil
  | _, _, n + 1, .cons a t => .cons a (reps_take n t)
theorem reps_drop {D : Hp} : ∀ {rs : List Rp} {vs : List V} (n : Nat), Reps D rs vs → Reps D (rs.drop n) (vs.drop n)
  | _, _, 0, h => h
  | _, _, _ + 1, .nil => .nil
  | _, _, n + 1, .cons _ t => reps_drop n t
theorem reps_set {D : Hp} {r : Rp} {v : V} (h : r.p D v) : ∀ {rs : List Rp} {vs : List V} (n : Nat), Reps D rs vs → Reps D (rs.set n r) (vs.set n v)
  | _, _, _, .nil => .nil
  | _, _, 0, .cons _ t => .cons h t
  | _, _, n + 1, .cons a t => .cons a (reps_set h n t)
theorem reps_erase {D : Hp} : ∀ {rs : List Rp} {vs : List V} (n : Nat), Reps D rs vs → Reps D (rs.eraseIdx n) (vs.eraseIdx n)
  | _, _, _, .nil => .nil
  | _, _, 0, .cons _ t => t
  | _, _, n + 1, .cons a t => .cons a (reps_erase n t)
theorem reps_rep {D : Hp} {rs : List Rp} {vs : List V} (h : Reps D rs vs) : ∀ n : Nat, Reps D (List.replicate n rs).flatten (List.replicate n vs).flatten
  | 0 => .nil
  | n + 1 => by
    rw [List.replicate_succ, List.replicate_succ, List.flatten_cons, List.flatten_cons]
    exact reps_app h (reps_rep h n)
/-- flat values are themselves -/
theorem reps_flat {D : Hp} : ∀ {us : List V} {vs : List V}, Reps D (us.map rv) vs → vs = us
  | [], _, .nil => rfl
  | u :: us, _, .cons h t => by
    have h : _ = u := h
    rw [h, reps_flat t]
theorem reps_ints {D : Hp} {ns : List Int} {vs : List V} (h : Reps D (ns.map rInt) vs) : vs = ns.map V.int := reps_flat (D := D) (by rw [List.map_map]; exact h)
theorem reps_bls {D : Hp} {ns : List Bool} {vs : List V} (h : Reps D (ns.map rBl) vs) : vs = ns.map V.bl := reps_flat (D := D) (by rw [List.map_map]; exact h)
theorem reps_strs {D : Hp} {ns : List Str} {vs : List V} (h : Reps D (ns.map rStr) vs) : vs = ns.map V.str := reps_flat (D := D) (by rw [List.map_map]; exact h)
theorem reps_of {D : Hp} : ∀ us : List V, Reps D (us.map rv) us
  | [] => .nil
  | _ :: us => .cons rfl (reps_of us)
theorem reps_ofI {D : Hp} (ns : List Int) : Reps D (ns.map rInt) (ns.map V.int) := by
  have h := reps_of (D := D) (ns.map V.int)
  rw [List.map_map] at h; exact h
theorem reps_ofS {D : Hp} (ns : List Str) : Reps D (ns.map rStr) (ns.map V.str) := by
  have h := reps_of (D := D) (ns.map V.str)
  rw [List.map_map] at h; exact h
/-- a slice -/
def cutL {α : Type} (xs : List α) (lo hi : Option Int) : List α := (xs.drop (HT.sIx xs.length 0 lo)).take (HT.sIx xs.length xs.length hi - HT.sIx xs.length 0 lo)
theorem reps_cut {D : Hp} {rs : List Rp} {vs : List V} (h : Reps D rs vs) (lo hi : Option Int) : Reps D (cutL rs lo hi) (cutV vs lo hi) := by
  unfold cutL cutV
  rw [h.length]
  exact reps_take _ (reps_drop _ h)
theorem cutL_map {α β : Type} (f : α → β) (l : List α) (lo hi : Option Int) : cutL (l.map f) lo hi = (cutL l lo hi).map f := by
  unfold cutL
  rw [List.length_map, List.map_take, List.map_drop]
section
variable {X : Cx} {g : List Sl} {a b c e : Expr} {es rest : List Expr} {pos p1 p2 : Pos} {r ra rb : Rp} {rs rs' : List Rp} {x f : Str} {k k1 k2 : Bool} {i j : Int} {α β : Type} {fa : α → Rp} {l : List α}
/-! ### items -/
theorem eg_ixL' (ha : EG X a g (rL rs)) (hb : EG X b g (rInt i)) (h : atI rs i = some r) (hs : PlainIx b := by exact fun _ _ => rfl) : EG X (.Subscript a b pos) g r := pe_to (pe_ix ix_list ha hb hs) fun _ _ _ q => two (ta := tG g (rL rs)) (tb := tG g (rInt i))
  (fun x y H D Q s hx hy k => by
    obtain ⟨p, vs, rfl, h2, h3⟩ := hx
    obtain ⟨v, h4, h5⟩ := reps_at h3 h
    exact ⟨p, vs, i, v, rfl, hy, SqL.of (s _ _ h2), h4, k.here s h5⟩) q
theorem eg_ixT' (ha : EG X a g (rT rs)) (hb : EG X b g (rInt i)) (h : atI rs i = some r) (hs : PlainIx b := by exact fun _ _ => rfl) : EG X (.Subscript a b pos) g r := pe_to (pe_ix ix_tup ha hb hs) fun _ _ _ q => two (ta := tG g (rT rs)) (tb := tG g (rInt i))
  (fun x y H D Q s hx hy k => by
    obtain ⟨p, vs, rfl, h2, h3⟩ := hx
    obtain ⟨v, h4, h5⟩ := reps_at h3 h
    exact ⟨p, vs, i, v, rfl, hy, SqT.of (s _ _ h2), h4, k.here s h5⟩) q
theorem eg_ixL {y : α} (ha : EG X a g (rL (l.map fa))) (hb : EG X b g (rInt i)) (h : atI l i = some y) (hs : PlainIx b := by exact fun _ _ => rfl) : EG X (.Subscript a b pos) g (fa y) := eg_ixL' ha hb (atI_map h) hs
theorem eg_ixT {y : α} (ha : EG X a g (rT (l.map fa))) (hb : EG X b g (rInt i)) (h : atI l i = some y) (hs : PlainIx b := by exact fun _ _ => rfl) : EG X (.Subscript a b pos) g (fa y) := eg_ixT' ha hb (atI_map h) hs
theorem eg_ixS {z : Str} {n : Nat} (ha : EG X a g (rStr z)) (hb : EG X b g (rInt i)) (hz : z.length ≤ 1000) (h : atI z.cps.toList i = some n) (hs : PlainIx b := by exact fun _ _ => rfl) : EG X (.Subscript a b pos) g (rStr ⟨#[n]⟩) := pe_to (pe_ix ix_str ha hb hs) fun _ _ _ q => two (ta := tG g (rStr z)) (tb := tG g (rInt i))
  (fun x y H D Q s hx hy k => ⟨z, i, n, hx, hy, Nat.le_trans hz (by decide), h, k.here s rfl⟩) q
/-- an item of a list of the def's own -/
theorem eg_ixO {y : α} (n : Nat) (hg : g[n]? = some (.l (l.map fa)) := by rfl) (hb : EG X b g (rInt i)) (h : atI l i = some y) (hN : X.N[n]? = some x := by rfl) (hs : PlainIx b := by exact fun _ _ => rfl) (hv : Vis X.env.scope x := by first | exact Or.inl rfl | exact Or.inr (Or.inl rfl) | exact Or.inr (Or.inr rfl))
    (hd : (x == ("__debug__" : Str)) = false := by decide) (hcd : (x == ("__classdict__" : Str)) = false := by decide) : EG X (.Subscript (.Name x p1) b pos) g (fa y) := pe_to (pe_ix ix_list (pe_var hN hv hd hcd) hb hs) fun σ H Q ⟨F, D0, D, ok, k⟩ => by
  obtain ⟨p, o, h1, h2, h3, h4, h5⟩ := ok.own n _ hg rfl
  cases o with
  | lst vs =>
    refine ⟨.ref p, h1, F, D0, D, ok, fun w H1 D1 e hw => ?_⟩
    obtain ⟨v, h6, h7⟩ := reps_at h5 (atI_map (f := fa) h)
    exact ⟨p, vs, i, v, rfl, hw, SqL.of (e.h _ _ h2), h6, (k.later e).here e.i ((fa y).mono e.d h7)⟩
  | _ => exact h5.elim
/-! ### attributes -/
theorem ents_look {D : Hp} {v : Str} : ∀ {es : List (Str × Rp)} {ws : List (Str × V)} {r : Rp}, Ents D es ws → es.lookup v = some r → ∃ u, ws.lookup v = some u ∧ r.p D u
  | _, _, _, .nil, e => by simp at e
  | (n, q) :: es, (m, u) :: ws, r, .cons h t, e => by
    obtain ⟨h1, h2⟩ := h
    have h1 : n = m := h1
    subst h1
    rw [List.lookup_cons] at e ⊢
    cases z : (v == n) with
    | true => rw [z] at e; cases e; exact ⟨u, rfl, h2⟩
    | false => rw [z] at e; exact ents_look t e
theorem ents_none {D : Hp} {v : Str} : ∀ {es : List (Str × Rp)} {ws : List (Str × V)}, Ents D es ws → es.lookup v = none → ws.lookup v = none
  | _, _, .nil, e => rfl
  | (n, q) :: es, (m, u) :: ws, .cons h t, e => by
    obtain ⟨h1, h2⟩ := h
    have h1 : n = m := h1
    subst h1
    rw [List.lookup_cons] at e ⊢
    cases z : (v == n) with
    | true => rw [z] at e; cases e
    | false => rw [z] at e; exact ents_none t e
theorem eg_fld {C : Addr} {fs : List (Str × Rp)} (hc : Cls X.K C) (hn : NoAttr X.K C f) (he : EG X e g (Rf.rI C fs)) (hl : fs.lookup f = some r := by rfl) (hb : attributeBase e f X.env (eval e X.env) = eval e X.env := by rfl) : EG X (.Attribute e f pos) g r :=
  pe_to (pe_fld he hb) fun σ H Q ⟨F, D0, D, ok, k⟩ => ⟨F, D0, D, ok, fun x H1 D1 e hx => by
    obtain ⟨p, dx, ws, rfl, h2, h3⟩ := hx
    obtain ⟨u, h4, h5⟩ := ents_look h3 hl
    exact ⟨p, C, dx, ws, u, rfl, e.i _ _ h2, hc, hn, h4, (k.later e).here e.i h5⟩⟩
/-- an attribute of the object that is being made -/
theorem eg_fldO {C : Addr} {fs : List (Str × Rp)} {ax adx : Addr} (n : Nat) (hc : Cls X.K C) (hn : NoAttr X.K C f) (hg : g[n]? = some (.i ax adx C fs) := by rfl) (hl : fs.lookup f = some r := by rfl) (hN : X.N[n]? = some x := by rfl) (hb : attributeBase (.Name x p1) f X.env (eval (.Name x p1) X.env) = eval (.Name x p1) X.env := by rfl)
    (hv : Vis X.env.scope x := by first | exact Or.inl rfl | exact Or.inr (Or.inl rfl) | exact Or.inr (Or.inr rfl)) (hd : (x == ("__debug__" : Str)) = false := by decide) (hcd : (x == ("__classdict__" : Str)) = false := by decide) : EG X (.Attribute (.Name x p1) f pos) g r :=
  pe_to (pe_fld (pe_var hN hv hd hcd) hb) fun σ H Q ⟨F, D0, D, ok, k⟩ => by
    obtain ⟨p, o, h1, h2, h3, h4, h5⟩ := ok.own n _ hg rfl
    cases o with
    | ins C' dx ws =>
      obtain ⟨⟨_, _, e1⟩, h6⟩ := h5
      subst e1
      obtain ⟨u, h7, h8⟩ := ents_look h6 hl
      exact ⟨.ref p, h1, p, _, dx, ws, u, rfl, h2, hc, hn, h7, k.here ok.sub h8⟩
    | _ => exact h5.elim
/-! ### len, all, sum, tuple, list -/
theorem eg_lenL (hm : X.mg "len" = none) (ha : EG X a g (rL rs)) (hg : Gl X "len" := by rfl) (he : starEach [a] X.env = (false, eval a X.env) :: starEach [] X.env := by rfl) : EG X (.Call (.Name "len" p1) [a] [] pos) g (rInt rs.length) :=
  eg_bi call_len_seq hm boot_len (ag_cons ha ag_nil he) (fun vs H D Q s h k => by
    cases h with | cons h1 t => cases t; obtain ⟨p, ws, rfl, h2, h3⟩ := h1; exact ⟨p, ws, rfl, .inl (SqL.of (s _ _ h2)), k.here s (by rw [h3.length]; rfl)⟩) hg (by decide) (by decide) he
theorem eg_lenT (hm : X.mg "len" = none) (ha : EG X a g (rT rs)) (hg : Gl X "len" := by rfl) (he : starEach [a] X.env = (false, eval a X.env) :: starEach [] X.env := by rfl) : EG X (.Call (.Name "len" p1) [a] [] pos) g (rInt rs.length) :=
  eg_bi call_len_seq hm boot_len (ag_cons ha ag_nil he) (fun vs H D Q s h k => by
    cases h with | cons h1 t => cases t; obtain ⟨p, ws, rfl, h2, h3⟩ := h1; exact ⟨p, ws, rfl, .inr (SqT.of (s _ _ h2)), k.here s (by rw [h3.length]; rfl)⟩) hg (by decide) (by decide) he
/-- typed -/
theorem eg_lenL1 (hm : X.mg "len" = none) (ha : EG X a g (rL (l.map fa))) (hg : Gl X "len" := by rfl) (he : starEach [a] X.env = (false, eval a X.env) :: starEach [] X.env := by rfl) : EG X (.Call (.Name "len" p1) [a] [] pos) g (rInt l.length) := by
  have h := eg_lenL (p1 := p1) (pos := pos) hm ha hg he
  rw [List.length_map] at h; exact h
theorem eg_lenT1 (hm : X.mg "len" = none) (ha : EG X a g (rT (l.map fa))) (hg : Gl X "len" := by rfl) (he : starEach [a] X.env = (false, eval a X.env) :: starEach [] X.env := by rfl) : EG X (.Call (.Name "len" p1) [a] [] pos) g (rInt l.length) := by
  have h := eg_lenT (p1 := p1) (pos := pos) hm ha hg he
  rw [List.length_map] at h; exact h
theorem eg_all {bs : List Bool} (hc : X.calm = true) (hm : X.mg "all" = none) (ha : EG X a g (rL (bs.map rBl))) (hg : Gl X "all" := by rfl) (he : starEach [a] X.env = (false, eval a X.env) :: starEach [] X.env := by rfl) : EG X (.Call (.Name "all" p1) [a] [] pos) g (rBl (bs.all id)) :=
  eg_bi (cr_all hc) hm (by decide +kernel) (ag_cons ha ag_nil he) (fun vs H D Q s h k => by
    cases h with | cons h1 t => cases t; obtain ⟨p, ws, rfl, h2, h3⟩ := h1; rw [reps_bls h3] at h2; exact ⟨p, bs, rfl, SqL.of (s _ _ h2), k.here s rfl⟩) hg (by decide) (by decide) he
theorem eg_sum {ns : List Int} (hc : X.calm = true) (hm : X.mg "sum" = none) (ha : EG X a g (rL (ns.map rInt))) (hg : Gl X "sum" := by rfl) (he : starEach [a] X.env = (false, eval a X.env) :: starEach [] X.env := by rfl) : EG X (.Call (.Name "sum" p1) [a] [] pos) g (rInt ns.sum) :=
  eg_bi (cr_sum hc) hm (by decide +kernel) (ag_cons ha ag_nil he) (fun vs H D Q s h k => by
    cases h with | cons h1 t => cases t; obtain ⟨p, ws, rfl, h2, h3⟩ := h1; rw [reps_ints h3] at h2; exact ⟨p, ns, rfl, SqL.of (s _ _ h2), k.here s rfl⟩) hg (by decide) (by decide) he
theorem eg_abs (hm : X.mg "abs" = none) (ha : EG X a g (rInt i)) (hg : Gl X "abs" := by rfl) (he : starEach [a] X.env = (false, eval a X.env) :: starEach [] X.env := by rfl) : EG X (.Call (.Name "abs" p1) [a] [] pos) g (rInt (if i < 0 then -i else i)) :=
  eg_bi call_abs hm boot_abs (ag_cons ha ag_nil he) (fun vs H D Q s h k => by
    cases h with | cons h1 t => cases t; cases h1; exact ⟨i, rfl, k.here s rfl⟩) hg (by decide) (by decide) he
theorem eg_tupleL (hm : X.mg "tuple" = none) (ha : EG X a g (rL rs)) (hg : Gl X "tuple" := by rfl) (he : starEach [a] X.env = (false, eval a X.env) :: starEach [] X.env := by rfl) : EG X (.Call (.Name "tuple" p1) [a] [] pos) g (rT rs) :=
  eg_bt call_tuple_of hm boot_tuple (ag_cons ha ag_nil he) (fun vs H D Q s h k => by
    cases h with | cons h1 t => cases t; obtain ⟨p, ws, rfl, h2, h3⟩ := h1; exact ⟨p, ws, rfl, .inl ⟨SqL.of (s _ _ h2), fun q n => k.tup s h3 n⟩⟩) hg (by decide) (by decide) he
theorem eg_tupleT (hm : X.mg "tuple" = none) (ha : EG X a g (rT rs)) (hg : Gl X "tuple" := by rfl) (he : starEach [a] X.env = (false, eval a X.env) :: starEach [] X.env := by rfl) : EG X (.Call (.Name "tuple" p1) [a] [] pos) g (rT rs) :=
  eg_bt call_tuple_of hm boot_tuple (ag_cons ha ag_nil he) (fun vs H D Q s h k => by
    cases h with | cons h1 t => cases t; obtain ⟨p, ws, rfl, h2, h3⟩ := h1; exact ⟨p, ws, rfl, .inr ⟨SqT.of (s _ _ h2), k.here s ⟨p, ws, rfl, h2, h3⟩⟩⟩) hg (by decide) (by decide) he
/-- tuple(xs), xs a list of the def's own -/
theorem eg_tupleO (n : Nat) (hm : X.mg "tuple" = none) (hgn : g[n]? = some (.l rs) := by rfl) (hN : X.N[n]? = some x := by rfl) (hg : Gl X "tuple" := by rfl) (he : starEach [.Name x p2] X.env = (false, eval (.Name x p2) X.env) :: starEach [] X.env := by rfl)
    (hv : Vis X.env.scope x := by first | exact Or.inl rfl | exact Or.inr (Or.inl rfl) | exact Or.inr (Or.inr rfl)) (hd : (x == ("__debug__" : Str)) = false := by decide) (hcd : (x == ("__classdict__" : Str)) = false := by decide) : EG X (.Call (.Name "tuple" p1) [.Name x p2] [] pos) g (rT rs) :=
  pe_to (pe_callTy call_tuple_of hg hm boot_tuple (pa_cons (pe_var hN hv hd hcd) pa_nil he) (by decide) (by decide) he (by rfl)) fun σ H Q ⟨F, D0, D, ok, k⟩ => by
    obtain ⟨p, o, h1, h2, h3, h4, h5⟩ := ok.own n _ hgn rfl
    cases o with
    | lst vs => exact ⟨.ref p, h1, p, vs, rfl, .inl ⟨SqL.of h2, fun q nn => k.tup ok.sub h5 nn⟩⟩
    | _ => exact h5.elim
/-- f of one argument that makes a list -/
theorem ng_bt {T : String} {R : List V → Hp → VK → Prop} (hc : CallR X (.type T) R) (hm : X.mg x = none) (hv : bootBuiltins x = some (.type T)) (ha : EG X a g ra) (hR : ∀ v H D Q, Same D H → ra.p D v → GiveN rs H D Q → R [v] H Q) (hg : Gl X x := by rfl)
    (hn : x ≠ "__name__" := by decide) (hdb : (x == ("__debug__" : Str)) = false := by decide) (he : starEach [a] X.env = (false, eval a X.env) :: starEach [] X.env := by rfl) : NG X (.Call (.Name x p1) [a] [] pos) g rs :=
  pe_to (pe_callTy hc hg hm hv (pa_cons ha pa_nil he) hn hdb he (by rfl)) fun σ H Q ⟨F, D0, D, ok, k⟩ => ⟨F, D0, D, ok, fun v H1 D1 e hv => hR v H1 D1 Q e.i hv fun p vs H' D' e2 n h => k p vs H' D' (e.trans e2) n h⟩
theorem ng_bi {id : String} {R : List V → Hp → VK → Prop} (hc : CallR X (.builtin id) R) (hm : X.mg x = none) (hv : bootBuiltins x = some (.builtin id)) (ha : EG X a g ra) (hR : ∀ v H D Q, Same D H → ra.p D v → GiveN rs H D Q → R [v] H Q) (hg : Gl X x := by rfl)
    (hn : x ≠ "__name__" := by decide) (hdb : (x == ("__debug__" : Str)) = false := by decide) (he : starEach [a] X.env = (false, eval a X.env) :: starEach [] X.env := by rfl) : NG X (.Call (.Name x p1) [a] [] pos) g rs :=
  pe_to (pe_callB hc hg hm hv (pa_cons ha pa_nil he) hn hdb he (by rfl)) fun σ H Q ⟨F, D0, D, ok, k⟩ => ⟨F, D0, D, ok, fun v H1 D1 e hv => hR v H1 D1 Q e.i hv fun p vs H' D' e2 n h => k p vs H' D' (e.trans e2) n h⟩
theorem GiveN.here {H D : Hp} {Q : VK} {vs : List V} (k : GiveN rs H D Q) (s : Same D H) (h : Reps D rs vs) {p : Addr} (n : H p = none) : Q (.ref p) (upd H p (.lst vs)) := k p vs H D (Grow.refl s) n h
theorem ng_listL (hm : X.mg "list" = none) (ha : EG X a g (rL rs)) (hg : Gl X "list" := by rfl) (he : starEach [a] X.env = (false, eval a X.env) :: starEach [] X.env := by rfl) : NG X (.Call (.Name "list" p1) [a] [] pos) g rs :=
  ng_bt call_list_of hm boot_list ha (fun v H D Q s h k => by obtain ⟨p, ws, rfl, h2, h3⟩ := h; exact ⟨p, ws, rfl, .inl (SqL.of (s _ _ h2)), fun q n => k.here s h3 n⟩) hg (by decide) (by decide) he
theorem ng_listT (hm : X.mg "list" = none) (ha : EG X a g (rT rs)) (hg : Gl X "list" := by rfl) (he : starEach [a] X.env = (false, eval a X.env) :: starEach [] X.env := by rfl) : NG X (.Call (.Name "list" p1) [a] [] pos) g rs :=
  ng_bt call_list_of hm boot_list ha (fun v H D Q s h k => by obtain ⟨p, ws, rfl, h2, h3⟩ := h; exact ⟨p, ws, rfl, .inr (SqT.of (s _ _ h2)), fun q n => k.here s h3 n⟩) hg (by decide) (by decide) he
/-- list(range(n)) -/
def rangeI (n : Int) : List Int := (List.range n.toNat).map fun i : Nat => (i : Int)
theorem ng_listRg (hc : X.calm = true) (hm : X.mg "list" = none) (hm2 : X.mg "range" = none) (hi : i ≤ 1000 ∧ -1000 ≤ i) (ha : EG X a g (rInt i)) (hg : Gl X "list" := by rfl) (hg2 : Gl X "range" := by rfl)
    (na : starEach [a] X.env = (false, eval a X.env) :: starEach [] X.env := by rfl) (nb : starEach [.Call (.Name "range" p2) [a] [] p1] X.env = (false, eval (.Call (.Name "range" p2) [a] [] p1) X.env) :: starEach [] X.env := by rfl) {p3 : Pos} :
    NG X (.Call (.Name "list" p3) [.Call (.Name "range" p2) [a] [] p1] [] pos) g ((rangeI i).map rInt) := pe_to (pe_listRg hc hg hm (prg_1 hg2 hm2 ha na) nb) fun σ H Q ⟨F, D0, D, ok, k⟩ => ⟨F, D0, D, ok, fun v H1 D1 e hv => ⟨i, hv, by
    refine ⟨?_, fun q n => ?_⟩
    · unfold RgOk; omega
    · refine k q _ H1 D1 e n ?_
      have e1 : rgV 0 i = (rangeI i).map V.int := by
        unfold rgV rangeI
        rw [List.map_map, Int.sub_zero]
        refine List.map_congr_left fun j _ => ?_
        simp
      rw [e1]
      exact reps_ofI _⟩⟩
end
end Rf

namespace Rf
open PySem PySem.Spec PyProof.Rows L2

/-! ### less is known -/
def Le (g g' : List Sl) : Prop := ∀ F D0 σ H D, Ok g F D0 σ H D → ∃ D', Same D D' ∧ Ok g' F D0 σ H D'
theorem Le.refl (g : List Sl) : Le g g := fun _ _ _ _ D ok => ⟨D, Same.refl _, ok⟩
theorem Le.trans {a b c : List Sl} (h : Le a b) (h' : Le b c) : Le a c := fun F D0 σ H D ok =>
  let ⟨D1, s1, ok1⟩ := h F D0 σ H D ok
  let ⟨D2, s2, ok2⟩ := h' F D0 σ H D1 ok1
  ⟨D2, s1.trans s2, ok2⟩
theorem Le.forget {g : List Sl} (i : Nat) : Le g (g.set i .non) := fun _ _ _ _ D ok => ⟨D, Same.refl _, ok.forget⟩
theorem Ok.freeze2 {g : List Sl} {F D0 : Hp} {σ : L2.St} {H D : Hp} {i : Nat} {s : Sl} (ok : Ok g F D0 σ H D) (hg : g[i]? = some s) (hs : s.own = true) : ∃ D', Same D D' ∧ Ok (g.set i (.d s.fz)) F D0 σ H D' := by
  have d := (⟨ok.sub, ok.fr, Same.refl _, fun a h => .inl h, ok.len, ok.dat, ok.own, ok.apart⟩ : Ok g F D σ H D)
  obtain ⟨p, o, a, b, c, e, f⟩ := ok.own i s hg hs
  obtain ⟨D', ok'⟩ := ok.freeze hg hs
  obtain ⟨D2, ok2⟩ := d.freeze hg hs
  exact ⟨D2, ok2.d0, ⟨ok2.sub, ok2.fr, ok.d0.trans ok2.d0, fun x h => (ok2.new x h).elim (fun q => ok.new x q) .inr, ok2.len, ok2.dat, ok2.own, ok2.apart⟩⟩
theorem Le.freeze {g : List Sl} (i : Nat) {s : Sl} (hg : g[i]? = some s) (hs : s.own = true) : Le g (g.set i (.d s.fz)) := fun _ _ _ _ D ok => ok.freeze2 hg hs
/-- slot by slot -/
inductive LeS : List Sl → List Sl → Prop
  | nil : LeS [] []
  | same {s : Sl} {a b : List Sl} : LeS a b → LeS (s :: a) (s :: b)
  | non {s : Sl} {a b : List Sl} : LeS a b → LeS (s :: a) (.non :: b)
  | fz {s : Sl} {a b : List Sl} : s.own = true → LeS a b → LeS (s :: a) (.d s.fz :: b)
theorem LeS.le : ∀ {a b : List Sl}, LeS a b → ∀ p : List Sl, Le (p ++ a) (p ++ b)
  | _, _, .nil, p => Le.refl _
  | _, _, .same (s := s) (a := a) (b := b) h, p => by
    have q := h.le (p ++ [s])
    rw [List.append_assoc, List.append_assoc] at q; exact q
  | _, _, .non (s := s) (a := a) (b := b) h, p => by
    have q := h.le (p ++ [.non])
    rw [List.append_assoc, List.append_assoc] at q
    refine Le.trans ?_ q
    have z := Le.forget (g := p ++ s :: a) p.length
    rw [List.set_append_right _ _ (Nat.le_refl _), Nat.sub_self] at z
    exact z
  | _, _, .fz (s := s) (a := a) (b := b) hs h, p => by
    have q := h.le (p ++ [.d s.fz])
    rw [List.append_assoc, List.append_assoc] at q
    refine Le.trans ?_ q
    have z := Le.freeze (g := p ++ s :: a) p.length (s := s) (by simp) hs
    rw [List.set_append_right _ _ (Nat.le_refl _), Nat.sub_self] at z
    exact z
theorem LeS.go {a b : List Sl} (h : LeS a b) : Le a b := h.le []

/-! ### statements -/
structure Pt where
  nx : List Sl → Prop := fun _ => False
  bk : List Sl → Prop := fun _ => False
  ct : List Sl → Prop := fun _ => False
  rt : Rp → Prop := fun _ => False
  rx : Rp → List Sl → Prop := fun _ _ => False
def Rets (F D0 : Hp) (r : Rp) (v : V) (H' : Hp) : Prop := ∃ D', Same F H' ∧ Same D0 D' ∧ Same D' H' ∧ (∀ a, D' a ≠ none → D0 a ≠ none ∨ Free F a) ∧ r.p D' v
structure Pt.For (P : Pt) (F D0 : Hp) (E : Ends) : Prop where
  nx : ∀ g' σ' H' D', P.nx g' → Ok g' F D0 σ' H' D' → E.nx σ' H'
  bk : ∀ g' σ' H' D', P.bk g' → Ok g' F D0 σ' H' D' → E.bk σ' H'
  ct : ∀ g' σ' H' D', P.ct g' → Ok g' F D0 σ' H' D' → E.ct σ' H'
  rt : ∀ r v H', P.rt r → Rets F D0 r v H' → E.rt v H'
  rx : ∀ r g' v σ' H' D', P.rx r g' → Ok g' F D0 σ' H' D' → r.p D' v → E.rt v H'
def tS (g : List Sl) (P : Pt) : TS := fun E σ H => ∃ F D0 D, Ok g F D0 σ H D ∧ P.For F D0 E
abbrev SG (X : Cx) (b : List Stmt) (g : List Sl) (P : Pt) : Prop := PSs X b (tS g P)
abbrev S1 (X : Cx) (b : Stmt) (g : List Sl) (P : Pt) : Prop := PS X b (tS g P)
theorem ps_to {X : Cx} {b : Stmt} {t t' : TS} (h : PS X b t) (m : ∀ E σ H, t' E σ H → t E σ H) : PS X b t' := ⟨fun pins s σ H E I q => h.run pins s σ H E I (m _ _ _ q)⟩
theorem pss_to {X : Cx} {b : List Stmt} {t t' : TS} (h : PSs X b t) (m : ∀ E σ H, t' E σ H → t E σ H) : PSs X b t' := ⟨fun pins s σ H E I q => h.run pins s σ H E I (m _ _ _ q)⟩
/-- data that was told of since counts from now on -/
theorem Ok.rebase {g : List Sl} {F D0 : Hp} {σ : L2.St} {H D : Hp} (ok : Ok g F D0 σ H D) : Ok g F D σ H D := ⟨ok.sub, ok.fr, Same.refl _, fun _ h => .inl h, ok.len, ok.dat, ok.own, ok.apart⟩
theorem Ok.unbase {g g' : List Sl} {F D0 : Hp} {σ σ' : L2.St} {H D H' D' : Hp} (ok : Ok g F D0 σ H D) (ok' : Ok g' F D σ' H' D') : Ok g' F D0 σ' H' D' := ⟨ok'.sub, ok'.fr, ok.d0.trans ok'.d0, fun x h => (ok'.new x h).elim (fun q => ok.new x q) .inr, ok'.len, ok'.dat, ok'.own, ok'.apart⟩
theorem Rets.unbase {g : List Sl} {F D0 : Hp} {σ : L2.St} {H D H' : Hp} {r : Rp} {v : V} (ok : Ok g F D0 σ H D) (h : Rets F D r v H') : Rets F D0 r v H' := by
  obtain ⟨D', h1, h2, h3, h4, h5⟩ := h
  exact ⟨D', h1, ok.d0.trans h2, h3, fun x h => (h4 x h).elim (fun q => ok.new x q) .inr, h5⟩
section
variable {X : Cx} {g g' : List Sl} {P : Pt} {a b c e : Expr} {es : List Expr} {rest : List Stmt} {pos p1 p2 : Pos} {r ra rb : Rp} {rs rs' : List Rp} {x f : Str} {k k1 k2 : Bool} {i j : Int} {α β : Type} {fa : α → Rp} {l : List α}
theorem sg_nil (h : P.nx g) : SG X [] g P := pss_to pss_nil fun E σ H ⟨F, D0, D, ok, p⟩ => p.nx g σ H D h ok
theorem sg_cons {st : Stmt} {N : List Sl → Prop} (h : S1 X st g { P with nx := N }) (h2 : ∀ g', N g' → SG X rest g' P) : SG X (st :: rest) g P := by
  have u : PSs X rest fun E σ H => ∃ g', N g' ∧ tS g' P E σ H := ⟨fun pins s σ H E I ⟨g', n, q⟩ => (h2 g' n).run pins s σ H E I q⟩
  refine pss_to (pss_cons h u) fun E σ H ⟨F, D0, D, ok, p⟩ => ?_
  exact ⟨F, D0, D, ok, ⟨fun g' σ' H' D' n ok' => ⟨g', n, F, D0, D', ok', p⟩, p.bk, p.ct, p.rt, p.rx⟩⟩
/-- less is known from here on -/
theorem sg_le (hl : Le g g') (h : SG X rest g' P) : SG X rest g P := pss_to h fun E σ H ⟨F, D0, D, ok, p⟩ => let ⟨D', _, ok'⟩ := hl F D0 σ H D ok; ⟨F, D0, D', ok', p⟩
theorem s1_set (n : Nat) (he : EG X e g r) (hP : P.nx (g.set n (.d r))) (nd : X.N.Nodup) (hN : X.N[n]? = some x := by rfl) (hx : Loc X.env.scope x := by first | exact Or.inl rfl | exact Or.inr rfl) (hs : swapsWith e (some (.Name x p1)) pos.line X.env = pure false := by rfl)
    (hf : X.fn x = true ∨ X.env.scope.names.lookup x = some .local := by first | exact .inl rfl | exact .inr rfl) : S1 X (.Assign [.Name x p1] e pos) g P :=
  ps_to (ps_set nd hN hx he hs hf) fun E σ H ⟨F, D0, D, ok, p⟩ => ⟨F, D0, D, ok, fun v H' D' e1 hv => p.nx _ _ _ D' hP ((ok.grow e1).setD hv)⟩
theorem s1_setN (n : Nat) (he : NG X e g rs) (hP : P.nx (g.set n (.l rs))) (nd : X.N.Nodup) (hN : X.N[n]? = some x := by rfl) (hx : Loc X.env.scope x := by first | exact Or.inl rfl | exact Or.inr rfl) (hs : swapsWith e (some (.Name x p1)) pos.line X.env = pure false := by rfl)
    (hf : X.fn x = true ∨ X.env.scope.names.lookup x = some .local := by first | exact .inl rfl | exact .inr rfl) : S1 X (.Assign [.Name x p1] e pos) g P :=
  ps_to (ps_set nd hN hx he hs hf) fun E σ H ⟨F, D0, D, ok, p⟩ => ⟨F, D0, D, ok, fun q vs H' D' e1 nn hv => p.nx _ _ _ D' hP ((ok.grow e1).setNew nn rfl hv)⟩
theorem s1_ret (he : EG X e g r) (hP : P.rt r) : S1 X (.Return (some e) pos) g P :=
  ps_to (ps_ret he) fun E σ H ⟨F, D0, D, ok, p⟩ => ⟨F, D0, D, ok, fun v H' D' e1 hv => p.rt r v H' hP ⟨D', (ok.grow e1).fr, (ok.grow e1).d0, e1.i, (ok.grow e1).new, hv⟩⟩
theorem s1_expr (he : EG X e g r) (hP : P.nx g) (hs : swapsWith e none pos.line X.env = pure false := by rfl) : S1 X (.Expr e pos) g P :=
  ps_to (ps_expr he hs) fun E σ H ⟨F, D0, D, ok, p⟩ => ⟨F, D0, D, ok, fun v H' D' e1 hv => p.nx g σ H' D' hP (ok.grow e1)⟩
theorem s1_if {A B : List Stmt} (hc : BG X c g k) (ha : k = true → SG X A g P) (hb : k = false → SG X B g P) : S1 X (.If c A B pos) g P := by
  cases k with
  | true => exact ps_to (ps_if hc (ha rfl) pss_never) fun E σ H ⟨F, D0, D, ok, p⟩ => ⟨F, D0, D, ok, fun H' D' e => iteT ⟨F, D0, D', ok.grow e, p⟩⟩
  | false => exact ps_to (ps_if hc pss_never (hb rfl)) fun E σ H ⟨F, D0, D, ok, p⟩ => ⟨F, D0, D, ok, fun H' D' e => iteF ⟨F, D0, D', ok.grow e, p⟩⟩
/-! the forms that are written -/
theorem sg_set (n : Nat) (he : EG X e g r) (nd : X.N.Nodup) (h : SG X rest (g.set n (.d r)) P) (hN : X.N[n]? = some x := by rfl) (hx : Loc X.env.scope x := by first | exact Or.inl rfl | exact Or.inr rfl) (hs : swapsWith e (some (.Name x p1)) pos.line X.env = pure false := by rfl)
    (hf : X.fn x = true ∨ X.env.scope.names.lookup x = some .local := by first | exact .inl rfl | exact .inr rfl) : SG X (.Assign [.Name x p1] e pos :: rest) g P :=
  sg_cons (N := fun q => q = g.set n (.d r)) (s1_set n he rfl nd hN hx hs hf) fun _ q => q ▸ h
theorem sg_setN (n : Nat) (he : NG X e g rs) (nd : X.N.Nodup) (h : SG X rest (g.set n (.l rs)) P) (hN : X.N[n]? = some x := by rfl) (hx : Loc X.env.scope x := by first | exact Or.inl rfl | exact Or.inr rfl) (hs : swapsWith e (some (.Name x p1)) pos.line X.env = pure false := by rfl)
    (hf : X.fn x = true ∨ X.env.scope.names.lookup x = some .local := by first | exact .inl rfl | exact .inr rfl) : SG X (.Assign [.Name x p1] e pos :: rest) g P :=
  sg_cons (N := fun q => q = g.set n (.l rs)) (s1_setN n he rfl nd hN hx hs hf) fun _ q => q ▸ h
theorem sg_ret (he : EG X e g r) (hP : P.rt r) : SG X (.Return (some e) pos :: rest) g P := sg_cons (N := fun _ => False) (s1_ret he hP) fun _ q => q.elim
theorem sg_expr (he : EG X e g r) (h : SG X rest g P) (hs : swapsWith e none pos.line X.env = pure false := by rfl) : SG X (.Expr e pos :: rest) g P := sg_cons (N := fun q => q = g) (s1_expr he rfl hs) fun _ q => q ▸ h
/-- the test fails, nothing stands behind else -/
theorem sg_ifF {A : List Stmt} (hc : BG X c g k) (hk : k = false) (h : SG X rest g P) : SG X (.If c A [] pos :: rest) g P :=
  sg_cons (N := fun q => q = g) (s1_if hc (fun q => by rw [hk] at q; cases q) fun _ => sg_nil rfl) fun _ q => q ▸ h
/-- the branch leaves -/
theorem sg_ifT {A : List Stmt} (hc : BG X c g k) (hk : k = true) (h : SG X A g { P with nx := fun _ => False }) : SG X (.If c A [] pos :: rest) g P :=
  sg_cons (N := fun _ => False) (s1_if hc (fun _ => h) fun q => by rw [hk] at q; cases q) fun _ q => q.elim
theorem sg_if {A B : List Stmt} (G : List Sl) (hc : BG X c g k) (ha : k = true → SG X A g { P with nx := fun q => Le q G }) (hb : k = false → SG X B g { P with nx := fun q => Le q G }) (h : SG X rest G P) : SG X (.If c A B pos :: rest) g P :=
  sg_cons (N := fun q => Le q G) (s1_if hc ha hb) fun _ q => sg_le q h

/-! ### what is walked -/
def Walks (J : It) (D1 : Hp) (rs : List Rp) : Prop := ∀ i H' D', Same D1 D' → Same D' H' →
  (∀ r, rs[i]? = some r → J.go i H' ∧ ∀ x H'', J.yld i H' x H'' → ∃ D'', Grow H' D' H'' D'' ∧ r.p D'' x) ∧ (rs.length = i → J.stop i H')
def iG (g : List Sl) (rs : List Rp) : TI := fun σ H R => ∃ F D0 D, Ok g F D0 σ H D ∧ ∀ J H1 D1, Grow H D H1 D1 → Walks J D1 rs → R J H1
abbrev IG (X : Cx) (tg it : Expr) (g : List Sl) (rs : List Rp) : Prop := PI X tg it (iG g rs)
theorem pi_to {tg it : Expr} {t t' : TI} (h : PI X tg it t) (m : ∀ σ H R, t' σ H R → t σ H R) : PI X tg it t' := ⟨fun pins s σ H R I q => h.run pins s σ H R I (m _ _ _ q)⟩
theorem walks_list {K : PySem.W.Frag} {p : Addr} {vs : List V} {D1 : Hp} (h : D1 p = some (.lst vs)) (h2 : Reps D1 rs vs) : Walks (Itl K p) D1 rs := fun i H' D' e1 e2 => by
  have q : SqL K H' p vs := SqL.of (e2 _ _ (e1 _ _ h))
  refine ⟨fun r hr => ?_, fun hi => ⟨vs, q, by rw [← h2.length]; exact Nat.le_of_eq hi⟩⟩
  obtain ⟨v, h3, h4⟩ := reps_get h2 hr
  refine ⟨⟨vs, v, q, h3⟩, fun x H'' hy => ?_⟩
  obtain ⟨rfl, hy⟩ := hy
  have z := hy vs q
  rw [h3] at z; cases z
  exact ⟨D', Grow.refl e2, r.mono e1 h4⟩
theorem walks_tup {K : PySem.W.Frag} {p : Addr} {vs : List V} {D1 : Hp} (h : D1 p = some (.tup vs)) (h2 : Reps D1 rs vs) : Walks (Itt K p) D1 rs := fun i H' D' e1 e2 => by
  have q : SqT K H' p vs := SqT.of (e2 _ _ (e1 _ _ h))
  refine ⟨fun r hr => ?_, fun hi => ⟨vs, q, by rw [← h2.length]; exact Nat.le_of_eq hi⟩⟩
  obtain ⟨v, h3, h4⟩ := reps_get h2 hr
  refine ⟨⟨vs, v, q, h3⟩, fun x H'' hy => ?_⟩
  obtain ⟨rfl, hy⟩ := hy
  have z := hy vs q
  rw [h3] at z; cases z
  exact ⟨D', Grow.refl e2, r.mono e1 h4⟩
theorem rangeI_get {n : Int} {j : Nat} : (rangeI n)[j]? = if j < n.toNat then some (j : Int) else none := by
  unfold rangeI
  rw [List.getElem?_map]
  by_cases h : j < n.toNat
  · rw [if_pos h, List.getElem?_range h]; rfl
  · rw [if_neg h, List.getElem?_eq_none (by simp; omega)]; rfl
theorem walks_range {n : Int} {D1 : Hp} : Walks (Itr 0 n.toNat) D1 ((rangeI n).map rInt) := fun i H' D' e1 e2 => by
  refine ⟨fun r hr => ?_, fun hi => ?_⟩
  · rw [List.getElem?_map, rangeI_get] at hr
    by_cases h : i < n.toNat
    · rw [if_pos h] at hr
      cases hr
      refine ⟨h, fun x H'' hy => ?_⟩
      obtain ⟨rfl, rfl⟩ := hy
      exact ⟨D', Grow.refl e2, by show V.int (0 + (i : Int)) = V.int (i : Int); rw [Int.zero_add]⟩
    · rw [if_neg h] at hr; cases hr
  · show n.toNat ≤ i
    have z : (rangeI n).length = n.toNat := by unfold rangeI; rw [List.length_map, List.length_range]
    rw [List.length_map, z] at hi; exact Nat.le_of_eq hi
theorem ig_list {tg : Expr} (he : EG X e g (rL rs)) : IG X tg e g rs :=
  pi_to (pi_list he) fun σ H R ⟨F, D0, D, ok, k⟩ => ⟨F, D0, D, ok, fun v H' D' e hv => by
    obtain ⟨p, vs, rfl, h2, h3⟩ := hv
    exact ⟨p, rfl, ⟨vs, SqL.of (e.i _ _ h2)⟩, k _ H' D' e (walks_list h2 h3)⟩⟩
theorem ig_tup {tg : Expr} (he : EG X e g (rT rs)) : IG X tg e g rs :=
  pi_to (pi_tup he) fun σ H R ⟨F, D0, D, ok, k⟩ => ⟨F, D0, D, ok, fun v H' D' e hv => by
    obtain ⟨p, vs, rfl, h2, h3⟩ := hv
    exact ⟨p, rfl, ⟨vs, SqT.of (e.i _ _ h2)⟩, k _ H' D' e (walks_tup h2 h3)⟩⟩
theorem ig_range {tg : Expr} (hm : X.mg "range" = none) (hi : i ≤ 100000 ∧ -100000 ≤ i) (ha : EG X a g (rInt i)) (hg : Gl X "range" := by rfl) (hs : starEach [a] X.env = [(false, eval a X.env)] := by rfl) : IG X tg (.Call (.Name "range" p1) [a] [] pos) g ((rangeI i).map rInt) :=
  pi_to (pi_range1 hg hm (ag_cons ha ag_nil hs) hs) fun σ H R ⟨F, D0, D, ok, k⟩ => ⟨F, D0, D, ok, fun vs H' D' e hvs => by
    cases hvs with
    | cons h1 t =>
      cases t
      cases h1
      exact ⟨i, rfl, by omega, by omega, k _ H' D' e walks_range⟩⟩

/-! ### targets -/
def Out (vs : List Nat) (σ σ' : L2.St) : Prop := σ'.length = σ.length ∧ ∀ i, i ∉ vs → σ'[i]? = σ[i]?
def tgG (r : Rp) (g g' : List Sl) (vs : List Nat) : TG := fun v σ H Q => ∃ F D0 D, Ok g F D0 σ H D ∧ r.p D v ∧ ∀ σ', Out vs σ σ' → Ok g' F D0 σ' H D → Q σ' H
abbrev KG (X : Cx) (tg : Expr) (r : Rp) (g g' : List Sl) (vs : List Nat) : Prop := PG X tg (tgG r g g' vs)
theorem pg_to {tg : Expr} {t t' : TG} (h : PG X tg t) (m : ∀ v σ H R, t' v σ H R → t v σ H R) : PG X tg t' := ⟨fun pins s σ H v u Q I rv q => h.run pins s σ H v u Q I rv (m _ _ _ _ q)⟩
theorem out_set {σ : L2.St} {n : Nat} {y : Option V} : Out [n] σ (σ.set n y) := ⟨List.length_set, fun i h => List.getElem?_set_ne fun e => h (by simp [e])⟩
theorem kg_name (n : Nat) (nd : X.N.Nodup) (hN : X.N[n]? = some x := by rfl) (hx : Loc X.env.scope x := by first | exact Or.inl rfl | exact Or.inr rfl) (hf : X.fn x = true ∨ X.env.scope.names.lookup x = some .local := by first | exact .inl rfl | exact .inr rfl) :
    KG X (.Name x pos) r g (g.set n (.d r)) [n] := pg_to (pg_name nd hN hx hf) fun v σ H R ⟨F, D0, D, ok, h, k⟩ => k _ out_set (ok.setD h)
theorem kg_pair (n m : Nat) {y : Str} {u} {r1 r2 : Rp} (hc : X.calm = true) (nd : X.N.Nodup) (hN : X.N[n]? = some x := by rfl) (hx : Loc X.env.scope x := by first | exact Or.inl rfl | exact Or.inr rfl) (hf : X.fn x = true ∨ X.env.scope.names.lookup x = some .local := by first | exact .inl rfl | exact .inr rfl)
    (hN2 : X.N[m]? = some y := by rfl) (hx2 : Loc X.env.scope y := by first | exact Or.inl rfl | exact Or.inr rfl) (hf2 : X.fn y = true ∨ X.env.scope.names.lookup y = some .local := by first | exact .inl rfl | exact .inr rfl) :
    KG X (.Tuple [.Name x p1, .Name y p2] u pos) (rT [r1, r2]) g ((g.set n (.d r1)).set m (.d r2)) [n, m] := pg_to (pg_tup hc (pgs_cons (pg_name nd hN hx hf) (pgs_cons (pg_name nd hN2 hx2 hf2) pgs_nil)) (n := 2)) fun v σ H R ⟨F, D0, D, ok, h, k⟩ => by
  obtain ⟨p, vs, rfl, h2, h3⟩ := h
  cases h3 with
  | cons q1 t =>
    cases t with
    | cons q2 t =>
      cases t
      refine ⟨p, _, rfl, SqT.of (ok.sub _ _ h2), rfl, _, _, rfl, _, _, rfl, rfl, ?_⟩
      refine k _ ⟨by rw [List.length_set, List.length_set], fun i hi => ?_⟩ ((ok.setD q1).setD q2)
      rw [List.getElem?_set_ne (fun e => hi (by simp [e])), List.getElem?_set_ne (fun e => hi (by simp [e]))]
theorem out_wipe {vs : List Nat} {σ σ' : L2.St} (h : Out vs σ σ') : wipe σ' vs = wipe σ vs := by
  have key : ∀ (ws : List Nat) (j : Nat), (j ∈ ws → (wipe σ' ws)[j]? = (wipe σ ws)[j]?) ∧ (j ∉ vs → (wipe σ' ws)[j]? = (wipe σ ws)[j]?) := by
    intro ws
    induction ws with
    | nil => exact fun j => ⟨fun q => absurd q List.not_mem_nil, fun q => h.2 j q⟩
    | cons w ws ih =>
      intro j
      have hl : (wipe σ' ws).length = (wipe σ ws).length := by rw [wipe_length, wipe_length, h.1]
      have at_ : (wipe σ' (w :: ws))[w]? = (wipe σ (w :: ws))[w]? := by
        show ((wipe σ' ws).set w none)[w]? = ((wipe σ ws).set w none)[w]?
        by_cases hw : w < (wipe σ ws).length
        · rw [List.getElem?_set_self (by rw [hl]; exact hw), List.getElem?_set_self hw]
        · rw [List.getElem?_eq_none (by rw [List.length_set, hl]; omega), List.getElem?_eq_none (by rw [List.length_set]; omega)]
      have off : ∀ j, w ≠ j → (wipe σ' (w :: ws))[j]? = (wipe σ' ws)[j]? ∧ (wipe σ (w :: ws))[j]? = (wipe σ ws)[j]? := fun j e => by
        constructor
        · show ((wipe σ' ws).set w none)[j]? = _; rw [List.getElem?_set_ne e]
        · show ((wipe σ ws).set w none)[j]? = _; rw [List.getElem?_set_ne e]
      by_cases e : w = j
      · subst e; exact ⟨fun _ => at_, fun _ => at_⟩
      · rw [(off j e).1, (off j e).2]
        exact ⟨fun q => (ih j).1 ((List.mem_cons.mp q).resolve_left fun z => e z.symm), fun q => (ih j).2 q⟩
  apply List.ext_getElem?
  intro j
  by_cases hj : j ∈ vs
  · exact (key vs j).1 hj
  · exact (key vs j).2 hj
/-! ### for -/
def foldM {S α : Type} (step : S → α → Option S) : S → List α → Option S
  | s, [] => some s
  | s, x :: l => match step s x with
    | some s' => foldM step s' l
    | none => none
theorem sg_for {S : Type} (st : S → List Sl) (step : S → α → Option S) (tgt : S → α → List Sl) (vs : List Nat) {tg it : Expr} {body : List Stmt} {s0 s1 : S} (hi : IG X tg it g (l.map fa)) (hf : foldM step s0 l = some s1) (h0 : Le g (st s0)) (hc : X.calm = true)
    (ht : ∀ s x, KG X tg (fa x) (st s) (tgt s x) vs) (hb : ∀ s x s', x ∈ l → step s x = some s' → SG X body (tgt s x) { nx := fun q => Le q (st s'), ct := fun q => Le q (st s'), rt := P.rt }) (h : SG X rest (st s1) P)
    (hp : PassesOwn (model X.prog X.w) X.A X.env X.xe := by exact PassesOwn.never) (hs : ∀ x, foldedSetIterable it X.env x = pure x := by intro _; rfl) : SG X (.For tg it body [] pos :: rest) g P := by
  have gT : PG X tg fun v σ H Q => ∃ s x, tgG (fa x) (st s) (tgt s x) vs v σ H Q := ⟨fun pins s σ H v u Q I rv ⟨s', x, q⟩ => (ht s' x).run pins s σ H v u Q I rv q⟩
  have bT : PSs X body fun E σ H => ∃ s x s', x ∈ l ∧ step s x = some s' ∧ tS (tgt s x) { nx := fun q => Le q (st s'), ct := fun q => Le q (st s'), rt := P.rt } E σ H := ⟨fun pins s σ H E I ⟨s1, x, s', m, e, q⟩ => (hb s1 x s' m e).run pins s σ H E I q⟩
  refine sg_cons (N := fun q => Le q (st s1)) (ps_to (ps_for hp hc hi gT bT hs) fun E σ H ⟨F, D0, D, ok, p⟩ => ?_) fun _ q => sg_le q h
  refine ⟨F, D0, D, ok, fun J H1 D1 e hw => ?_⟩
  obtain ⟨D2, s2, ok2⟩ := h0 _ _ _ _ _ (ok.grow e)
  refine ⟨fun i m σ H => m = l.length - i ∧ i ≤ l.length ∧ ∃ s D, Same D1 D ∧ foldM step s (l.drop i) = some s1 ∧ Ok (st s) F D0 σ H D, ⟨l.length, by simp, Nat.zero_le _, s0, D2, s2, by simpa using hf, ok2⟩, ?_⟩
  rintro i m σ' H' ⟨rfl, hi, s, D', sD, hfold, ok'⟩
  have w := hw i H' D' sD ok'.sub
  by_cases hlt : i < l.length
  · have hx : l[i]? = some l[i] := List.getElem?_eq_getElem hlt
    have hd : l.drop i = l[i] :: l.drop (i + 1) := (List.getElem_cons_drop ..).symm
    rw [hd] at hfold
    cases hs' : step s l[i] with
    | none =>
      have z : (match step s l[i] with | some s' => foldM step s' (l.drop (i + 1)) | none => none) = some s1 := hfold
      rw [hs'] at z; cases z
    | some s' =>
      have z : (match step s l[i] with | some s' => foldM step s' (l.drop (i + 1)) | none => none) = some s1 := hfold
      rw [hs'] at z
      obtain ⟨hgo, hy⟩ := w.1 (fa l[i]) (by rw [List.getElem?_map, hx]; rfl)
      refine .inr ⟨hgo, fun σ2 H2 => ∃ D2, Same D1 D2 ∧ Ok (st s') F D0 σ2 H2 D2, fun σ2 H2 ⟨D2, a1, a2⟩ => ⟨l.length - (i + 1), by omega, rfl, hlt, s', D2, a1, z, a2⟩, fun x H2 yx => ?_⟩
      obtain ⟨D3, g3, r3⟩ := hy x H2 yx
      have ok3 := ok'.grow g3
      refine ⟨s, l[i], F, D0, D3, ok3, r3, fun σ4 _ ok4 => ?_⟩
      refine ⟨s, l[i], s', List.getElem_mem hlt, hs', F, D3, D3, ok4.rebase, ⟨fun g' σ5 H5 D5 le5 ok5 => ?_, fun _ _ _ _ q _ => q.elim, fun g' σ5 H5 D5 le5 ok5 => ?_, fun r v H5 q hr => p.rt r v H5 q (Rets.unbase ok4 hr), fun _ _ _ _ _ _ q => q.elim⟩⟩
      · obtain ⟨D6, s6, ok6⟩ := le5 _ _ _ _ _ ok5
        exact ⟨D6, (sD.trans g3.d).trans (ok5.d0.trans s6), ok4.unbase ok6⟩
      · obtain ⟨D6, s6, ok6⟩ := le5 _ _ _ _ _ ok5
        exact ⟨D6, (sD.trans g3.d).trans (ok5.d0.trans s6), ok4.unbase ok6⟩
  · have e1 : i = l.length := by omega
    subst e1
    have e2 : l.drop l.length = [] := List.drop_length
    rw [e2] at hfold
    cases hfold
    exact .inl ⟨w.2 (by rw [List.length_map]), p.nx _ σ' H' D' (Le.refl _) ok'⟩
/-! ### while -/
def whileM {S : Type} (cond : S → Option Bool) (step : S → Option S) : Nat → S → Option S
  | 0, _ => none
  | n + 1, s => match cond s with
    | some true => (match step s with
      | some s' => whileM cond step n s'
      | none => none)
    | some false => some s
    | none => none
theorem sg_while {S : Type} (st : S → List Sl) (cond : S → Option Bool) (step : S → Option S) (n : Nat) {body : List Stmt} {s0 s1 : S} (hf : whileM cond step n s0 = some s1) (h0 : Le g (st s0)) (hc : ∀ s k, cond s = some k → BG X c (st s) k)
    (hb : ∀ s s', cond s = some true → step s = some s' → SG X body (st s) { nx := fun q => Le q (st s'), ct := fun q => Le q (st s'), rt := P.rt }) (h : SG X rest (st s1) P)
    (hp : PassesOwn (model X.prog X.w) X.A X.env X.xe := by exact PassesOwn.never) : SG X (.While c body [] pos :: rest) g P := by
  have cT : PT X c fun σ H Q => ∃ s k, cond s = some k ∧ tT (st s) k σ H Q := ⟨fun pins s σ H Q I ⟨s', k, e, q⟩ => (hc s' k e).run pins s σ H Q I q⟩
  have bT : PSs X body fun E σ H => ∃ s s', cond s = some true ∧ step s = some s' ∧ tS (st s) { nx := fun q => Le q (st s'), ct := fun q => Le q (st s'), rt := P.rt } E σ H := ⟨fun pins s σ H E I ⟨s1, s', m, e, q⟩ => (hb s1 s' m e).run pins s σ H E I q⟩
  refine sg_cons (N := fun q => Le q (st s1)) (ps_to (ps_while hp cT bT) fun E σ H ⟨F, D0, D, ok, p⟩ => ?_) fun _ q => sg_le q h
  obtain ⟨D2, s2, ok2⟩ := h0 _ _ _ _ _ ok
  refine ⟨fun m σ H => ∃ s D, whileM cond step m s = some s1 ∧ Ok (st s) F D0 σ H D, ⟨n, s0, D2, hf, ok2⟩, ?_⟩
  rintro m σ' H' ⟨s, D', hw, ok'⟩
  cases m with
  | zero => cases hw
  | succ m =>
    have hw' : (match cond s with
      | some true => (match step s with
        | some s' => whileM cond step m s'
        | none => none)
      | some false => some s
      | none => none) = some s1 := hw
    cases hk : cond s with
    | none => rw [hk] at hw'; cases hw'
    | some k =>
      rw [hk] at hw'
      refine ⟨s, k, hk, F, D0, D', ok', fun H3 D3 e3 => ?_⟩
      cases k with
      | false =>
        cases hw'
        exact iteF (p.nx _ σ' H3 D3 (Le.refl _) (ok'.grow e3))
      | true =>
        cases hs' : step s with
        | none =>
          have z : (match step s with | some s' => whileM cond step m s' | none => none) = some s1 := hw'
          rw [hs'] at z; cases z
        | some s' =>
          have z : (match step s with | some s' => whileM cond step m s' | none => none) = some s1 := hw'
          rw [hs'] at z
          have ok3 := ok'.grow e3
          refine iteT ⟨fun σ4 H4 => ∃ D4, Ok (st s') F D0 σ4 H4 D4, fun σ4 H4 ⟨D4, ok4⟩ => ⟨m, Nat.lt_succ_self m, s', D4, z, ok4⟩, s, s', hk, hs', F, D3, D3, ok3.rebase, ⟨fun g' σ5 H5 D5 le5 ok5 => ?_, fun _ _ _ _ q _ => q.elim, fun g' σ5 H5 D5 le5 ok5 => ?_, fun r v H5 q hr => p.rt r v H5 q (Rets.unbase ok3 hr), fun _ _ _ _ _ _ q => q.elim⟩⟩
          · obtain ⟨D6, s6, ok6⟩ := le5 _ _ _ _ _ ok5
            exact ⟨D6, ok3.unbase ok6⟩
          · obtain ⟨D6, s6, ok6⟩ := le5 _ _ _ _ _ ok5
            exact ⟨D6, ok3.unbase ok6⟩
end
end Rf

namespace Rf
open PySem PySem.Spec PyProof.Rows L2

/-! ### list comprehensions -/
def compG {α β : Type} (c : α → Option Bool) (h : α → Option β) : List α → Option (List β)
  | [] => some []
  | x :: l => match c x with
    | some true => (match h x with
      | some y => (match compG c h l with
        | some ys => some (y :: ys)
        | none => none)
      | none => none)
    | some false => compG c h l
    | none => none
def comp {α β : Type} (c : α → Option Bool) (h : α → Option β) (l : List α) : Option (List β) := if l.length ≤ 100000 then compG c h l else none
/-- an object that no name of the def holds changes -/
theorem Ok.touch {g : List Sl} {F D0 : Hp} {σ : L2.St} {H D : Hp} {p : Addr} {o : HO} (ok : Ok g F D0 σ H D) (d : D p = none) (f : F p = none) (no : ∀ (i : Nat) (s : Sl) (q : Addr), g[i]? = some s → s.own = true → σ[i]? = some (some (V.ref q)) → q ≠ p) : Ok g F D0 σ (upd H p o) D where
  sub := fun b u e => by rw [upd_ne (ne_of_none e d)]; exact ok.sub b u e
  fr := fun b u e => by rw [upd_ne (ne_of_none e f)]; exact ok.fr b u e
  d0 := ok.d0
  new := ok.new
  len := ok.len
  dat := ok.dat
  own := fun i s h h2 => by
    obtain ⟨q, u, a, b, c, e, w⟩ := ok.own i s h h2
    exact ⟨q, u, a, by rw [upd_ne (no i s q h h2 a)]; exact b, c, e, w⟩
  apart := ok.apart
section
variable {X : Cx} {g : List Sl} {P : Pt} {a b c e : Expr} {es : List Expr} {rest : List Stmt} {pos p1 p2 : Pos} {r ra rb : Rp} {rs rs' : List Rp} {x f : Str} {k k1 k2 : Bool} {i j : Int} {α β : Type} {fa : α → Rp} {fb : β → Rp} {l : List α}
abbrev TsG (X : Cx) (ifs : List Expr) (g : List Sl) (b : Bool) : Prop := PTs X ifs (tT g b)
theorem ts_to {ifs : List Expr} {t t' : TT} (h : PTs X ifs t) (m : ∀ σ H R, t' σ H R → t σ H R) : PTs X ifs t' := ⟨fun pins s σ H R I q => h.run pins s σ H R I (m _ _ _ q)⟩
theorem ts_nil : TsG X [] g true := ts_to pts_nil fun σ H R ⟨F, D0, D, ok, k⟩ => k H D (Grow.refl ok.sub)
theorem ts_one (h : BG X c g k) : TsG X [c] g k := pts_one h
abbrev Blk (X : Cx) (s : Shared) (H : Hp) (scope : Scope) (C : Addr) (cl : List (Str × Addr)) (fp : List Addr) : Cx := X.blk s H scope (compEnvC scope cl C X.env) fp
theorem lc_read {own : List (Str × Nat)} {σ : L2.St} {H : Hp} {Q : VK} {F D0 D : Hp} (tgt : α → List Sl) (cm : α → Option Bool) (hm : α → Option β) {ys : List β} (ok : Ok g F D0 σ H D) (kk : GiveN (ys.map fb) H D Q) (hy : comp cm hm l = some ys)
    {wi : TI} (hwi : ∀ R, (∀ J H1 D1, Grow H D H1 D1 → Walks J D1 (l.map fa) → R J H1) → wi σ H R) :
    tLc wi (fun v σ H Q => ∃ x, tgG (fa x) (wipeG g (own.map (·.2))) (tgt x) (own.map (·.2)) v σ H Q) (fun σ H Q => ∃ x k, cm x = some k ∧ tT (tgt x) k σ H Q) (fun σ H Q => ∃ x y, cm x = some true ∧ hm x = some y ∧ tG (tgt x) (fb y) σ H Q) (own.map (·.2)) σ H Q := by
  refine hwi _ fun J H1 D1 e1 hw L nL => ?_
  unfold comp at hy
  by_cases hz : l.length ≤ 100000
  · rw [if_pos hz] at hy
    have ok1 := ok.grow e1
    have dL : D1 L = none := e1.i.free nL
    have fL : F L = none := ok1.fr.free nL
    have hL : H L = none := e1.h.free nL
    have no : ∀ (i : Nat) (s : Sl) (q : Addr), g[i]? = some s → s.own = true → σ[i]? = some (some (V.ref q)) → q ≠ L := fun i s q a1 a2 a3 z => by
      obtain ⟨q', u, b1, b2, _⟩ := ok1.own i s a1 a2
      rw [a3] at b1; cases b1; subst z; rw [nL] at b2; cases b2
    refine ⟨fun i m Hc => m = l.length - i ∧ i ≤ l.length ∧ ∃ (D' : Hp) (acc : List V) (done tail : List β), Same D1 D' ∧ Ok g F D0 σ Hc D' ∧ Hc L = some (.lst acc) ∧ D' L = none ∧ Reps D' (done.map fb) acc ∧ acc.length ≤ i ∧ compG cm hm (l.drop i) = some tail ∧ done ++ tail = ys ∧
      Same H Hc ∧ (∀ a, D' a ≠ none → D a ≠ none ∨ Free H a), ⟨l.length, by simp, Nat.zero_le _, D1, [], [], ys, Same.refl _, ok1.touch dL fL no, upd_same, dL, (show Reps D1 (([] : List β).map fb) [] from .nil), Nat.zero_le _, by simpa using hy, rfl, e1.h.trans (same_upd nL), fun a h => e1.f a h⟩, ?_⟩
    rintro i m Hc ⟨rfl, hi, D', acc, done, tail, sD, okc, cL, dL', ra', hal, hcomp, hdt, sH, hnew⟩
    have w := hw i Hc D' sD okc.sub
    by_cases hlt : i < l.length
    · have hx : l[i]? = some l[i] := List.getElem?_eq_getElem hlt
      have hd : l.drop i = l[i] :: l.drop (i + 1) := (List.getElem_cons_drop ..).symm
      rw [hd] at hcomp
      have hcomp' : (match cm l[i] with
        | some true => (match hm l[i] with
          | some y => (match compG cm hm (l.drop (i + 1)) with
            | some ys => some (y :: ys)
            | none => none)
          | none => none)
        | some false => compG cm hm (l.drop (i + 1))
        | none => none) = some tail := hcomp
      obtain ⟨hgo, hyl⟩ := w.1 (fa l[i]) (by rw [List.getElem?_map, hx]; rfl)
      refine .inr ⟨hgo, fun H' => ∃ m', m' = l.length - (i + 1) ∧ i + 1 ≤ l.length ∧ ∃ (D' : Hp) (acc : List V) (done tail : List β), Same D1 D' ∧ Ok g F D0 σ H' D' ∧ H' L = some (.lst acc) ∧ D' L = none ∧ Reps D' (done.map fb) acc ∧ acc.length ≤ i + 1 ∧ compG cm hm (l.drop (i + 1)) = some tail ∧ done ++ tail = ys ∧
        Same H H' ∧ (∀ a, D' a ≠ none → D a ≠ none ∨ Free H a), fun H' ⟨m', e1, q⟩ => ⟨m', by omega, e1, q⟩, fun v H2 hv => ?_⟩
      obtain ⟨D3, g3, r3⟩ := hyl v H2 hv
      have ok3 := okc.grow g3
      refine ⟨l[i], F, D0, D3, Ok.wipe ok3 _, r3, fun σ4 o4 ok4 => ⟨?_, ?_⟩⟩
      · have q := out_wipe o4
        have w2 : ∀ ws : List Nat, wipe (wipe σ ws) ws = wipe σ ws := by
          intro ws
          refine out_wipe (vs := ws) ⟨wipe_length _ _, fun j hj => ?_⟩
          exact wipe_out hj
        rw [q, w2]
      · cases hck : cm l[i] with
        | none => rw [hck] at hcomp'; cases hcomp'
        | some k =>
          rw [hck] at hcomp'
          refine ⟨l[i], k, hck, F, D0, D3, ok4, fun H5 D5 e5 => ?_⟩
          have e35 : Grow Hc D' H5 D5 := g3.trans e5
          have keepL : ∀ {Hx Dx : Hp}, Grow Hc D' Hx Dx → Hx L = some (.lst acc) ∧ Dx L = none := fun gx => ⟨gx.h _ _ cL, by
            cases q : (_ : Hp) L with
            | none => exact q
            | some u =>
              rcases gx.f L (by rw [q]; simp) with z | z
              · exact absurd dL' z
              · rcases z with z | ⟨u, z, st⟩
                · rw [cL] at z; cases z
                · rw [cL] at z; cases z; exact (still_lst st).elim⟩
          have newx : ∀ {Hx Dx : Hp}, Grow Hc D' Hx Dx → ∀ a, Dx a ≠ none → D a ≠ none ∨ Free H a := fun gx a ha => by
            rcases gx.f a ha with z | z
            · exact hnew a z
            · exact .inr (z.back sH)
          cases k with
          | false =>
            obtain ⟨l5, d5⟩ := keepL e35
            refine iteF ⟨_, rfl, hlt, D5, acc, done, tail, sD.trans e35.d, okc.grow e35, l5, d5, ra'.mono e35.d, by omega, hcomp', hdt, sH.trans e35.h, newx e35⟩
          | true =>
            cases hyk : hm l[i] with
            | none =>
              have z : (match hm l[i] with
                | some y => (match compG cm hm (l.drop (i + 1)) with
                  | some ys => some (y :: ys)
                  | none => none)
                | none => none) = some tail := hcomp'
              rw [hyk] at z; cases z
            | some y =>
              have z : (match hm l[i] with
                | some y => (match compG cm hm (l.drop (i + 1)) with
                  | some ys => some (y :: ys)
                  | none => none)
                | none => none) = some tail := hcomp'
              rw [hyk] at z
              cases htl : compG cm hm (l.drop (i + 1)) with
              | none =>
                have z' : (match compG cm hm (l.drop (i + 1)) with | some ys => some (y :: ys) | none => none) = some tail := z
                rw [htl] at z'; cases z'
              | some tl =>
                have z' : (match compG cm hm (l.drop (i + 1)) with | some ys => some (y :: ys) | none => none) = some tail := z
                rw [htl] at z'
                cases z'
                refine iteT ⟨l[i], y, hck, hyk, F, D0, D5, ok4.grow e5, fun u H6 D6 e6 hu => ?_⟩
                have e36 := e35.trans e6
                obtain ⟨l6, d6⟩ := keepL e36
                refine ⟨acc, l6, by rw [sizeLine_eq]; omega, _, rfl, hlt, D6, acc ++ [u], done ++ [y], tl, sD.trans e36.d, (okc.grow e36).touch d6 fL no, upd_same, d6, ?_, by rw [List.length_append]; show acc.length + 1 ≤ i + 1; omega, rfl, by rw [List.append_assoc]; exact hdt, ?_, newx e36⟩
                · rw [List.map_append]
                  exact reps_app (ra'.mono e36.d) (.cons hu .nil)
                · intro b o hb
                  rw [upd_ne (ne_of_none hb hL)]
                  exact e36.h _ _ (sH _ _ hb)
    · have e2 : i = l.length := by omega
      subst e2
      have e3 : l.drop l.length = [] := List.drop_length
      rw [e3] at hcomp
      cases hcomp
      rw [List.append_nil] at hdt
      subst hdt
      refine .inl ⟨w.2 (by rw [List.length_map]), ?_⟩
      have eH : Hc = upd (fun a => if a = L then none else Hc a) L (.lst acc) := by
        funext a
        by_cases ha : a = L
        · subst ha; rw [upd_same]; exact cL
        · rw [upd_ne ha]; exact (if_neg ha).symm
      rw [eH]
      refine kk L acc _ D' ⟨fun b o hb => ?_, e1.d.trans sD, fun b o hb => ?_, hnew⟩ (if_pos rfl) ra'
      · show (if b = L then none else Hc b) = some o
        rw [if_neg (ne_of_none hb hL)]; exact sH _ _ hb
      · show (if b = L then none else Hc b) = some o
        rw [if_neg (ne_of_none hb dL')]; exact okc.sub _ _ hb
  · rw [if_neg hz] at hy; cases hy
theorem ng_lc {tg it elt : Expr} {ifs : List Expr} {scope : Scope} (own : List (Str × Nat)) (tgt : α → List Sl) (cm : α → Option Bool) (hm : α → Option β) {ys : List β} (hc : X.calm = true) (nd : X.N.Nodup) (hi : IG X tg it g (l.map fa)) (hy : comp cm hm l = some ys) (ok : BlkOk X.N X.env.scope scope own)
    (ht : ∀ x s H C cl fp, KG (Blk X s H scope C cl fp) tg (fa x) (wipeG g (own.map (·.2))) (tgt x) (own.map (·.2)))
    (hf : ∀ x k s H C cl fp, cm x = some k → TsG (Blk X s H scope C cl fp) ifs (tgt x) k)
    (he : ∀ x y s H C cl fp, cm x = some true → hm x = some y → EG (Blk X s H scope C cl fp) elt (tgt x) (fb y)) (hs : ∀ x, foldedSetIterable it X.env x = pure x := by intro _; rfl) : NG X (.ListComp elt [⟨tg, it, ifs, 0⟩] scope pos) g (ys.map fb) := by
  refine pe_to (pe_lc hc nd hi ok (g := fun v σ H Q => ∃ x, tgG (fa x) (wipeG g (own.map (·.2))) (tgt x) (own.map (·.2)) v σ H Q) (tt := fun σ H Q => ∃ x k, cm x = some k ∧ tT (tgt x) k σ H Q) (te := fun σ H Q => ∃ x y, cm x = some true ∧ hm x = some y ∧ tG (tgt x) (fb y) σ H Q)
    (fun s H C cl fp => ⟨fun pins s' σ H' v u Q I rv ⟨x, q⟩ => (ht x s H C cl fp).run pins s' σ H' v u Q I rv q⟩)
    (fun s H C cl fp => ⟨fun pins s' σ H' Q I ⟨x, k, e, q⟩ => (hf x k s H C cl fp e).run pins s' σ H' Q I q⟩)
    (fun s H C cl fp => ⟨fun pins s' σ H' Q I ⟨x, y, e1, e2, q⟩ => (he x y s H C cl fp e1 e2).run pins s' σ H' Q I q⟩) hs) fun σ H Q ⟨F, D0, D, ok', k⟩ => ?_
  exact lc_read (own := own) tgt cm hm ok' k hy fun R hR => ⟨F, D0, D, ok', hR⟩
/-- name = [..] -/
theorem sg_setLc (n : Nat) {tg it elt : Expr} {ifs : List Expr} {scope : Scope} {y : Str} (own : List (Str × Nat)) (tgt : α → List Sl) (cm : α → Option Bool) (hm : α → Option β) {ys : List β} (hc : X.calm = true) (nd : X.N.Nodup) (hi : IG X tg it g (l.map fa)) (hy : comp cm hm l = some ys) (ok : BlkOk X.N X.env.scope scope own)
    (ht : ∀ x s H C cl fp, KG (Blk X s H scope C cl fp) tg (fa x) (wipeG g (own.map (·.2))) (tgt x) (own.map (·.2)))
    (hf : ∀ x k s H C cl fp, cm x = some k → TsG (Blk X s H scope C cl fp) ifs (tgt x) k)
    (he : ∀ x y s H C cl fp, cm x = some true → hm x = some y → EG (Blk X s H scope C cl fp) elt (tgt x) (fb y)) (h : SG X rest (g.set n (.l (ys.map fb))) P) (hN : X.N[n]? = some y := by rfl) (hyl : X.env.scope.names.lookup y = some .local := by rfl)
    (hsw : swapsWith (.ListComp elt [⟨tg, it, ifs, 0⟩] scope p1) (some (.Name y p2)) pos.line X.env = pure true := by exact sw_true rfl rfl rfl (by decide +kernel)) (hs : ∀ x, foldedSetIterable it X.env x = pure x := by intro _; rfl) : SG X (.Assign [.Name y p2] (.ListComp elt [⟨tg, it, ifs, 0⟩] scope p1) pos :: rest) g P := by
  refine sg_cons (N := fun q => q = g.set n (.l (ys.map fb))) (ps_to (ps_setLc hc nd hN hyl hsw hi ok (g := fun v σ H Q => ∃ x, tgG (fa x) (wipeG g (own.map (·.2))) (tgt x) (own.map (·.2)) v σ H Q) (tt := fun σ H Q => ∃ x k, cm x = some k ∧ tT (tgt x) k σ H Q) (te := fun σ H Q => ∃ x y, cm x = some true ∧ hm x = some y ∧ tG (tgt x) (fb y) σ H Q)
    (fun s H C cl fp => ⟨fun pins s' σ H' v u Q I rv ⟨x, q⟩ => (ht x s H C cl fp).run pins s' σ H' v u Q I rv q⟩)
    (fun s H C cl fp => ⟨fun pins s' σ H' Q I ⟨x, k, e, q⟩ => (hf x k s H C cl fp e).run pins s' σ H' Q I q⟩)
    (fun s H C cl fp => ⟨fun pins s' σ H' Q I ⟨x, y, e1, e2, q⟩ => (he x y s H C cl fp e1 e2).run pins s' σ H' Q I q⟩) hs) fun E σ H ⟨F, D0, D, ok', p⟩ => ?_) fun _ q => q ▸ h
  exact lc_read (own := own) (F := F) (D0 := D0) (D := D) (fb := fb) tgt cm hm ok' (show GiveN (ys.map fb) H D _ from fun q vs H' D' e nn hv => p.nx _ _ _ D' rfl ((ok'.grow e).setNew (s := .l (ys.map fb)) (o := .lst vs) nn rfl hv)) hy fun R hR => ⟨F, D0, D, ok', hR⟩
end
end Rf

namespace Rf
open PySem PySem.Spec PyProof.Rows L2

/-! ### values on their way into a name -/
/-- what came: data, or a new object of the def's own -/
def Fresh (s : Sl) (H H' D' : Hp) (v : V) : Prop := match s with
  | .non => True
  | .d r => r.p D' v
  | s => ∃ p o, v = .ref p ∧ H p = none ∧ H' p = some o ∧ D' p = none ∧ s.ho D' p o
def tV (g : List Sl) (s : Sl) : TE := fun σ H Q => ∃ F D0 D, Ok g F D0 σ H D ∧ ∀ v H' D', Grow H D H' D' → Fresh s H H' D' v → Q v H'
abbrev VG (X : Cx) (e : Expr) (g : List Sl) (s : Sl) : Prop := PE X e (tV g s)
section
variable {g : List Sl} {F D0 : Hp} {σ : L2.St} {H D H' D' : Hp} {i : Nat} {s : Sl} {v : V}
/-- an object that no name holds comes to a name -/
theorem Ok.adopt {p : Addr} {o : HO} (ok : Ok g F D0 σ H D) (hp : H p = some o) (hd : D p = none) (hf : F p = none) (no : ∀ (j : Nat) (t : Sl) (q : Addr), g[j]? = some t → t.own = true → σ[j]? = some (some (V.ref q)) → q ≠ p) (hs : s.own = true) (h : s.ho D p o) :
    Ok (g.set i s) F D0 (σ.set i (some (.ref p))) H D where
  sub := ok.sub
  fr := ok.fr
  d0 := ok.d0
  new := ok.new
  len := by rw [List.length_set, List.length_set]; exact ok.len
  dat := fun j r' q => by
    rcases get_set q with ⟨e, z⟩ | ⟨e, z⟩
    · rw [← z] at hs; cases hs
    · rw [List.getElem?_set_ne e]; exact ok.dat j r' z
  own := fun j s' q o' => by
    rcases get_set q with ⟨e, z⟩ | ⟨e, z⟩
    · subst e; cases z
      exact ⟨p, o, by rw [List.getElem?_set_self (by rw [ok.len]; exact set_len q)], hp, hd, hf, h⟩
    · rw [List.getElem?_set_ne e]; exact ok.own j s' z o'
  apart := fun j k s1 t1 p' q1 q2 o1 o2 e1 e2 => by
    rcases get_set q1 with ⟨e, z⟩ | ⟨e, z⟩
    · rcases get_set q2 with ⟨e', z'⟩ | ⟨e', z'⟩
      · exact e.symm.trans e'
      · subst e
        rw [List.getElem?_set_self (by rw [ok.len]; exact set_len q1)] at e1
        rw [List.getElem?_set_ne e'] at e2
        cases e1
        exact absurd rfl (no _ _ _ z' o2 e2)
    · rcases get_set q2 with ⟨e', z'⟩ | ⟨e', z'⟩
      · subst e'
        rw [List.getElem?_set_self (by rw [ok.len]; exact set_len q2)] at e2
        rw [List.getElem?_set_ne e] at e1
        cases e2
        exact absurd rfl (no _ _ _ z o1 e1)
      · rw [List.getElem?_set_ne e] at e1; rw [List.getElem?_set_ne e'] at e2
        exact ok.apart j k s1 t1 p' z z' o1 o2 e1 e2
theorem Ok.noAddr (ok : Ok g F D0 σ H D) {p : Addr} (n : H p = none) : ∀ (j : Nat) (t : Sl) (q : Addr), g[j]? = some t → t.own = true → σ[j]? = some (some (V.ref q)) → q ≠ p := fun j t q a1 a2 a3 z => by
  obtain ⟨q', u, b1, b2, _⟩ := ok.own j t a1 a2
  rw [a3] at b1; cases b1; subst z; rw [n] at b2; cases b2
theorem Ok.put (ok : Ok g F D0 σ H D) (e : Grow H D H' D') (f : Fresh s H H' D' v) : Ok (g.set i s) F D0 (σ.set i (some v)) H' D' := by
  cases s with
  | non => exact (ok.grow e).non _
  | d r => exact (ok.grow e).setD f
  | l rs => obtain ⟨p, o, rfl, n, a, b, c⟩ := f; exact (ok.grow e).adopt a b (ok.fr.free n) (ok.noAddr n) rfl c
  | k rs => obtain ⟨p, o, rfl, n, a, b, c⟩ := f; exact (ok.grow e).adopt a b (ok.fr.free n) (ok.noAddr n) rfl c
  | t rs => obtain ⟨p, o, rfl, n, a, b, c⟩ := f; exact (ok.grow e).adopt a b (ok.fr.free n) (ok.noAddr n) rfl c
  | i ax adx C fs => obtain ⟨p, o, rfl, n, a, b, c⟩ := f; exact (ok.grow e).adopt a b (ok.fr.free n) (ok.noAddr n) rfl c
  | b qx qn => obtain ⟨p, o, rfl, n, a, b, c⟩ := f; exact (ok.grow e).adopt a b (ok.fr.free n) (ok.noAddr n) rfl c
  | j ax rs => obtain ⟨p, o, rfl, n, a, b, c⟩ := f; exact (ok.grow e).adopt a b (ok.fr.free n) (ok.noAddr n) rfl c
/-- one thing came, then another: both are stored -/
theorem Ok.put2 {H2 D2 : Hp} {j : Nat} {s2 : Sl} {v2 : V} (ok : Ok g F D0 σ H D) (e : Grow H D H' D') (f : Fresh s H H' D' v) (e2 : Grow H' D' H2 D2) (f2 : Fresh s2 H' H2 D2 v2) : Ok ((g.set i s).set j s2) F D0 ((σ.set i (some v)).set j (some v2)) H2 D2 := by
  have a : Ok (g.set i s) F D0 (σ.set i (some v)) H' D' := ok.put e f
  exact a.put e2 f2
end
section
variable {X : Cx} {g : List Sl} {P : Pt} {a b c e : Expr} {es : List Expr} {rest : List Stmt} {pos p1 p2 p3 p4 : Pos} {r ra rb : Rp} {rs rs' : List Rp} {x y f : Str} {k k1 k2 : Bool} {i j : Int} {α β : Type} {fa : α → Rp} {fb : β → Rp} {l : List α} {s s2 : Sl}
theorem vg_d (h : EG X e g r) : VG X e g (.d r) := pe_to h fun σ H Q ⟨F, D0, D, ok, k⟩ => ⟨F, D0, D, ok, fun v H' D' e hv => k v H' D' e hv⟩
theorem vg_l (h : NG X e g rs) : VG X e g (.l rs) := pe_to h fun σ H Q ⟨F, D0, D, ok, k⟩ => ⟨F, D0, D, ok, fun p vs H' D' e n hv => k (.ref p) _ D' (e.trans (Grow.own e.i n)) ⟨p, .lst vs, rfl, e.h.free n, upd_same, e.i.free n, hv⟩⟩
theorem vg_k : VG X (.Dict [] [] pos) g (.k []) := pe_to pe_dnewK fun σ H Q ⟨F, D0, D, ok, k⟩ p n => k (.ref p) _ D (Grow.own ok.sub n) ⟨p, .dK [], rfl, n, upd_same, ok.sub.free n, .nil⟩
theorem vg_t : VG X (.Dict [] [] pos) g (.t []) := pe_to pe_dnewT fun σ H Q ⟨F, D0, D, ok, k⟩ p n => k (.ref p) _ D (Grow.own ok.sub n) ⟨p, .dT [], rfl, n, upd_same, ok.sub.free n, .nil⟩
theorem s1_setV (n : Nat) (he : VG X e g s) (hP : P.nx (g.set n s)) (nd : X.N.Nodup) (hN : X.N[n]? = some x := by rfl) (hx : Loc X.env.scope x := by first | exact Or.inl rfl | exact Or.inr rfl) (hs : swapsWith e (some (.Name x p1)) pos.line X.env = pure false := by rfl)
    (hf : X.fn x = true ∨ X.env.scope.names.lookup x = some .local := by first | exact .inl rfl | exact .inr rfl) : S1 X (.Assign [.Name x p1] e pos) g P :=
  ps_to (ps_set nd hN hx he hs hf) fun E σ H ⟨F, D0, D, ok, p⟩ => ⟨F, D0, D, ok, fun v H' D' e1 hv => p.nx _ _ _ D' hP (ok.put e1 hv)⟩
/-- x = e -/
theorem sg_setV (n : Nat) (he : VG X e g s) (nd : X.N.Nodup) (h : SG X rest (g.set n s) P) (hN : X.N[n]? = some x := by rfl) (hx : Loc X.env.scope x := by first | exact Or.inl rfl | exact Or.inr rfl) (hs : swapsWith e (some (.Name x p1)) pos.line X.env = pure false := by rfl)
    (hf : X.fn x = true ∨ X.env.scope.names.lookup x = some .local := by first | exact .inl rfl | exact .inr rfl) : SG X (.Assign [.Name x p1] e pos :: rest) g P :=
  sg_cons (N := fun q => q = g.set n s) (s1_setV n he rfl nd hN hx hs hf) fun _ q => q ▸ h
/-- x, y = a, b with plain local names -/
theorem sg_par (n m : Nat) {u u2} (ha : VG X a g s) (hb : VG X b g s2) (hc : X.calm = true) (nd : X.N.Nodup) (h : SG X rest ((g.set n s).set m s2) P) (hne : n ≠ m := by decide) (hN : X.N[n]? = some x := by rfl) (hN2 : X.N[m]? = some y := by rfl)
    (hx : X.env.scope.names.lookup x = some .local := by rfl) (hy : X.env.scope.names.lookup y = some .local := by rfl) (hw : swappedStores [.Tuple [.Name x p1, .Name y p2] u p3] (.Tuple [a, b] u2 p4) X.env = pure (some [x, y]) := by rfl)
    (hs : swapsWithSole [.Tuple [.Name x p1, .Name y p2] u p3] (.Tuple [a, b] u2 p4) pos.line X.env = pure false := by rfl) (h1 : starEach [a, b] X.env = (false, eval a X.env) :: starEach [b] X.env := by rfl) (h2 : starEach [b] X.env = (false, eval b X.env) :: starEach [] X.env := by rfl) :
    SG X (.Assign [.Tuple [.Name x p1, .Name y p2] u p3] (.Tuple [a, b] u2 p4) pos :: rest) g P :=
  sg_cons (N := fun q => q = (g.set n s).set m s2) (ps_to (ps_par hc nd hN hN2 hne hx hy (pa_cons ha (pa_cons hb pa_nil h2) h1) hw hs) fun E σ H ⟨F, D0, D, ok, p⟩ =>
    ⟨F, D0, D, ok, fun v H1 D1 e1 f1 => ⟨F, D0, D1, ok.grow e1, fun w H2 D2 e2 f2 => ⟨v, w, rfl, p.nx _ _ _ D2 rfl (ok.put2 e1 f1 e2 f2)⟩⟩⟩) fun _ q => q ▸ h
/-- the same where a name is captured (the pair is made, then parted) -/
theorem sg_parC (n m : Nat) {u u2} (ha : VG X a g s) (hb : VG X b g s2) (hc : X.calm = true) (nd : X.N.Nodup) (h : SG X rest ((g.set n s).set m s2) P) (hN : X.N[n]? = some x := by rfl) (hN2 : X.N[m]? = some y := by rfl)
    (hx : Loc X.env.scope x := by first | exact Or.inl rfl | exact Or.inr rfl) (hy : Loc X.env.scope y := by first | exact Or.inl rfl | exact Or.inr rfl) (hf : X.fn x = true ∨ X.env.scope.names.lookup x = some .local := by first | exact .inl rfl | exact .inr rfl)
    (hf2 : X.fn y = true ∨ X.env.scope.names.lookup y = some .local := by first | exact .inl rfl | exact .inr rfl) (hw : swappedStores [.Tuple [.Name x p1, .Name y p2] u p3] (.Tuple [a, b] u2 p4) X.env = pure none := by rfl)
    (hs : swapsWithSole [.Tuple [.Name x p1, .Name y p2] u p3] (.Tuple [a, b] u2 p4) pos.line X.env = pure false := by rfl) (h1 : starEach [a, b] X.env = (false, eval a X.env) :: starEach [b] X.env := by rfl) (h2 : starEach [b] X.env = (false, eval b X.env) :: starEach [] X.env := by rfl) :
    SG X (.Assign [.Tuple [.Name x p1, .Name y p2] u p3] (.Tuple [a, b] u2 p4) pos :: rest) g P :=
  sg_cons (N := fun q => q = (g.set n s).set m s2) (ps_to (ps_asg (pe_tup (pa_cons ha (pa_cons hb pa_nil h2) h1)) (pg_tup hc (pgs_cons (pg_name nd hN hx hf) (pgs_cons (pg_name nd hN2 hy hf2) pgs_nil)) (n := 2)) hs hw) fun E σ H ⟨F, D0, D, ok, p⟩ =>
    ⟨F, D0, D, ok, fun v H1 D1 e1 f1 => ⟨F, D0, D1, ok.grow e1, fun w H2 D2 e2 f2 => ⟨by show 2 ≤ sizeLine; decide, fun q nq => by
      refine ⟨q, [v, w], rfl, SqT.of upd_same, rfl, v, [w], rfl, w, [], rfl, rfl, ?_⟩
      exact p.nx _ _ _ D2 rfl ((ok.put2 e1 f1 e2 f2).grow (Grow.own e2.i nq))⟩⟩⟩) fun _ q => q ▸ h
/-- x, y = e, e some data that is a pair -/
theorem sg_unp (n m : Nat) {u} (ha : EG X e g (rT [ra, rb])) (hc : X.calm = true) (nd : X.N.Nodup) (h : SG X rest ((g.set n (.d ra)).set m (.d rb)) P) (hN : X.N[n]? = some x := by rfl) (hN2 : X.N[m]? = some y := by rfl)
    (hx : Loc X.env.scope x := by first | exact Or.inl rfl | exact Or.inr rfl) (hy : Loc X.env.scope y := by first | exact Or.inl rfl | exact Or.inr rfl) (hf : X.fn x = true ∨ X.env.scope.names.lookup x = some .local := by first | exact .inl rfl | exact .inr rfl)
    (hf2 : X.fn y = true ∨ X.env.scope.names.lookup y = some .local := by first | exact .inl rfl | exact .inr rfl) (hw : swappedStores [.Tuple [.Name x p1, .Name y p2] u p3] e X.env = pure none := by rfl)
    (hs : swapsWithSole [.Tuple [.Name x p1, .Name y p2] u p3] e pos.line X.env = pure false := by rfl) : SG X (.Assign [.Tuple [.Name x p1, .Name y p2] u p3] e pos :: rest) g P :=
  sg_cons (N := fun q => q = (g.set n (.d ra)).set m (.d rb)) (ps_to (ps_asg ha (kg_pair n m hc nd hN hx hf hN2 hy hf2) hs hw) fun E σ H ⟨F, D0, D, ok, p⟩ =>
    ⟨F, D0, D, ok, fun v H1 D1 e1 hv => ⟨F, D0, D1, ok.grow e1, hv, fun σ' _ ok' => p.nx _ _ _ D1 rfl ok'⟩⟩) fun _ q => q ▸ h
/-! ### a list of the def's own changes -/
theorem sg_append (n : Nat) (hg : g[n]? = some (.l rs)) (he : EG X e g r) (hz : rs.length ≤ 100000) (h : SG X rest (g.set n (.l (rs ++ [r]))) P) (hN : X.N[n]? = some x := by rfl) (hv : Vis X.env.scope x := by first | exact Or.inl rfl | exact Or.inr (Or.inl rfl) | exact Or.inr (Or.inr rfl))
    (hd : (x == ("__debug__" : Str)) = false := by decide) (hcd : (x == ("__classdict__" : Str)) = false := by decide) (hbase : attributeBase (.Name x p1) "append" X.env (eval (.Name x p1) X.env) = eval (.Name x p1) X.env := by rfl)
    (hfew : ((backTo p3 (starEach (e :: []) X.env)).all (fun x => !x.1) && (backToKw p3 (keywordEach [] X.env)).all (fun x => x.1.isSome) && decide ((e :: []).length + ([] : List Keyword).length + (if ([] : List Keyword).isEmpty then 0 else 1) < 30)) = true := by rfl)
    (hline : (p2.endLine == p3.line) = true := by rfl) (hss : starEach (e :: []) X.env = (false, eval e X.env) :: starEach [] X.env := by rfl) (hplain : (backTo p3 (starEach [] X.env)).any (·.1) = false := by rfl)
    (hs : swapsWith (.Call (.Attribute (.Name x p1) "append" p2) [e] [] p3) none p4.line X.env = pure false := by rfl) : SG X (.Expr (.Call (.Attribute (.Name x p1) "append" p2) [e] [] p3) p4 :: rest) g P :=
  sg_cons (N := fun q => q = g.set n (.l (rs ++ [r]))) (ps_to (ps_expr (pe_bm PySem.F.plainAttrs_list PySem.F.slot_list_append PySem.F.type_list_append mt_append (pe_var hN hv hd hcd) (pa_cons he pa_nil hss) hbase hfew hline hss hplain) hs) fun E σ H ⟨F, D0, D, ok, p⟩ => by
    obtain ⟨q, o, h1, h2, h3, h4, h5⟩ := ok.own n _ hg rfl
    cases o with
    | lst vs =>
      refine ⟨.ref q, h1, .inl ⟨rfl, _, SqL.of h2⟩, F, D0, D, ok, fun v H1 D1 e1 hv => ⟨q, vs, v, rfl, rfl, e1.h _ _ h2, by rw [sizeLine_eq, ← Reps.length h5]; omega, ?_⟩⟩
      exact p.nx _ _ _ D1 rfl ((ok.grow e1).change hg rfl h1 rfl (show Sl.ho D1 (.l (rs ++ [r])) q (.lst (vs ++ [v])) from reps_app (Reps.mono e1.d h5) (.cons hv .nil)))
    | _ => exact h5.elim) fun _ q => q ▸ h
theorem sg_extend (n : Nat) (hg : g[n]? = some (.l rs)) (he : EG X e g (rL rs')) (hz : rs.length + rs'.length ≤ 100000) (h : SG X rest (g.set n (.l (rs ++ rs'))) P) (hN : X.N[n]? = some x := by rfl) (hv : Vis X.env.scope x := by first | exact Or.inl rfl | exact Or.inr (Or.inl rfl) | exact Or.inr (Or.inr rfl))
    (hd : (x == ("__debug__" : Str)) = false := by decide) (hcd : (x == ("__classdict__" : Str)) = false := by decide) (hbase : attributeBase (.Name x p1) "extend" X.env (eval (.Name x p1) X.env) = eval (.Name x p1) X.env := by rfl)
    (hfew : ((backTo p3 (starEach (e :: []) X.env)).all (fun x => !x.1) && (backToKw p3 (keywordEach [] X.env)).all (fun x => x.1.isSome) && decide ((e :: []).length + ([] : List Keyword).length + (if ([] : List Keyword).isEmpty then 0 else 1) < 30)) = true := by rfl)
    (hline : (p2.endLine == p3.line) = true := by rfl) (hss : starEach (e :: []) X.env = (false, eval e X.env) :: starEach [] X.env := by rfl) (hplain : (backTo p3 (starEach [] X.env)).any (·.1) = false := by rfl)
    (hs : swapsWith (.Call (.Attribute (.Name x p1) "extend" p2) [e] [] p3) none p4.line X.env = pure false := by rfl) : SG X (.Expr (.Call (.Attribute (.Name x p1) "extend" p2) [e] [] p3) p4 :: rest) g P :=
  sg_cons (N := fun q => q = g.set n (.l (rs ++ rs'))) (ps_to (ps_expr (pe_bm PySem.F.plainAttrs_list PySem.F.slot_list_extend PySem.F.type_list_extend mt_extend (pe_var hN hv hd hcd) (pa_cons he pa_nil hss) hbase hfew hline hss hplain) hs) fun E σ H ⟨F, D0, D, ok, p⟩ => by
    obtain ⟨q, o, h1, h2, h3, h4, h5⟩ := ok.own n _ hg rfl
    cases o with
    | lst vs =>
      refine ⟨.ref q, h1, .inl ⟨rfl, _, SqL.of h2⟩, F, D0, D, ok, fun v H1 D1 e1 hv => ?_⟩
      obtain ⟨b, zs, rfl, hb, hz2⟩ := hv
      refine ⟨q, b, vs, zs, rfl, rfl, e1.h _ _ h2, e1.i _ _ hb, by rw [sizeLine_eq, ← Reps.length h5, ← Reps.length hz2]; omega, ?_⟩
      exact p.nx _ _ _ D1 rfl ((ok.grow e1).change hg rfl h1 rfl (show Sl.ho D1 (.l (rs ++ rs')) q (.lst (vs ++ zs)) from reps_app (Reps.mono e1.d h5) hz2))
    | _ => exact h5.elim) fun _ q => q ▸ h
/-- xs[i] = e -/
theorem sg_store (n : Nat) {m : Nat} (hg : g[n]? = some (.l rs)) (he : EG X e g r) (hi : EG X b g (rInt i)) (hm : ixN rs.length i = some m) (h : SG X rest (g.set n (.l (rs.set m r))) P) (hq : PG X (.Subscript (.Name x p1) b p2) (gSub (tVar n) (tG g (rInt i)) rSetL)) (hs : swapsWithSole [.Subscript (.Name x p1) b p2] e pos.line X.env = pure false := by rfl) (hw : swappedStores [.Subscript (.Name x p1) b p2] e X.env = pure none := by rfl) :
    SG X (.Assign [.Subscript (.Name x p1) b p2] e pos :: rest) g P :=
  sg_cons (N := fun q => q = g.set n (.l (rs.set m r))) (ps_to (ps_asg he hq hs hw) fun E σ H ⟨F, D0, D, ok, p⟩ => ⟨F, D0, D, ok, fun v H1 D1 e1 hv => by
    have ok1 := ok.grow e1
    obtain ⟨q, o, h1, h2, h3, h4, h5⟩ := ok1.own n _ hg rfl
    refine ⟨.ref q, h1, F, D0, D1, ok1, fun w H2 D2 e2 hw => ?_⟩
    cases o with
    | lst vs =>
      refine ⟨q, vs, i, m, rfl, hw, e2.h _ _ h2, by rw [← Reps.length h5]; exact hm, ?_⟩
      exact p.nx _ _ _ D2 rfl ((ok1.grow e2).change hg rfl h1 rfl (show Sl.ho D2 (.l (rs.set m r)) q (.lst (vs.set m v)) from reps_set (r.mono e2.d hv) m (Reps.mono e2.d h5)))
    | _ => exact h5.elim⟩) fun _ q => q ▸ h
end
end Rf

namespace Rf
open PySem PySem.Spec PyProof.Rows L2

/-! ### promises -/
abbrev Rel := List Rp → Rp → Prop
def SpR (rel : Rel) : Sp := fun vs H Q _ => ∃ A r D, rel A r ∧ Same D H ∧ Reps D A vs ∧ Give r H D Q
structure DefC (P : Program) (w : World) (K : PySem.W.Frag) (mg : Str → Option Value) (base : Heap) (name : Str) (k : Nat) (rel : Rel) : Prop where
  ex : ∃ f fd ps, FnOk P w K mg base CX0 k f fd ps (SpR rel) ∧ mg name = some (.ref f) ∧ PySem.W.keepIn K (.ref f) = true ∧ Binds K fd ps []
structure MethC (P : Program) (w : World) (K : PySem.W.Frag) (mg : Str → Option Value) (base : Heap) (C : Addr) (m : Str) (k : Nat) (rel : Rel) : Prop where
  ex : ∃ f fd ps, FnOk P w K mg base CX0 k f fd ps (SpR rel) ∧ Meth K C m f ∧ Binds K fd ps []
/-- __init__: what the new object has then -/
abbrev RelI := List Rp → List (Str × Rp) → Prop
def SpI (C : Addr) (rel : RelI) : Sp := fun vs H Q _ => ∃ x dx A fs D args, vs = .ref x :: args ∧ H x = some (.ins C dx []) ∧ rel A fs ∧ Same D H ∧ D x = none ∧ Reps D A args ∧
  ∀ H' D' ws, (∀ a o, a ≠ x → H a = some o → H' a = some o) → H' x = some (.ins C dx ws) → Ents D' fs ws → Same D D' → Same D' H' → D' x = none → (∀ a, D' a ≠ none → D a ≠ none ∨ Free H a) → Q .non H'
structure MakeC (P : Program) (w : World) (K : PySem.W.Frag) (mg : Str → Option Value) (base : Heap) (name : Str) (C : Addr) (k : Nat) (rel : RelI) : Prop where
  ex : ∃ f fd ps, FnOk P w K mg base CX0 k f fd ps (SpI C rel) ∧ mg name = some (.ref C) ∧ Mk K C f ∧ Binds K fd ps []
section
variable {X : Cx} {g : List Sl} {P : Pt} {a b c e o : Expr} {es : List Expr} {rest : List Stmt} {pos p1 p2 p3 p4 : Pos} {r ra rb : Rp} {rs rs' A : List Rp} {x y f : Str} {k k1 k2 : Bool} {i j : Int} {α β : Type} {fa : α → Rp} {fb : β → Rp} {l : List α} {s s2 : Sl} {rel : Rel} {lv : Nat} {C : Addr} {fs : List (Str × Rp)}
theorem eg_call (F : DefC X.prog X.w X.K X.mg X.base x lv rel) (ha : AG X (e :: es) g A) (h : rel A r) (hr : Room lv X.A) (hg : Gl X x := by rfl) (hdb : (x == ("__debug__" : Str)) = false := by decide) (he : starEach (e :: es) X.env = (false, eval e X.env) :: starEach es X.env := by rfl)
    (hpl : (backTo pos (starEach es X.env)).any (·.1) = false := by rfl) : EG X (.Call (.Name x p1) (e :: es) [] pos) g r := by
  obtain ⟨f, fd, ps, F, m, kp, b⟩ := F.ex
  refine pe_to (pe_call F hr hg m kp b .nil pass0 ha hdb he hpl) fun σ H Q ⟨F, D0, D, ok, k⟩ => ⟨F, D0, D, ok, fun vs H' D' e hvs => ?_⟩
  show SpR rel (vs ++ []) H' Q E0
  rw [List.append_nil]
  exact ⟨A, r, D', h, e.i, hvs, k.later e⟩
theorem eg_meth {pl : Sem Bool} (F : MethC X.prog X.w X.K X.mg X.base C f lv rel) (cl : Cls X.K C) (ho : EG X o g (Rf.rI C fs)) (ha : AG X (e :: es) g A) (h : rel (Rf.rI C fs :: A) r) (hr : Room lv X.A) (hl : fs.lookup f = none := by rfl)
    (hst : starEach (e :: es) X.env = (false, eval e X.env) :: starEach es X.env := by rfl) (hpl : (backTo pos (starEach es X.env)).any (·.1) = false := by rfl)
    (ht : eval (.Call (.Attribute o f p1) (e :: es) [] pos) X.env = (do
      let ov ← eval o X.env
      standAt p1.atName
      let (f, first) ← holding [ov] (getMethod ov f pl)
      callWith pos f first (backTo pos (starEach (e :: es) X.env)) (backToKw pos (keywordEach [] X.env))) := by rfl) : EG X (.Call (.Attribute o f p1) (e :: es) [] pos) g r := by
  obtain ⟨f', fd, ps, F, m, b⟩ := F.ex
  refine pe_to (pe_meth (pl := pl) ho cl m F hr b .nil pass0 ha hst hpl ht) fun σ H Q ⟨F, D0, D, ok, k⟩ => ⟨F, D0, D, ok, fun v H1 D1 e1 hv => ?_⟩
  obtain ⟨q, dx, ws, rfl, h1, h2⟩ := hv
  refine ⟨q, dx, ws, rfl, e1.i _ _ h1, ents_none h2 hl, F, D0, D1, ok.grow e1, fun vs H2 D2 e2 hvs => ?_⟩
  show SpR rel (.ref q :: (vs ++ [])) H2 Q E0
  rw [List.append_nil]
  exact ⟨_, r, D2, h, e2.i, .cons ⟨q, dx, ws, rfl, e2.d _ _ h1, h2.mono e2.d⟩ hvs, k.later (e1.trans e2)⟩
theorem eg_make {rel : RelI} (F : MakeC X.prog X.w X.K X.mg X.base x C lv rel) (ha : AG X (e :: es) g A) (h : rel A fs) (hr : Room (lv + 1) X.A) (hg : Gl X x := by rfl) (hdb : (x == ("__debug__" : Str)) = false := by decide) (he : starEach (e :: es) X.env = (false, eval e X.env) :: starEach es X.env := by rfl)
    (hpl : (backTo pos (starEach es X.env)).any (·.1) = false := by rfl) : EG X (.Call (.Name x p1) (e :: es) [] pos) g (Rf.rI C fs) := by
  obtain ⟨f, fd, ps, F, m, M, b⟩ := F.ex
  refine pe_to (pe_make M F hr hg m b .nil pass0 ha hdb he hpl) fun σ H Q ⟨F, D0, D, ok, k⟩ => ⟨F, D0, D, ok, fun vs H1 D1 e1 hvs z dx nz ndx ne => ?_⟩
  show SpI C rel (.ref z :: (vs ++ [])) _ _ E0
  rw [List.append_nil]
  have s1 : Same H1 (upd (upd H1 dx (.own z)) z (.ins C dx [])) := (same_upd ndx).trans (same_upd (by rw [upd_ne (Ne.symm ne)]; exact nz))
  refine ⟨z, dx, A, fs, D1, vs, rfl, upd_same, h, e1.i.trans s1, e1.i.free nz, hvs, fun H2 D2 ws h1 h2 h3 h4 h5 h6 h7 => ⟨rfl, ?_⟩⟩
  refine k (.ref z) H2 (upd D2 z (.ins C dx ws)) ⟨fun q u hq => ?_, fun q u hq => ?_, fun q u hq => ?_, fun q hq => ?_⟩ ⟨z, dx, ws, rfl, upd_same, h3.mono (same_upd h6)⟩
  · have hq1 := e1.h _ _ hq
    exact h1 q u (ne_of_none hq1 nz) (s1 _ _ hq1)
  · rw [upd_ne (ne_of_none (h4 _ _ (e1.d _ _ hq)) h6)]; exact h4 _ _ (e1.d _ _ hq)
  · by_cases hz : q = z
    · subst hz; rw [upd_same] at hq; cases hq; exact h2
    · rw [upd_ne hz] at hq; exact h5 _ _ hq
  · by_cases hz : q = z
    · subst hz; exact .inr (.inl (e1.h.free nz))
    · rw [upd_ne hz] at hq
      rcases h7 q hq with w | w
      · exact e1.f q w
      · exact .inr ((w.back s1).back e1.h)
theorem putF_new {f : Str} {v : V} : ∀ {ws : List (Str × V)}, ws.lookup f = none → putF f v ws = ws ++ [(f, v)]
  | [], _ => rfl
  | (n, u) :: r, h => by
    rw [List.lookup_cons] at h
    cases z : (f == n) with
    | true => rw [z] at h; cases h
    | false =>
      rw [z] at h
      show (if n = f then (n, v) :: r else (n, u) :: putF f v r) = _
      rw [if_neg (fun e => by rw [e, beq_self_eq_true] at z; cases z), putF_new h]
      rfl
theorem ents_app {D : Hp} {es es' : List (Str × Rp)} {ws ws' : List (Str × V)} : Ents D es ws → Ents D es' ws' → Ents D (es ++ es') (ws ++ ws')
  | .nil, h => h
  | .cons a t, h => .cons a (ents_app t h)
theorem ents_len {κ : Type} {D : Hp} {es : List (κ × Rp)} {ws : List (κ × V)} (h : Ents D es ws) : es.length = ws.length := Paired.length h
/-- self.f = e, in __init__ -/
theorem sg_fld (n : Nat) {ax adx : Addr} (cl : Cls X.K C) (hn : NoAttr X.K C f) (hg : g[n]? = some (.i ax adx C fs)) (he : EG X e g r) (h : SG X rest (g.set n (.i ax adx C (fs ++ [(f, r)]))) P) (hl : fs.lookup f = none := by rfl) (hz : fs.length < 900 := by exact Nat.le_of_ble_eq_true rfl) (hN : X.N[n]? = some x := by rfl)
    (hv : Vis X.env.scope x := by first | exact Or.inl rfl | exact Or.inr (Or.inl rfl) | exact Or.inr (Or.inr rfl)) (hd : (x == ("__debug__" : Str)) = false := by decide) (hcd : (x == ("__classdict__" : Str)) = false := by decide)
    (hs : swapsWith e (some (.Attribute (.Name x p1) f p2)) pos.line X.env = pure false := by rfl) : SG X (.Assign [.Attribute (.Name x p1) f p2] e pos :: rest) g P :=
  sg_cons (N := fun q => q = g.set n (.i ax adx C (fs ++ [(f, r)]))) (ps_to (ps_fld (pe_var hN hv hd hcd) he hs) fun E σ H ⟨F, D0, D, ok, p⟩ => ⟨F, D0, D, ok, fun v H1 D1 e1 hv => by
    have ok1 := ok.grow e1
    obtain ⟨q, o, h1, h2, h3, h4, h5⟩ := ok1.own n _ hg rfl
    cases o with
    | ins C' dx' ws =>
      obtain ⟨⟨w1, w2, w3⟩, w4⟩ := h5
      subst w1 w2 w3
      refine ⟨.ref q, h1, q, _, _, ws, rfl, h2, cl, hn, by rw [← ents_len w4]; omega, ?_⟩
      rw [putF_new (ents_none w4 hl)]
      exact p.nx _ _ _ D1 rfl (ok1.change hg rfl h1 rfl (show Sl.ho D1 (.i q dx' _ (fs ++ [(f, r)])) q (.ins _ dx' (ws ++ [(f, v)])) from ⟨⟨rfl, rfl, rfl⟩, ents_app w4 (.cons ⟨rfl, hv⟩ .nil)⟩))
    | _ => exact h5.elim⟩) fun _ q => q ▸ h
end
/-! ### a def by its body -/
def g0 (N : List Str) (A : List Rp) : List Sl := A.map Sl.d ++ List.replicate (N.length - A.length) .non
theorem ok_start {N : List Str} {A : List Rp} {vs : List V} {H D : Hp} (hl : A.length ≤ N.length) (sD : Same D H) (h : Reps D A vs) : Ok (g0 N A) H D (L2.start N vs) H D := by
  have hlen := h.length
  refine ⟨sD, Same.refl _, Same.refl _, fun _ q => .inl q, ?_, fun i r q => ?_, fun i s q o => ?_, fun i j s t p q1 q2 o1 o2 => ?_⟩
  · unfold g0 L2.start; simp only [List.length_append, List.length_map, List.length_replicate]; omega
  · unfold g0 at q
    unfold L2.start
    by_cases hi : i < A.length
    · rw [List.getElem?_append_left (by simpa using hi), List.getElem?_map] at q
      cases e : A[i]? with
      | none => rw [e] at q; cases q
      | some r' =>
        rw [e] at q; cases q
        obtain ⟨v, h1, h2⟩ := reps_get h e
        refine ⟨v, ?_, h2⟩
        rw [List.getElem?_append_left (by simp; omega), List.getElem?_map, h1]; rfl
    · rw [List.getElem?_append_right (by simpa using hi), List.getElem?_replicate] at q
      split at q <;> cases q
  · exfalso
    unfold g0 at q
    by_cases hi : i < A.length
    · rw [List.getElem?_append_left (by simpa using hi), List.getElem?_map] at q
      cases e : A[i]? with
      | none => rw [e] at q; cases q
      | some r' => rw [e] at q; cases q; cases o
    · rw [List.getElem?_append_right (by simpa using hi), List.getElem?_replicate] at q
      split at q
      · cases q; cases o
      · cases q
  · exfalso
    unfold g0 at q1
    by_cases hi : i < A.length
    · rw [List.getElem?_append_left (by simpa using hi), List.getElem?_map] at q1
      cases e : A[i]? with
      | none => rw [e] at q1; cases q1
      | some r' => rw [e] at q1; cases q1; cases o1
    · rw [List.getElem?_append_right (by simpa using hi), List.getElem?_replicate] at q1
      split at q1
      · cases q1; cases o1
      · cases q1
section
variable {P : Program} {w : World} {K : PySem.W.Frag} {mg : Str → Option Value} {base : Heap} {x qual : Str} {params : Arguments} {body : List Stmt} {scope : Scope} {f C : Addr} {fd : FuncData} {N ps : List Str} {k : Nat} {rel : Rel}
/-- the context of a body from which no error goes out -/
abbrev Bd (P : Program) (w : World) (K : PySem.W.Frag) (mg : Str → Option Value) (base : Heap) (N : List Str) (qual : Str) (scope : Scope) (f : Addr) (cdv : Value) (A : Around) (outer : List Env) (s : Shared) (H : Hp) (E : XK) : Cx := (cxOf CX0 P w K mg base N qual scope f cdv A outer s H E).nox
theorem def_g (F : FunD K x qual params body scope [] [] f fd) (S : FnScope N ps scope) (hl : ∀ A r, rel A r → A.length = ps.length) (hN : ps.length ≤ N.length)
    (hb : ∀ (cdv : Value) (A : Around) (outer : List Env) (s : Shared) (H : Hp) (E : XK), Room k (Bd P w K mg base N qual scope f cdv A outer s H E).A → ∀ As r, rel As r → SG (Bd P w K mg base N qual scope f cdv A outer s H E) body (g0 N As) { nx := fun _ => r = rNon, rt := fun q => q = r }) :
    FnOk P w K mg base CX0 (k + 1) f fd ps (SpR rel) := by
  refine F.ok S (fun vs H Q E ⟨A, r, D, h, _, hv, _⟩ => by rw [← hv.length]; exact hl A r h) fun cdv A outer s H vs Q E hr ⟨As, r, D, h, sD, hv, kk⟩ => ?_
  refine ⟨_, PSs.nox (hb cdv A outer s H E hr As r h), ?_⟩
  refine ⟨H, D, D, ok_start (by rw [hl As r h]; exact hN) sD hv, ⟨fun g' σ' H' D' e ok => ?_, fun _ _ _ _ q _ => q.elim, fun _ _ _ _ q _ => q.elim, fun r' v H' e hr => ?_, fun _ _ _ _ _ _ q => q.elim⟩⟩
  · refine kk .non H' D' ⟨ok.fr, ok.d0, ok.sub, ok.new⟩ ?_
    have e : r = rNon := e
    rw [e]; rfl
  · obtain ⟨D', h1, h2, h3, h4, h5⟩ := hr
    have e : r' = r := e
    subst e
    exact kk v H' D' ⟨h1, h2, h3, h4⟩ h5
theorem ok_startI {N : List Str} {A : List Rp} {vs : List V} {H D : Hp} {x dx : Addr} (hl : A.length + 1 ≤ N.length) (sD : Same D H) (h : Reps D A vs) (hx : H x = some (.ins C dx [])) (hD : D x = none) :
    Ok (.i x dx C [] :: g0 (N.drop 1) A) (fun a => if a = x then none else H a) D (L2.start N (.ref x :: vs)) H D := by
  have key := ok_start (N := N.drop 1) (A := A) (vs := vs) (H := H) (D := D) (by rw [List.length_drop]; omega) sD h
  have es : L2.start N (.ref x :: vs) = some (.ref x) :: L2.start (N.drop 1) vs := by
    unfold L2.start
    rw [List.map_cons, List.cons_append, List.length_drop, List.length_cons]
    congr 3
    omega
  rw [es]
  have noown : ∀ (j : Nat) (s : Sl), (g0 (N.drop 1) A)[j]? = some s → s.own = true → False := fun j s q o => by
    unfold g0 at q
    by_cases hi : j < A.length
    · rw [List.getElem?_append_left (by simpa using hi), List.getElem?_map] at q
      cases e : A[j]? with
      | none => rw [e] at q; cases q
      | some r' => rw [e] at q; cases q; cases o
    · rw [List.getElem?_append_right (by simpa using hi), List.getElem?_replicate] at q
      split at q
      · cases q; cases o
      · cases q
  refine ⟨sD, fun b u e => ?_, Same.refl _, fun _ q => .inl q, by rw [List.length_cons, List.length_cons, key.len], fun i r q => ?_, fun i s q o => ?_, fun i j s t p q1 q2 o1 o2 e1 e2 => ?_⟩
  · have e : (if b = x then none else H b) = some u := e
    by_cases hb : b = x
    · rw [if_pos hb] at e; cases e
    · rw [if_neg hb] at e; exact e
  · cases i with
    | zero => cases q
    | succ i => exact key.dat i r (by simpa using q)
  · cases i with
    | zero =>
      cases q
      exact ⟨x, _, rfl, hx, hD, if_pos rfl, ⟨⟨rfl, rfl, rfl⟩, .nil⟩⟩
    | succ i => exact (noown i s (by simpa using q) o).elim
  · cases i with
    | succ i => exact (noown i s (by simpa using q1) o1).elim
    | zero =>
      cases j with
      | zero => rfl
      | succ j => exact (noown j t (by simpa using q2) o2).elim
theorem init_g {rel : RelI} (F : FunD K x qual params body scope [] [] f fd) (S : FnScope N ps scope) (hl : ∀ A r, rel A r → A.length + 1 = ps.length) (hN : ps.length ≤ N.length)
    (hb : ∀ (cdv : Value) (A : Around) (outer : List Env) (s : Shared) (H : Hp) (E : XK), Room k (Bd P w K mg base N qual scope f cdv A outer s H E).A → ∀ As fs ax adx, rel As fs → SG (Bd P w K mg base N qual scope f cdv A outer s H E) body (.i ax adx C [] :: g0 (N.drop 1) As) { nx := fun g => g[0]? = some (.i ax adx C fs) }) :
    FnOk P w K mg base CX0 (k + 1) f fd ps (SpI C rel) := by
  refine F.ok S (fun vs H Q E ⟨ax, dx, A, fs, D, args, e, _, h, _, _, hv, _⟩ => by rw [e, List.length_cons, ← hv.length]; exact hl A fs h) fun cdv A outer s H vs Q E hr ⟨ax, adx, As, fs, D, args, e, hx, h, sD, hD, hv, kk⟩ => ?_
  subst e
  refine ⟨_, PSs.nox (hb cdv A outer s H E hr As fs ax adx h), ?_⟩
  refine ⟨_, D, D, ok_startI (by rw [hl As fs h]; exact hN) sD hv hx hD, ⟨fun g' σ' H' D' e ok => ?_, fun _ _ _ _ q _ => q.elim, fun _ _ _ _ q _ => q.elim, fun _ _ _ q _ => q.elim, fun _ _ _ _ _ _ q => q.elim⟩⟩
  obtain ⟨q, o, h1, h2, h3, h4, h5⟩ := ok.own 0 _ e rfl
  cases o with
  | ins C' dx' ws =>
    obtain ⟨⟨w1, w2, w3⟩, w4⟩ := h5
    subst w1 w2 w3
    refine kk H' D' ws (fun b u nb hb => ok.fr b u ((if_neg nb).trans hb)) h2 w4 ok.d0 ok.sub h3 fun b hb => ?_
    rcases ok.new b hb with z | z
    · exact .inl z
    · by_cases hq : b = q
      · subst hq; exact absurd h3 hb
      · refine .inr ?_
        rcases z with z | ⟨xs, z, st⟩
        · have z : (if b = q then none else H b) = none := z
          rw [if_neg hq] at z; exact .inl z
        · have z : (if b = q then none else H b) = some xs := z
          rw [if_neg hq] at z; exact .inr ⟨xs, z, st⟩
  | _ => exact h5.elim
end
end Rf

namespace Rf
open PySem PySem.Spec PyProof.Rows L2

/-! ### types -/
def HasTy (K : PySem.W.Frag) (r : Rp) (t : Value) : Prop := ∀ H v, r.p H v → TyX K H v t
/-- what isinstance asks of an own class -/
structure ClsT (K : PySem.W.Frag) (C : Addr) : Prop where
  cl : Cls K C
  ha : PySem.W.findIn K (.ref C) "__class__" = some (some (.builtin "object.__class__"))
  hn : PySem.W.specialIn K (.builtin "object.__class__") "__get__" = some (some (.builtin "getset_descriptor.__get__"))
  htk : PySem.W.takesIn K (.builtin "object.__class__") = some true
  hm : PySem.W.mroIn K C (.type "object") = some true
section
variable {K : PySem.W.Frag} {rs : List Rp}
theorem ty_int {n : Int} : HasTy K (rInt n) (.type "int") := fun H v h => by rw [show v = .int n from h]; exact .base (.int n)
theorem ty_bl {n : Bool} : HasTy K (rBl n) (.type "bool") := fun H v h => by rw [show v = .bl n from h]; exact .base (.bl n)
theorem ty_str {n : Str} : HasTy K (rStr n) (.type "str") := fun H v h => by rw [show v = .str n from h]; exact .base (.str n)
theorem ty_non : HasTy K rNon (.type "NoneType") := fun H v h => by rw [show v = .non from h]; exact .base .non
theorem ty_L : HasTy K (rL rs) (.type "list") := fun H v ⟨a, vs, e, h, _⟩ => by rw [e]; exact .base (.lst h)
theorem ty_T : HasTy K (rT rs) (.type "tuple") := fun H v ⟨a, vs, e, h, _⟩ => by rw [e]; exact .base (.tup h)
theorem ty_DK {es : List (Key × Rp)} : HasTy K (rDK es) (.type "dict") := fun H v ⟨a, o, vs, e, h, _⟩ => by rw [e]; exact .fDict h
theorem ty_I {C : Addr} {fs : List (Str × Rp)} (c : ClsT K C) : HasTy K (Rf.rI C fs) (.ref C) := fun H v ⟨a, dx, ws, e, h, _⟩ => by rw [e]; exact .base (.ins h c.cl c.ha c.hn c.htk c.hm)
end
section
variable {X : Cx} {g : List Sl} {P : Pt} {a b c e o : Expr} {es : List Expr} {rest : List Stmt} {pos p1 p2 p3 p4 : Pos} {r ra rb : Rp} {rs rs' A : List Rp} {x y f : Str} {k k1 k2 : Bool} {i j : Int} {α β : Type} {fa fb : α → Rp} {l : List α}
theorem eg_isi {v : V} {t u : Value} (hm : X.mg "isinstance" = none) (ha : EG X a g ra) (hb : EG X b g (rv v)) (ht : HasTy X.K ra t) (hc : ClsV v u) (hk : PySem.W.kitOne X.K t u = some k) (hg : Gl X "isinstance" := by rfl)
    (h1 : starEach [a, b] X.env = (false, eval a X.env) :: starEach [b] X.env := by rfl) (h2 : starEach [b] X.env = (false, eval b X.env) :: starEach [] X.env := by rfl) (h3 : (backTo pos (starEach [b] X.env)).any (·.1) = false := by rfl) : EG X (.Call (.Name "isinstance" p1) [a, b] [] pos) g (rBl k) :=
  eg_bi call_isi hm boot_isinstance (ag_cons ha (ag_cons hb ag_nil h2) h1) (fun vs H D Q s h kk => by
    cases h with
    | cons q1 h =>
      cases h with
      | cons q2 h =>
        cases h
        have q2 : _ = v := q2
        subst q2
        exact ⟨_, _, t, u, k, rfl, hc, ht _ _ (ra.mono s q1), hk, kk.here s rfl⟩) hg (by decide) (by decide) h1 h3
/-- isinstance(x, (list, tuple)) -/
theorem eg_isiLT {t : Value} {m1 m2 : String} (hm : X.mg "isinstance" = none) (ha : EG X a g ra) (hb : EG X b g (rT [rv (.ty m1), rv (.ty m2)])) (ht : HasTy X.K ra t) (hk : PySem.W.kitAny X.K t [.type m1, .type m2] = some k) (hg : Gl X "isinstance" := by rfl)
    (h1 : starEach [a, b] X.env = (false, eval a X.env) :: starEach [b] X.env := by rfl) (h2 : starEach [b] X.env = (false, eval b X.env) :: starEach [] X.env := by rfl) (h3 : (backTo pos (starEach [b] X.env)).any (·.1) = false := by rfl) : EG X (.Call (.Name "isinstance" p1) [a, b] [] pos) g (rBl k) :=
  eg_bi call_isiT hm boot_isinstance (ag_cons ha (ag_cons hb ag_nil h2) h1) (fun vs H D Q s h kk => by
    cases h with
    | cons q1 h =>
      cases h with
      | cons q2 h =>
        cases h
        obtain ⟨q, ws, rfl, w1, w2⟩ := q2
        cases w2 with
        | cons z1 w2 =>
          cases w2 with
          | cons z2 w2 =>
            cases w2
            have z1 : _ = V.ty m1 := z1
            have z2 : _ = V.ty m2 := z2
            subst z1 z2
            exact ⟨_, q, _, t, _, k, rfl, s _ _ w1, .cons (.ty _) (.cons (.ty _) .nil), ht _ _ (ra.mono s q1), hk, kk.here s rfl⟩) hg (by decide) (by decide) h1 h3

/-! ### plain data: ints, texts, lists and tuples of them -/
structure Pd (α : Type) [DecidableEq α] where
  d : α → PyData
  lay : ∀ x, (d x).canLay0 = true
  dep : Nat
  le : ∀ x, (d x).depth ≤ dep
  eqv : ∀ x y, PyData.eqv (d x) (d y) = decide (x = y)
def pdInt : Pd Int := ⟨.int, fun _ => rfl, 0, fun _ => Nat.le_refl _, fun a b => by simp only [PyData.eqv]; rw [Bool.beq_eq_decide_eq]⟩
abbrev OkS : Type := { z : Str // PyData.strOk z = true }
def pdStr : Pd OkS := ⟨fun z => .str z.1, fun z => z.2, 0, fun _ => Nat.le_refl _, fun a b => by simp only [PyData.eqv]; rw [Bool.eq_iff_iff, beq_iff_eq, decide_eq_true_eq]; exact ⟨fun e => Subtype.ext e, fun e => by rw [e]⟩⟩
section
variable {γ : Type} [DecidableEq γ] (p : Pd γ)
theorem pd_lay : ∀ l : List γ, PyData.canLayAll0 (l.map p.d) = true
  | [] => by simp [PyData.canLayAll0]
  | x :: l => by simp [PyData.canLayAll0, p.lay x, pd_lay l]
theorem pd_dep : ∀ l : List γ, PyData.depthAll (l.map p.d) ≤ p.dep
  | [] => by simp [PyData.depthAll]
  | x :: l => by
    have h1 := pd_dep l
    have h2 := p.le x
    simp only [List.map_cons, PyData.depthAll]
    omega
theorem pd_eqv : ∀ l m : List γ, PyData.eqvAll (l.map p.d) (m.map p.d) = decide (l = m)
  | [], [] => by simp [PyData.eqvAll]
  | [], _ :: _ => by simp [PyData.eqvAll]
  | _ :: _, [] => by simp [PyData.eqvAll]
  | x :: l, y :: m => by
    rw [List.map_cons, List.map_cons, PyData.eqvAll, p.eqv x y, pd_eqv l m, ← Bool.decide_and]
    exact decide_eq_decide.mpr (by rw [List.cons.injEq])
def pdL : Pd (List γ) := ⟨fun l => .list (l.map p.d), fun l => by simp only [PyData.canLay0]; exact pd_lay p l, p.dep + 1, fun l => by simp only [PyData.depth]; exact Nat.succ_le_succ (pd_dep p l), fun l m => by simp only [PyData.eqv]; exact pd_eqv p l m⟩
def pdT : Pd (List γ) := ⟨fun l => .tuple (l.map p.d), fun l => by simp only [PyData.canLay0]; exact pd_lay p l, p.dep + 1, fun l => by simp only [PyData.depth]; exact Nat.succ_le_succ (pd_dep p l), fun l m => by simp only [PyData.eqv]; exact pd_eqv p l m⟩
variable {δ : Type} [DecidableEq δ] (q : Pd δ)
def pdP : Pd (γ × δ) := ⟨fun z => .tuple [p.d z.1, q.d z.2], fun z => by simp [PyData.canLay0, PyData.canLayAll0, p.lay, q.lay], max p.dep q.dep + 1, fun z => by
    have h1 := p.le z.1
    have h2 := q.le z.2
    simp only [PyData.depth, PyData.depthAll]; omega, fun y z => by
    simp only [PyData.eqv, PyData.eqvAll]
    rw [p.eqv, q.eqv, Bool.and_true, ← Bool.decide_and]
    exact decide_eq_decide.mpr ⟨fun e => Prod.ext e.1 e.2, fun e => by rw [e]; exact ⟨rfl, rfl⟩⟩⟩
/-- what a value stands for reads as such data -/
def DatF (fa : γ → Rp) (p : Pd γ) : Prop := ∀ x K H v, (fa x).p H v → Dp K H v (p.d x)
theorem dat_int : DatF rInt pdInt := fun x K H v h => by rw [show v = .int x from h]; exact .int x
theorem dat_str : DatF (fun z : OkS => rStr z.1) pdStr := fun x K H v h => by rw [show v = .str x.1 from h]; exact .str x.1
theorem dat_all {fa : γ → Rp} {p : Pd γ} (h : DatF fa p) {K : PySem.W.Frag} {H : Hp} : ∀ {l : List γ} {vs : List V}, Reps H (l.map fa) vs → DpAll K H vs (l.map p.d)
  | [], _, .nil => .nil
  | x :: l, _, .cons a t => .cons (h x K H _ a) (dat_all h t)
theorem dat_L {fa : γ → Rp} {p : Pd γ} (h : DatF fa p) : DatF (fun l => rL (l.map fa)) (pdL p) := fun x K H v ⟨a, vs, e, h1, h2⟩ => by rw [e]; exact .lst (SqL.of h1) (dat_all h h2)
theorem dat_T {fa : γ → Rp} {p : Pd γ} (h : DatF fa p) : DatF (fun l => rT (l.map fa)) (pdT p) := fun x K H v ⟨a, vs, e, h1, h2⟩ => by rw [e]; exact .tup (SqT.of h1) (dat_all h h2)
theorem dat_P {fa : γ → Rp} {p : Pd γ} (h : DatF fa p) {fb : δ → Rp} {q : Pd δ} (h' : DatF fb q) : DatF (fun z => rT [fa z.1, fb z.2]) (pdP p q) := fun x K H v ⟨a, vs, e, h1, h2⟩ => by
  rw [e]
  cases h2 with
  | cons a1 t =>
    cases t with
    | cons a2 t => cases t; exact .tup (SqT.of h1) (.cons (h _ K H _ a1) (.cons (h' _ K H _ a2) .nil))
theorem pd_shaped (hd : p.dep ≤ 64) (x : γ) : SeqAt.shaped (p.d x) = true := by
  show ((p.d x).canLay0 && decide ((p.d x).depth ≤ 64)) = true
  rw [Bool.and_eq_true]
  exact ⟨p.lay x, decide_eq_true (Nat.le_trans (p.le x) hd)⟩
end
section
variable {γ : Type} [DecidableEq γ] {p : Pd γ} {fc fd : γ → Rp} {u v : γ}
theorem eqd (h1 : DatF fc p) (h2 : DatF fd p) (hd : p.dep ≤ 64) {x y : V} {K : PySem.W.Frag} {H D : Hp} {Q : VK} (s : Same D H) (hx : (fc u).p D x) (hy : (fd v).p D y) (k : Give (rBl (decide (u = v))) H D Q) : rEqD K x y H Q :=
  ⟨p.d u, p.d v, h1 u K H x ((fc u).mono s hx), h2 v K H y ((fd v).mono s hy), pd_shaped p hd u, pd_shaped p hd v, by rw [p.eqv]; exact k.here s rfl⟩
theorem ned (h1 : DatF fc p) (h2 : DatF fd p) (hd : p.dep ≤ 64) {x y : V} {K : PySem.W.Frag} {H D : Hp} {Q : VK} (s : Same D H) (hx : (fc u).p D x) (hy : (fd v).p D y) (k : Give (rBl (!decide (u = v))) H D Q) : rNeD K x y H Q :=
  ⟨p.d u, p.d v, h1 u K H x ((fc u).mono s hx), h2 v K H y ((fd v).mono s hy), pd_shaped p hd u, pd_shaped p hd v, by rw [p.eqv]; exact k.here s rfl⟩
theorem eg_eqd (h1 : DatF fc p) (h2 : DatF fd p) (hu : X.A.units + 64 < cLine) (ha : EG X a g (fc u)) (hb : EG X b g (fd v)) (hd : p.dep ≤ 64 := by decide) : EG X (.Compare a [.Eq] [b] pos) g (rBl (decide (u = v))) := eg_cmp (op_eqD hu) ha hb (nomark _) fun _ _ _ _ _ s hx hy k => eqd h1 h2 hd s hx hy k
theorem eg_ned (h1 : DatF fc p) (h2 : DatF fd p) (hu : X.A.units + 64 < cLine) (ha : EG X a g (fc u)) (hb : EG X b g (fd v)) (hd : p.dep ≤ 64 := by decide) : EG X (.Compare a [.NotEq] [b] pos) g (rBl (!decide (u = v))) := eg_cmp (op_neD hu) ha hb (nomark _) fun _ _ _ _ _ s hx hy k => ned h1 h2 hd s hx hy k
theorem bg_eqd (h1 : DatF fc p) (h2 : DatF fd p) (hu : X.A.units + 64 < cLine) (ha : EG X a g (fc u)) (hb : EG X b g (fd v)) (hd : p.dep ≤ 64 := by decide) : BG X (.Compare a [.Eq] [b] pos) g (decide (u = v)) := bg_cmp (op_eqD hu) ha hb (nomark _) fun _ _ _ _ _ s hx hy k => eqd h1 h2 hd s hx hy k
theorem bg_ned (h1 : DatF fc p) (h2 : DatF fd p) (hu : X.A.units + 64 < cLine) (ha : EG X a g (fc u)) (hb : EG X b g (fd v)) (hd : p.dep ≤ 64 := by decide) : BG X (.Compare a [.NotEq] [b] pos) g (!decide (u = v)) := bg_cmp (op_neD hu) ha hb (nomark _) fun _ _ _ _ _ s hx hy k => ned h1 h2 hd s hx hy k
/-- a list of the def's own beside a display -/
theorem bg_neO {l : List γ} (h1 : DatF fc p) (hu : X.A.units + 64 < cLine) (n : Nat) (hgn : g[n]? = some (.l (l.map fc))) (hd' : (pdL p).dep ≤ 64 := by decide) (hN : X.N[n]? = some x := by rfl) (hv : Vis X.env.scope x := by first | exact Or.inl rfl | exact Or.inr (Or.inl rfl) | exact Or.inr (Or.inr rfl))
    (hd : (x == ("__debug__" : Str)) = false := by decide) (hcd : (x == ("__classdict__" : Str)) = false := by decide) : BG X (.Compare (.Name x p1) [.NotEq] [.List [] p2] pos) g (!decide (l = [])) :=
  pt_to (pt_cmpR (op_neD hu) (pe_var hN hv hd hcd) (pe_lst pa_nil) (nomark _)) fun σ H Q ⟨F, D0, D, ok, k⟩ => by
    obtain ⟨q, o, q1, q2, q3, q4, q5⟩ := ok.own n _ hgn rfl
    cases o with
    | lst vs =>
      refine ⟨.ref q, q1, by decide, fun z nz => ?_⟩
      have e1 : Grow H D (upd H z (.lst [])) D := Grow.own ok.sub nz
      refine ⟨(pdL p).d l, (pdL p).d [], .lst (SqL.of (e1.h _ _ q2)) (dat_all h1 (Reps.mono e1.i q5)), .lst (SqL.of upd_same) .nil, pd_shaped (pdL p) hd' l, pd_shaped (pdL p) hd' [], ?_⟩
      rw [(pdL p).eqv]
      exact ⟨_, rfl, k _ D e1⟩
    | _ => exact q5.elim
end
end
end Rf

namespace Rf
open PySem PySem.Spec PyProof.Rows L2

/-! ### slices -/
def tO (g : List Sl) (o : Option Int) : TO := fun σ H Q => ∃ F D0 D, Ok g F D0 σ H D ∧ ∀ H' D', Grow H D H' D' → Q o H'
abbrev OG (X : Cx) (e : Option Expr) (g : List Sl) (o : Option Int) : Prop := PO X e (tO g o)
section
variable {X : Cx} {g : List Sl} {P : Pt} {a b c e o : Expr} {es : List Expr} {rest : List Stmt} {pos p1 p2 p3 p4 : Pos} {r ra rb : Rp} {rs rs' A : List Rp} {x y f : Str} {k k1 k2 : Bool} {i j : Int} {α β : Type} {fa fb : α → Rp} {l l' : List α}
theorem po_to {e : Option Expr} {t t' : TO} (h : PO X e t) (m : ∀ σ H Q, t' σ H Q → t σ H Q) : PO X e t' := ⟨fun pins s σ H Q I q => h.run pins s σ H Q I (m _ _ _ q)⟩
theorem og_none : OG X none g none := po_to po_none fun σ H Q ⟨F, D0, D, ok, k⟩ => k H D (Grow.refl ok.sub)
theorem og_some (h : EG X e g (rInt i)) : OG X (some e) g (some i) := po_to (po_some h) fun σ H Q ⟨F, D0, D, ok, k⟩ => ⟨F, D0, D, ok, fun v H' D' e1 hv => ⟨i, hv, k H' D' e1⟩⟩
theorem sl_read {R : V → Option Int → Option Int → Hp → VK → Prop} {lo hi : Option Int} {σ : L2.St} {H : Hp} {Q : VK} {F D0 D : Hp} (ok : Ok g F D0 σ H D) (h : ∀ v H' D', Grow H D H' D' → ra.p D' v → R v lo hi H' Q) : tSl R (tG g ra) (tO g lo) (tO g hi) σ H Q :=
  ⟨F, D0, D, ok, fun v H1 D1 e1 hv => ⟨F, D0, D1, ok.grow e1, fun H2 D2 e2 => ⟨F, D0, D2, (ok.grow e1).grow e2, fun H3 D3 e3 => h v H3 D3 ((e1.trans e2).trans e3) (ra.mono (e2.trans e3).d hv)⟩⟩⟩
theorem cut_whole {l : List α} {lo hi : Option Int} (h : HT.sIx l.length 0 lo = 0 ∧ HT.sIx l.length l.length hi = l.length) : cutL l lo hi = l := by
  unfold cutL
  rw [h.1, h.2]
  simp
theorem eg_slT {lo hi : Option Expr} {ol oh : Option Int} (ha : EG X a g (rT rs)) (hl : OG X lo g ol) (hh : OG X hi g oh) : EG X (.Subscript a (.Slice lo hi none p2) pos) g (rT (cutL rs ol oh)) := pe_to (pe_slice sl_tupA ha hl hh) fun σ H Q ⟨F, D0, D, ok, k⟩ => sl_read ok fun v H' D' e hv => by
  obtain ⟨p, vs, rfl, h2, h3⟩ := hv
  refine ⟨p, vs, rfl, SqT.of (e.i _ _ h2), fun hw => ?_, fun _ q nq => (k.later e).tup e.i (reps_cut h3 ol oh) nq⟩
  rw [← h3.length] at hw
  rw [cut_whole hw] at k
  exact (k.later e).here e.i ⟨p, vs, rfl, h2, h3⟩
theorem ng_slL {lo hi : Option Expr} {ol oh : Option Int} (ha : EG X a g (rL rs)) (hl : OG X lo g ol) (hh : OG X hi g oh) : NG X (.Subscript a (.Slice lo hi none p2) pos) g (cutL rs ol oh) := pe_to (pe_slice sl_list ha hl hh) fun σ H Q ⟨F, D0, D, ok, k⟩ => sl_read ok fun v H' D' e hv => by
  obtain ⟨p, vs, rfl, h2, h3⟩ := hv
  exact ⟨p, vs, rfl, SqL.of (e.i _ _ h2), fun q nq => k q _ H' D' e nq (reps_cut h3 ol oh)⟩
/-- typed -/
theorem eg_slT1 {lo hi : Option Expr} {ol oh : Option Int} (ha : EG X a g (rT (l.map fa))) (hl : OG X lo g ol) (hh : OG X hi g oh) : EG X (.Subscript a (.Slice lo hi none p2) pos) g (rT ((cutL l ol oh).map fa)) := by
  rw [← cutL_map]; exact eg_slT ha hl hh
theorem ng_slL1 {lo hi : Option Expr} {ol oh : Option Int} (ha : EG X a g (rL (l.map fa))) (hl : OG X lo g ol) (hh : OG X hi g oh) : NG X (.Subscript a (.Slice lo hi none p2) pos) g ((cutL l ol oh).map fa) := by
  rw [← cutL_map]; exact ng_slL ha hl hh
/-! ### sums and multiples of lists and tuples -/
theorem two_n {R : R2} {ta tb : TE} (hR : ∀ x y H D Q, Same D H → ra.p D x → rb.p D y → GiveN rs H D Q → R x y H Q) {σ : L2.St} {H : Hp} {Q : VK} (h : tN g rs σ H Q) : tOp R (tG g ra) (tG g rb) σ H Q := by
  obtain ⟨F, D0, D, ok, k⟩ := h
  exact ⟨F, D0, D, ok, fun x H1 D1 e1 hx => ⟨F, D0, D1, ok.grow e1, fun y H2 D2 e2 hy => hR x y H2 D2 Q e2.i (ra.mono e2.d hx) hy fun p vs H' D' e3 n h => k p vs H' D' ((e1.trans e2).trans e3) n h⟩⟩
theorem ng_rep (hz : rs.length * j.toNat ≤ 100000) (hj : -1000 ≤ j ∧ j ≤ 1000) (ha : EG X a g (rL rs)) (hb : EG X b g (rInt j)) : NG X (.BinOp a .Mult b pos) g (List.replicate j.toNat rs).flatten := pe_to (pe_op op_rep ha hb) fun σ H Q h => two_n (ra := rL rs) (rb := rInt j) (ta := tG g (rL rs)) (tb := tG g (rInt j))
  (fun x y H D Q s hx hy k => by
    obtain ⟨p, vs, rfl, h2, h3⟩ := hx
    exact ⟨p, j, vs, rfl, hy, s _ _ h2, by omega, by omega, by rw [← h3.length, sizeLine_eq]; omega, fun q nq => k.here s (reps_rep h3 _) nq⟩) h
theorem ng_cat (hz : rs.length + rs'.length ≤ 100000) (ha : EG X a g (rL rs)) (hb : EG X b g (rL rs')) : NG X (.BinOp a .Add b pos) g (rs ++ rs') := pe_to (pe_op op_cat ha hb) fun σ H Q h => two_n (ra := rL rs) (rb := rL rs') (ta := tG g (rL rs)) (tb := tG g (rL rs'))
  (fun x y H D Q s hx hy k => by
    obtain ⟨p, vs, rfl, h2, h3⟩ := hx
    obtain ⟨q, ws, rfl, h4, h5⟩ := hy
    exact ⟨p, q, vs, ws, rfl, rfl, s _ _ h2, s _ _ h4, by rw [← h3.length, ← h5.length, sizeLine_eq]; omega, fun z nz => k.here s (reps_app h3 h5) nz⟩) h
theorem eg_catT (hz : rs.length + rs'.length ≤ 100000) (ha : EG X a g (rT rs)) (hb : EG X b g (rT rs')) : EG X (.BinOp a .Add b pos) g (rT (rs ++ rs')) := eg_op op_catA ha hb fun x y H D Q s hx hy k => by
  obtain ⟨p, vs, rfl, h2, h3⟩ := hx
  obtain ⟨q, ws, rfl, h4, h5⟩ := hy
  refine ⟨p, q, vs, ws, rfl, rfl, SqT.of (s _ _ h2), SqT.of (s _ _ h4), by rw [← h3.length, ← h5.length, sizeLine_eq]; omega, fun e => ?_, fun _ e => ?_, fun _ _ z nz => k.tup s (reps_app h3 h5) nz⟩
  · subst e
    cases h3
    exact k.here s ⟨q, ws, rfl, h4, h5⟩
  · subst e
    cases h5
    rw [List.append_nil] at k
    exact k.here s ⟨p, vs, rfl, h2, h3⟩
theorem flat_rep {n : Nat} : (List.replicate n (l.map fa)).flatten = ((List.replicate n l).flatten).map fa := by
  rw [List.map_flatten, List.map_replicate]
theorem ng_rep1 (hz : l.length * j.toNat ≤ 100000) (hj : -1000 ≤ j ∧ j ≤ 1000) (ha : EG X a g (rL (l.map fa))) (hb : EG X b g (rInt j)) : NG X (.BinOp a .Mult b pos) g ((List.replicate j.toNat l).flatten.map fa) := by
  rw [← flat_rep]; exact ng_rep (by rw [List.length_map]; exact hz) hj ha hb
theorem ng_cat1 (hz : l.length + l'.length ≤ 100000) (ha : EG X a g (rL (l.map fa))) (hb : EG X b g (rL (l'.map fa))) : NG X (.BinOp a .Add b pos) g ((l ++ l').map fa) := by
  rw [List.map_append]; exact ng_cat (by rw [List.length_map, List.length_map]; exact hz) ha hb
theorem eg_catT1 (hz : l.length + l'.length ≤ 100000) (ha : EG X a g (rT (l.map fa))) (hb : EG X b g (rT (l'.map fa))) : EG X (.BinOp a .Add b pos) g (rT ((l ++ l').map fa)) := by
  rw [List.map_append]; exact eg_catT (by rw [List.length_map, List.length_map]; exact hz) ha hb
/-- less is told -/
theorem eg_weak (h : EG X e g r) (hw : ∀ D v, r.p D v → ra.p D v) : EG X e g ra := pe_to h fun σ H Q ⟨F, D0, D, ok, k⟩ => ⟨F, D0, D, ok, fun v H' D' e hv => k v H' D' e (hw _ _ hv)⟩
theorem eg_any (h : EG X e g r) : EG X e g rAny := eg_weak h fun _ _ _ => True.intro
end
/-- some bool, some text -/
def rSB : Rp := ⟨fun _ v => ∃ b, v = .bl b, fun _ h => h⟩
def rSS : Rp := ⟨fun _ v => ∃ z, v = .str z, fun _ h => h⟩
def rSI : Rp := ⟨fun _ v => ∃ z, v = .int z, fun _ h => h⟩

/-! ### dicts: int keys, keys that are tuples of ints; flat values -/
section
variable {κ β : Type} [DecidableEq κ]
def valG (m : List (κ × β)) (k : κ) : Option β := (m.find? fun kv => decide (kv.1 = k)).map (·.2)
def putG (m : List (κ × β)) (k : κ) (v : β) : List (κ × β) := if (m.any fun kv => decide (kv.1 = k)) = true then m.map (fun kv => if kv.1 = k then (kv.1, v) else kv) else m ++ [(k, v)]
end
abbrev KD := List (Int × V)
abbrev TD := List (List Int × V)
def kE (m : KD) : List (Key × Rp) := m.map fun kv => (Sum.inl kv.1, rv kv.2)
def tE (m : TD) : List (List Key × Rp) := m.map fun kv => (kv.1.map Sum.inl, rv kv.2)
def kW (m : KD) : List (Key × V) := m.map fun kv => (Sum.inl kv.1, kv.2)
def tW (m : TD) : List (List Key × V) := m.map fun kv => (kv.1.map Sum.inl, kv.2)
theorem ents_k {D : Hp} : ∀ {m : KD} {ws : List (Key × V)}, Ents D (kE m) ws → ws = kW m
  | [], _, .nil => rfl
  | (i, v) :: m, _, .cons (b := q) h t => by
    obtain ⟨h1, h2⟩ := h
    obtain ⟨q1, q2⟩ := q
    have h1 : Sum.inl i = q1 := h1
    have h2 : q2 = v := h2
    subst h1 h2
    show _ :: _ = (Sum.inl i, q2) :: kW m
    rw [ents_k (m := m) t]
theorem ents_t {D : Hp} : ∀ {m : TD} {ws : List (List Key × V)}, Ents D (tE m) ws → ws = tW m
  | [], _, .nil => rfl
  | (i, v) :: m, _, .cons (b := q) h t => by
    obtain ⟨h1, h2⟩ := h
    obtain ⟨q1, q2⟩ := q
    have h1 : i.map Sum.inl = q1 := h1
    have h2 : q2 = v := h2
    subst h1 h2
    show _ :: _ = (i.map Sum.inl, q2) :: tW m
    rw [ents_t (m := m) t]
theorem ents_ofK {D : Hp} : ∀ m : KD, Ents D (kE m) (kW m)
  | [] => .nil
  | _ :: m => .cons ⟨rfl, rfl⟩ (ents_ofK m)
theorem ents_ofT {D : Hp} : ∀ m : TD, Ents D (tE m) (tW m)
  | [] => .nil
  | _ :: m => .cons ⟨rfl, rfl⟩ (ents_ofT m)
theorem inl_inj : ∀ {a b : List Int}, a.map (Sum.inl : Int → Key) = b.map Sum.inl → a = b
  | [], [], _ => rfl
  | [], _ :: _, h => by cases h
  | _ :: _, [], h => by cases h
  | x :: a, y :: b, h => by
    rw [List.map_cons, List.map_cons] at h
    injection h with h1 h2
    rw [Sum.inl.inj h1, inl_inj h2]
section
variable {κ κ' : Type} [DecidableEq κ] [DecidableEq κ'] {h : κ → κ'} (hi : ∀ a b, h a = h b → a = b)
include hi
theorem val_map (k : κ) : ∀ m : List (κ × V), valV (m.map fun kv => (h kv.1, kv.2)) (h k) = valG m k
  | [] => rfl
  | (a, v) :: m => by
    by_cases e : a = k
    · subst e; simp [valV, valG, List.find?_cons]
    · have e' : ¬ h a = h k := fun z => e (hi _ _ z)
      have ih := val_map k m
      simp only [valV, valG, List.map_cons, List.find?_cons, decide_eq_false e, decide_eq_false e'] at ih ⊢
      exact ih
theorem put_map (k : κ) (v : V) (m : List (κ × V)) : putK (m.map fun kv => (h kv.1, kv.2)) (h k) v = (putG m k v).map fun kv => (h kv.1, kv.2) := by
  have e : ((m.map fun kv => (h kv.1, kv.2)).any fun kv => decide (kv.1 = h k)) = m.any fun kv => decide (kv.1 = k) := by
    rw [List.any_map]
    congr 1
    funext kv
    exact decide_eq_decide.mpr ⟨fun z => hi _ _ z, fun z => congrArg h z⟩
  unfold putK putG
  rw [e]
  by_cases q : (m.any fun kv => decide (kv.1 = k)) = true
  · rw [if_pos q, if_pos q, List.map_map, List.map_map]
    refine List.map_congr_left fun kv _ => ?_
    by_cases z : kv.1 = k
    · simp [z]
    · have z' : ¬ h kv.1 = h k := fun w => z (hi _ _ w)
      simp [z, z']
  · rw [if_neg q, if_neg q, List.map_append]
    rfl
end
theorem kW_val (m : KD) (k : Int) : valV (kW m) (Sum.inl k) = valG m k := val_map (h := fun i : Int => (Sum.inl i : Key)) (fun a b e => Sum.inl.inj e) k m
theorem kW_put (m : KD) (k : Int) (v : V) : putK (kW m) (Sum.inl k) v = kW (putG m k v) := put_map (h := fun i : Int => (Sum.inl i : Key)) (fun a b e => Sum.inl.inj e) k v m
theorem tW_val (m : TD) (k : List Int) : valV (tW m) (k.map Sum.inl) = valG m k := val_map (h := fun i : List Int => (i.map Sum.inl : List Key)) (fun a b e => inl_inj e) k m
theorem tW_put (m : TD) (k : List Int) (v : V) : putK (tW m) (k.map Sum.inl) v = tW (putG m k v) := put_map (h := fun i : List Int => (i.map Sum.inl : List Key)) (fun a b e => inl_inj e) k v m
theorem kVs_ints (ns : List Int) : (ns.map (Sum.inl : Int → Key)).map kV = ns.map V.int := by rw [List.map_map]; rfl
/-- the dict at hand, its own or data -/
def tDv (g : List Sl) (u : HO) : TE := fun σ H Q => ∃ F D0 D, Ok g F D0 σ H D ∧ ∀ p H' D', Grow H D H' D' → Rd H' p u → Q (.ref p) H'
abbrev KV_ (X : Cx) (e : Expr) (g : List Sl) (m : KD) : Prop := PE X e (tDv g (.dK (kW m)))
abbrev TV_ (X : Cx) (e : Expr) (g : List Sl) (m : TD) : Prop := PE X e (tDv g (.dT (tW m)))
section
variable {X : Cx} {g : List Sl} {P : Pt} {a b c e o : Expr} {es : List Expr} {rest : List Stmt} {pos p1 p2 p3 p4 : Pos} {r ra rb : Rp} {rs rs' A : List Rp} {x y f : Str} {k k1 k2 : Bool} {i j : Int} {m : KD} {tm : TD} {ns : List Int} {v w : V}
theorem dk_dat (h : EG X e g (rDK (kE m))) : KV_ X e g m := pe_to h fun σ H Q ⟨F, D0, D, ok, k⟩ => ⟨F, D0, D, ok, fun v H' D' e ⟨p, o, ws, h1, h2, h3⟩ => by rw [h1]; rw [ents_k h3] at h2; exact k p H' D' e (.inr ⟨o, e.i _ _ h2⟩)⟩
theorem dt_dat (h : EG X e g (rDT (tE tm))) : TV_ X e g tm := pe_to h fun σ H Q ⟨F, D0, D, ok, k⟩ => ⟨F, D0, D, ok, fun v H' D' e ⟨p, o, ws, h1, h2, h3⟩ => by rw [h1]; rw [ents_t h3] at h2; exact k p H' D' e (.inr ⟨o, e.i _ _ h2⟩)⟩
theorem dk_own (n : Nat) (hg : g[n]? = some (.k (kE m)) := by rfl) (hN : X.N[n]? = some x := by rfl) (hv : Vis X.env.scope x := by first | exact Or.inl rfl | exact Or.inr (Or.inl rfl) | exact Or.inr (Or.inr rfl)) (hd : (x == ("__debug__" : Str)) = false := by decide)
    (hcd : (x == ("__classdict__" : Str)) = false := by decide) : KV_ X (.Name x pos) g m := pe_to (pe_var hN hv hd hcd) fun σ H Q ⟨F, D0, D, ok, k⟩ => by
  obtain ⟨p, o, h1, h2, h3, h4, h5⟩ := ok.own n _ hg rfl
  cases o with
  | dK ws => rw [ents_k h5] at h2; exact ⟨.ref p, h1, k p H D (Grow.refl ok.sub) (.inl h2)⟩
  | _ => exact h5.elim
theorem dt_own (n : Nat) (hg : g[n]? = some (.t (tE tm)) := by rfl) (hN : X.N[n]? = some x := by rfl) (hv : Vis X.env.scope x := by first | exact Or.inl rfl | exact Or.inr (Or.inl rfl) | exact Or.inr (Or.inr rfl)) (hd : (x == ("__debug__" : Str)) = false := by decide)
    (hcd : (x == ("__classdict__" : Str)) = false := by decide) : TV_ X (.Name x pos) g tm := pe_to (pe_var hN hv hd hcd) fun σ H Q ⟨F, D0, D, ok, k⟩ => by
  obtain ⟨p, o, h1, h2, h3, h4, h5⟩ := ok.own n _ hg rfl
  cases o with
  | dT ws => rw [ents_t h5] at h2; exact ⟨.ref p, h1, k p H D (Grow.refl ok.sub) (.inl h2)⟩
  | _ => exact h5.elim
theorem Rd.up {H H' : Hp} {p : Addr} {u : HO} (h : Rd H p u) (e : Same H H') : Rd H' p u := Rd.same e h
/-- k in d, int keys -/
theorem bg_dnotin (hu : X.A.units + 64 < cLine) (hd : KV_ X b g m) (hi : EG X a g (rInt i)) (hm : behindInMarks .NotIn b = false := by rfl) : BG X (.Compare a [.NotIn] [b] pos) g (!(valG m i).isSome) :=
  pt_to (pt_cmp (pc_dnotin (by omega) hi hd) hm) fun σ H Q ⟨F, D0, D, ok, k⟩ => ⟨F, D0, D, ok, fun v H1 D1 e1 hv => ⟨F, D0, D1, ok.grow e1, fun p H2 D2 e2 hr => by
    have hv : v = .int i := hv
    subst hv
    exact ⟨p, _, rfl, .inl ⟨kW m, Sum.inl i, hr, rfl, rfl⟩, _, rfl, by rw [kW_val]; exact k H2 D2 (e1.trans e2)⟩⟩⟩
/-- d.get(k, x), int keys -/
theorem eg_kget (hu : X.A.units + 64 < cLine) (hd : KV_ X o g m) (hi : EG X a g (rInt i)) (hx : EG X b g (rv w)) (hM : M2 X o "get" p1 a b pos := by exact ⟨rfl, rfl, rfl, rfl⟩) : EG X (.Call (.Attribute o "get" p1) [a, b] [] pos) g (rv ((valG m i).getD w)) :=
  pe_to (pe_dget2 (by omega) hd hi hx hM) fun σ H Q ⟨F, D0, D, ok, k⟩ => ⟨F, D0, D, ok, fun p H1 D1 e1 hr => ⟨p, rfl, .inl ⟨_, hr⟩, F, D0, D1, ok.grow e1, fun v H2 D2 e2 hv => ⟨F, D0, D2, (ok.grow e1).grow e2, fun u H3 D3 e3 hw => by
    have hv : v = .int i := hv
    have hw : u = w := hw
    subst hv hw
    refine ⟨valV (kW m) (Sum.inl i), .inl ⟨kW m, Sum.inl i, (Rd.same (e2.trans e3).h hr), rfl, rfl⟩, ?_⟩
    rw [kW_val]
    exact (k.later ((e1.trans e2).trans e3)).here e3.i rfl⟩⟩⟩
theorem tkey {D H : Hp} {v : V} (s : Same D H) (h : (rT (ns.map rInt)).p D v) : ∃ b, v = .ref b ∧ H b = some (.tup ((ns.map (Sum.inl : Int → Key)).map kV)) := by
  obtain ⟨q, vs, e, h2, h3⟩ := h
  rw [reps_ints h3] at h2
  rw [kVs_ints]
  exact ⟨q, e, s _ _ h2⟩
theorem eg_tget (hu : X.A.units + 64 < cLine) (hd : TV_ X o g tm) (hi : EG X a g (rT (ns.map rInt))) (hx : EG X b g (rv w)) (hM : M2 X o "get" p1 a b pos := by exact ⟨rfl, rfl, rfl, rfl⟩) : EG X (.Call (.Attribute o "get" p1) [a, b] [] pos) g (rv ((valG tm ns).getD w)) :=
  pe_to (pe_dget2 (by omega) hd hi hx hM) fun σ H Q ⟨F, D0, D, ok, k⟩ => ⟨F, D0, D, ok, fun p H1 D1 e1 hr => ⟨p, rfl, .inr ⟨_, hr⟩, F, D0, D1, ok.grow e1, fun v H2 D2 e2 hv => ⟨F, D0, D2, (ok.grow e1).grow e2, fun u H3 D3 e3 hw => by
    obtain ⟨q, rfl, hq⟩ := tkey (e2.i.trans e3.h) hv
    have hw : u = w := hw
    subst hw
    refine ⟨valV (tW tm) (ns.map Sum.inl), .inr ⟨tW tm, _, q, (Rd.same (e2.trans e3).h hr), rfl, hq, rfl⟩, ?_⟩
    rw [tW_val]
    exact (k.later ((e1.trans e2).trans e3)).here e3.i rfl⟩⟩⟩
/-- d[k] -/
theorem eg_tix (hu : X.A.units + 64 < cLine) (hd : TV_ X o g tm) (hi : EG X a g (rT (ns.map rInt))) (h : valG tm ns = some w) (hs : NoSl a := by exact fun _ _ => rfl) : EG X (.Subscript o a pos) g (rv w) :=
  pe_to (pe_dget (by omega) hd hi hs) fun σ H Q ⟨F, D0, D, ok, k⟩ => ⟨F, D0, D, ok, fun p H1 D1 e1 hr => ⟨F, D0, D1, ok.grow e1, fun v H2 D2 e2 hv => by
    obtain ⟨q, rfl, hq⟩ := tkey e2.i hv
    exact ⟨p, w, rfl, .inr ⟨tW tm, _, q, (Rd.same e2.h hr), rfl, hq, by rw [tW_val, h]⟩, (k.later (e1.trans e2)).here e2.i rfl⟩⟩⟩
theorem eg_kix (hu : X.A.units + 64 < cLine) (hd : KV_ X o g m) (hi : EG X a g (rInt i)) (h : valG m i = some w) (hs : NoSl a := by exact fun _ _ => rfl) : EG X (.Subscript o a pos) g (rv w) :=
  pe_to (pe_dget (by omega) hd hi hs) fun σ H Q ⟨F, D0, D, ok, k⟩ => ⟨F, D0, D, ok, fun p H1 D1 e1 hr => ⟨F, D0, D1, ok.grow e1, fun v H2 D2 e2 hv => by
    have hv : v = .int i := hv
    subst hv
    exact ⟨p, w, rfl, .inl ⟨kW m, Sum.inl i, (Rd.same e2.h hr), rfl, by rw [kW_val, h]⟩, (k.later (e1.trans e2)).here e2.i rfl⟩⟩⟩
/-- d[k] = e, the dict a def's own -/
theorem sg_kput (n : Nat) (hu : X.A.units + 64 < cLine) (hg : g[n]? = some (.k (kE m))) (hz : m.length ≤ 100000) (he : EG X e g (rv w)) (hi : EG X a g (rInt i)) (h : SG X rest (g.set n (.k (kE (putG m i w)))) P) (hN : X.N[n]? = some x := by rfl)
    (hv : Vis X.env.scope x := by first | exact Or.inl rfl | exact Or.inr (Or.inl rfl) | exact Or.inr (Or.inr rfl)) (hd : (x == ("__debug__" : Str)) = false := by decide) (hcd : (x == ("__classdict__" : Str)) = false := by decide)
    (hs : swapsWith e (some (.Subscript (.Name x p1) a p2)) pos.line X.env = pure false := by rfl) : SG X (.Assign [.Subscript (.Name x p1) a p2] e pos :: rest) g P :=
  sg_cons (N := fun q => q = g.set n (.k (kE (putG m i w)))) (ps_to (ps_dput (by omega) (pe_var hN hv hd hcd) hi he hs) fun E σ H ⟨F, D0, D, ok, p⟩ => ⟨F, D0, D, ok, fun v H1 D1 e1 hv => by
    have ok1 := ok.grow e1
    obtain ⟨q, o, h1, h2, h3, h4, h5⟩ := ok1.own n _ hg rfl
    cases o with
    | dK ws =>
      refine ⟨.ref q, h1, F, D0, D1, ok1, fun u H2 D2 e2 hw => ?_⟩
      have hw : u = .int i := hw
      have hv : v = w := hv
      subst hw hv
      rw [ents_k h5] at h2
      refine ⟨q, _, rfl, .inl ⟨kW m, Sum.inl i, e2.h _ _ h2, rfl, by unfold kW; rw [List.length_map, sizeLine_eq]; omega, rfl⟩, ?_⟩
      rw [kW_put]
      exact p.nx _ _ _ D2 rfl ((ok1.grow e2).change hg rfl h1 rfl (show Sl.ho D2 (.k (kE (putG m i v))) q (.dK (kW (putG m i v))) from ents_ofK _))
    | _ => exact h5.elim⟩) fun _ q => q ▸ h
theorem sg_tput (n : Nat) (hu : X.A.units + 64 < cLine) (hg : g[n]? = some (.t (tE tm))) (hz : tm.length ≤ 100000) (he : EG X e g (rv w)) (hi : EG X a g (rT (ns.map rInt))) (h : SG X rest (g.set n (.t (tE (putG tm ns w)))) P) (hN : X.N[n]? = some x := by rfl)
    (hv : Vis X.env.scope x := by first | exact Or.inl rfl | exact Or.inr (Or.inl rfl) | exact Or.inr (Or.inr rfl)) (hd : (x == ("__debug__" : Str)) = false := by decide) (hcd : (x == ("__classdict__" : Str)) = false := by decide)
    (hs : swapsWith e (some (.Subscript (.Name x p1) a p2)) pos.line X.env = pure false := by rfl) : SG X (.Assign [.Subscript (.Name x p1) a p2] e pos :: rest) g P :=
  sg_cons (N := fun q => q = g.set n (.t (tE (putG tm ns w)))) (ps_to (ps_dput (by omega) (pe_var hN hv hd hcd) hi he hs) fun E σ H ⟨F, D0, D, ok, p⟩ => ⟨F, D0, D, ok, fun v H1 D1 e1 hv => by
    have ok1 := ok.grow e1
    obtain ⟨q, o, h1, h2, h3, h4, h5⟩ := ok1.own n _ hg rfl
    cases o with
    | dT ws =>
      refine ⟨.ref q, h1, F, D0, D1, ok1, fun u H2 D2 e2 hw => ?_⟩
      obtain ⟨b, rfl, hb⟩ := tkey e2.i hw
      have hv : v = w := hv
      subst hv
      rw [ents_t h5] at h2
      refine ⟨q, _, rfl, .inr ⟨tW tm, _, b, e2.h _ _ h2, rfl, hb, by unfold tW; rw [List.length_map, sizeLine_eq]; omega, rfl⟩, ?_⟩
      rw [tW_put]
      exact p.nx _ _ _ D2 rfl ((ok1.grow e2).change hg rfl h1 rfl (show Sl.ho D2 (.t (tE (putG tm ns v))) q (.dT (tW (putG tm ns v))) from ents_ofT _))
    | _ => exact h5.elim⟩) fun _ q => q ▸ h
/-- from here on the dict stands still -/
theorem lock_ok {F D0 : Hp} {σ : L2.St} {H D : Hp} {n : Nat} {s : Sl} {p : Addr} {od : Obj} {u : HO} (ok : Ok g F D0 σ H D) (hg : g[n]? = some s) (hs : s.own = true) (hp : σ[n]? = some (some (.ref p))) (hH : H p = some u) (hD : D p = none) (hF : F p = none) (r : Rp) (hr : ∀ D', Same D D' → D' p = some (.frz od u) → r.p D' (.ref p)) :
    Ok (g.set n (.d r)) F D0 σ (upd H p (.frz od u)) (upd D p (.frz od u)) := by
  have sD : Same D (upd D p (.frz od u)) := same_upd hD
  refine ⟨fun b w e => ?_, fun b w e => ?_, ok.d0.trans sD, fun b h => ?_, by rw [List.length_set]; exact ok.len, fun j r' q => ?_, fun j s1 q o1 => ?_, fun j k s1 t1 p' q1 q2 o1 o2 e1 e2 => ?_⟩
  · by_cases hb : b = p
    · subst hb; rw [upd_same] at e ⊢; exact e
    · rw [upd_ne hb] at e ⊢; exact ok.sub _ _ e
  · rw [upd_ne (ne_of_none e hF)]; exact ok.fr _ _ e
  · by_cases hb : b = p
    · subst hb; exact .inr (.inl hF)
    · rw [upd_ne hb] at h; exact ok.new b h
  · rcases get_set q with ⟨e, z⟩ | ⟨e, z⟩
    · subst e; cases z; exact ⟨_, hp, hr _ sD upd_same⟩
    · obtain ⟨v, q1, q2⟩ := ok.dat j r' z
      exact ⟨v, q1, r'.mono sD q2⟩
  · rcases get_set q with ⟨e, z⟩ | ⟨e, z⟩
    · subst z; cases o1
    · obtain ⟨p2, u2, a2, b2, c2, d2, f2⟩ := ok.own j s1 z o1
      have ne : p2 ≠ p := fun w => e (ok.apart n j s s1 p hg z hs o1 hp (by rw [← w]; exact a2))
      exact ⟨p2, u2, a2, by rw [upd_ne ne]; exact b2, by rw [upd_ne ne]; exact c2, d2, Sl.ho_mono sD f2⟩
  · rcases get_set q1 with ⟨e, z⟩ | ⟨e, z⟩
    · subst z; cases o1
    · rcases get_set q2 with ⟨e', z'⟩ | ⟨e', z'⟩
      · subst z'; cases o2
      · exact ok.apart j k s1 t1 p' z z' o1 o2 e1 e2
theorem sg_lockK (n : Nat) {b : List Stmt} (hg : g[n]? = some (.k (kE m))) (h : SG X b (g.set n (.d (rDK (kE m)))) P) : SG X b g P := ⟨fun pins s σ H E I ⟨F, D0, D, ok, p⟩ => by
  obtain ⟨q, o, h1, h2, h3, h4, h5⟩ := ok.own n _ hg rfl
  cases o with
  | dK ws =>
    rw [ents_k h5] at h2
    obtain ⟨od, I1⟩ := I.lock h2 True.intro
    exact h.run pins s σ _ E I1 ⟨F, D0, _, lock_ok ok hg rfl h1 h2 h3 h4 (rDK (kE m)) fun D' sD hD => ⟨q, od, kW m, rfl, hD, ents_ofK m⟩, p⟩
  | _ => exact h5.elim⟩
theorem sg_lockT (n : Nat) {b : List Stmt} (hg : g[n]? = some (.t (tE tm))) (h : SG X b (g.set n (.d (rDT (tE tm)))) P) : SG X b g P := ⟨fun pins s σ H E I ⟨F, D0, D, ok, p⟩ => by
  obtain ⟨q, o, h1, h2, h3, h4, h5⟩ := ok.own n _ hg rfl
  cases o with
  | dT ws =>
    rw [ents_t h5] at h2
    obtain ⟨od, I1⟩ := I.lock h2 True.intro
    exact h.run pins s σ _ E I1 ⟨F, D0, _, lock_ok ok hg rfl h1 h2 h3 h4 (rDT (tE tm)) fun D' sD hD => ⟨q, od, tW tm, rfl, hD, ents_ofT tm⟩, p⟩
  | _ => exact h5.elim⟩
/-! ### walks of a dict -/
theorem ig_dt {tg : Expr} (he : EG X e g (rDT (tE tm))) : IG X tg e g (tm.map fun kv => rT (kv.1.map rInt)) :=
  pi_to (pi_keys he) fun σ H R ⟨F, D0, D, ok, k⟩ => ⟨F, D0, D, ok, fun v H' D' e hv => by
    obtain ⟨p, od, ws, rfl, h2, h3⟩ := hv
    rw [ents_t h3] at h2
    refine ⟨p, od, rfl, .inr ⟨tW tm, e.i _ _ h2, k _ H' D' e fun i H2 D2 e1 e2 => ?_⟩⟩
    have hH : H2 p = some (.frz od (.dT (tW tm))) := e2 _ _ (e1 _ _ h2)
    have hl : (tW tm).length = tm.length := by unfold tW; rw [List.length_map]
    refine ⟨fun r hr => ?_, fun hi => ⟨hH, by rw [List.length_map] at hi; rw [hl]; exact Nat.le_of_eq hi⟩⟩
    rw [List.getElem?_map] at hr
    cases q : tm[i]? with
    | none => rw [q] at hr; cases hr
    | some kv =>
      rw [q] at hr
      cases hr
      obtain ⟨hi, _⟩ := List.getElem?_eq_some_iff.mp q
      refine ⟨⟨hH, by rw [hl]; exact hi⟩, fun x H3 hy => ?_⟩
      obtain ⟨rfl, key, w, z, hk, rfl, hz⟩ := hy
      have hk2 : (tW tm)[i]? = some (kv.1.map Sum.inl, kv.2) := by unfold tW; rw [List.getElem?_map, q]; rfl
      rw [hk2] at hk
      cases hk
      rw [kVs_ints] at hz
      refine ⟨fun b => if b = z then some (.tup (kv.1.map V.int)) else D2 b, ⟨Same.refl _, fun b u hb => ?_, fun b u hb => ?_, fun b hb => ?_⟩, z, _, rfl, if_pos rfl, reps_ofI _⟩
      · show (if b = z then some (.tup (kv.1.map V.int)) else D2 b) = some u
        by_cases hbz : b = z
        · subst hbz
          rw [if_pos rfl]
          have w := e2 _ _ hb
          rw [hz] at w; exact w
        · rw [if_neg hbz]; exact hb
      · have hb : (if b = z then some (.tup (kv.1.map V.int)) else D2 b) = some u := hb
        by_cases hbz : b = z
        · subst hbz; rw [if_pos rfl] at hb; rw [hz]; exact hb
        · rw [if_neg hbz] at hb; exact e2 _ _ hb
      · have hb : (if b = z then some (.tup (kv.1.map V.int)) else D2 b) ≠ none := hb
        by_cases hbz : b = z
        · subst hbz; exact .inr (.inr ⟨_, hz, .inl ⟨_, rfl⟩⟩)
        · rw [if_neg hbz] at hb; exact .inl hb⟩
theorem ig_items {elts : List Expr} {kk : Nat} {tpos : Pos} (he : EG X e g (rDK (kE m))) (hbase : attributeBase e "items" X.env (eval e X.env) = eval e X.env := by rfl) (hline : (p1.endLine == pos.line) = true := by rfl) :
    IG X (.Tuple elts kk tpos) (.Call (.Attribute e "items" p1) [] [] pos) g (m.map fun kv => rT [rInt kv.1, rv kv.2]) :=
  pi_to (pi_items he hbase hline) fun σ H R ⟨F, D0, D, ok, k⟩ => ⟨F, D0, D, ok, fun v H' D' e hv => by
    obtain ⟨p, od, ws, rfl, h2, h3⟩ := hv
    rw [ents_k h3] at h2
    refine ⟨p, od, kW m, rfl, e.i _ _ h2, k _ H' D' e fun i H2 D2 e1 e2 => ?_⟩
    have hH : H2 p = some (.frz od (.dK (kW m))) := e2 _ _ (e1 _ _ h2)
    have hl : (kW m).length = m.length := by unfold kW; rw [List.length_map]
    refine ⟨fun r hr => ?_, fun hi => ⟨hH, by rw [List.length_map] at hi; rw [hl]; exact Nat.le_of_eq hi⟩⟩
    rw [List.getElem?_map] at hr
    cases q : m[i]? with
    | none => rw [q] at hr; cases hr
    | some kv =>
      rw [q] at hr
      cases hr
      obtain ⟨hi, _⟩ := List.getElem?_eq_some_iff.mp q
      refine ⟨⟨hH, by rw [hl]; exact hi⟩, fun x H3 hy => ?_⟩
      obtain ⟨T, key, w, hk, rfl, nT, rfl⟩ := hy
      have hk2 : (kW m)[i]? = some (Sum.inl kv.1, kv.2) := by unfold kW; rw [List.getElem?_map, q]; rfl
      rw [hk2] at hk
      cases hk
      exact ⟨_, Grow.new e2 nT, T, _, rfl, upd_same, .cons rfl (.cons rfl .nil)⟩⟩
end
end Rf

namespace Rf
open PySem PySem.Spec PyProof.Rows L2
open Sem (wp)

/-! ### zip and enumerate over lists and tuples, in any mix -/
def Sq (K : PySem.W.Frag) (tp : Bool) (H : Hp) (a : Addr) (xs : List V) : Prop := match tp with
  | true => SqT K H a xs
  | false => SqL K H a xs
def ItS (tp : Bool) (h : Heap) (it a : Addr) (i : Nat) : Prop := match tp with
  | true => h.IsTupleIter it a i
  | false => h.IsListIter it a i
def IsS (tp : Bool) (h : Heap) (a : Addr) (its : Array Value) : Prop := match tp with
  | true => h.IsTuple a its
  | false => h.IsList a its
theorem draws_s {P : Program} {w : World} {A : Around} (hh : A.handled = none) (tp : Bool) (it a : Addr) (hne : a ≠ it) (items : Array Value) : Draws P w A it [it, a] items.size (fun i v => items[i]? = some v) (fun i h => ItS tp h it a i ∧ IsS tp h a items) := by
  cases tp with
  | true => exact Draws.tuple hh it a hne items
  | false => exact Draws.list hh it a hne items
theorem begins_s (tp : Bool) (a : Addr) (items : Array Value) : Begins (.ref a) { cls := .type (if tp = true then "tuple_iterator" else "list_iterator"), data := .fields #[.ref a, .int 0 0] } fun h => IsS tp h a items := by
  cases tp with
  | true => exact begins_tuple a items
  | false => exact begins_list a items
theorem its_new {h : Heap} {it a : Addr} (tp : Bool) (e : h.get? it = some { cls := .type (if tp = true then "tuple_iterator" else "list_iterator"), data := .fields #[.ref a, .int 0 0] }) : ItS tp h it a 0 := by
  cases tp with
  | true => exact ⟨_, e, rfl, rfl⟩
  | false => exact ⟨_, e, rfl, rfl⟩
theorem ItS.obj {tp : Bool} {h : Heap} {it a : Addr} {i : Nat} (st : ItS tp h it a i) : ∃ o, h.get? it = some o ∧ ∀ v, o.data ≠ .cell v := by
  cases tp with
  | true => obtain ⟨o, e, _, d⟩ := st; exact ⟨o, e, fun v q => by rw [d] at q; cases q⟩
  | false => obtain ⟨o, e, _, d⟩ := st; exact ⟨o, e, fun v q => by rw [d] at q; cases q⟩
theorem ItS.keep {tp : Bool} {h h' : Heap} {it a : Addr} {i : Nat} (st : ItS tp h it a i) (k : ∀ o, h.get? it = some o → h'.get? it = some o) : ItS tp h' it a i := by
  cases tp with
  | true => exact Heap.IsTupleIter.at st k
  | false => exact Heap.IsListIter.at st k
section
variable {X : Cx} {pins : List (Addr × Obj)} {σ : L2.St} {H : Hp} {s : Shared} {a : Addr} {xs ys : List V}
theorem inv_sq {tp : Bool} (I : Inv X pins σ H s) (h : Sq X.K tp H a xs) : ∃ its : List Value, Vals xs its ∧ IsS tp s.heap a its.toArray ∧ xs.length ≤ sizeLine := by
  cases tp with
  | true => obtain ⟨its, r, p, z⟩ := I.tuple h; exact ⟨its, r, p, z⟩
  | false => obtain ⟨its, r, p, z⟩ := I.list h; exact ⟨its, r, p.isList, z⟩
theorem inv_sqinj {tp : Bool} (I : Inv X pins σ H s) (h : Sq X.K tp H a xs) (h' : Sq X.K tp H a ys) : xs = ys := by
  cases tp with
  | true => exact I.tuple_inj h h'
  | false => exact I.list_inj h h'
end
theorem its_ne {tp : Bool} {h : Heap} {it a : Addr} {i : Nat} {its : Array Value} (st : ItS tp h it a i) (p : IsS tp h a its) : a ≠ it := fun e => by
  subst e
  cases tp with
  | true =>
    obtain ⟨o, e1, c1, _⟩ := st
    obtain ⟨o2, e2, c2, _⟩ := p
    rw [e1] at e2; cases e2; rw [c1] at c2
    exact absurd (Value.type.inj c2) (by decide)
  | false =>
    obtain ⟨o, e1, c1, _⟩ := st
    obtain ⟨o2, e2, c2, _⟩ := p
    rw [e1] at e2; cases e2; rw [c1] at c2
    exact absurd (Value.type.inj c2) (by decide)
theorem isS_lt {tp : Bool} {h : Heap} {a : Addr} {its : Array Value} (p : IsS tp h a its) : a < h.objs.size := by
  cases tp with
  | true => obtain ⟨o, e, _⟩ := p; exact Heap.lt_size e
  | false => obtain ⟨o, e, _⟩ := p; exact Heap.lt_size e
def Itz2 (K : PySem.W.Frag) (t1 t2 : Bool) (a b : Addr) : It :=
  ⟨fun i H => ∃ (xs ys : List V) (x y : V), Sq K t1 H a xs ∧ Sq K t2 H b ys ∧ xs[i]? = some x ∧ ys[i]? = some y,
    fun i H v H' => ∃ T x y, v = .ref T ∧ H T = none ∧ H' = upd H T (.tup [x, y]) ∧ (∀ xs, Sq K t1 H a xs → xs[i]? = some x) ∧ ∀ ys, Sq K t2 H b ys → ys[i]? = some y,
    fun i H => ∃ xs ys : List V, Sq K t1 H a xs ∧ Sq K t2 H b ys ∧ i ≤ xs.length ∧ i ≤ ys.length ∧ (i = xs.length ∨ i = ys.length)⟩
theorem turn_zip2 {P : Program} {w : World} {K : PySem.W.Frag} {elts : List Expr} {kk : Nat} {tpos : Pos} {a b z TI TO i1 i2 : Addr} (t1 t2 : Bool) (S : ZipSep2 z TI TO i1 i2 [i1, a] [i2, b]) :
    Turn P w K (.Tuple elts kk tpos) (Itz2 K t1 t2 a b) [z, TI, TO, i1, i2] z (fun i h => IsZip h z TI TO .none ∧ IsTupOf2 h TI (.ref i1) (.ref i2) ∧ (∃ x y, IsTupOf2 h TO x y) ∧ ItS t1 h i1 a i ∧ ItS t2 h i2 b i) where
  mem := by simp
  obj := fun i h st c hc => by
    obtain ⟨hz, hTI, ⟨x, y, hTO⟩, h1, h2⟩ := st
    have e' : c = z ∨ c = TI ∨ c = TO ∨ c = i1 ∨ c = i2 := by simpa using hc
    rcases e' with q | q | q | q | q
    · rw [q]; exact ⟨_, hz, fun v q => nomatch q⟩
    · rw [q]; exact ⟨_, hTI, fun v q => nomatch q⟩
    · rw [q]; exact ⟨_, hTO, fun v q => nomatch q⟩
    · rw [q]; exact h1.obj
    · rw [q]; exact h2.obj
  keep := fun i h h' st k => by
    obtain ⟨hz, hTI, ⟨x, y, hTO⟩, h1, h2⟩ := st
    exact ⟨k z (by simp) _ hz, k TI (by simp) _ hTI, ⟨x, y, k TO (by simp) _ hTO⟩, h1.keep fun o q => k i1 (by simp) o q, h2.keep fun o q => k i2 (by simp) o q⟩
  item := by
    intro X hP hw hK hc i pins s σ H E I hf st hg
    subst hP hw hK
    obtain ⟨hz, hTI, ⟨x0, y0, hTO⟩, h1, h2⟩ := st
    obtain ⟨xs, ys, x, y, hqx, hqy, hx, hy⟩ := hg
    obtain ⟨its, rv, p, _⟩ := inv_sq I hqx
    obtain ⟨its2, rv2, p2, _⟩ := inv_sq I hqy
    obtain ⟨u, hu, ru⟩ := rv.get hx
    obtain ⟨u2, hu2, ru2⟩ := rv2.get hy
    have hzl : z < s.heap.objs.size := Heap.lt_size hz
    have hi1 : i < its.toArray.size := by simpa using (List.getElem?_eq_some_iff.mp hu).1
    have hi2 : i < its2.toArray.size := by simpa using (List.getElem?_eq_some_iff.mp hu2).1
    have hh : X.A.in1.handled = none := I.ok.hd hc
    have d1 : a ≠ i1 := its_ne h1 p
    have d2 : b ≠ i2 := its_ne h2 p2
    refine wpAny_pyNext_zipD2_item S (draws_s hh t1 i1 a d1 its.toArray) (draws_s hh t2 i2 b d2 its2.toArray) hz hTI hTO ⟨h1, p⟩ ⟨h2, p2⟩ hi1 hi2 fun v1 v2 h' tk e1 e2 z' TO' h1' h2' hT hsz hk => ?_
    have ev1 : v1 = u := by
      have q : its.toArray[i]? = some u := by simpa using hu
      rw [q] at e1; exact (Option.some.inj e1).symm
    have ev2 : v2 = u2 := by
      have q : its2.toArray[i]? = some u2 := by simpa using hu2
      rw [q] at e2; exact (Option.some.inj e2).symm
    subst ev1 ev2
    refine ⟨_, rfl, wpAny_letOwnedTupleGo_zip (s := { s with heap := h', toks := tk }) z' fun h'' z'' sb => ?_⟩
    have hT2 : h''.get? s.heap.objs.size = some { cls := .type "tuple", data := .seq #[v1, v2] } := (sb.2 _ (Nat.ne_of_gt hzl)).trans hT
    have new : ObjOk X.prog X.w (upd H s.heap.objs.size (.tup [x, y])) h'' s.heap.objs.size (.tup [x, y]) :=
      ⟨by show 2 ≤ sizeLine; decide, [v1, v2], .cons ru (.cons ru2 .nil), ⟨_, hT2, rfl, _, rfl⟩⟩
    have I1 : Inv X pins σ (upd H s.heap.objs.size (.tup [x, y])) { s with heap := h'', toks := tk } :=
      I.turnedNew (t' := tk) (ch := [z, TI, TO, i1, i2]) (fun c o hb q => (sb.2 c (fun q' => hb (by simp [q']))).trans (hk c o (fun q' => hb (by simp [q'])) (fun q' => hb (by simp [q'])) (fun q' => hb (by simp [q'])) (fun q' => hb (by simp [q'])) q)) hf (Nat.le_refl _) new
    refine ⟨.ref s.heap.objs.size, _, I1, rfl, ⟨_, x, y, rfl, I.hok.fresh (Nat.le_refl _), rfl, fun l hl => by rw [inv_sqinj I hl hqx]; exact hx, fun l hl => by rw [inv_sqinj I hl hqy]; exact hy⟩, ⟨z'', ?_, ⟨v1, v2, ?_⟩, ?_, ?_⟩, fun c hcm => ?_⟩
    · exact (sb.2 _ S.TIz).trans (hk _ _ S.TIz S.TITO S.TIi1 S.TIi2 hTI)
    · exact (sb.2 _ S.TOz).trans TO'
    · exact h1'.1.keep fun o q => (sb.2 _ (Ne.symm S.zi1)).trans q
    · exact h2'.1.keep fun o q => (sb.2 _ (Ne.symm S.zi2)).trans q
    · have hlt : c < s.heap.objs.size := by
        have e' : c = z ∨ c = TI ∨ c = TO ∨ c = i1 ∨ c = i2 := by simpa using hcm
        rcases e' with q | q | q | q | q
        · rw [q]; exact hzl
        · rw [q]; exact Heap.lt_size hTI
        · rw [q]; exact Heap.lt_size hTO
        · rw [q]; obtain ⟨_, e1, _⟩ := h1.obj; exact Heap.lt_size e1
        · rw [q]; obtain ⟨_, e2, _⟩ := h2.obj; exact Heap.lt_size e2
      rw [upd_ne (Nat.ne_of_lt hlt)]
      exact (hf c hcm).1
  done := by
    intro X hP hw hK hc i pins s σ H E I hf st hg
    subst hP hw hK
    obtain ⟨hz, hTI, ⟨x0, y0, hTO⟩, h1, h2⟩ := st
    obtain ⟨xs, ys, hqx, hqy, hl1, hl2, hend⟩ := hg
    obtain ⟨its, rv, p, _⟩ := inv_sq I hqx
    obtain ⟨its2, rv2, p2, _⟩ := inv_sq I hqy
    have l1 := rv.length
    have l2 := rv2.length
    have hh : X.A.in1.handled = none := I.ok.hd hc
    have d1 : a ≠ i1 := its_ne h1 p
    have d2 : b ≠ i2 := its_ne h2 p2
    exact wpAny_pyNext_zipD2_end S (draws_s hh t1 i1 a d1 its.toArray) (draws_s hh t2 i2 b d2 its2.toArray) hz hTI hTO ⟨h1, p⟩ ⟨h2, p2⟩ (by simp; omega) (by simp; omega) (by simp; omega) fun h' tk hk => ⟨rfl, I.turnedL (t' := tk) (ch := [z, TI, TO, i1, i2]) (fun c o hb q =>
      hk c o (fun q' => hb (by simp [q'])) (fun q' => hb (by simp [q'])) (fun q' => hb (by simp [q'])) (fun q' => hb (by simp [q'])) q) hf⟩
  self := fun A i s Q E st h => wpAny_pyIter_zip st.1 h
def iZip2 (K : PySem.W.Frag) (t1 t2 : Bool) (ta : TA) : TI := fun σ H R => ta σ H fun vs H1 => ∃ a b xs ys, vs = [.ref a, .ref b] ∧ Sq K t1 H1 a xs ∧ Sq K t2 H1 b ys ∧ R (Itz2 K t1 t2 a b) H1
theorem pi_zip2 {X : Cx} {e e2 : Expr} {ta : TA} {p pos tpos : Pos} {elts : List Expr} {kk : Nat} (t1 t2 : Bool) (hg : Gl X "zip") (hm : X.mg "zip" = none) (ha : PA X [e, e2] ta)
    (hs : starEach [e, e2] X.env = (false, eval e X.env) :: starEach [e2] X.env := by rfl) (hpl : (backTo pos (starEach [e2] X.env)).any (·.1) = false := by rfl) :
    PI X (.Tuple elts kk tpos) (.Call (.Name "zip" p) [e, e2] [] pos) (iZip2 X.K t1 t2 ta) := by
  refine ⟨fun pins s σ H R I h => ?_⟩
  refine Call_ (ld_blt I hg hm PyProof.Rows.boot_zip (PyProof.Rows.callWith_type1 (thn (ha.run pos pins s σ H _ I h) fun us s1 ⟨vs, H1, I1, r1, q1⟩ => ?_) hs hpl))
  obtain ⟨a, b, xs, ys, ex, hqx, hqy, q⟩ := q1
  subst ex
  cases r1 with
  | cons r rr =>
    cases rr with
    | cons r' rr =>
      cases rr
      cases r
      cases r'
      have fresh5 : ∀ c, c ∈ [s1.heap.objs.size + 4, s1.heap.objs.size + 2, s1.heap.objs.size + 3, s1.heap.objs.size, s1.heap.objs.size + 1] → FpOk X pins H1 c := fun c hcm => by
        have e' : c = s1.heap.objs.size + 4 ∨ c = s1.heap.objs.size + 2 ∨ c = s1.heap.objs.size + 3 ∨ c = s1.heap.objs.size ∨ c = s1.heap.objs.size + 1 := by simpa using hcm
        have hle : s1.heap.objs.size ≤ c := by
          rcases e' with z | z | z | z | z
          · rw [z]; exact Nat.le_add_right _ _
          · rw [z]; exact Nat.le_add_right _ _
          · rw [z]; exact Nat.le_add_right _ _
          · rw [z]; exact Nat.le_refl _
          · rw [z]; exact Nat.le_add_right _ _
        exact I1.fpOk hle (I1.hok.fresh hle)
      obtain ⟨its, rv, p1, _⟩ := inv_sq I1 hqx
      obtain ⟨its2, rv2, p2, _⟩ := inv_sq I1 hqy
      refine zip_begins2 (begins_s t1 a its.toArray) (begins_s t2 b its2.toArray) p1 p2 fun h' hz hTI hTO h1 h2 hsz hk => wpAny_pyIter_zip hz ?_
      have I2 : Inv X pins σ H1 { s1 with heap := h' } := I1.kept (t' := s1.toks) hk
      have la := isS_lt p1
      have lb := isS_lt p2
      exact ⟨s1.heap.objs.size + 4, [s1.heap.objs.size + 4, s1.heap.objs.size + 2, s1.heap.objs.size + 3, s1.heap.objs.size, s1.heap.objs.size + 1], _, _, H1, rfl, I2,
        turn_zip2 t1 t2 (zip_sep2 (N := s1.heap.objs.size) (fp1 := [a]) (fp2 := [b]) (fun c hc => by rw [List.mem_singleton.mp hc]; exact la) fun c hc => by rw [List.mem_singleton.mp hc]; exact lb), ⟨hz, hTI, ⟨_, _, hTO⟩, its_new t1 h1, its_new t2 h2⟩, fresh5, q⟩
end Rf

namespace Rf
open PySem PySem.Spec PyProof.Rows L2
open Sem (wp)

theorem meets_enum_new1 {v : Value} {o : Obj} {H : Heap → Prop} (B : Begins v o H) :
    Meets (Builtin.«enumerate.__new__» ⟨[.type "enumerate", v], []⟩) (fun _ R s => H s.heap ∧
      R (.ok (.ret (.ref (s.heap.push o).objs.size))) { s with heap := (s.heap.push o).push { cls := .type "enumerate", data := .fields #[.none, .bool false, .ref s.heap.objs.size, rawInt 0, .none, .none] } }) :=
  .of_wp fun prog w A R s h => by
    obtain ⟨hp, g, d, tk, os⟩ := s; obtain ⟨h1, h⟩ := h
    have hsub := sub_enumerate
    have q1 : ∀ {A' : Around} {E : Value → Shared → Prop} {Q : Value → Shared → Prop}, Q (.ref hp.objs.size) ⟨hp.push o, g, d, tk, os⟩ → wpAny (model prog w) A' (pyIter v) Q E ⟨hp, g, d, tk, os⟩ :=
      fun q => B.iter prog w _ _ ⟨hp, g, d, tk, os⟩ _ h1 q
    wp_walk using q1
    refine wpAny_stack_any fun st => wpAny_pure ?_
    split
    · rename_i c _ _ _ _ _
      cases (c == Value.type "enumerate")
      · wp_walk using q1
        exact ⟨_, rfl, h⟩
      · wp_walk using q1
        exact ⟨_, rfl, h⟩
    · wp_walk using q1
      exact ⟨_, rfl, h⟩
section
variable {prog : Program} {w : World} {A : Around} {E : Value → Shared → Prop} {s : Shared}
theorem enum_new1 {v : Value} {o : Obj} {H : Heap → Prop} {Q : Value → Shared → Prop} (B : Begins v o H) (h1 : H s.heap)
    (h : ∀ h', IsEnum h' (s.heap.objs.size + 1) s.heap.objs.size 0 .none → h'.get? s.heap.objs.size = some o → h'.objs.size = s.heap.objs.size + 2 →
      (∀ b o, s.heap.get? b = some o → h'.get? b = some o) → Q (.ref (s.heap.objs.size + 1)) { s with heap := h' }) :
    wpAny (model prog w) A (call (.type "enumerate") [v]) Q E s := by
  refine callType_new F.called_enumerate (by decide) (F.typeCall_enumerate_1 _) (F.newCall_enumerate_1 _) (fun obj => F.args_object_init_2 obj _) F.entry_enumerate_new (meets_enum_new1 B) ⟨h1, ?_⟩
  have hz : (s.heap.push o).objs.size = s.heap.objs.size + 1 := Heap.size_push ..
  show _ ∧ _
  rw [hz]
  have he : IsEnum ((s.heap.push o).push { cls := .type "enumerate", data := .fields #[.none, .bool false, .ref s.heap.objs.size, rawInt 0, .none, .none] }) (s.heap.objs.size + 1) s.heap.objs.size 0 .none := by
    have := Heap.get?_push_size (s.heap.push o) (o := { cls := .type "enumerate", data := .fields #[.none, .bool false, .ref s.heap.objs.size, rawInt 0, .none, .none] }) rfl
    rw [hz] at this; exact this
  refine ⟨⟨_, he, rfl⟩, h _ he (Heap.get?_push_of_some _ (Heap.get?_push_size _ B.free)) (by rw [Heap.size_push, hz]) fun b o x => Heap.get?_push_of_some _ (Heap.get?_push_of_some _ x)⟩
end
def Ite2 (K : PySem.W.Frag) (tp : Bool) (a : Addr) : It :=
  ⟨fun i H => ∃ (xs : List V) (x : V), Sq K tp H a xs ∧ xs[i]? = some x, fun i H v H' => ∃ T x, v = .ref T ∧ H T = none ∧ H' = upd H T (.tup [.int (i : Nat), x]) ∧ ∀ xs, Sq K tp H a xs → xs[i]? = some x, fun i H => ∃ xs : List V, Sq K tp H a xs ∧ i = xs.length⟩
theorem turn_enum2 {P : Program} {w : World} {K : PySem.W.Frag} {elts : List Expr} {kk : Nat} {tpos : Pos} (tp : Bool) (a e it : Addr) (hae : a ≠ e) :
    Turn P w K (.Tuple elts kk tpos) (Ite2 K tp a) [e, it] e (fun i h => (∃ old, IsEnum h e it ((i : Nat) : Int) old) ∧ ItS tp h it a i ∧ e ≠ it) where
  mem := by simp
  obj := fun i h st b hb => by
    obtain ⟨⟨old, he⟩, h1, _⟩ := st
    have e' : b = e ∨ b = it := by simpa using hb
    rcases e' with z | z
    · rw [z]; exact ⟨_, he, fun v q => nomatch q⟩
    · rw [z]; exact h1.obj
  keep := fun i h h' st k => let ⟨⟨old, he⟩, hi, hne⟩ := st; ⟨⟨old, k e (by simp) _ he⟩, hi.keep fun o q => k it (by simp) o q, hne⟩
  item := by
    intro X hP hw hK hc i pins s σ H E I hf st hg
    subst hP hw hK
    obtain ⟨⟨old, he⟩, hit, hne⟩ := st
    obtain ⟨xs, x, hq, hx⟩ := hg
    obtain ⟨its, rv, p, hz⟩ := inv_sq I hq
    obtain ⟨u, hu, ru⟩ := rv.get hx
    have hel : e < s.heap.objs.size := Heap.lt_size he
    have hil : it < s.heap.objs.size := by obtain ⟨_, q, _⟩ := hit.obj; exact Heap.lt_size q
    have hh : X.A.in1.handled = none := I.ok.hd hc
    have hi1 : i < its.toArray.size := by simpa using (List.getElem?_eq_some_iff.mp hu).1
    refine wpAny_pyNext_enum_itemD (draws_s hh tp it a (its_ne hit p) its.toArray) he ⟨hit, p⟩ hi1 hne (by simp; exact ⟨hne, fun z => hae z.symm⟩) fun v h' tk ev ho hit' hT hsz hk => ?_
    have ev1 : v = u := by
      have q : its.toArray[i]? = some u := by simpa using hu
      rw [q] at ev; exact (Option.some.inj ev).symm
    subst ev1
    refine ⟨_, rfl, wpAny_letOwnedTupleGo_enum (s := { s with heap := h', toks := tk + 1 }) ho fun h'' he' sb => ?_⟩
    have hT2 : h''.get? s.heap.objs.size = some { cls := .type "tuple", data := .seq #[.int i tk, v] } := (sb.2 _ (Nat.ne_of_gt hel)).trans hT
    have new : ObjOk X.prog X.w (upd H s.heap.objs.size (.tup [.int (i : Nat), x])) h'' s.heap.objs.size (.tup [.int (i : Nat), x]) :=
      ⟨by show 2 ≤ sizeLine; decide, [.int i tk, v], .cons ⟨_, rfl⟩ (.cons ru .nil), ⟨_, hT2, rfl, _, rfl⟩⟩
    have I1 : Inv X pins σ (upd H s.heap.objs.size (.tup [.int (i : Nat), x])) { s with heap := h'', toks := tk + 1 } :=
      I.turnedNew (t' := tk + 1) (ch := [e, it]) (fun b ob hb q => (sb.2 b (fun z => hb (by simp [z]))).trans (hk b ob (fun z => hb (by simp [z])) (fun z => hb (by simp [z])) q)) hf (Nat.le_refl _) new
    refine ⟨.ref s.heap.objs.size, _, I1, rfl, ⟨_, x, rfl, I.hok.fresh (Nat.le_refl _), rfl, fun ys hy => by rw [inv_sqinj I hy hq]; exact hx⟩, ⟨⟨v, ?_⟩, hit'.1.keep fun o q => (sb.2 it (Ne.symm hne)).trans q, hne⟩, fun b hb => ?_⟩
    · have e1 : ((i + 1 : Nat) : Int) = (i : Int) + 1 := by omega
      rw [e1]; exact he'
    · have hb' : b < s.heap.objs.size := by
        have e' : b = e ∨ b = it := by simpa using hb
        rcases e' with z | z
        · rw [z]; exact hel
        · rw [z]; exact hil
      rw [upd_ne (Nat.ne_of_lt hb')]
      exact (hf b hb).1
  done := by
    intro X hP hw hK hc i pins s σ H E I hf st hg
    subst hP hw hK
    obtain ⟨⟨old, he⟩, hit, hne⟩ := st
    obtain ⟨xs, hq, hx⟩ := hg
    obtain ⟨its, rv, p, hz⟩ := inv_sq I hq
    have hh : X.A.in1.handled = none := I.ok.hd hc
    have hl := rv.length
    have hi : i = its.toArray.size := by simp; omega
    refine wpAny_pyNext_enum_endD (draws_s hh tp it a (its_ne hit p) its.toArray) he (by rw [← hi]; exact ⟨hit, p⟩) fun h' eb => ⟨rfl, I.turnedL (t' := s.toks) (ch := [e, it]) (fun b o hb q => eb b o (fun z => hb (by simp [z])) q) hf⟩
  self := fun A i s Q E st h => let ⟨⟨_, he⟩, _⟩ := st; wpAny_pyIter_enum he h
def iEnum2 (K : PySem.W.Frag) (tp : Bool) (ta : TA) : TI := fun σ H R => ta σ H fun vs H1 => ∃ a xs, vs = [.ref a] ∧ Sq K tp H1 a xs ∧ R (Ite2 K tp a) H1
theorem pi_enum2 {X : Cx} {e : Expr} {ta : TA} {p pos tpos : Pos} {elts : List Expr} {kk : Nat} (tp : Bool) (hg : Gl X "enumerate") (hm : X.mg "enumerate" = none) (ha : PA X [e] ta) (hs : starEach [e] X.env = [(false, eval e X.env)] := by rfl) :
    PI X (.Tuple elts kk tpos) (.Call (.Name "enumerate" p) [e] [] pos) (iEnum2 X.K tp ta) := by
  refine ⟨fun pins s σ H R I h => ?_⟩
  refine Call_ (ld_blt I hg hm boot_enumerate (PyProof.Rows.callWith_type1 (thn (ha.run pos pins s σ H _ I h) fun us s1 ⟨vs, H1, I1, r1, q1⟩ => ?_) hs rfl))
  obtain ⟨a, xs, ex, hq, q⟩ := q1
  subst ex
  cases r1 with
  | cons r rr =>
    cases rr
    cases r
    obtain ⟨its, rv, p', hz⟩ := inv_sq I1 hq
    refine enum_new1 (begins_s tp a its.toArray) p' fun h' he hit hsz hk => wpAny_pyIter_enum he ?_
    have I2 : Inv X pins σ H1 { s1 with heap := h' } := I1.kept (t' := s1.toks) hk
    have la := isS_lt p'
    refine ⟨s1.heap.objs.size + 1, [s1.heap.objs.size + 1, s1.heap.objs.size], _, _, H1, rfl, I2, turn_enum2 tp a (s1.heap.objs.size + 1) s1.heap.objs.size (Nat.ne_of_lt (Nat.lt_succ_of_lt la)), ⟨⟨.none, he⟩, its_new tp hit, Nat.succ_ne_self _⟩, fun b hb => ?_, q⟩
    have e' : b = s1.heap.objs.size + 1 ∨ b = s1.heap.objs.size := by simpa using hb
    have hle : s1.heap.objs.size ≤ b := by
      rcases e' with z | z
      · rw [z]; exact Nat.le_add_right _ _
      · rw [z]; exact Nat.le_refl _
    exact I1.fpOk hle (I1.hok.fresh hle)
/-! ### told by what the lists and tuples stand for -/
/-- a list or a tuple -/
def rQ (tp : Bool) (rs : List Rp) : Rp := match tp with
  | true => rT rs
  | false => rL rs
theorem rQ_sq {tp : Bool} {rs : List Rp} {K : PySem.W.Frag} {D : Hp} {v : V} (h : (rQ tp rs).p D v) : ∃ a vs, v = .ref a ∧ Reps D rs vs ∧ ∀ H, Same D H → Sq K tp H a vs := by
  cases tp with
  | true => obtain ⟨a, vs, e, h1, h2⟩ := h; exact ⟨a, vs, e, h2, fun H s => SqT.of (s _ _ h1)⟩
  | false => obtain ⟨a, vs, e, h1, h2⟩ := h; exact ⟨a, vs, e, h2, fun H s => SqL.of (s _ _ h1)⟩
def zipR : List Rp → List Rp → List Rp
  | a :: l, b :: m => rT [a, b] :: zipR l m
  | _, _ => []
theorem zipR_get : ∀ {l m : List Rp} {i : Nat} {r : Rp}, (zipR l m)[i]? = some r → ∃ a b, l[i]? = some a ∧ m[i]? = some b ∧ r = rT [a, b]
  | [], _, _, _, h => by simp [zipR] at h
  | _ :: _, [], _, _, h => by simp [zipR] at h
  | a :: l, b :: m, 0, r, h => by simp [zipR] at h; exact ⟨a, b, rfl, rfl, h.symm⟩
  | a :: l, b :: m, i + 1, r, h => by
    have h : (zipR l m)[i]? = some r := by simpa [zipR] using h
    obtain ⟨x, y, h1, h2, h3⟩ := zipR_get h
    exact ⟨x, y, by simpa using h1, by simpa using h2, h3⟩
theorem zipR_len : ∀ {l m : List Rp}, (zipR l m).length = min l.length m.length
  | [], _ => by simp [zipR]
  | _ :: _, [] => by simp [zipR]
  | a :: l, b :: m => by simp [zipR, zipR_len (l := l) (m := m)]
theorem walks_z {K : PySem.W.Frag} {t1 t2 : Bool} {a b : Addr} {xs ys : List V} {D1 : Hp} {rs rs' : List Rp} (h1 : ∀ H, Same D1 H → Sq K t1 H a xs) (h2 : ∀ H, Same D1 H → Sq K t2 H b ys) (r1 : Reps D1 rs xs) (r2 : Reps D1 rs' ys) : Walks (Itz2 K t1 t2 a b) D1 (zipR rs rs') := fun i H' D' e1 e2 => by
  have q1 := h1 H' (e1.trans e2)
  have q2 := h2 H' (e1.trans e2)
  refine ⟨fun r hr => ?_, fun hi => ?_⟩
  · obtain ⟨ra, rb, g1, g2, rfl⟩ := zipR_get hr
    obtain ⟨x, g3, g4⟩ := reps_get r1 g1
    obtain ⟨y, g5, g6⟩ := reps_get r2 g2
    refine ⟨⟨xs, ys, x, y, q1, q2, g3, g5⟩, fun v H'' hv => ?_⟩
    obtain ⟨T, x', y', rfl, nT, rfl, k1, k2⟩ := hv
    have z1 := k1 xs q1
    have z2 := k2 ys q2
    rw [g3] at z1; rw [g5] at z2; cases z1; cases z2
    have nd : D' T = none := e2.free nT
    exact ⟨_, Grow.new e2 nT, T, _, rfl, upd_same, .cons (ra.mono (e1.trans (same_upd nd)) g4) (.cons (rb.mono (e1.trans (same_upd nd)) g6) .nil)⟩
  · rw [zipR_len] at hi
    have l1 := r1.length
    have l2 := r2.length
    exact ⟨xs, ys, q1, q2, by omega, by omega, by omega⟩
def enumR (rs : List Rp) : List Rp := rs.zipIdx.map fun z => rT [rInt (z.2 : Nat), z.1]
theorem walks_e {K : PySem.W.Frag} {tp : Bool} {a : Addr} {xs : List V} {D1 : Hp} {rs : List Rp} (h1 : ∀ H, Same D1 H → Sq K tp H a xs) (r1 : Reps D1 rs xs) : Walks (Ite2 K tp a) D1 (enumR rs) := fun i H' D' e1 e2 => by
  have q1 := h1 H' (e1.trans e2)
  refine ⟨fun r hr => ?_, fun hi => ?_⟩
  · unfold enumR at hr
    rw [List.getElem?_map, List.getElem?_zipIdx] at hr
    cases q : rs[i]? with
    | none => rw [q] at hr; cases hr
    | some ra =>
      rw [q] at hr
      cases hr
      obtain ⟨x, g3, g4⟩ := reps_get r1 q
      refine ⟨⟨xs, x, q1, g3⟩, fun v H'' hv => ?_⟩
      obtain ⟨T, x', rfl, nT, rfl, k1⟩ := hv
      have z1 := k1 xs q1
      rw [g3] at z1; cases z1
      have nd : D' T = none := e2.free nT
      exact ⟨_, Grow.new e2 nT, T, _, rfl, upd_same, .cons (by show V.int _ = V.int _; simp) (.cons (ra.mono (e1.trans (same_upd nd)) g4) .nil)⟩
  · unfold enumR at hi
    rw [List.length_map, List.length_zipIdx] at hi
    exact ⟨xs, q1, by rw [← r1.length]; exact hi.symm⟩
section
variable {X : Cx} {g : List Sl} {e e2 : Expr} {pos p tpos : Pos} {elts : List Expr} {kk : Nat} {rs rs' : List Rp}
theorem ig_zip (t1 t2 : Bool) (hm : X.mg "zip" = none) (h1 : EG X e g (rQ t1 rs)) (h2 : EG X e2 g (rQ t2 rs')) (hg : Gl X "zip" := by rfl) (hs : starEach [e, e2] X.env = (false, eval e X.env) :: starEach [e2] X.env := by rfl) (hs2 : starEach [e2] X.env = (false, eval e2 X.env) :: starEach [] X.env := by rfl)
    (hpl : (backTo pos (starEach [e2] X.env)).any (·.1) = false := by rfl) : IG X (.Tuple elts kk tpos) (.Call (.Name "zip" p) [e, e2] [] pos) g (zipR rs rs') :=
  pi_to (pi_zip2 t1 t2 hg hm (ag_cons h1 (ag_cons h2 ag_nil hs2) hs) hs hpl) fun σ H R ⟨F, D0, D, ok, k⟩ => ⟨F, D0, D, ok, fun vs H' D' e hvs => by
    cases hvs with
    | cons q1 t =>
      cases t with
      | cons q2 t =>
        cases t
        obtain ⟨a, xs, rfl, r1, s1⟩ := rQ_sq (K := X.K) q1
        obtain ⟨b, ys, rfl, r2, s2⟩ := rQ_sq (K := X.K) q2
        exact ⟨a, b, xs, ys, rfl, s1 _ e.i, s2 _ e.i, k _ H' D' e (walks_z s1 s2 r1 r2)⟩⟩
theorem ig_enum (tp : Bool) (hm : X.mg "enumerate" = none) (h1 : EG X e g (rQ tp rs)) (hg : Gl X "enumerate" := by rfl) (hs : starEach [e] X.env = (false, eval e X.env) :: starEach [] X.env := by rfl) :
    IG X (.Tuple elts kk tpos) (.Call (.Name "enumerate" p) [e] [] pos) g (enumR rs) :=
  pi_to (pi_enum2 tp hg hm (ag_cons h1 ag_nil hs) hs) fun σ H R ⟨F, D0, D, ok, k⟩ => ⟨F, D0, D, ok, fun vs H' D' e hvs => by
    cases hvs with
    | cons q1 t =>
      cases t
      obtain ⟨a, xs, rfl, r1, s1⟩ := rQ_sq (K := X.K) q1
      exact ⟨a, xs, rfl, s1 _ e.i, k _ H' D' e (walks_e s1 r1)⟩⟩
end
/-- typed -/
theorem zipR_map {α β : Type} (fa : α → Rp) (fb : β → Rp) : ∀ (l : List α) (m : List β), zipR (l.map fa) (m.map fb) = (l.zip m).map fun z => rT [fa z.1, fb z.2]
  | [], _ => rfl
  | _ :: _, [] => rfl
  | a :: l, b :: m => by
    show rT [fa a, fb b] :: zipR (l.map fa) (m.map fb) = _
    rw [zipR_map fa fb l m]; rfl
def enumI {α : Type} (l : List α) : List (Int × α) := l.zipIdx.map fun z => ((z.2 : Nat), z.1)
theorem enumR_map {α : Type} (fa : α → Rp) (l : List α) : enumR (l.map fa) = (enumI l).map fun z => rT [rInt z.1, fa z.2] := by
  unfold enumR enumI
  rw [List.zipIdx_map, List.map_map, List.map_map]; rfl
end Rf

namespace Rf
open PySem PySem.Spec PyProof.Rows L2
def top (i : Nat) : Stmt := PySem.Challenge.pw_handlerims_k60_whole_rounds_folded.main.body.getD i (.Pass ⟨0, 0, 0, 0⟩)
abbrev FnP (K : PySem.W.Frag) (x : Str) (st : Stmt) (f : Addr) (fd : FuncData) : Prop := FunD K x x (defArgs st) (defBody st) (defScope st) [] [] f fd
abbrev FnM (K : PySem.W.Frag) (x q : Str) (st : Stmt) (f : Addr) (fd : FuncData) : Prop := FunD K x q (defArgs st) (defBody st) (defScope st) [] [] f fd
/-- the built-ins' names are free -/
structure Fre (mg : Str → Option Value) : Prop where
  isinstance : mg "isinstance" = none
  int : mg "int" = none
  bool : mg "bool" = none
  list : mg "list" = none
  tuple : mg "tuple" = none
  all : mg "all" = none
  len : mg "len" = none
  abs : mg "abs" = none
  sorted : mg "sorted" = none
  range : mg "range" = none
  zip : mg "zip" = none
  enumerate : mg "enumerate" = none
  min : mg "min" = none
  sum : mg "sum" = none
  str : mg "str" = none
  set : mg "set" = none
section
variable {P : Program} {w : World} {K : PySem.W.Frag} {mg : Str → Option Value} {base : Heap} {f : Addr} {fd : FuncData}
theorem sc_is_integer : FnScope ["value"] ["value"] (defScope (top 19)) := ⟨rfl, rfl, rfl, by decide +kernel, rfl, by decide +kernel, by decide +kernel⟩
def relIsInt (K : PySem.W.Frag) : Rel := fun A r => ∃ rx t b1 b2, A = [rx] ∧ HasTy K rx t ∧ PySem.W.kitOne K t (.type "int") = some b1 ∧ PySem.W.kitOne K t (.type "bool") = some b2 ∧ r = rBl (b1 && !b2)
theorem c_is_integer (T : Fre mg) (F : FnP K "is_integer" (top 19) f fd) (gm : mg "is_integer" = some (.ref f)) : DefC P w K mg base "is_integer" 1 (relIsInt K) := by
  refine ⟨f, fd, ["value"], def_g F sc_is_integer (fun A r ⟨_, _, _, _, e, _⟩ => by rw [e]; rfl) (by decide) (fun cdv A outer s H E hr As r h => ?_), gm, F.kp, F.bindsN fun _ _ _ _ _ _ us hl => match us, hl with | [_], _ => rfl⟩
  obtain ⟨rx, t, b1, b2, rfl, ht, h1, h2, rfl⟩ := h
  refine sg_ret (eg_and (eg_isi T.isinstance (eg_name 0) (eg_ty T.int boot_int) ht (.ty _) h1) fun _ => eg_one (eg_not (eg_isi T.isinstance (eg_name 0) (eg_ty T.bool boot_bool) ht (.ty _) h2))) rfl
end
end Rf

namespace Rf
open PySem PySem.Spec PyProof.Rows L2
def d_is_integer : He.DefD := ⟨("is_integer", none), "is_integer", "is_integer", defArgs (top 19), defBody (top 19), defScope (top 19), [], []⟩
def d_is_within : He.DefD := ⟨("is_within", none), "is_within", "is_within", defArgs (top 20), defBody (top 20), defScope (top 20), [], []⟩
def d_is_letter : He.DefD := ⟨("is_letter", none), "is_letter", "is_letter", defArgs (top 21), defBody (top 21), defScope (top 21), [], []⟩
def d_is_listed : He.DefD := ⟨("is_listed", none), "is_listed", "is_listed", defArgs (top 22), defBody (top 22), defScope (top 22), [], []⟩
def d_are_integers : He.DefD := ⟨("are_integers", none), "are_integers", "are_integers", defArgs (top 23), defBody (top 23), defScope (top 23), [], []⟩
def d_are_letters : He.DefD := ⟨("are_letters", none), "are_letters", "are_letters", defArgs (top 24), defBody (top 24), defScope (top 24), [], []⟩
def d_need_number : He.DefD := ⟨("need_number", none), "need_number", "need_number", defArgs (top 25), defBody (top 25), defScope (top 25), [], []⟩
def d_measure_of : He.DefD := ⟨("measure_of", none), "measure_of", "measure_of", defArgs (top 26), defBody (top 26), defScope (top 26), [], []⟩
def d_lowest : He.DefD := ⟨("lowest", none), "lowest", "lowest", defArgs (top 27), defBody (top 27), defScope (top 27), [], []⟩
def d_text_of_letter : He.DefD := ⟨("text_of_letter", none), "text_of_letter", "text_of_letter", defArgs (top 30), defBody (top 30), defScope (top 30), [], []⟩
def d_rounded_of : He.DefD := ⟨("rounded_of", none), "rounded_of", "rounded_of", defArgs (top 37), defBody (top 37), defScope (top 37), [], []⟩
def d_are_short : He.DefD := ⟨("are_short", none), "are_short", "are_short", defArgs (top 38), defBody (top 38), defScope (top 38), [], []⟩
def d_need_few_words : He.DefD := ⟨("need_few_words", none), "need_few", "need_few", defArgs (top 39), defBody (top 39), defScope (top 39), [], []⟩
def d_need_few_sewings : He.DefD := ⟨("need_few_sewings", none), "need_few", "need_few", defArgs (top 55), defBody (top 55), defScope (top 55), [], []⟩
def d_need_rims : He.DefD := ⟨("need_rims", none), "need_rims", "need_rims", defArgs (top 46), defBody (top 46), defScope (top 46), [], []⟩
def d_need_place : He.DefD := ⟨("need_place", none), "need_place", "need_place", defArgs (top 47), defBody (top 47), defScope (top 47), [], []⟩
def d_odd_kind : He.DefD := ⟨("odd_kind", none), "odd_kind", "odd_kind", defArgs (top 48), defBody (top 48), defScope (top 48), [], []⟩
def d_nexts_of : He.DefD := ⟨("nexts_of", none), "nexts_of", "nexts_of", defArgs (top 49), defBody (top 49), defScope (top 49), [], []⟩
def d_numbers_of : He.DefD := ⟨("numbers_of", none), "numbers_of", "numbers_of", defArgs (top 50), defBody (top 50), defScope (top 50), [], []⟩
def d_kinds_of : He.DefD := ⟨("kinds_of", none), "kinds_of", "kinds_of", defArgs (top 57), defBody (top 57), defScope (top 57), [], []⟩
def d_many_of : He.DefD := ⟨("many_of", none), "many_of", "many_of", defArgs (top 58), defBody (top 58), defScope (top 58), [], []⟩
def d_sewn : He.DefD := ⟨("sewn", none), "sewn", "sewn", defArgs (top 59), defBody (top 59), defScope (top 59), [], []⟩
def d_all_mates : He.DefD := ⟨("all_mates", none), "all_mates", "all_mates", defArgs (top 60), defBody (top 60), defScope (top 60), [], []⟩
def d_corners_of : He.DefD := ⟨("corners_of", none), "corners_of", "corners_of", defArgs (top 61), defBody (top 61), defScope (top 61), [], []⟩
def d_pieces_of : He.DefD := ⟨("pieces_of", none), "pieces_of", "pieces_of", defArgs (top 62), defBody (top 62), defScope (top 62), [], []⟩
def d_are_mates : He.DefD := ⟨("are_mates", none), "are_mates", "are_mates", defArgs (top 63), defBody (top 63), defScope (top 63), [], []⟩
def d_all_sewings : He.DefD := ⟨("all_sewings", none), "all_sewings", "all_sewings", defArgs (top 65), defBody (top 65), defScope (top 65), [], []⟩
def d_ahead_of : He.DefD := ⟨("ahead_of", none), "ahead_of", "ahead_of", defArgs (top 67), defBody (top 67), defScope (top 67), [], []⟩
def d_steps_in : He.DefD := ⟨("steps_in", none), "steps_in", "steps_in", defArgs (top 68), defBody (top 68), defScope (top 68), [], []⟩
def d_least_form : He.DefD := ⟨("least_form", none), "least_form", "least_form", defArgs (top 69), defBody (top 69), defScope (top 69), [], []⟩
def d_is_walk : He.DefD := ⟨("is_walk", none), "is_walk", "is_walk", defArgs (top 70), defBody (top 70), defScope (top 70), [], []⟩
def d_are_counted : He.DefD := ⟨("are_counted", none), "are_counted", "are_counted", defArgs (top 71), defBody (top 71), defScope (top 71), [], []⟩
def d_steps_by : He.DefD := ⟨("steps_by", none), "steps_by", "steps_by", defArgs (top 72), defBody (top 72), defScope (top 72), [], []⟩
def d_steps_from : He.DefD := ⟨("steps_from", none), "steps_from", "steps_from", defArgs (top 73), defBody (top 73), defScope (top 73), [], []⟩
def d_are_even : He.DefD := ⟨("are_even", none), "are_even", "are_even", defArgs (top 74), defBody (top 74), defScope (top 74), [], []⟩
def d_gathered : He.DefD := ⟨("gathered", none), "gathered", "gathered", defArgs (top 75), defBody (top 75), defScope (top 75), [], []⟩
def d_need_bag : He.DefD := ⟨("need_bag", none), "need_bag", "need_bag", defArgs (top 78), defBody (top 78), defScope (top 78), [], []⟩
def d_fixed : He.DefD := ⟨("fixed", none), "fixed", "fixed", defArgs (top 80), defBody (top 80), defScope (top 80), [], []⟩
def d_first_places : He.DefD := ⟨("first_places", none), "first_places", "first_places", defArgs (top 84), defBody (top 84), defScope (top 84), [], []⟩
def d_are_words : He.DefD := ⟨("are_words", none), "are_words", "are_words", defArgs (top 85), defBody (top 85), defScope (top 85), [], []⟩
def d_rounds_in : He.DefD := ⟨("rounds_in", none), "rounds_in", "rounds_in", defArgs (top 86), defBody (top 86), defScope (top 86), [], []⟩
def d_are_rounds : He.DefD := ⟨("are_rounds", none), "are_rounds", "are_rounds", defArgs (top 87), defBody (top 87), defScope (top 87), [], []⟩
def d_folds_of : He.DefD := ⟨("folds_of", none), "folds_of", "folds_of", defArgs (top 88), defBody (top 88), defScope (top 88), [], []⟩
def d_folded_bag : He.DefD := ⟨("folded_bag", none), "folded_bag", "folded_bag", defArgs (top 89), defBody (top 89), defScope (top 89), [], []⟩
def d_bag_of_rounds : He.DefD := ⟨("bag_of_rounds", none), "bag_of_rounds", "bag_of_rounds", defArgs (top 90), defBody (top 90), defScope (top 90), [], []⟩
def d_shows_built : He.DefD := ⟨("shows_built", none), "shows_built", "shows_built", defArgs (top 92), defBody (top 92), defScope (top 92), [], []⟩
def d__law_jar : He.DefD := ⟨("_law_jar", none), "_law_jar", "_law_jar", defArgs (top 94), defBody (top 94), defScope (top 94), [], []⟩
def d__law_dip : He.DefD := ⟨("_law_dip", none), "_law_dip", "_law_dip", defArgs (top 95), defBody (top 95), defScope (top 95), [], []⟩
def d__law_pick : He.DefD := ⟨("_law_pick", none), "_law_pick", "_law_pick", defArgs (top 96), defBody (top 96), defScope (top 96), [], []⟩
def d__law_mixed : He.DefD := ⟨("_law_mixed", none), "_law_mixed", "_law_mixed", defArgs (top 97), defBody (top 97), defScope (top 97), [], []⟩
def d__law_letters : He.DefD := ⟨("_law_letters", none), "_law_letters", "_law_letters", defArgs (top 99), defBody (top 99), defScope (top 99), [], []⟩
def d__law_nexts : He.DefD := ⟨("_law_nexts", none), "_law_nexts", "_law_nexts", defArgs (top 100), defBody (top 100), defScope (top 100), [], []⟩
def d__law_made : He.DefD := ⟨("_law_made", none), "_law_made", "_law_made", defArgs (top 101), defBody (top 101), defScope (top 101), [], []⟩
def d__law_corners : He.DefD := ⟨("_law_corners", none), "_law_corners", "_law_corners", defArgs (top 102), defBody (top 102), defScope (top 102), [], []⟩
def d__law_folded : He.DefD := ⟨("_law_folded", none), "_law_folded", "_law_folded", defArgs (top 103), defBody (top 103), defScope (top 103), [], []⟩
def d__law_parted : He.DefD := ⟨("_law_parted", none), "_law_parted", "_law_parted", defArgs (top 104), defBody (top 104), defScope (top 104), [], []⟩
def d__law_case : He.DefD := ⟨("_law_case", none), "_law_case", "_law_case", defArgs (top 105), defBody (top 105), defScope (top 105), [], []⟩
def d__law_sewing_right : He.DefD := ⟨("_law_sewing_right", none), "_law_sewing_right", "_law_sewing_right", defArgs (top 106), defBody (top 106), defScope (top 106), [], []⟩
def d__law_heard : He.DefD := ⟨("_law_heard", none), "_law_heard", "_law_heard", defArgs (top 107), defBody (top 107), defScope (top 107), [], []⟩
def d__law_refused_right : He.DefD := ⟨("_law_refused_right", none), "_law_refused_right", "_law_refused_right", defArgs (top 108), defBody (top 108), defScope (top 108), [], []⟩
def d_law : He.DefD := ⟨("law", none), "law", "law", defArgs (top 109), defBody (top 109), defScope (top 109), [], []⟩
def d_Word_init : He.DefD := ⟨("Word", some "__init__"), "__init__", "Word.__init__", defArgs (inClass (top 41) 0), defBody (inClass (top 41) 0), defScope (inClass (top 41) 0), [], []⟩
def d_Word_len : He.DefD := ⟨("Word", some "__len__"), "__len__", "Word.__len__", defArgs (inClass (top 41) 10), defBody (inClass (top 41) 10), defScope (inClass (top 41) 10), [], []⟩
def d_Word_eq : He.DefD := ⟨("Word", some "__eq__"), "__eq__", "Word.__eq__", defArgs (inClass (top 41) 11), defBody (inClass (top 41) 11), defScope (inClass (top 41) 11), [], []⟩
def d_Word_str : He.DefD := ⟨("Word", some "__str__"), "__str__", "Word.__str__", defArgs (inClass (top 41) 12), defBody (inClass (top 41) 12), defScope (inClass (top 41) 12), [], []⟩
def d_Rims_init : He.DefD := ⟨("Rims", some "__init__"), "__init__", "Rims.__init__", defArgs (inClass (top 52) 0), defBody (inClass (top 52) 0), defScope (inClass (top 52) 0), [], []⟩
def d_Rims_next : He.DefD := ⟨("Rims", some "next"), "next", "Rims.next", defArgs (inClass (top 52) 2), defBody (inClass (top 52) 2), defScope (inClass (top 52) 2), [], []⟩
def d_Rims_eq : He.DefD := ⟨("Rims", some "__eq__"), "__eq__", "Rims.__eq__", defArgs (inClass (top 52) 4), defBody (inClass (top 52) 4), defScope (inClass (top 52) 4), [], []⟩
def d_Rims_str : He.DefD := ⟨("Rims", some "__str__"), "__str__", "Rims.__str__", defArgs (inClass (top 52) 5), defBody (inClass (top 52) 5), defScope (inClass (top 52) 5), [], []⟩
def d_Sewing_init : He.DefD := ⟨("Sewing", some "__init__"), "__init__", "Sewing.__init__", defArgs (inClass (top 64) 0), defBody (inClass (top 64) 0), defScope (inClass (top 64) 0), [], []⟩
def d_Sewing_eq : He.DefD := ⟨("Sewing", some "__eq__"), "__eq__", "Sewing.__eq__", defArgs (inClass (top 64) 1), defBody (inClass (top 64) 1), defScope (inClass (top 64) 1), [], []⟩
def d_Bag_init : He.DefD := ⟨("Bag", some "__init__"), "__init__", "Bag.__init__", defArgs (inClass (top 76) 0), defBody (inClass (top 76) 0), defScope (inClass (top 76) 0), [], []⟩
def d_Bag_eq : He.DefD := ⟨("Bag", some "__eq__"), "__eq__", "Bag.__eq__", defArgs (inClass (top 76) 1), defBody (inClass (top 76) 1), defScope (inClass (top 76) 1), [], []⟩
def d_Paper_init : He.DefD := ⟨("Paper", some "__init__"), "__init__", "Paper.__init__", defArgs (inClass (top 81) 0), defBody (inClass (top 81) 0), defScope (inClass (top 81) 0), [], []⟩
def d_BadRims_init : He.DefD := ⟨("BadRims", some "__init__"), "__init__", "BadRims.__init__", defArgs (inClass (top 6) 0), defBody (inClass (top 6) 0), defScope (inClass (top 6) 0), [], []⟩
def d_BadSewing_init : He.DefD := ⟨("BadSewing", some "__init__"), "__init__", "BadSewing.__init__", defArgs (inClass (top 7) 0), defBody (inClass (top 7) 0), defScope (inClass (top 7) 0), [], []⟩
def d_BadNumber_init : He.DefD := ⟨("BadNumber", some "__init__"), "__init__", "BadNumber.__init__", defArgs (inClass (top 9) 0), defBody (inClass (top 9) 0), defScope (inClass (top 9) 0), [], []⟩
def d_Misfit_init : He.DefD := ⟨("Misfit", some "__init__"), "__init__", "Misfit.__init__", defArgs (inClass (top 10) 0), defBody (inClass (top 10) 0), defScope (inClass (top 10) 0), [], []⟩
def fn_0 : List He.DefD := [d_is_integer, d_is_within, d_is_letter, d_is_listed, d_are_integers, d_are_letters, d_need_number, d_measure_of, d_lowest, d_text_of_letter, d_rounded_of, d_are_short, d_need_few_words, d_need_few_sewings, d_need_rims, d_need_place, d_odd_kind, d_nexts_of, d_numbers_of, d_kinds_of, d_many_of, d_sewn, d_all_mates, d_corners_of, d_pieces_of, d_are_mates, d_all_sewings, d_ahead_of, d_steps_in, d_least_form]
def fn_1 : List He.DefD := [d_is_walk, d_are_counted, d_steps_by, d_steps_from, d_are_even, d_gathered, d_need_bag, d_fixed, d_first_places, d_are_words, d_rounds_in, d_are_rounds, d_folds_of, d_folded_bag, d_bag_of_rounds, d_shows_built, d__law_jar, d__law_dip, d__law_pick, d__law_mixed, d__law_letters, d__law_nexts, d__law_made, d__law_corners, d__law_folded, d__law_parted, d__law_case, d__law_sewing_right, d__law_heard, d__law_refused_right]
def fn_2 : List He.DefD := [d_law, d_Word_init, d_Word_len, d_Word_eq, d_Word_str, d_Rims_init, d_Rims_next, d_Rims_eq, d_Rims_str, d_Sewing_init, d_Sewing_eq, d_Bag_init, d_Bag_eq, d_Paper_init, d_BadRims_init, d_BadSewing_init, d_BadNumber_init, d_Misfit_init]
def fn : List He.DefD := fn_0 ++ fn_1 ++ fn_2
def fa_0 : List He.Fa := [.glo "is_integer", .glo "is_within", .glo "is_letter", .glo "is_listed", .glo "are_integers", .glo "are_letters", .glo "need_number", .glo "measure_of", .glo "lowest", .glo "text_of_letter", .glo "rounded_of", .glo "are_short", .glo "need_few_words", .glo "need_few_sewings", .glo "need_rims", .glo "need_place", .glo "odd_kind", .glo "nexts_of", .glo "numbers_of", .glo "kinds_of", .glo "many_of", .glo "sewn", .glo "all_mates", .glo "corners_of", .glo "pieces_of", .glo "are_mates", .glo "all_sewings", .glo "ahead_of", .glo "steps_in", .glo "least_form"]
def fa_1 : List He.Fa := [.glo "is_walk", .glo "are_counted", .glo "steps_by", .glo "steps_from", .glo "are_even", .glo "gathered", .glo "need_bag", .glo "fixed", .glo "first_places", .glo "are_words", .glo "rounds_in", .glo "are_rounds", .glo "folds_of", .glo "folded_bag", .glo "bag_of_rounds", .glo "shows_built", .glo "_law_jar", .glo "_law_dip", .glo "_law_pick", .glo "_law_mixed", .glo "_law_letters", .glo "_law_nexts", .glo "_law_made", .glo "_law_corners", .glo "_law_folded", .glo "_law_parted", .glo "_law_case", .glo "_law_sewing_right", .glo "_law_heard", .glo "_law_refused_right"]
def fa_2 : List He.Fa := [.glo "law", .glo "Word", .glo "Rims", .glo "Sewing", .glo "Bag", .glo "Paper", .glo "Built", .glo "HandleError", .glo "BadWord", .glo "BadRims", .glo "BadSewing", .glo "BadBag", .glo "BadNumber", .glo "Misfit", .glo "TooMany", .glo "Unbalanced", .glo "NoPlace", .free "isinstance", .free "int", .free "bool", .free "list", .free "tuple", .free "all", .free "len", .free "abs", .free "sorted", .free "range", .free "zip", .free "enumerate", .free "min"]
def fa_3 : List He.Fa := [.free "sum", .free "str", .free "set", .free "super", .int "LAST_KIND" 26, .str "SMALL" "abcdefghijklmnopqrstuvwxyz", .int "MOST_LETTERS_words" 500, .int "MOST_WORDS" 4, .int "MOST_LETTERS_rims" 24, .int "MOST_SEWINGS" 720]
def fa : List He.Fa := fa_0 ++ fa_1 ++ fa_2 ++ fa_3
def names_0 : List PySem.Str := ["_wall", "HandleError", "BadWord", "BadRims", "BadSewing", "BadBag", "BadNumber", "Misfit", "Missing", "NoPlace", "Unbalanced", "TooMany", "BadText", "LAST_KIND", "SMALL", "is_integer", "is_within", "is_letter", "is_listed", "are_integers", "are_letters", "need_number", "measure_of", "lowest", "letter_in", "text_of_letter", "Scan", "MOST_LETTERS_words", "EMPTY", "contrary_of"]
def names_1 : List PySem.Str := ["shortened_of", "rounded_of", "are_short", "need_few", "need_few_words", "Word", "MOST_WORDS", "MOST_LETTERS_rims", "BAR", "need_rims", "need_place", "odd_kind", "nexts_of", "numbers_of", "take_words", "Rims", "MOST_SEWINGS", "need_few_sewings", "kinds_of", "many_of", "sewn", "all_mates", "corners_of", "pieces_of", "are_mates", "Sewing", "all_sewings", "ahead_of", "steps_in", "least_form"]
def names_2 : List PySem.Str := ["is_walk", "are_counted", "steps_by", "steps_from", "are_even", "gathered", "Bag", "need_bag", "fixed", "Paper", "Built", "first_places", "are_words", "rounds_in", "are_rounds", "folds_of", "folded_bag", "bag_of_rounds", "shows_built", "_law_jar", "_law_dip", "_law_pick", "_law_mixed", "_law_rims", "_law_letters", "_law_nexts", "_law_made", "_law_corners", "_law_folded", "_law_parted"]
def names_3 : List PySem.Str := ["_law_case", "_law_sewing_right", "_law_heard", "_law_refused_right"]
def names : List PySem.Str := names_0 ++ names_1 ++ names_2 ++ names_3
abbrev R : PySem.W.OpenRow := PySem.W.OpenLaw.row PySem.Challenge.rw_handlerims_k60_whole_rounds_folded
def tf : List He.Defn := [("_law_refused_right", none)]
/-! ### the addresses that are looked at: the globals, what they name, the classes' own names, codes, closures -/
def refOf (v : Value) : List Addr := match v with
  | .ref a => [a]
  | _ => []
def namedIn (g : Addr → Option Obj) (a : Addr) : List Addr := match g a with
  | some o => (match o.data with
    | .dict es _ => es.toList.flatMap fun e => refOf e.val
    | _ => [])
  | none => []
def withCode (g : Addr → Option Obj) (a : Addr) : List Addr := match g a with
  | some o => (match o.data with
    | .func fd => a :: (refOf fd.code ++ fd.closure.map (·.2))
    | _ => [])
  | none => []
def named (g : Addr → Option Obj) (a : Addr) : List Addr := match g a with
  | some o => (match o.data with
    | .func _ => withCode g a
    | .cls cd => a :: cd.ns :: (namedIn g cd.ns).flatMap (withCode g)
    | _ => [])
  | none => []
def addrsM (g : Addr → Option Obj) : List Addr := mainGlobals :: cStatics :: (namedIn g mainGlobals).flatMap (named g)
abbrev frM (g : Addr → Option Obj) : PySem.W.Frag := He.frT g (addrsM g)
/-! ### more of what is told -/
abbrev gaB (K : PySem.W.Frag) (x : Str) : Value := .ref (He.ga K x)
def findB (K : PySem.W.Frag) (c : Value) (m : Str) (v : Option Value) : Bool := He.eqO (PySem.W.findIn K c m) (some v)
def clsTB (K : PySem.W.Frag) (x : Str) : Bool := (He.Fa.cls x).ok K && (findB K (gaB K x) "__class__" (some (.builtin "object.__class__")) && (He.eqO (PySem.W.specialIn K (.builtin "object.__class__") "__get__") (some (some (.builtin "getset_descriptor.__get__"))) && (decide (PySem.W.takesIn K (.builtin "object.__class__") = some true) && decide (PySem.W.mroIn K (He.ga K x) (.type "object") = some true))))
def klsB (K : PySem.W.Frag) (p : Str × List Str) : Bool := clsTB K p.1 && ((p.2.all fun f => findB K (gaB K p.1) f none) && decide (PySem.W.kitOne K (gaB K p.1) (gaB K p.1) = some true))
def oexB (K : PySem.W.Frag) (C : Addr) : Bool := match K.lookup C with
  | some ⟨.type t, _, .cls cd, sl⟩ => (match sl.toList with
    | [_, _, _, _, some (.builtin nw), _] => decide (t = "type") && (decide (nw = "ValueError.__new__") && (!cd.hasDel && (cd.hasDict && (match cd.mro with
      | .ref c :: more => decide (c = C) && PySem.HandSPX.refsVE more
      | _ => false))))
    | _ => false)
  | _ => false
def excTB (K : PySem.W.Frag) (x : Str) : Bool := findB K (gaB K x) "__setattr__" (some (.builtin "object.__setattr__")) && (decide (PySem.W.typeIn K (gaB K x) = some (.type "type")) && (PySem.W.keepIn K (gaB K x) && (findB K (gaB K x) "__class__" (some (.builtin "object.__class__")) && (decide (PySem.W.mroIn K (He.ga K x) (.type "object") = some true) && (findB K (gaB K x) "part" none && (xfB K (He.ga K x) && oexB K (He.ga K x)))))))
def initB (K : PySem.W.Frag) (x : Str) : Bool := findB K (gaB K x) "__init__" (some (.ref (He.fAd K (x, some "__init__")))) && decide (PySem.W.typeIn K (.ref (He.fAd K (x, some "__init__"))) = some (.type "function"))
abbrev four : List Str := ["BadSewing", "BadRims", "BadNumber", "Misfit"]
def kindsB (K : PySem.W.Frag) (x : Str) : Bool := (He.Fa.exm x "HandleError" true).ok K && four.all fun y => decide (PySem.W.kitOne K (gaB K x) (gaB K y) = some (decide (x = y)))
def errB (K : PySem.W.Frag) (x : Str) : Bool := excTB K x && (initB K x && kindsB K x)
def notB (K : PySem.W.Frag) (p : Value × Value) : Bool := decide (PySem.W.kitOne K p.1 p.2 = some false)
def nots (K : PySem.W.Frag) : List (Value × Value) := [(.type "NoneType", gaB K "Sewing"), (.type "int", gaB K "Sewing"), (gaB K "Rims", gaB K "Sewing"), (.type "list", gaB K "Sewing"), (.type "bool", gaB K "Sewing"), (.type "str", gaB K "Sewing"), (.type "NoneType", gaB K "Rims"), (.type "list", gaB K "Rims"), (.type "str", gaB K "Rims"), (gaB K "Sewing", gaB K "Rims"),
  (.type "NoneType", .type "list"), (.type "NoneType", .type "tuple"), (.type "int", .type "list"), (.type "int", .type "tuple"), (.type "str", .type "list"), (.type "str", .type "tuple"), (.type "dict", .type "list"), (.type "dict", .type "tuple"), (.type "NoneType", gaB K "Bag"), (gaB K "Sewing", .type "list"), (gaB K "Sewing", .type "tuple")]
abbrev bP : He.Defn := ("Built", some "__init__")
def bFd (K : PySem.W.Frag) : Option FuncData := match K.lookup (He.fAd K bP) with
  | some ⟨_, _, .func fd, _⟩ => some fd
  | _ => none
def bCell (K : PySem.W.Frag) : Addr := match bFd K with
  | some fd => (match fd.closure with
    | [q] => q.2
    | _ => 0)
  | none => 0
def builtB (K : PySem.W.Frag) : Bool := (match bFd K with
    | some fd => (match fd.closure with
      | [q] => decide (q.1 = ("__class__" : Str))
      | _ => false) && (fd.defaults == .none && (match fd.code with
        | .ref _ => PySem.W.codeIn K fd.code "Built.__init__"
        | _ => false))
    | none => false) && ((match K.lookup (He.codeOf K bP) with
    | some ⟨_, _, .fields vs, _⟩ => (match (vs[2]? : Option Value) with
      | some (.str file _) => (R.prog.main.file : Str) == file
      | _ => false)
    | _ => false) && ((match K.lookup (bCell K) with
    | some ⟨_, _, .cell (some (.ref c)), _⟩ => decide (c = He.ga K "Built")
    | _ => false) && ((PySem.W.clsIn K (He.ga K "Built")).isSome && (decide (PySem.W.mroIn K (He.ga K "Built") (gaB K "Built") = some true) && (He.eqO (PySem.W.nsIn K cStatics "thirdparty.any") (some none) && (He.eqO (PySem.W.ks_superIn K (He.ga K "Built") (He.ga K "Built") "__init__") (some (some (.ref (He.fAd K ("Paper", some "__init__"))))) &&
    (decide (PySem.W.typeIn K (.ref (He.fAd K ("Paper", some "__init__"))) = some (.type "function")) && PySem.W.fnIn K (He.fAd K ("Paper", some "__init__")))))))))
def bW (K : PySem.W.Frag) : Option (Str × Str × Arguments × FuncBody × Scope × Addr × Addr) := (bFd K).map fun fd => (fd.name, fd.qualname, fd.params, fd.body, fd.scope, fd.globals, fd.builtins)
def bWv : Option (Str × Str × Arguments × FuncBody × Scope × Addr × Addr) := some ("__init__", "Built.__init__", defArgs (inClass (top 83) 0), .stmts (defBody (inClass (top 83) 0)), defScope (inClass (top 83) 0), mainGlobals, builtinsNs)
def klss : List (Str × List Str) := [("Word", ["letters", "length", "kinds", "is_short", "is_short_round"]), ("Rims", ["words", "letters", "many", "bands", "is_short", "nexts", "numbers"]), ("Sewing", ["rims", "mates", "corners", "cost", "pieces", "handles"]), ("Bag", ["rims", "walks", "many", "copies", "bands", "cost", "price"]), ("Built", ["word", "parts", "sewing", "words"])]
def meths : List (Str × Str) := [("Word", "__len__"), ("Word", "__eq__"), ("Word", "__str__"), ("Rims", "next"), ("Rims", "__eq__"), ("Rims", "__str__"), ("Bag", "__eq__")]
def exM (K : PySem.W.Frag) : Bool := He.eqO (PySem.W.nsIn K mainGlobals "permutations") (some (some (.type "itertools.permutations"))) && (He.eqO (PySem.W.nsIn K mainGlobals "factorial") (some (some (.builtin "math.factorial"))) && (klss.all (klsB K) && (["Word", "Rims", "Sewing", "Bag", "Built"].all (fun x => (He.Fa.mkr x).ok K) && (meths.all (fun p => (He.Fa.meth p.1 p.2).ok K) && (findB K (gaB K "Bag") "__ne__" (some (.builtin "object.__ne__")) && (decide (PySem.W.subIn K (gaB K "Bag") (.type "NoneType") = some false) && ((nots K).all (notB K) && (four.all (errB K) && builtB K))))))))
end Rf

namespace Rf
open PySem PySem.Spec PyProof.Rows L2
/-! ### the head -/
abbrev AlM : Type := He.AlX × Option (Str × Str × Arguments × FuncBody × Scope × Addr × Addr)
def obsM (g : Addr → Option Obj) : AlM := ((He.obsT fa fn [] (frM g), exM (frM g) && He.tabsB g tf (frM g)), bW (frM g))
def valM (w : World) : AlM := ((He.valT fn [] w, true), bWv)
structure SaysM (w : World) (h : Heap) (K : PySem.W.Frag) : Prop where
  x : He.SaysX fa fn [] tf exM w h K
  b : bW K = bWv
theorem saysM_of {w : World} {h : Heap} (e : obsM h.get? = valM w) : SaysM w h (frM h.get?) := by
  have e0 : ((He.obsT fa fn [] (frM h.get?), exM (frM h.get?) && He.tabsB h.get? tf (frM h.get?)) : He.AlX) = (He.valT fn [] w, true) := congrArg (fun z : AlM => z.1) e
  have e1 : He.obsT fa fn [] (frM h.get?) = He.valT fn [] w := congrArg (fun z : He.AlX => z.1) e0
  obtain ⟨h1, h2⟩ := He.ba (show (exM (frM h.get?) && He.tabsB h.get? tf (frM h.get?)) = true from congrArg (fun z : He.AlX => z.2) e0)
  have at_ : ∀ p ∈ tf, PySem.W.codeHdIn (frM h.get?) (He.cT (frM h.get?) p).1 (He.cT (frM h.get?) p).2 = true ∧ ∃ o, h.get? (He.cT (frM h.get?) p).2 = some o ∧ He.emptyTab o = true := fun p hp => by
    obtain ⟨c, t⟩ := He.ba (List.all_eq_true.mp h2 p hp)
    cases q : h.get? (He.cT (frM h.get?) p).2 with
    | none => rw [q] at t; cases t
    | some o => rw [q] at t; exact ⟨c, o, rfl, t⟩
  refine ⟨⟨e1, h1, fun p hp => (at_ p hp).1, fun p hp => ?_, fun p hp => ?_⟩, congrArg (fun z : AlM => z.2) e⟩
  · obtain ⟨_, o, q, t⟩ := at_ p hp
    exact He.frT_none q t
  · obtain ⟨_, o, q, t⟩ := at_ p hp
    rw [q, He.emptyTab_eq t]
def hookM : PySem.W.Hook where
  α := AlM
  obs := fun s => obsM s.heap.get?
  val := valM
  says := fun w h => ∃ K : PySem.W.Frag, K.In h ∧ SaysM w h K
  of := fun _ _ e => ⟨_, He.frT_in, saysM_of e⟩
  keeps := fun _ _ _ ⟨K, i, c⟩ k => ⟨K, PySem.W.Frag.In.keeps i k, ⟨⟨c.x.t, c.x.more, c.x.hd, c.x.out, fun p hp => k _ _ (c.x.empty p hp)⟩, c.b⟩⟩
def obM (s : PySem.W.SharedT) : AlM := obsM (HandSHeadRun.getT s)
theorem obM_eq (s : PySem.W.SharedT) : obM s = hookM.obs s.abs := by
  have e : HandSHeadRun.getT s = s.abs.heap.get? := funext (HandSHeadRun.getT_eq s)
  show obsM (HandSHeadRun.getT s) = obsM s.abs.heap.get?
  rw [e]
abbrev theV : Program := PySem.W.view R.prog [0, 1, 109]
theorem three {α β γ δ : Type} {o : Option α} {f : α → β} {g : α → γ} {k : α → δ} {a : β} {b : γ} {c : δ} (h1 : o.map f = some a) (h2 : o.map g = some b) (h3 : o.map k = some c) : o.map (fun x => (f x, g x, k x)) = some (a, b, c) := by
  cases o with
  | none => cases h1
  | some x => exact congrArg some (Prod.ext (Option.some.inj h1) (Prod.ext (Option.some.inj h2) (Option.some.inj h3)))
end Rf

namespace Rf
open PySem PySem.Spec PyProof.Rows L2
open PySem.W HandSHeadRun in
theorem runc (w : World) : (wholeF (fun p => stepQ (denQ tabQ) p w) fenceQ 12000 R.prog).map (fun x => obM x.2) = some (valM w) := by
  kernel_rfl
end Rf

namespace Rf
open PySem PySem.Spec PyProof.Rows L2
open PySem.W HandSHeadRun in
theorem runa (w : World) : (wholeF (fun p => stepQ (denQ tabQ) p w) fenceQ 12000 R.prog).map (fun x => looksF R.prog x.1.heap x.2.abs) = some (true) := by
  kernel_rfl
end Rf

namespace Rf
open PySem PySem.Spec PyProof.Rows L2
open PySem.W HandSHeadRun in
theorem runb (w : World) : (wholeF (fun p => stepQ (denQ tabQ) p w) fenceQ 12000 R.prog).map (fun x => seenQ theV names (importedModules R.prog.main.body) (fun s => xlAt theV [] s && recOk R.toRowW.records s) x.2.abs) = some (openGood theV names) := by
  kernel_rfl
end Rf

namespace Rf
open PySem PySem.Spec PyProof.Rows L2
/-! ### checks.py -/
abbrev rInts (ns : List Int) : Rp := rL (ns.map rInt)
abbrev rTI (ns : List Int) : Rp := rT (ns.map rInt)
def rOI : Option Int → Rp
  | none => rNon
  | some n => rInt n
theorem oi_non {o : Option Int} : NonR (rOI o) o.isNone := fun D v h => by
  cases o with
  | none => rw [show v = .non from h]; rfl
  | some n => rw [show v = .int n from h]; rfl
theorem comp_map {α β : Type} (h : α → β) : ∀ l : List α, compG (fun _ => some true) (fun x => some (h x)) l = some (l.map h)
  | [] => rfl
  | x :: l => by
    show (match compG (fun _ => some true) (fun x => some (h x)) l with | some ys => some (h x :: ys) | none => none) = _
    rw [comp_map h l]; rfl
theorem comp_all {α β : Type} {h : α → β} {l : List α} (hz : l.length ≤ 100000) : comp (fun _ => some true) (fun x => some (h x)) l = some (l.map h) := by
  unfold comp; rw [if_pos hz]; exact comp_map h l
section
variable {P : Program} {w : World} {K : PySem.W.Frag} {mg : Str → Option Value} {base : Heap} {f : Addr} {fd : FuncData}
/-- told to be no int (or an int) -/
def Inty (K : PySem.W.Frag) (r : Rp) (b : Bool) : Prop := relIsInt K [r] (rBl b)
theorem inty_of {r : Rp} {t : Value} {b1 b2 : Bool} (h : HasTy K r t) (h1 : PySem.W.kitOne K t (.type "int") = some b1) (h2 : PySem.W.kitOne K t (.type "bool") = some b2) : Inty K r (b1 && !b2) := ⟨r, t, b1, b2, rfl, h, h1, h2, rfl⟩
theorem inty_int {n : Int} : Inty K (rInt n) true := inty_of (b1 := true) (b2 := false) ty_int (kit_ty (by decide +kernel)) (kit_ty (by decide +kernel))
theorem inty_bl {n : Bool} : Inty K (rBl n) false := inty_of (b1 := true) (b2 := true) ty_bl (kit_ty (by decide +kernel)) (kit_ty (by decide +kernel))
theorem inty_non : Inty K rNon false := inty_of (b1 := false) (b2 := false) ty_non (kit_ty (by decide +kernel)) (kit_ty (by decide +kernel))
def withinB (n : Int) (lo hi : Option Int) : Bool := (lo.isNone || decide (lo.getD 0 ≤ n)) && (hi.isNone || decide (n ≤ hi.getD 0))
def relWithin (K : PySem.W.Frag) : Rel := fun A r => (∃ n lo hi, A = [rInt n, rOI lo, rOI hi] ∧ r = rBl (withinB n lo hi)) ∨ ∃ rx r1 r2, A = [rx, r1, r2] ∧ Inty K rx false ∧ r = rBl false
theorem sc_is_within : FnScope ["value", "least", "most"] ["value", "least", "most"] (defScope (top 20)) := ⟨rfl, rfl, rfl, by decide +kernel, rfl, by decide +kernel, by decide +kernel⟩
theorem c_is_within (T : Fre mg) (F : FnP K "is_within" (top 20) f fd) (gm : mg "is_within" = some (.ref f)) (C1 : DefC P w K mg base "is_integer" 1 (relIsInt K)) : DefC P w K mg base "is_within" 2 (relWithin K) := by
  refine ⟨f, fd, ["value", "least", "most"], def_g F sc_is_within (fun A r h => by rcases h with ⟨_, _, _, e, _⟩ | ⟨_, _, _, e, _⟩ <;> (rw [e]; rfl)) (by decide) (fun cdv A outer s H E hr As r h => ?_), gm, F.kp, F.bindsN fun _ _ _ _ _ _ us hl => match us, hl with | [_, _, _], _ => rfl⟩
  rcases h with ⟨n, lo, hi, rfl, rfl⟩ | ⟨rx, r1, r2, rfl, hx, rfl⟩
  · refine sg_ifF (k := false) (bg_not (k := true) (bg_val (eg_call C1 (ag_cons (eg_name 0) ag_nil) inty_int hr))) rfl ?_
    refine sg_ret ?_ rfl
    refine eg_and (k1 := lo.isNone || decide (lo.getD 0 ≤ n)) ?_ fun _ => eg_one ?_
    · refine eg_or (k1 := lo.isNone) (k2 := decide (lo.getD 0 ≤ n)) (eg_isN (eg_name 1) oi_non) fun q => eg_one ?_
      cases lo with
      | none => cases q
      | some l => exact eg_ge (eg_name 0) (eg_name 1)
    · refine eg_or (k1 := hi.isNone) (k2 := decide (n ≤ hi.getD 0)) (eg_isN (eg_name 2) oi_non) fun q => eg_one ?_
      cases hi with
      | none => cases q
      | some l => exact eg_le (eg_name 0) (eg_name 2)
  · exact sg_ifT (k := true) (bg_not (k := false) (bg_val (eg_call C1 (ag_cons (eg_name 0) ag_nil) hx hr))) rfl (sg_ret eg_bl rfl)
def isLetterB (n : Int) : Bool := withinB n (some (-26)) (some 26) && !decide (n = 0)
def relIsLetter : Rel := fun A r => ∃ n, A = [rInt n] ∧ r = rBl (isLetterB n)
theorem sc_is_letter : FnScope ["value"] ["value"] (defScope (top 21)) := ⟨rfl, rfl, rfl, by decide +kernel, rfl, by decide +kernel, by decide +kernel⟩
theorem c_is_letter (hK : ∃ t, mg "LAST_KIND" = some (.int 26 t)) (F : FnP K "is_letter" (top 21) f fd) (gm : mg "is_letter" = some (.ref f)) (C1 : DefC P w K mg base "is_within" 2 (relWithin K)) : DefC P w K mg base "is_letter" 3 relIsLetter := by
  refine ⟨f, fd, ["value"], def_g F sc_is_letter (fun A r ⟨_, e, _⟩ => by rw [e]; rfl) (by decide) (fun cdv A outer s H E hr As r h => ?_), gm, F.kp, F.bindsN fun _ _ _ _ _ _ us hl => match us, hl with | [_], _ => rfl⟩
  obtain ⟨n, rfl, rfl⟩ := h
  obtain ⟨t, hK⟩ := hK
  refine sg_ret (eg_and (eg_call C1 (ag_cons (eg_name 0) (ag_cons (eg_neg (eg_glob (v := .int 26) hK ⟨_, rfl⟩)) (ag_cons (eg_glob (v := .int 26) hK ⟨_, rfl⟩) ag_nil))) (.inl ⟨n, some (-26), some 26, rfl, rfl⟩) hr) fun _ => eg_one (eg_nei (eg_name 0) eg_int)) rfl
/-- list or tuple -/
def relListed (K : PySem.W.Frag) : Rel := fun A r => ∃ rx t b, A = [rx] ∧ HasTy K rx t ∧ PySem.W.kitAny K t [.type "list", .type "tuple"] = some b ∧ r = rBl b
theorem sc_is_listed : FnScope ["value"] ["value"] (defScope (top 22)) := ⟨rfl, rfl, rfl, by decide +kernel, rfl, by decide +kernel, by decide +kernel⟩
theorem c_is_listed (T : Fre mg) (F : FnP K "is_listed" (top 22) f fd) (gm : mg "is_listed" = some (.ref f)) : DefC P w K mg base "is_listed" 1 (relListed K) := by
  refine ⟨f, fd, ["value"], def_g F sc_is_listed (fun A r ⟨_, _, _, e, _⟩ => by rw [e]; rfl) (by decide) (fun cdv A outer s H E hr As r h => ?_), gm, F.kp, F.bindsN fun _ _ _ _ _ _ us hl => match us, hl with | [_], _ => rfl⟩
  obtain ⟨rx, t, b, rfl, ht, hk, rfl⟩ := h
  exact sg_ret (eg_isiLT T.isinstance (eg_name 0) (eg_tup (ag_cons (eg_ty T.list boot_list) (ag_cons (eg_ty T.tuple boot_tuple) ag_nil))) ht hk) rfl
theorem kitB_list (b : String) : True := trivial
theorem kit_any2 {t : Value} {a b : String} {x y : Bool} (h1 : PySem.W.kitOne K t (.type a) = some x) (h2 : PySem.W.kitOne K t (.type b) = some y) : PySem.W.kitAny K t [.type a, .type b] = some (x || y) := by
  refine kitAny_cons h1 (fun e => ?_) fun e => by rw [e]; rfl
  subst e
  refine kitAny_cons h2 (fun e => ?_) fun e => by rw [e]; rfl
  subst e
  exact kitAny_nil
theorem listed_L {rs : List Rp} : relListed K [rL rs] (rBl true) := ⟨_, _, _, rfl, ty_L, kit_any2 (x := true) (y := false) (kit_ty (by decide +kernel)) (kit_ty (by decide +kernel)), rfl⟩
theorem listed_T {rs : List Rp} : relListed K [rT rs] (rBl true) := ⟨_, _, _, rfl, ty_T, kit_any2 (x := false) (y := true) (kit_ty (by decide +kernel)) (kit_ty (by decide +kernel)), rfl⟩
/-- are_integers, are_letters: of lists and tuples of ints -/
def relInts : Rel := fun A r => ∃ ns : List Int, ns.length ≤ 1000 ∧ (A = [rInts ns] ∨ A = [rTI ns]) ∧ r = rBl true
def relLetters : Rel := fun A r => ∃ ns : List Int, ns.length ≤ 1000 ∧ (A = [rInts ns] ∨ A = [rTI ns]) ∧ r = rBl (ns.all isLetterB)
theorem sc_are_integers : FnScope ["value", "each"] ["value"] (defScope (top 23)) := ⟨rfl, rfl, rfl, by decide +kernel, rfl, by decide +kernel, by decide +kernel⟩
theorem all_true (ns : List Int) : ((ns.map fun _ => true).all id) = true := by simp
theorem c_are_integers (T : Fre mg) (F : FnP K "are_integers" (top 23) f fd) (gm : mg "are_integers" = some (.ref f)) (C1 : DefC P w K mg base "is_integer" 1 (relIsInt K)) (C2 : DefC P w K mg base "is_listed" 1 (relListed K)) : DefC P w K mg base "are_integers" 2 relInts := by
  refine ⟨f, fd, ["value"], def_g F sc_are_integers (fun A r ⟨_, _, e, _⟩ => by rcases e with e | e <;> (rw [e]; rfl)) (by decide) (fun cdv A outer s H E hr As r h => ?_), gm, F.kp, F.bindsN fun _ _ _ _ _ _ us hl => match us, hl with | [_], _ => rfl⟩
  obtain ⟨ns, hz, e, rfl⟩ := h
  rw [show true = (true && (ns.map fun _ => true).all id) by rw [all_true]; rfl]
  rcases e with rfl | rfl
  · exact sg_ret (eg_and (eg_call C2 (ag_cons (eg_name 0) ag_nil) listed_L hr) fun _ => eg_one (eg_all rfl T.all (eg_n (ng_lc (fb := rBl) [("each", 1)] (fun n => [.d (rInts ns), .d (rInt n)]) (fun _ => some true) (fun n => some true) rfl sc_are_integers.nd (ig_list (eg_name 0)) (comp_all (by omega)) (blkOk_by (N := ["value", "each"]) (sc := defScope (top 23)) (by decide +kernel))
      (fun x s H C cl fp => kg_name 1 sc_are_integers.nd) (fun x k s H C cl fp e => by cases e; exact ts_nil) (fun x y s H C cl fp _ e => by cases e; exact eg_call C1 (ag_cons (eg_name 1) ag_nil) inty_int hr))))) rfl
  · exact sg_ret (eg_and (eg_call C2 (ag_cons (eg_name 0) ag_nil) listed_T hr) fun _ => eg_one (eg_all rfl T.all (eg_n (ng_lc (fb := rBl) [("each", 1)] (fun n => [.d (rTI ns), .d (rInt n)]) (fun _ => some true) (fun n => some true) rfl sc_are_integers.nd (ig_tup (eg_name 0)) (comp_all (by omega)) (blkOk_by (N := ["value", "each"]) (sc := defScope (top 23)) (by decide +kernel))
      (fun x s H C cl fp => kg_name 1 sc_are_integers.nd) (fun x k s H C cl fp e => by cases e; exact ts_nil) (fun x y s H C cl fp _ e => by cases e; exact eg_call C1 (ag_cons (eg_name 1) ag_nil) inty_int hr))))) rfl
end
end Rf

namespace Rf
open PySem PySem.Spec PyProof.Rows L2
section
variable {P : Program} {w : World} {K : PySem.W.Frag} {mg : Str → Option Value} {base : Heap} {f : Addr} {fd : FuncData}

inductive relLet : Rel
  | l (ns : List Int) (hz : ns.length ≤ 1000) : relLet [rInts ns] (rBl (ns.all isLetterB))
  | t (ns : List Int) (hz : ns.length ≤ 1000) : relLet [rTI ns] (rBl (ns.all isLetterB))
theorem all_mapB {α : Type} (p : α → Bool) : ∀ l : List α, ((l.map p).all id) = l.all p
  | [] => rfl
  | x :: l => by rw [List.map_cons, List.all_cons, List.all_cons, all_mapB p l]; rfl

theorem sc_are_letters : FnScope ["value", "each"] ["value"] (defScope (top 24)) := ⟨rfl, rfl, rfl, by decide +kernel, rfl, by decide +kernel, by decide +kernel⟩
theorem c_are_letters (T : Fre mg) (C1 : DefC P w K mg base "is_letter" 3 relIsLetter) (C2 : DefC P w K mg base "is_listed" 1 (relListed K)) (F : FnP K "are_letters" (top 24) f fd) (gm : mg "are_letters" = some (.ref f)) : DefC P w K mg base "are_letters" 4 relLet := by
  refine ⟨f, fd, ["value"], def_g F sc_are_letters (fun A r h => by cases h <;> rfl) (by decide) (fun cdv A outer s H E hr As r h => ?_), gm, F.kp, F.bindsN fun _ _ _ _ _ _ us hl => match us, hl with | [_], _ => rfl⟩
  cases h with
  | l ns hz =>
    rw [show ns.all isLetterB = (true && (ns.map isLetterB).all id) by rw [all_mapB]; rfl]
    exact sg_ret (eg_and (eg_call C2 (ag_cons (eg_name 0) ag_nil) listed_L (hr.mono (by decide))) fun _ => eg_one (eg_all rfl T.all (eg_n (ng_lc (fb := rBl) [("each", 1)] (fun n => [.d (rInts ns), .d (rInt n)]) (fun _ => some true) (fun n => some (isLetterB n)) rfl sc_are_letters.nd (ig_list (eg_name 0)) (comp_all (by omega)) (blkOk_by (N := ["value", "each"]) (sc := defScope (top 24)) (by decide +kernel))
      (fun x s H C cl fp => kg_name 1 sc_are_letters.nd) (fun x k s H C cl fp e => by cases e; exact ts_nil) (fun x y s H C cl fp _ e => by cases e; exact eg_call C1 (ag_cons (eg_name 1) ag_nil) ⟨x, rfl, rfl⟩ hr))))) rfl
  | t ns hz =>
    rw [show ns.all isLetterB = (true && (ns.map isLetterB).all id) by rw [all_mapB]; rfl]
    exact sg_ret (eg_and (eg_call C2 (ag_cons (eg_name 0) ag_nil) listed_T (hr.mono (by decide))) fun _ => eg_one (eg_all rfl T.all (eg_n (ng_lc (fb := rBl) [("each", 1)] (fun n => [.d (rTI ns), .d (rInt n)]) (fun _ => some true) (fun n => some (isLetterB n)) rfl sc_are_letters.nd (ig_tup (eg_name 0)) (comp_all (by omega)) (blkOk_by (N := ["value", "each"]) (sc := defScope (top 24)) (by decide +kernel))
      (fun x s H C cl fp => kg_name 1 sc_are_letters.nd) (fun x k s H C cl fp e => by cases e; exact ts_nil) (fun x y s H C cl fp _ e => by cases e; exact eg_call C1 (ag_cons (eg_name 1) ag_nil) ⟨x, rfl, rfl⟩ hr))))) rfl

inductive relNeedN : Rel
  | mk (n : Int) (rp : Rp) : relNeedN [rInt n, rp, rNon, rNon] rNon

theorem sc_need_number : FnScope ["value", "part", "least", "most"] ["value", "part", "least", "most"] (defScope (top 25)) := ⟨rfl, rfl, rfl, by decide +kernel, rfl, by decide +kernel, by decide +kernel⟩
theorem c_need_number (C1 : DefC P w K mg base "is_within" 2 (relWithin K)) (F : FnP K "need_number" (top 25) f fd) (gm : mg "need_number" = some (.ref f)) : DefC P w K mg base "need_number" 3 relNeedN := by
  refine ⟨f, fd, ["value", "part", "least", "most"], def_g F sc_need_number (fun A r h => by cases h <;> rfl) (by decide) (fun cdv A outer s H E hr As r h => ?_), gm, F.kp, F.bindsN fun _ _ _ _ _ _ us hl => match us, hl with | [_, _, _, _], _ => rfl⟩
  cases h with
  | mk n rp =>
    exact sg_ifF (k := false) (bg_not (k := true) (bg_val (eg_call C1 (ag_cons (eg_name 0) (ag_cons (eg_name 2) (ag_cons (eg_name 3) ag_nil))) (.inl ⟨n, none, none, rfl, rfl⟩) hr))) rfl (sg_nil rfl)

def absI (i : Int) : Int := if i < 0 then -i else i
def gcdM (n : Nat) (a b : Int) : Option (Int × Int) := whileM (fun s : Int × Int => some (decide (0 < s.2))) (fun s => if 0 < s.2 then some (s.2, s.1 % s.2) else none) n (absI a, absI b)
inductive relMeas : Rel
  | mk (n : Nat) (a b : Int) (s : Int × Int) (h : gcdM n a b = some s) : relMeas [rInt a, rInt b] (rInt s.1)

theorem sc_measure_of : FnScope ["one", "other"] ["one", "other"] (defScope (top 26)) := ⟨rfl, rfl, rfl, by decide +kernel, rfl, by decide +kernel, by decide +kernel⟩
theorem c_measure_of (T : Fre mg) (F : FnP K "measure_of" (top 26) f fd) (gm : mg "measure_of" = some (.ref f)) : DefC P w K mg base "measure_of" 1 relMeas := by
  refine ⟨f, fd, ["one", "other"], def_g F sc_measure_of (fun A r h => by cases h <;> rfl) (by decide) (fun cdv A outer s H E hr As r h => ?_), gm, F.kp, F.bindsN fun _ _ _ _ _ _ us hl => match us, hl with | [_, _], _ => rfl⟩
  cases h with
  | mk n a b s h =>
    refine sg_par 0 1 (vg_d (eg_abs T.abs (eg_name 0))) (vg_d (eg_abs T.abs (eg_name 1))) rfl sc_measure_of.nd ?_
    refine sg_while (fun q : Int × Int => [.d (rInt q.1), .d (rInt q.2)]) (fun s : Int × Int => some (decide (0 < s.2))) (fun s => if 0 < s.2 then some (s.2, s.1 % s.2) else none) n h (Le.refl _) (fun q k e => by cases e; exact bg_gt (eg_name 1) eg_int) (fun q q' e e' => ?_) (sg_ret (eg_name 0) rfl)
    by_cases hq : 0 < q.2
    · rw [if_pos hq] at e'; cases e'
      exact sg_par 0 1 (vg_d (eg_name 1)) (vg_d (eg_mod hq (eg_name 0) (eg_name 1))) rfl sc_measure_of.nd (sg_nil (Le.refl _))
    · rw [if_neg hq] at e'; cases e'

inductive relLow : Rel
  | mk (n : Nat) (a b : Int) (s : Int × Int) (h : gcdM n a b = some s) (hb : 0 < b) (hs : 0 < s.1 ∧ s.1 < 1073741824) : relLow [rInt a, rInt b] rAny

theorem sc_lowest : FnScope ["top", "bottom", "measure"] ["top", "bottom"] (defScope (top 27)) := ⟨rfl, rfl, rfl, by decide +kernel, rfl, by decide +kernel, by decide +kernel⟩
theorem c_lowest (C1 : DefC P w K mg base "need_number" 3 relNeedN) (C2 : DefC P w K mg base "measure_of" 1 relMeas) (F : FnP K "lowest" (top 27) f fd) (gm : mg "lowest" = some (.ref f)) : DefC P w K mg base "lowest" 4 relLow := by
  refine ⟨f, fd, ["top", "bottom"], def_g F sc_lowest (fun A r h => by cases h <;> rfl) (by decide) (fun cdv A outer s H E hr As r h => ?_), gm, F.kp, F.bindsN fun _ _ _ _ _ _ us hl => match us, hl with | [_, _], _ => rfl⟩
  cases h with
  | mk n a b s h hb hs =>
    refine sg_expr (eg_call C1 (ag_cons (eg_name 0) (ag_cons eg_str (ag_cons eg_non (ag_cons eg_non ag_nil)))) (.mk _ _) hr) ?_
    refine sg_expr (eg_call C1 (ag_cons (eg_name 1) (ag_cons eg_str (ag_cons eg_non (ag_cons eg_non ag_nil)))) (.mk _ _) hr) ?_
    refine sg_ifF (k := decide (b = 0)) (bg_eqi (eg_name 1) eg_int) (decide_eq_false (by omega)) ?_
    refine sg_set 2 (eg_call C2 (ag_cons (eg_name 0) (ag_cons (eg_name 1) ag_nil)) (.mk n _ _ s h) (hr.mono (by decide))) sc_lowest.nd ?_
    refine sg_ifF (k := decide (b < 0)) (bg_lt (eg_name 1) eg_int) (decide_eq_false (by omega)) ?_
    exact sg_ret (eg_any (eg_tup (ag_cons (eg_fdiv (j := s.1) hs (eg_name 0) (eg_name 2)) (ag_cons (eg_fdiv (j := s.1) hs (eg_name 1) (eg_name 2)) ag_nil)))) rfl

end
end Rf

namespace Rf
open PySem PySem.Spec PyProof.Rows L2
open Sem (wp)

/-! ### {e for x in xs}, e an int -/
section
variable {X : Cx} {pins : List (Addr × Obj)} {σ : L2.St} {H : Hp} {s : Shared}
theorem addI_ok {E : Value → Shared → Prop} {A0 : Addr} {S : Int → Bool} {n : Nat} {y : Int} {t : Tok} {Q : Value → Shared → Prop} (I : Inv X pins σ H s) (hA : H A0 = some (SetO X.w A0 S n)) (room : n + 1 < scanBound)
    (k : ∀ z, Inv X pins σ (upd H A0 (SetO X.w A0 (fun j => S j || decide (j = y)) (if S y = true then n else n + 1))) z → Q .none z) : wpAny (model X.prog X.w) X.A (call (.builtin "set.add") [.ref A0, .int y t]) Q E s := by
  have R0 := setO_get I hA
  refine setR_add R0 room fun hp sb new => ?_
  have live : ∃ u, hp.get? A0 = some u := by obtain ⟨o, _, _, _, ho, _⟩ := new; exact ⟨o, ho⟩
  exact k _ (I.write (e := A0) (t' := s.toks + 1) (by rw [hA]; trivial) (.inl rfl) (fun b u nb hu => (sb.2 b nb).trans hu) live (setO_new new))
/-- A0 the new set -/
def tIsc (w : World) (wi : TI) (g : TG) (te : TE) (vs : List Nat) : TE := fun σ H Q => wi σ H fun J H1 => ∀ A0, H1 A0 = none → ∃ W : Nat → Nat → Hp → Prop, (∃ m, W 0 m (upd H1 A0 (SetO w A0 (fun _ => false) 0))) ∧ ∀ i m H, W i m H →
  (J.stop i H ∧ Q (.ref A0) H) ∨ (J.go i H ∧ ∃ Nx : Hp → Prop, (∀ H', Nx H' → ∃ m', m' < m ∧ W (i + 1) m' H') ∧ ∀ x H', J.yld i H x H' → g x (wipe σ vs) H' fun σ2 H2 => wipe σ2 vs = wipe σ vs ∧
    te σ2 H2 fun y H4 => ∃ (c : Int) (S : Int → Bool) (n : Nat), y = .int c ∧ H4 A0 = some (SetO w A0 S n) ∧ n + 1 < scanBound ∧ Nx (upd H4 A0 (SetO w A0 (fun j => S j || decide (j = c)) (if S c = true then n else n + 1))))
theorem isc_core {Q : VK} {elt tg iter : Expr} {scope : Scope} {own : List (PySem.Str × Nat)} {pos pos' : Pos} {wi : TI} {g : TG} {te : TE} {use : Option (Value → Sem Unit)} {Qf : Value → Shared → Prop}
    (calm : X.calm = true) (nd : X.N.Nodup) (I : Inv X pins σ H s) (hi : PI X tg iter wi) (ok : BlkOk X.N X.env.scope scope own)
    (hg : ∀ (s : Shared) (H : Hp) (C : Addr) (cl : List (PySem.Str × Addr)) (fp : List Addr), PG (Blk X s H scope C cl fp) tg g)
    (he : ∀ (s : Shared) (H : Hp) (C : Addr) (cl : List (PySem.Str × Addr)) (fp : List Addr), PE (Blk X s H scope C cl fp) elt te) (hs : ∀ x, foldedSetIterable iter X.env x = pure x)
    (h : tIsc X.w wi g te (own.map (·.2)) σ H Q)
    (last : ∀ A0 C z m H', Inv X pins σ H' z → Q (.ref A0) H' → z.heap.Ns C m → FpOk X pins H' C → compPost (model X.prog X.w) X.A X.xe use Qf (.ref A0) C (.ok .next) z) :
    wpAny (model X.prog X.w) X.A (comprehension (.SetComp elt [⟨tg, iter, [], 0⟩] scope pos) scope X.env pos' (newSet (.type "set")) false (eval iter X.env) use) Qf X.xe s := by
  have cells : ∀ y ∈ scope.names, y.2 = .free → ∃ c, X.env.cells.lookup y.1 = some c := fun y hy e => (ok.free y hy e).elim (fun k => I.ok.has _ (.inl k)) fun k => I.ok.has _ (.inr k)
  refine wpAny_comprehension_free (use := use) rfl hs (closure_ok cells) ok.kind (fun y hy e => by rw [ok.uniq y hy, e]) (thn (hi.run pins s σ H _ I h) fun _ _ hx => thn hx fun _ t2 h2 => ?_)
  obtain ⟨it, fp, tn, J, H2, e, I2, T, st2, f2, q⟩ := h2
  subst e
  refine PpSet.newSet_ok (newEnv_comp ?_)
  generalize eA : t2.heap.objs.size = A0
  have nA : H2 A0 = none := I2.hok.fresh (Nat.le_of_eq eA)
  obtain ⟨W, ⟨m0, w0⟩, turn⟩ := q A0 nA
  generalize e3 : ({ t2 with heap := t2.heap.push { cls := .type "set", dict := none, data := .set #[] 0 (.fresh 0 0 (!X.w.params.followText "set-order")) } } : Shared) = t3
  have hp3 : t3.heap = t2.heap.push { cls := .type "set", dict := none, data := .set #[] 0 (.fresh 0 0 (!X.w.params.followText "set-order")) } := by rw [← e3]
  have I3 : Inv X pins σ (upd H2 A0 (SetO X.w A0 (fun _ => false) 0)) t3 := by
    rw [← e3]
    refine I2.laid (t' := t2.toks) (fun b o e => Heap.get?_push_of_some _ e) (Nat.le_of_eq eA) ?_
    rw [← eA]
    exact setO_new (setR_fresh X.w)
  have low : ∀ b ∈ fp, b < t2.heap.objs.size := fun b hb => by obtain ⟨o, e, _⟩ := T.obj _ _ st2 b hb; exact Heap.lt_size e
  have f3 : ∀ b ∈ fp, FpOk X pins (upd H2 A0 (SetO X.w A0 (fun _ => false) 0)) b ∧ b < t3.heap.objs.size := fun b hb => by
    have lt := low b hb
    exact ⟨⟨by rw [upd_ne (by rw [← eA]; exact Nat.ne_of_lt lt)]; exact (f2 b hb).1, (f2 b hb).2⟩, by rw [hp3, Heap.size_push]; exact Nat.lt_succ_of_lt lt⟩
  have st3 : tn 0 t3.heap := T.keep _ _ _ st2 fun b _ o e => by rw [hp3]; exact Heap.get?_push_of_some _ e
  have I4 := block_start I3 ok nd f3
  have pg := hg t3 (upd H2 A0 (SetO X.w A0 (fun _ => false) 0)) t3.heap.objs.size (cellsFrom (t3.heap.objs.size + 1) scope.names (cloFrom X.env.cells scope.names [])) fp
  have pe := he t3 (upd H2 A0 (SetO X.w A0 (fun _ => false) 0)) t3.heap.objs.size (cellsFrom (t3.heap.objs.size + 1) scope.names (cloFrom X.env.cells scope.names [])) fp
  unfold Blk at pg pe
  show codeAny _ _ (.compStart (.SetComp elt [⟨tg, iter, [], 0⟩] scope pos) 0 (.ref it) (.ref A0) (compEnvC scope (cellsFrom (t3.heap.objs.size + 1) scope.names (cloFrom X.env.cells scope.names [])) t3.heap.objs.size X.env)) (compPost (model X.prog X.w) X.A X.xe use Qf (.ref A0) t3.heap.objs.size) { t3 with heap := pushCells (t3.heap.push { cls := .type "dict", data := .dict #[] }) scope.names }
  have off : ∀ b ∈ fp, (upd H2 A0 (SetO X.w A0 (fun _ => false) 0)) b = none := fun b hb => (f3 b hb).1.1
  generalize eC : compEnvC scope (cellsFrom (t3.heap.objs.size + 1) scope.names (cloFrom X.env.cells scope.names [])) t3.heap.objs.size X.env = ce at I4 pg pe ⊢
  have locs : ce.locals = t3.heap.objs.size := by subst eC; rfl
  generalize eH : upd H2 A0 (SetO X.w A0 (fun _ => false) 0) = H3 at I3 I4 pg pe w0 off f3
  generalize e4 : ({ t3 with heap := pushCells (t3.heap.push { cls := .type "dict", data := .dict #[] }) scope.names } : Shared) = t4 at I4 ⊢
  have st4 : tn 0 t4.heap := T.keep _ _ _ st3 fun b _ o e => by rw [← e4]; exact pushCells_keeps _ _ _ _ (Heap.get?_push_of_some _ e)
  have still : ∀ {ρ : L2.St} {G : Hp} {z : Shared}, Inv (X.blk t3 H3 scope ce fp) [] ρ G z → (∀ b ∈ fp, G b = none) → ∀ b ∈ fp, FpOk (X.blk t3 H3 scope ce fp) [] G b := fun {ρ G z} J' hn b hb =>
    ⟨hn b hb, (J'.ok.exf b hb).1, J'.ok.exfs b hb, .inl hb, fun x c e => (J'.ok.exf b hb).2 x c e, fun p hp => absurd (show p ∈ ([] : List (Addr × Obj)) ++ [] from hp) (by simp)⟩
  have loop : codeAny (model X.prog X.w) X.A (.compLoop (.SetComp elt [⟨tg, iter, [], 0⟩] scope pos) 0 (.ref it) (.ref A0) ce) (compPost (model X.prog X.w) X.A X.xe use Qf (.ref A0) t3.heap.objs.size) t4 := by
    refine PpSet.compLoopS_any (fun n z => ∃ i G, Inv (X.blk t3 H3 scope ce fp) [] (wipe σ (own.map (·.2))) G z ∧ tn i z.heap ∧ (∀ b ∈ fp, G b = none) ∧ W i n G) ?_ m0 ⟨0, H3, I4, st4, off, w0⟩
    rintro n t5 ⟨i, H5, I5, st5, n5, w5⟩
    rcases turn i n H5 w5 with ⟨stop, qq⟩ | ⟨go, Nx, hNx, step⟩
    · refine thnF (T.done (X.blk t3 H3 scope ce fp) rfl rfl rfl calm i [] t5 _ H5 (fun _ _ => False) I5 (still I5 n5) st5 stop) fun r t6 ⟨hr, I6⟩ => ?_
      subst hr
      have I7 : Inv X pins σ H5 t6 := I3.call' (ch := fp) I6.os I6.base I6.hok I6.bare fun b hb => ⟨(f3 b hb).1.2.2.2.1, (f3 b hb).1.2.1, (f3 b hb).1.2.2.2.2.1, (f3 b hb).1.2.2.2.2.2⟩
      have nC : H5 t3.heap.objs.size = none := by rw [← locs]; exact I6.free
      obtain ⟨m, ns, _⟩ := I6.loc
      have ns : t6.heap.Ns ce.locals m := ns
      rw [locs] at ns
      exact last A0 t3.heap.objs.size t6 m H5 I7 qq ns (I3.fpOk (Nat.le_refl _) nC)
    · refine thnF (T.item (X.blk t3 H3 scope ce fp) rfl rfl rfl calm i [] t5 _ H5 (fun _ _ => False) I5 (still I5 n5) st5 go) fun r t6 ⟨u, hr, h6⟩ => ?_
      subst hr
      refine thnF h6 fun _ t7 ⟨x, H7, I7, r7, y7, st7, n7⟩ => ?_
      refine thnF (pg.run _ t7 _ H7 x u _ (I7.pinned (still I7 n7) (T.obj _ _ st7)) r7 (step x H7 y7)) fun _ t8 ⟨σ8, H8, I8, w8, q8⟩ => ?_
      refine wpAny_pure ?_
      show wpAny _ _ (eval elt ce) _ _ t8
      refine thnF (pe.run _ t8 σ8 H8 _ I8 q8) fun z t10 ⟨yv, H10, I10, r10, c, S0, n0, ey, a10, z10, nx⟩ => ?_
      subst ey
      obtain ⟨tk, rfl⟩ : ∃ tk, z = Value.int c tk := r10
      refine addI_ok (X := X.blk t3 H3 scope ce fp) I10 a10 z10 fun t11 I11 => ?_
      obtain ⟨m', lt, w'⟩ := hNx _ nx
      have pinned : ∀ b ∈ fp, ∀ o, t7.heap.get? b = some o → t11.heap.get? b = some o ∧ (upd H10 A0 (SetO X.w A0 (fun j => S0 j || decide (j = c)) (if S0 c = true then n0 else n0 + 1))) b = none := fun b hb o e =>
        let z := I11.pin (b, o) (List.mem_append_right _ (List.mem_append_right _ (mem_pinsAt hb e)))
        ⟨z.1, z.2.1⟩
      refine ⟨m', lt, i + 1, _, (I11.unpinned (pins := [])).weak (by rw [← w8, wipe_length]) (fun j v e => ?_), T.keep _ _ _ st7 fun b hb o e => (pinned b hb o e).1, fun b hb => ?_, w'⟩
      · rw [← w8] at e; exact (wipe_some e).1
      · obtain ⟨o, e, _⟩ := T.obj _ _ st7 b hb
        exact (pinned b hb o e).2
  exact PpSet.codeAny_compStart_set loop (T.self X.A 0 _ _ _ st4 loop)
theorem pe_isc {elt tg iter : Expr} {scope : Scope} {own : List (PySem.Str × Nat)} {pos : Pos} {wi : TI} {g : TG} {te : TE} (calm : X.calm = true) (nd : X.N.Nodup) (hi : PI X tg iter wi) (ok : BlkOk X.N X.env.scope scope own)
    (hg : ∀ (s : Shared) (H : Hp) (C : Addr) (cl : List (PySem.Str × Addr)) (fp : List Addr), PG (Blk X s H scope C cl fp) tg g)
    (he : ∀ (s : Shared) (H : Hp) (C : Addr) (cl : List (PySem.Str × Addr)) (fp : List Addr), PE (Blk X s H scope C cl fp) elt te) (hs : ∀ x, foldedSetIterable iter X.env x = pure x := by intro _; rfl) :
    PE X (.SetComp elt [⟨tg, iter, [], 0⟩] scope pos) (tIsc X.w wi g te (own.map (·.2))) := ⟨fun pins s σ H Q I h => by
  rw [PpSet.eval_SetComp]
  refine isc_core calm nd I hi ok hg he hs h fun A0 C z m H' I' q ns f => ⟨m, ns, fun hp sb => ?_⟩
  obtain ⟨f0, f1, _, f3, f4, f5⟩ := f
  exact ⟨.ref A0, H', I'.turned (t' := z.toks) (fun b o hb e => (sb.2 b hb).trans e) f0 f1 f3 f4 f5, rfl, q⟩⟩
end
end Rf

namespace Rf
open PySem PySem.Spec PyProof.Rows L2

/-! ### ints in order, each once -/
def insU (x : Int) : List Int → List Int
  | [] => [x]
  | y :: l => if x < y then x :: y :: l else if x = y then y :: l else y :: insU x l
def usort : List Int → List Int
  | [] => []
  | x :: l => insU x (usort l)
theorem insU_mem {x k : Int} : ∀ {l : List Int}, k ∈ insU x l ↔ k = x ∨ k ∈ l
  | [] => by simp [insU]
  | y :: l => by
    unfold insU
    by_cases h : x < y
    · rw [if_pos h]; simp
    · rw [if_neg h]
      by_cases e : x = y
      · rw [if_pos e]; subst e; simp
      · rw [if_neg e]
        simp only [List.mem_cons, insU_mem (x := x) (k := k) (l := l)]
        constructor
        · rintro (q | q | q)
          · exact .inr (.inl q)
          · exact .inl q
          · exact .inr (.inr q)
        · rintro (q | q | q)
          · exact .inr (.inl q)
          · exact .inl q
          · exact .inr (.inr q)
theorem insU_pw {x : Int} : ∀ {l : List Int}, l.Pairwise (· < ·) → (insU x l).Pairwise (· < ·)
  | [], _ => by simp [insU]
  | y :: l, h => by
    obtain ⟨h1, h2⟩ := List.pairwise_cons.mp h
    unfold insU
    by_cases hx : x < y
    · rw [if_pos hx]
      exact List.pairwise_cons.mpr ⟨fun z hz => by
        rcases List.mem_cons.mp hz with e | e
        · rw [e]; exact hx
        · exact Int.lt_trans hx (h1 z e), h⟩
    · rw [if_neg hx]
      by_cases e : x = y
      · rw [if_pos e]; exact h
      · rw [if_neg e]
        refine List.pairwise_cons.mpr ⟨fun z hz => ?_, insU_pw h2⟩
        rcases insU_mem.mp hz with q | q
        · rw [q]; omega
        · exact h1 z q
theorem usort_mem {k : Int} : ∀ {l : List Int}, k ∈ usort l ↔ k ∈ l
  | [] => by simp [usort]
  | x :: l => by unfold usort; rw [insU_mem, usort_mem (l := l)]; simp
theorem usort_pw : ∀ l : List Int, (usort l).Pairwise (· < ·)
  | [] => by simp [usort]
  | _ :: l => insU_pw (usort_pw l)
theorem pw_ext : ∀ {l m : List Int}, l.Pairwise (· < ·) → m.Pairwise (· < ·) → (∀ k, k ∈ l ↔ k ∈ m) → l = m
  | [], [], _, _, _ => rfl
  | [], y :: m, _, _, h => absurd ((h y).mpr (List.mem_cons_self ..)) List.not_mem_nil
  | x :: l, [], _, _, h => absurd ((h x).mp (List.mem_cons_self ..)) List.not_mem_nil
  | x :: l, y :: m, h1, h2, h => by
    obtain ⟨a1, a2⟩ := List.pairwise_cons.mp h1
    obtain ⟨b1, b2⟩ := List.pairwise_cons.mp h2
    have e : x = y := by
      rcases List.mem_cons.mp ((h x).mp (List.mem_cons_self ..)) with q | q
      · exact q
      · rcases List.mem_cons.mp ((h y).mpr (List.mem_cons_self ..)) with w | w
        · exact w.symm
        · have w1 := b1 x q
          have w2 := a1 y w
          omega
    subst e
    rw [pw_ext a2 b2 fun k => ⟨fun q => ?_, fun q => ?_⟩]
    · rcases List.mem_cons.mp ((h k).mp (List.mem_cons_of_mem _ q)) with w | w
      · have w1 := a1 k q; omega
      · exact w
    · rcases List.mem_cons.mp ((h k).mpr (List.mem_cons_of_mem _ q)) with w | w
      · have w1 := b1 k q; omega
      · exact w
/-! ### a set of ints, as it comes -/
def GiveS (w : World) (ns : List Int) (H D : Hp) (Q : VK) : Prop := ∀ p S n H' D', Grow H D H' D' → H' p = some (SetO w p S n) → n ≤ ns.length → (∀ k, S k = true ↔ k ∈ ns) → Q (.ref p) H'
def tSet (w : World) (g : List Sl) (ns : List Int) : TE := fun σ H Q => ∃ F D0 D, Ok g F D0 σ H D ∧ GiveS w ns H D Q
abbrev SetG (X : Cx) (e : Expr) (g : List Sl) (ns : List Int) : Prop := PE X e (tSet X.w g ns)
section
variable {X : Cx} {g : List Sl} {a b c e it elt tg : Expr} {es : List Expr} {pos p1 p2 : Pos} {scope : Scope} {α : Type} {fa : α → Rp} {l : List α} {hm : α → Int} {ns : List Int}
theorem sc_read {own : List (Str × Nat)} {σ : L2.St} {H : Hp} {Q : VK} {F D0 D : Hp} {w : World} (tgt : α → List Sl) (hm : α → Int) (ok : Ok g F D0 σ H D) (kk : GiveS w (l.map hm) H D Q) (hz : l.length ≤ 60)
    {wi : TI} (hwi : ∀ R, (∀ J H1 D1, Grow H D H1 D1 → Walks J D1 (l.map fa) → R J H1) → wi σ H R) :
    tIsc w wi (fun v σ H Q => ∃ x, tgG (fa x) (wipeG g (own.map (·.2))) (tgt x) (own.map (·.2)) v σ H Q) (fun σ H Q => ∃ x, tG (tgt x) (rInt (hm x)) σ H Q) (own.map (·.2)) σ H Q := by
  refine hwi _ fun J H1 D1 e1 hw L nL => ?_
  have ok1 := ok.grow e1
  have dL : D1 L = none := e1.i.free nL
  have fL : F L = none := ok1.fr.free nL
  have hL : H L = none := e1.h.free nL
  have no : ∀ (i : Nat) (s : Sl) (q : Addr), g[i]? = some s → s.own = true → σ[i]? = some (some (V.ref q)) → q ≠ L := ok1.noAddr nL
  refine ⟨fun i m Hc => m = l.length - i ∧ i ≤ l.length ∧ ∃ (D' : Hp) (S : Int → Bool) (n : Nat), Same D1 D' ∧ Ok g F D0 σ Hc D' ∧ Hc L = some (SetO w L S n) ∧ D' L = none ∧ n ≤ i ∧ (∀ k, S k = true ↔ k ∈ (l.take i).map hm) ∧ Same H Hc ∧ (∀ a, D' a ≠ none → D a ≠ none ∨ Free H a),
    ⟨l.length, by simp, Nat.zero_le _, D1, _, 0, Same.refl _, ok1.touch dL fL no, upd_same, dL, Nat.le_refl _, fun k => by simp, e1.h.trans (same_upd nL), fun a h => e1.f a h⟩, ?_⟩
  rintro i m Hc ⟨rfl, hi, D', S, n, sD, okc, cL, dL', hn, hS, sH, hnew⟩
  have w := hw i Hc D' sD okc.sub
  by_cases hlt : i < l.length
  · have hx : l[i]? = some l[i] := List.getElem?_eq_getElem hlt
    obtain ⟨hgo, hyl⟩ := w.1 (fa l[i]) (by rw [List.getElem?_map, hx]; rfl)
    refine .inr ⟨hgo, fun H' => ∃ m', m' = l.length - (i + 1) ∧ i + 1 ≤ l.length ∧ ∃ (D' : Hp) (S : Int → Bool) (n : Nat), Same D1 D' ∧ Ok g F D0 σ H' D' ∧ H' L = some (SetO _ L S n) ∧ D' L = none ∧ n ≤ i + 1 ∧ (∀ k, S k = true ↔ k ∈ (l.take (i + 1)).map hm) ∧ Same H H' ∧ (∀ a, D' a ≠ none → D a ≠ none ∨ Free H a),
      fun H' ⟨m', e1, q⟩ => ⟨m', by omega, e1, q⟩, fun v H2 hv => ?_⟩
    obtain ⟨D3, g3, r3⟩ := hyl v H2 hv
    have ok3 := okc.grow g3
    refine ⟨l[i], F, D0, D3, Ok.wipe ok3 _, r3, fun σ4 o4 ok4 => ⟨?_, ?_⟩⟩
    · rw [out_wipe o4]
      exact out_wipe (vs := own.map (·.2)) ⟨wipe_length _ _, fun j hj => wipe_out hj⟩
    · refine ⟨l[i], F, D0, D3, ok4, fun u H5 D5 e5 hu => ?_⟩
      have e35 : Grow Hc D' H5 D5 := g3.trans e5
      have hd5 : D5 L = none := by
        cases q : D5 L with
        | none => rfl
        | some u =>
          rcases e35.f L (by rw [q]; simp) with z | z
          · exact absurd dL' z
          · rcases z with z | ⟨u, z, st⟩
            · rw [cL] at z; cases z
            · rw [cL] at z; cases z; exact (still_set st).elim
      refine ⟨hm l[i], S, n, hu, e35.h _ _ cL, by rw [show scanBound = scanBound from rfl]; exact Nat.lt_of_le_of_lt (show n + 1 ≤ 61 by omega) (by decide), _, rfl, hlt, D5, _, _, sD.trans e35.d, (okc.grow e35).touch hd5 fL no, upd_same, hd5, ?_, fun k => ?_, ?_, fun a ha => ?_⟩
      · split <;> omega
      · rw [Bool.or_eq_true, decide_eq_true_eq, hS k, List.take_succ, hx, List.map_append, List.mem_append]
        exact or_congr Iff.rfl ⟨fun q => by rw [q]; exact List.mem_singleton.mpr rfl, fun q => List.mem_singleton.mp q⟩
      · intro b o hb
        rw [upd_ne (ne_of_none hb hL)]
        exact e35.h _ _ (sH _ _ hb)
      · rcases e35.f a ha with z | z
        · exact hnew a z
        · exact .inr (z.back sH)
  · have e2 : i = l.length := by omega
    subst e2
    rw [List.take_length] at hS
    exact .inl ⟨w.2 (by rw [List.length_map]), kk L S n Hc D' ⟨sH, e1.d.trans sD, okc.sub, hnew⟩ cL (by rw [List.length_map]; exact hn) hS⟩
theorem set_c (own : List (Str × Nat)) (tgt : α → List Sl) (hm : α → Int) (hc : X.calm = true) (nd : X.N.Nodup) (hi : IG X tg it g (l.map fa)) (hz : l.length ≤ 60) (ok : BlkOk X.N X.env.scope scope own)
    (ht : ∀ x s H C cl fp, KG (Blk X s H scope C cl fp) tg (fa x) (wipeG g (own.map (·.2))) (tgt x) (own.map (·.2)))
    (he : ∀ x s H C cl fp, EG (Blk X s H scope C cl fp) elt (tgt x) (rInt (hm x))) (hs : ∀ x, foldedSetIterable it X.env x = pure x := by intro _; rfl) : SetG X (.SetComp elt [⟨tg, it, [], 0⟩] scope pos) g (l.map hm) :=
  pe_to (pe_isc hc nd hi ok (g := fun v σ H Q => ∃ x, tgG (fa x) (wipeG g (own.map (·.2))) (tgt x) (own.map (·.2)) v σ H Q) (te := fun σ H Q => ∃ x, tG (tgt x) (rInt (hm x)) σ H Q)
    (fun s H C cl fp => ⟨fun pins s' σ H' v u Q I rv ⟨x, q⟩ => (ht x s H C cl fp).run pins s' σ H' v u Q I rv q⟩)
    (fun s H C cl fp => ⟨fun pins s' σ H' Q I ⟨x, q⟩ => (he x s H C cl fp).run pins s' σ H' Q I q⟩) hs) fun σ H Q ⟨F, D0, D, ok', k⟩ => sc_read (own := own) tgt hm ok' k hz fun R hR => ⟨F, D0, D, ok', hR⟩
/-- sorted(a set of ints) -/
theorem ng_sortedS (hz : ns.length ≤ 60) (hc : X.calm = true) (hm : X.mg "sorted" = none) (h : SetG X e g ns) (hg : Gl X "sorted" := by rfl) (he : starEach [e] X.env = (false, eval e X.env) :: starEach [] X.env := by rfl) : NG X (.Call (.Name "sorted" p1) [e] [] pos) g ((usort ns).map rInt) :=
  pe_to (pe_callB (cr_sortedSet hc) hg hm (by decide +kernel) (pa_cons h pa_nil he) (by decide) (by decide) he (by rfl)) fun σ H Q ⟨F, D0, D, ok, k⟩ => ⟨F, D0, D, ok, fun p S n H' D' e hp hn hS => ⟨p, S, n, rfl, hp, by omega, fun ms q pw hm hl nq => by
    have em : ms = usort ns := pw_ext pw (usort_pw ns) fun k => by rw [hm, hS, usort_mem]
    rw [em]
    exact k q _ H' D' e nq (reps_ofI _)⟩⟩
end
end Rf

namespace Rf
open PySem PySem.Spec PyProof.Rows L2
/-- all([..]) of bools that are not told -/
theorem reps_sb {D : Hp} : ∀ {n : Nat} {vs : List V}, Reps D (List.replicate n rSB) vs → ∃ bs : List Bool, vs = bs.map V.bl
  | 0, _, .nil => ⟨[], rfl⟩
  | n + 1, _, .cons ⟨b, h⟩ t => by
    obtain ⟨bs, e⟩ := reps_sb (n := n) t
    exact ⟨b :: bs, by rw [h, e]; rfl⟩
theorem bg_eq {X : Cx} {g : List Sl} {e : Expr} {k1 k2 : Bool} (h : k1 = k2) (hb : BG X e g k1) : BG X e g k2 := h ▸ hb
theorem eg_eq {X : Cx} {g : List Sl} {e : Expr} {r1 r2 : Rp} (h : r1 = r2) (hb : EG X e g r1) : EG X e g r2 := h ▸ hb
section
variable {X : Cx} {g : List Sl} {a : Expr} {pos p1 : Pos} {n : Nat}
theorem eg_allS (hc : X.calm = true) (hm : X.mg "all" = none) (ha : EG X a g (rL (List.replicate n rSB))) (hg : Gl X "all" := by rfl) (he : starEach [a] X.env = (false, eval a X.env) :: starEach [] X.env := by rfl) : EG X (.Call (.Name "all" p1) [a] [] pos) g rSB :=
  eg_bi (cr_all hc) hm (by decide +kernel) (ag_cons ha ag_nil he) (fun vs H D Q s h k => by
    cases h with
    | cons h1 t =>
      cases t
      obtain ⟨p, ws, rfl, h2, h3⟩ := h1
      obtain ⟨bs, rfl⟩ := reps_sb h3
      exact ⟨p, bs, rfl, SqL.of (s _ _ h2), k.here s ⟨_, rfl⟩⟩) hg (by decide) (by decide) he
end

section
variable {P : Program} {w : World} {K : PySem.W.Frag} {mg : Str → Option Value} {base : Heap} {f : Addr} {fd : FuncData}

inductive relFew : Rel
  | mk (n : Int) (h : n ≤ 500) : relFew [rInt n] rNon

theorem sc_need_few_words : FnScope ["many"] ["many"] (defScope (top 39)) := ⟨rfl, rfl, rfl, by decide +kernel, rfl, by decide +kernel, by decide +kernel⟩
theorem c_need_few_words (hK : ∃ t, mg "MOST_LETTERS_words" = some (.int 500 t)) (F : FnP K "need_few" (top 39) f fd) (gm : mg "need_few_words" = some (.ref f)) : DefC P w K mg base "need_few_words" 1 relFew := by
  refine ⟨f, fd, ["many"], def_g F sc_need_few_words (fun A r h => by cases h <;> rfl) (by decide) (fun cdv A outer s H E hr As r h => ?_), gm, F.kp, F.bindsN fun _ _ _ _ _ _ us hl => match us, hl with | [_], _ => rfl⟩
  cases h with
  | mk n h =>
    obtain ⟨t, hK⟩ := hK
    exact sg_ifF (k := decide (500 < n)) (bg_gt (eg_name 0) (eg_glob (v := .int 500) hK ⟨_, rfl⟩)) (decide_eq_false (by omega)) (sg_nil rfl)

/-- rounded_of: how far it walks in -/
def rndC (ls : List Int) (at_ : Int) : Option Bool := if at_ < (ls.length : Int) - 1 - at_ then (match atI ls at_, atI ls ((ls.length : Int) - 1 - at_) with
  | some a, some b => some (decide (a = -b))
  | _, _ => none) else some false
def roundedM (n : Nat) (ls : List Int) : Option (List Int) := (whileM (rndC ls) (fun i => some (i + 1)) n 0).map fun i => cutL ls (some i) (some (ls.length - i))
inductive relRnd : Rel
  | mk (n : Nat) (ls : List Int) (i : Int) (h : whileM (rndC ls) (fun i => some (i + 1)) n 0 = some i) : relRnd [rTI ls] (rTI (cutL ls (some i) (some (ls.length - i))))

theorem sc_rounded_of : FnScope ["letters", "many", "at"] ["letters"] (defScope (top 37)) := ⟨rfl, rfl, rfl, by decide +kernel, rfl, by decide +kernel, by decide +kernel⟩
theorem c_rounded_of (T : Fre mg) (F : FnP K "rounded_of" (top 37) f fd) (gm : mg "rounded_of" = some (.ref f)) : DefC P w K mg base "rounded_of" 1 relRnd := by
  refine ⟨f, fd, ["letters"], def_g F sc_rounded_of (fun A r h => by cases h <;> rfl) (by decide) (fun cdv A outer s H E hr As r h => ?_), gm, F.kp, F.bindsN fun _ _ _ _ _ _ us hl => match us, hl with | [_], _ => rfl⟩
  cases h with
  | mk n ls i h =>
    refine sg_par 1 2 (vg_d (eg_lenT1 T.len (eg_name 0))) (vg_d eg_int) rfl sc_rounded_of.nd ?_
    refine sg_while (fun i : Int => [.d (rTI ls), .d (rInt ls.length), .d (rInt i)]) (rndC ls) (fun i => some (i + 1)) n h (Le.refl _) (fun q k e => ?_) (fun q q' _ e => ?_) (sg_ret (eg_slT1 (eg_name 0) (og_some (eg_name 2)) (og_some (eg_sub (eg_name 1) (eg_name 2)))) rfl)
    · unfold rndC at e
      by_cases hq : q < (ls.length : Int) - 1 - q
      · rw [if_pos hq] at e
        cases h1 : atI ls q with
        | none => rw [h1] at e; cases e
        | some a =>
          rw [h1] at e
          cases h2 : atI ls ((ls.length : Int) - 1 - q) with
          | none => rw [h2] at e; cases e
          | some b =>
            rw [h2] at e; cases e
            refine bg_eq (k1 := decide (q < (ls.length : Int) - 1 - q) && decide (a = -b)) (by rw [decide_eq_true hq, Bool.true_and]) (bg_w (wg_and (bg_lt (eg_name 2) (eg_sub (eg_sub (eg_name 1) eg_int) (eg_name 2))) fun _ => wg_and1 (bg_eqi (eg_ixT (eg_name 0) (eg_name 2) h1) (eg_neg (eg_ixT (eg_name 0) (eg_sub (eg_sub (eg_name 1) eg_int) (eg_name 2)) h2)))))
      · rw [if_neg hq] at e; cases e
        refine bg_eq (k1 := decide (q < (ls.length : Int) - 1 - q) && false) (by rw [Bool.and_false]) (bg_w (wg_and (bg_lt (eg_name 2) (eg_sub (eg_sub (eg_name 1) eg_int) (eg_name 2))) fun w => absurd (of_decide_eq_true w) hq))
    · cases e
      exact sg_set 2 (eg_add (eg_name 2) eg_int) sc_rounded_of.nd (sg_nil (Le.refl _))

/-- are_short -/
inductive relShort : Rel
  | mk (ls : List Int) (hz : ls.length ≤ 1000) : relShort [rTI ls] rSB
theorem eg_allB {X : Cx} {g : List Sl} {a : Expr} {pos p1 : Pos} {bs : List Bool} (hc : X.calm = true) (hm : X.mg "all" = none) (ha : EG X a g (rL (bs.map rBl))) (hg : Gl X "all" := by rfl) (he : starEach [a] X.env = (false, eval a X.env) :: starEach [] X.env := by rfl) : EG X (.Call (.Name "all" p1) [a] [] pos) g rSB :=
  eg_weak (eg_all hc hm ha hg he) fun _ _ h => ⟨_, h⟩

theorem sc_are_short : FnScope ["letters", "one", "other"] ["letters"] (defScope (top 38)) := ⟨rfl, rfl, rfl, by decide +kernel, rfl, by decide +kernel, by decide +kernel⟩
theorem c_are_short (T : Fre mg) (F : FnP K "are_short" (top 38) f fd) (gm : mg "are_short" = some (.ref f)) : DefC P w K mg base "are_short" 1 relShort := by
  refine ⟨f, fd, ["letters"], def_g F sc_are_short (fun A r h => by cases h <;> rfl) (by decide) (fun cdv A outer s H E hr As r h => ?_), gm, F.kp, F.bindsN fun _ _ _ _ _ _ us hl => match us, hl with | [_], _ => rfl⟩
  cases h with
  | mk ls hz =>
    refine sg_ret (eg_allB (bs := ((ls.zip (cutL ls (some 1) none)).map fun z => !decide (z.1 = -z.2))) rfl T.all (eg_n (ng_lc (fb := rBl) (fa := fun z : Int × Int => rT [rInt z.1, rInt z.2]) (l := ls.zip (cutL ls (some 1) none)) [("one", 1), ("other", 2)] (fun z => [.d (rTI ls), .d (rInt z.1), .d (rInt z.2)]) (fun _ => some true) (fun z => some (!decide (z.1 = -z.2))) rfl sc_are_short.nd ?_ (comp_all (by rw [List.length_zip]; omega)) (blkOk_by (N := ["letters", "one", "other"]) (sc := defScope (top 38)) (by decide +kernel))
      (fun x s H C cl fp => kg_pair 1 2 rfl sc_are_short.nd) (fun x k s H C cl fp e => by cases e; exact ts_nil) (fun x y s H C cl fp _ e => by cases e; exact eg_nei (eg_name 1) (eg_neg (eg_name 2)))))) rfl
    rw [← zipR_map]
    exact ig_zip true true T.zip (eg_name 0) (eg_slT1 (eg_name 0) (og_some eg_int) og_none)

end
end Rf

namespace Rf
open PySem PySem.Spec PyProof.Rows L2
section
variable {X : Cx} {g : List Sl} {a b : Expr} {rest : List Expr} {pos p1 : Pos}
theorem eg_andS (h : EG X a g rSB) (h2 : EG X (.BoolOp .And (b :: rest) pos) g rSB) : EG X (.BoolOp .And (a :: b :: rest) pos) g rSB := pe_to (pe_and h h2) fun σ H Q ⟨F, D0, D, ok, kk⟩ => ⟨F, D0, D, ok, fun v H' D' e ⟨k, hv⟩ => by
  cases k with
  | true => exact ⟨true, hv, F, D0, D', ok.grow e, kk.later e⟩
  | false => exact ⟨false, hv, (kk.later e).here e.i ⟨false, rfl⟩⟩⟩
theorem eg_sb {k : Bool} (h : EG X a g (rBl k)) : EG X a g rSB := eg_weak h fun _ _ q => ⟨_, q⟩
end
/-- a class, and that these are no attributes of it -/
structure KlsA (K : PySem.W.Frag) (C : Addr) (fs : List Str) : Prop where
  c : ClsT K C
  n : ∀ f ∈ fs, NoAttr K C f
  kit : PySem.W.kitOne K (.ref C) (.ref C) = some true
abbrev fWord : List Str := ["letters", "length", "kinds", "is_short", "is_short_round"]
abbrev KWord (K : PySem.W.Frag) : Prop := KlsA K (He.ga K "Word") fWord
abbrev wordF (ls : List Int) : List (Str × Rp) := [("letters", rTI ls), ("length", rInt ls.length), ("kinds", rAny), ("is_short", rSB), ("is_short_round", rSB)]
abbrev rWord (K : PySem.W.Frag) (ls : List Int) : Rp := Rf.rI (He.ga K "Word") (wordF ls)

section
variable {P : Program} {w : World} {K : PySem.W.Frag} {mg : Str → Option Value} {base : Heap} {f : Addr} {fd : FuncData}

inductive relWordI : RelI
  | mk (ls : List Int) (n : Nat) (i : Int) (hz : ls.length ≤ 60) (hl : ls.all isLetterB = true) (h : whileM (rndC ls) (fun i => some (i + 1)) n 0 = some i) : relWordI [rInts ls] (wordF ls)

theorem sc_Word_init : FnScope ["self", "letters", "letter"] ["self", "letters"] (defScope (inClass (top 41) 0)) := ⟨rfl, rfl, rfl, by decide +kernel, rfl, by decide +kernel, by decide +kernel⟩
theorem c_Word_init (T : Fre mg) (W : KWord K) (C1 : DefC P w K mg base "are_letters" 4 relLet) (C2 : DefC P w K mg base "need_few_words" 1 relFew) (C3 : DefC P w K mg base "are_short" 1 relShort) (C4 : DefC P w K mg base "rounded_of" 1 relRnd) (F : FnM K "__init__" "Word.__init__" (inClass (top 41) 0) f fd) (gm : mg "Word" = some (.ref (He.ga K "Word"))) (mk : Mk K (He.ga K "Word") f) : MakeC P w K mg base "Word" (He.ga K "Word") 5 relWordI := by
  refine ⟨f, fd, ["self", "letters"], init_g F sc_Word_init (fun A r h => by cases h <;> rfl) (by decide) (fun cdv A outer s H E hr As fs ax adx h => ?_), gm, mk, F.bindsN fun _ _ _ _ _ _ us hl => match us, hl with | [_, _], _ => rfl⟩
  cases h with
  | mk ls n i hz hl h =>
    refine sg_ifF (k := false) (bg_not (k := true) (bg_val (eg_eq (by rw [hl]) (eg_call C1 (ag_cons (eg_name 1) ag_nil) (.l ls (by omega)) hr)))) rfl ?_
    refine sg_expr (eg_call C2 (ag_cons (eg_lenL1 T.len (eg_name 1)) ag_nil) (.mk _ (by omega)) (hr.mono (by decide))) ?_
    refine sg_fld 0 W.c.cl (W.n _ (by decide)) rfl (eg_tupleL T.tuple (eg_name 1)) ?_
    refine sg_fld 0 W.c.cl (W.n _ (by decide)) rfl (eg_lenT1 T.len (eg_fldO 0 W.c.cl (W.n _ (by decide)))) ?_
    refine sg_fld 0 W.c.cl (W.n _ (by decide)) rfl (eg_any (eg_tupleL T.tuple (eg_n (ng_sortedS (ns := ls.map absI) (by rw [List.length_map]; omega) rfl T.sorted (set_c [("letter", 2)] (fun x => [.i ax adx (He.ga K "Word") [("letters", rTI ls), ("length", rInt ls.length)], .d (rInts ls), .d (rInt x)]) absI rfl sc_Word_init.nd (ig_tup (eg_fldO 0 W.c.cl (W.n _ (by decide)))) (by omega) (blkOk_by (N := ["self", "letters", "letter"]) (sc := defScope (inClass (top 41) 0)) (by decide +kernel))
      (fun x s H C cl fp => kg_name 2 sc_Word_init.nd) (fun x s H C cl fp => eg_abs T.abs (eg_name 2))))))) ?_
    refine sg_fld 0 W.c.cl (W.n _ (by decide)) rfl (eg_call C3 (ag_cons (eg_fldO 0 W.c.cl (W.n _ (by decide))) ag_nil) (.mk ls (by omega)) (hr.mono (by decide))) ?_
    refine sg_fld 0 W.c.cl (W.n _ (by decide)) rfl (eg_andS (eg_fldO 0 W.c.cl (W.n _ (by decide))) (eg_one (eg_sb (eg_eqd (dat_T dat_int) (dat_T dat_int) hr.units (eg_call C4 (ag_cons (eg_fldO 0 W.c.cl (W.n _ (by decide))) ag_nil) (.mk n ls i h) (hr.mono (by decide))) (eg_fldO 0 W.c.cl (W.n _ (by decide))))))) ?_
    exact sg_nil rfl

end
end Rf

namespace Rf
open PySem PySem.Spec PyProof.Rows L2

/-! ### [e for x in xs for y in ys] -/
/-- an address that is known to hold a list, and of which nothing is told, is not told of later -/
theorem Grow.keepL {H D H' D' : Hp} (e : Grow H D H' D') {L : Addr} {acc : List V} (hL : H L = some (.lst acc)) (dL : D L = none) : H' L = some (.lst acc) ∧ D' L = none := ⟨e.h _ _ hL, by
  cases q : D' L with
  | none => rfl
  | some u =>
    rcases e.f L (by rw [q]; simp) with z | z
    · exact absurd dL z
    · rcases z with z | ⟨u, z, st⟩
      · rw [hL] at z; cases z
      · rw [hL] at z; cases z; exact (still_lst st).elim⟩
/-- how the heap stands since H, D -/
structure Since (H D Hc D' : Hp) : Prop where
  h : Same H Hc
  d : Same D D'
  f : ∀ a, D' a ≠ none → D a ≠ none ∨ Free H a
theorem Since.grow {H D Hc D' H2 D2 : Hp} (s : Since H D Hc D') (e : Grow Hc D' H2 D2) : Since H D H2 D2 := ⟨s.h.trans e.h, s.d.trans e.d, fun a ha => (e.f a ha).elim (fun z => s.f a z) fun z => .inr (z.back s.h)⟩
theorem Since.put {H D Hc D' : Hp} (s : Since H D Hc D') {L : Addr} {o : HO} (n : H L = none) : Since H D (upd Hc L o) D' := ⟨fun b u hb => by rw [upd_ne (ne_of_none hb n)]; exact s.h _ _ hb, s.d, s.f⟩
section
variable {g : List Sl} {F D0 : Hp} {σ : L2.St} {H D : Hp} {L : Addr} {o : HO}
/-- an object that no name holds counts as the caller's -/
theorem Ok.hold (ok : Ok g F D0 σ H D) (hL : H L = some o) (dL : D L = none) (fL : F L = none) (no : ∀ (i : Nat) (s : Sl) (q : Addr), g[i]? = some s → s.own = true → σ[i]? = some (some (V.ref q)) → q ≠ L) : Ok g (upd F L o) D0 σ H D where
  sub := ok.sub
  fr := fun b u e => by
    by_cases hb : b = L
    · subst hb; rw [upd_same] at e; cases e; exact hL
    · rw [upd_ne hb] at e; exact ok.fr _ _ e
  d0 := ok.d0
  new := fun a h => by
    have ha : a ≠ L := fun e => h (e ▸ dL)
    rcases ok.new a h with q | q
    · exact .inl q
    · unfold Free at q ⊢; rw [upd_ne ha]; exact .inr q
  len := ok.len
  dat := ok.dat
  own := fun i s h h2 => by
    obtain ⟨p, u, a, b, c, d, f⟩ := ok.own i s h h2
    exact ⟨p, u, a, b, c, by rw [upd_ne (no i s p h h2 a)]; exact d, f⟩
  apart := ok.apart
theorem Ok.unhold (ok : Ok g (upd F L o) D0 σ H D) (fL : F L = none) : Ok g F D0 σ H D ∧ ∀ (i : Nat) (s : Sl) (q : Addr), g[i]? = some s → s.own = true → σ[i]? = some (some (V.ref q)) → q ≠ L := by
  have ne : ∀ {p : Addr}, (upd F L o) p = none → p ≠ L := fun h e => by rw [e, upd_same] at h; cases h
  refine ⟨⟨ok.sub, (same_upd fL).trans ok.fr, ok.d0, fun a h => ?_, ok.len, ok.dat, fun i s h h2 => ?_, ok.apart⟩, fun i s q h h2 e => ?_⟩
  · rcases ok.new a h with q | q
    · exact .inl q
    · exact .inr (q.back (same_upd fL))
  · obtain ⟨p, u, a, b, c, d, f⟩ := ok.own i s h h2
    exact ⟨p, u, a, b, c, by rw [← upd_ne (H := F) (o := o) (ne d)]; exact d, f⟩
  · obtain ⟨p, u, a, b, c, d, f⟩ := ok.own i s h h2
    rw [e] at a; cases a
    exact ne d
end
section
variable {X : Cx} {g : List Sl} {it elt tg tg1 it1 : Expr} {pos : Pos} {scope : Scope} {α β γ : Type} {fa : α → Rp} {fb : β → Rp} {fc : γ → Rp} {l : List α}
theorem lc2_read {own : List (Str × Nat)} {vs1 : List Nat} {σ : L2.St} {H : Hp} {Q : VK} {F D0 D : Hp} (inn : α → List β) (hm : α → β → γ) (tgt : α → List Sl) (tg2 : α → β → List Sl) (ok : Ok g F D0 σ H D) (kk : GiveN ((l.flatMap fun x => (inn x).map (hm x)).map fc) H D Q) (hz : (l.flatMap fun x => (inn x).map (hm x)).length ≤ 100000)
    {wi : TI} (hwi : ∀ R, (∀ J H1 D1, Grow H D H1 D1 → Walks J D1 (l.map fa) → R J H1) → wi σ H R) :
    tLc2 wi (fun v σ H Q => ∃ x, tgG (fa x) (wipeG g (own.map (·.2))) (tgt x) (own.map (·.2)) v σ H Q) (fun σ H Q => ∃ x, tT (tgt x) true σ H Q) (fun σ H R => ∃ x, iG (tgt x) ((inn x).map fb) σ H R)
      (fun v σ H Q => ∃ x y, tgG (fb y) (wipeG (tgt x) vs1) (tg2 x y) vs1 v σ H Q) (fun σ H Q => ∃ x y, tT (tg2 x y) true σ H Q) (fun σ H Q => ∃ x y, tG (tg2 x y) (fc (hm x y)) σ H Q) (own.map (·.2)) vs1 σ H Q := by
  refine hwi _ fun J H1 D1 e1 hw L nL => ?_
  have ok1 := ok.grow e1
  have dL : D1 L = none := e1.i.free nL
  have fL : F L = none := ok1.fr.free nL
  have hL : H L = none := e1.h.free nL
  have no : ∀ (i : Nat) (s : Sl) (q : Addr), g[i]? = some s → s.own = true → σ[i]? = some (some (V.ref q)) → q ≠ L := ok1.noAddr nL
  refine ⟨fun i m Hc => m = l.length - i ∧ i ≤ l.length ∧ ∃ (D' : Hp) (acc : List V) (done : List γ), Since H D Hc D' ∧ Same D1 D' ∧ Ok g F D0 σ Hc D' ∧ Hc L = some (.lst acc) ∧ D' L = none ∧ Reps D' (done.map fc) acc ∧ done ++ (l.drop i).flatMap (fun x => (inn x).map (hm x)) = l.flatMap fun x => (inn x).map (hm x),
    ⟨l.length, by simp, Nat.zero_le _, D1, [], [], ⟨e1.h.trans (same_upd nL), e1.d, e1.f⟩, Same.refl _, ok1.touch dL fL no, upd_same, dL, (show Reps D1 (([] : List γ).map fc) [] from .nil), by simp⟩, ?_⟩
  rintro i m Hc ⟨rfl, hi, D', acc, done, sn, sD, okc, cL, dL', ra', hdt⟩
  have w := hw i Hc D' sD okc.sub
  by_cases hlt : i < l.length
  · have hx : l[i]? = some l[i] := List.getElem?_eq_getElem hlt
    have hd : l.drop i = l[i] :: l.drop (i + 1) := (List.getElem_cons_drop ..).symm
    rw [hd, List.flatMap_cons] at hdt
    obtain ⟨hgo, hyl⟩ := w.1 (fa l[i]) (by rw [List.getElem?_map, hx]; rfl)
    refine .inr ⟨hgo, fun Hc => ∃ m', m' = l.length - (i + 1) ∧ i + 1 ≤ l.length ∧ ∃ (D' : Hp) (acc : List V) (done : List γ), Since H D Hc D' ∧ Same D1 D' ∧ Ok g F D0 σ Hc D' ∧ Hc L = some (.lst acc) ∧ D' L = none ∧ Reps D' (done.map fc) acc ∧ done ++ (l.drop (i + 1)).flatMap (fun x => (inn x).map (hm x)) = l.flatMap fun x => (inn x).map (hm x),
      fun Hc ⟨m', q1, q⟩ => ⟨m', by omega, q1, q⟩, fun v H2 hv => ?_⟩
    obtain ⟨D3, g3, r3⟩ := hyl v H2 hv
    have ok3 := okc.grow g3
    obtain ⟨l3, d3⟩ := g3.keepL cL dL'
    refine ⟨l[i], upd F L (.lst acc), D0, D3, Ok.wipe (ok3.hold l3 d3 fL no) _, r3, fun σ4 o4 ok4 => ⟨?_, ?_⟩⟩
    · rw [out_wipe o4]
      exact out_wipe (vs := own.map (·.2)) ⟨wipe_length _ _, fun j hj => wipe_out hj⟩
    · refine ⟨l[i], _, D0, D3, ok4, fun H5 D5 e5 => iteT ⟨l[i], _, D0, D5, ok4.grow e5, fun J1 H6 D6 e6 hw1 => ?_⟩⟩
      have e36 : Grow Hc D' H6 D6 := (g3.trans e5).trans e6
      obtain ⟨l6, d6⟩ := e36.keepL cL dL'
      obtain ⟨ok4, n6⟩ := ok4.unhold fL
      have ok46 := (ok4.grow e5).grow e6
      refine ⟨fun j k Hc => k = (inn l[i]).length - j ∧ j ≤ (inn l[i]).length ∧ ∃ (D' : Hp) (acc : List V) (dn : List γ), Since H D Hc D' ∧ Same D1 D' ∧ Same D6 D' ∧ Ok g F D0 σ Hc D' ∧ Ok (tgt l[i]) F D0 σ4 Hc D' ∧ Hc L = some (.lst acc) ∧ D' L = none ∧ Reps D' (dn.map fc) acc ∧
        dn ++ (((inn l[i]).drop j).map (hm l[i]) ++ (l.drop (i + 1)).flatMap (fun x => (inn x).map (hm x))) = l.flatMap fun x => (inn x).map (hm x), ⟨(inn l[i]).length, by simp, Nat.zero_le _, D6, acc, done, sn.grow e36, sD.trans e36.d, Same.refl _, okc.grow e36, ok46, l6, d6, ra'.mono e36.d, by simpa using hdt⟩, ?_⟩
      rintro j k Hj ⟨rfl, hj, D7, acc7, dn, sn7, sD7, sD67, ok7, ok47, l7, d7, r7, h7⟩
      have w1 := hw1 j Hj D7 sD67 ok7.sub
      by_cases hlt2 : j < (inn l[i]).length
      · have hy : (inn l[i])[j]? = some (inn l[i])[j] := List.getElem?_eq_getElem hlt2
        have hd2 : (inn l[i]).drop j = (inn l[i])[j] :: (inn l[i]).drop (j + 1) := (List.getElem_cons_drop ..).symm
        rw [hd2, List.map_cons, List.cons_append] at h7
        obtain ⟨hgo2, hyl2⟩ := w1.1 (fb (inn l[i])[j]) (by rw [List.getElem?_map, hy]; rfl)
        refine .inr ⟨hgo2, fun Hc => ∃ k', k' = (inn l[i]).length - (j + 1) ∧ j + 1 ≤ (inn l[i]).length ∧ ∃ (D' : Hp) (acc : List V) (dn : List γ), Since H D Hc D' ∧ Same D1 D' ∧ Same D6 D' ∧ Ok g F D0 σ Hc D' ∧ Ok (tgt l[i]) F D0 σ4 Hc D' ∧ Hc L = some (.lst acc) ∧ D' L = none ∧ Reps D' (dn.map fc) acc ∧
          dn ++ (((inn l[i]).drop (j + 1)).map (hm l[i]) ++ (l.drop (i + 1)).flatMap (fun x => (inn x).map (hm x))) = l.flatMap fun x => (inn x).map (hm x), fun Hc ⟨k', q1, q⟩ => ⟨k', by omega, q1, q⟩, fun v8 H8 hv8 => ?_⟩
        obtain ⟨D8, g8, r8⟩ := hyl2 v8 H8 hv8
        refine ⟨l[i], (inn l[i])[j], F, D0, D8, Ok.wipe (ok47.grow g8) _, r8, fun σ9 o9 ok9 => ⟨?_, ?_⟩⟩
        · rw [out_wipe o9]
          exact out_wipe (vs := vs1) ⟨wipe_length _ _, fun j hj => wipe_out hj⟩
        · refine ⟨l[i], (inn l[i])[j], F, D0, D8, ok9, fun H10 D10 e10 => iteT ⟨l[i], (inn l[i])[j], F, D0, D10, ok9.grow e10, fun u H11 D11 e11 hu => ?_⟩⟩
          have e7 : Grow Hj D7 H11 D11 := (g8.trans e10).trans e11
          obtain ⟨l11, d11⟩ := e7.keepL l7 d7
          have len7 : acc7.length ≤ 100000 := by
            have q := congrArg List.length h7
            rw [List.length_append] at q
            have q2 := r7.length
            rw [List.length_map] at q2
            omega
          refine ⟨acc7, l11, by rw [sizeLine_eq]; omega, _, rfl, hlt2, D11, acc7 ++ [u], dn ++ [hm l[i] (inn l[i])[j]], (sn7.grow e7).put hL, sD7.trans e7.d, sD67.trans e7.d, (ok7.grow e7).touch d11 fL no, (ok47.grow e7).touch d11 fL n6, upd_same, d11, ?_, by rw [List.append_assoc]; exact h7⟩
          rw [List.map_append]
          exact reps_app (r7.mono e7.d) (.cons hu .nil)
      · have e2 : j = (inn l[i]).length := by omega
        subst e2
        rw [List.drop_length, List.map_nil, List.nil_append] at h7
        exact .inl ⟨w1.2 (by rw [List.length_map]), _, rfl, hlt, D7, acc7, dn, sn7, sD7, ok7, l7, d7, r7, h7⟩
  · have e2 : i = l.length := by omega
    subst e2
    rw [List.drop_length, List.flatMap_nil, List.append_nil] at hdt
    subst hdt
    refine .inl ⟨w.2 (by rw [List.length_map]), ?_⟩
    have eH : Hc = upd (fun a => if a = L then none else Hc a) L (.lst acc) := by
      funext a
      by_cases ha : a = L
      · subst ha; rw [upd_same]; exact cL
      · rw [upd_ne ha]; exact (if_neg ha).symm
    rw [eH]
    refine kk L acc _ D' ⟨fun b o hb => ?_, e1.d.trans sD, fun b o hb => ?_, sn.f⟩ (if_pos rfl) ra'
    · show (if b = L then none else Hc b) = some o
      rw [if_neg (ne_of_none hb hL)]; exact sn.h _ _ hb
    · show (if b = L then none else Hc b) = some o
      rw [if_neg (ne_of_none hb dL')]; exact okc.sub _ _ hb
theorem ng_lc2 {own : List (Str × Nat)} (vs1 : List Nat) (inn : α → List β) (hm : α → β → γ) (tgt : α → List Sl) (tg2 : α → β → List Sl) (hc : X.calm = true) (nd : X.N.Nodup) (hi : IG X tg it g (l.map fa)) (ok : BlkOk X.N X.env.scope scope own) (hz : (l.flatMap fun x => (inn x).map (hm x)).length ≤ 100000)
    (ht : ∀ x s H C cl fp, KG (Blk X s H scope C cl fp) tg (fa x) (wipeG g (own.map (·.2))) (tgt x) (own.map (·.2)))
    (hi1 : ∀ x s H C cl fp, IG (Blk X s H scope C cl fp) tg1 it1 (tgt x) ((inn x).map fb))
    (ht1 : ∀ x y s H C cl fp, KG (Blk X s H scope C cl fp) tg1 (fb y) (wipeG (tgt x) vs1) (tg2 x y) vs1)
    (he : ∀ x y s H C cl fp, EG (Blk X s H scope C cl fp) elt (tg2 x y) (fc (hm x y))) (hv : ∀ i ∈ vs1, i ∈ own.map (·.2) := by decide) (hs : ∀ x, foldedSetIterable it X.env x = pure x := by intro _; rfl) (hs1 : ∀ env x, foldedSetIterable it1 env x = pure x := by intro _ _; rfl) :
    NG X (.ListComp elt [⟨tg, it, [], 0⟩, ⟨tg1, it1, [], 0⟩] scope pos) g ((l.flatMap fun x => (inn x).map (hm x)).map fc) :=
  pe_to (pe_lc2 hc nd hi ok hv (g := fun v σ H Q => ∃ x, tgG (fa x) (wipeG g (own.map (·.2))) (tgt x) (own.map (·.2)) v σ H Q) (tt := fun σ H Q => ∃ x, tT (tgt x) true σ H Q) (wi1 := fun σ H R => ∃ x, iG (tgt x) ((inn x).map fb) σ H R)
    (g1 := fun v σ H Q => ∃ x y, tgG (fb y) (wipeG (tgt x) vs1) (tg2 x y) vs1 v σ H Q) (tt1 := fun σ H Q => ∃ x y, tT (tg2 x y) true σ H Q) (te := fun σ H Q => ∃ x y, tG (tg2 x y) (fc (hm x y)) σ H Q)
    (fun s H C cl fp => ⟨fun pins s' σ H' v u Q I rv ⟨x, q⟩ => (ht x s H C cl fp).run pins s' σ H' v u Q I rv q⟩)
    (fun s H C cl fp => ⟨fun pins s' σ H' Q I ⟨x, q⟩ => ts_nil.run pins s' σ H' Q I q⟩)
    (fun s H C cl fp => ⟨fun pins s' σ H' R I ⟨x, q⟩ => (hi1 x s H C cl fp).run pins s' σ H' R I q⟩)
    (fun s H C cl fp => ⟨fun pins s' σ H' v u Q I rv ⟨x, y, q⟩ => (ht1 x y s H C cl fp).run pins s' σ H' v u Q I rv q⟩)
    (fun s H C cl fp => ⟨fun pins s' σ H' Q I ⟨x, y, q⟩ => ts_nil.run pins s' σ H' Q I q⟩)
    (fun s H C cl fp => ⟨fun pins s' σ H' Q I ⟨x, y, q⟩ => (he x y s H C cl fp).run pins s' σ H' Q I q⟩) hs hs1) fun σ H Q ⟨F, D0, D, ok', k⟩ => lc2_read (own := own) inn hm tgt tg2 ok' k hz fun R hR => ⟨F, D0, D, ok', hR⟩
theorem sg_setLc2 {P : Pt} {rest : List Stmt} {y : Str} {p2 spos : Pos} {own : List (Str × Nat)} (n : Nat) (vs1 : List Nat) (inn : α → List β) (hm : α → β → γ) (tgt : α → List Sl) (tg2 : α → β → List Sl) (hc : X.calm = true) (nd : X.N.Nodup) (hi : IG X tg it g (l.map fa)) (ok : BlkOk X.N X.env.scope scope own) (hz : (l.flatMap fun x => (inn x).map (hm x)).length ≤ 100000)
    (ht : ∀ x s H C cl fp, KG (Blk X s H scope C cl fp) tg (fa x) (wipeG g (own.map (·.2))) (tgt x) (own.map (·.2)))
    (hi1 : ∀ x s H C cl fp, IG (Blk X s H scope C cl fp) tg1 it1 (tgt x) ((inn x).map fb))
    (ht1 : ∀ x y s H C cl fp, KG (Blk X s H scope C cl fp) tg1 (fb y) (wipeG (tgt x) vs1) (tg2 x y) vs1)
    (he : ∀ x y s H C cl fp, EG (Blk X s H scope C cl fp) elt (tg2 x y) (fc (hm x y))) (h : SG X rest (g.set n (.l ((l.flatMap fun x => (inn x).map (hm x)).map fc))) P) (hv : ∀ i ∈ vs1, i ∈ own.map (·.2) := by decide) (hN : X.N[n]? = some y := by rfl) (hyl : X.env.scope.names.lookup y = some .local := by rfl)
    (hsw : swapsWith (.ListComp elt [⟨tg, it, [], 0⟩, ⟨tg1, it1, [], 0⟩] scope pos) (some (.Name y p2)) spos.line X.env = pure true := by exact sw_true rfl rfl rfl (by decide +kernel)) (hs : ∀ x, foldedSetIterable it X.env x = pure x := by intro _; rfl) (hs1 : ∀ env x, foldedSetIterable it1 env x = pure x := by intro _ _; rfl) :
    SG X (.Assign [.Name y p2] (.ListComp elt [⟨tg, it, [], 0⟩, ⟨tg1, it1, [], 0⟩] scope pos) spos :: rest) g P :=
  sg_cons (N := fun q => q = g.set n (.l ((l.flatMap fun x => (inn x).map (hm x)).map fc))) (ps_to (ps_setLc2 hc nd hN hyl hsw hi ok hv (g := fun v σ H Q => ∃ x, tgG (fa x) (wipeG g (own.map (·.2))) (tgt x) (own.map (·.2)) v σ H Q) (tt := fun σ H Q => ∃ x, tT (tgt x) true σ H Q) (wi1 := fun σ H R => ∃ x, iG (tgt x) ((inn x).map fb) σ H R)
    (g1 := fun v σ H Q => ∃ x y, tgG (fb y) (wipeG (tgt x) vs1) (tg2 x y) vs1 v σ H Q) (tt1 := fun σ H Q => ∃ x y, tT (tg2 x y) true σ H Q) (te := fun σ H Q => ∃ x y, tG (tg2 x y) (fc (hm x y)) σ H Q)
    (fun s H C cl fp => ⟨fun pins s' σ H' v u Q I rv ⟨x, q⟩ => (ht x s H C cl fp).run pins s' σ H' v u Q I rv q⟩)
    (fun s H C cl fp => ⟨fun pins s' σ H' Q I ⟨x, q⟩ => ts_nil.run pins s' σ H' Q I q⟩)
    (fun s H C cl fp => ⟨fun pins s' σ H' R I ⟨x, q⟩ => (hi1 x s H C cl fp).run pins s' σ H' R I q⟩)
    (fun s H C cl fp => ⟨fun pins s' σ H' v u Q I rv ⟨x, y, q⟩ => (ht1 x y s H C cl fp).run pins s' σ H' v u Q I rv q⟩)
    (fun s H C cl fp => ⟨fun pins s' σ H' Q I ⟨x, y, q⟩ => ts_nil.run pins s' σ H' Q I q⟩)
    (fun s H C cl fp => ⟨fun pins s' σ H' Q I ⟨x, y, q⟩ => (he x y s H C cl fp).run pins s' σ H' Q I q⟩) hs hs1) fun E σ H ⟨F, D0, D, ok', p⟩ => by
      exact lc2_read (own := own) (F := F) (D0 := D0) (D := D) (fc := fc) inn hm tgt tg2 ok' (show GiveN ((l.flatMap fun x => (inn x).map (hm x)).map fc) H D _ from fun q vs H' D' e nn hv => p.nx _ _ _ D' rfl ((ok'.grow e).setNew (s := .l ((l.flatMap fun x => (inn x).map (hm x)).map fc)) (o := .lst vs) nn rfl hv)) hz fun R hR => ⟨F, D0, D, ok', hR⟩) fun _ q => q ▸ h
end
end Rf

namespace Rf
open PySem PySem.Spec PyProof.Rows L2
/-! ### dicts of ints -/
def iK (m : List (Int × Int)) : KD := m.map fun z => (z.1, .int z.2)
def iT (m : List (List Int × Int)) : TD := m.map fun z => (z.1, .int z.2)
theorem val_int {κ : Type} [DecidableEq κ] (k : κ) : ∀ m : List (κ × Int), valG (m.map fun z => (z.1, V.int z.2)) k = (valG m k).map V.int
  | [] => rfl
  | (a, v) :: m => by
    have ih := val_int k m
    unfold valG at ih ⊢
    rw [List.map_cons, List.find?_cons, List.find?_cons]
    by_cases e : a = k
    · simp [e]
    · simp only [decide_eq_false e]; exact ih
theorem put_int {κ : Type} [DecidableEq κ] (k : κ) (v : Int) (m : List (κ × Int)) : putG (m.map fun z => (z.1, V.int z.2)) k (.int v) = (putG m k v).map fun z => (z.1, V.int z.2) := by
  have e : ((m.map fun z => (z.1, V.int z.2)).any fun kv => decide (kv.1 = k)) = m.any fun kv => decide (kv.1 = k) := by rw [List.any_map]; rfl
  unfold putG
  rw [e]
  by_cases q : (m.any fun kv => decide (kv.1 = k)) = true
  · rw [if_pos q, if_pos q, List.map_map, List.map_map]
    refine List.map_congr_left fun kv _ => ?_
    by_cases z : kv.1 = k
    · simp [z]
    · simp [z]
  · rw [if_neg q, if_neg q, List.map_append]; rfl
theorem iK_get (m : List (Int × Int)) (k d : Int) : rv ((valG (iK m) k).getD (.int d)) = rInt ((valG m k).getD d) := by
  unfold iK; rw [val_int]; cases valG m k <;> rfl
theorem iT_get (m : List (List Int × Int)) (k : List Int) (d : Int) : rv ((valG (iT m) k).getD (.int d)) = rInt ((valG m k).getD d) := by
  unfold iT; rw [val_int]; cases valG m k <;> rfl
theorem iK_put (m : List (Int × Int)) (k v : Int) : putG (iK m) k (.int v) = iK (putG m k v) := put_int k v m
theorem iT_put (m : List (List Int × Int)) (k : List Int) (v : Int) : putG (iT m) k (.int v) = iT (putG m k v) := put_int k v m
theorem compG_false {α β : Type} {c : α → Option Bool} {h : α → Option β} : ∀ {l : List α}, (∀ x ∈ l, c x = some false) → compG c h l = some []
  | [], _ => rfl
  | x :: l, q => by
    unfold compG
    rw [q x (List.mem_cons_self ..)]
    exact compG_false fun y hy => q y (List.mem_cons_of_mem _ hy)
theorem kg_in {X : Cx} {tg : Expr} {r : Rp} {g g' : List Sl} {vs vs' : List Nat} (h : KG X tg r g g' vs) (hv : ∀ i ∈ vs, i ∈ vs') : KG X tg r g g' vs' := pg_to h fun v σ H R ⟨F, D0, D, ok, hr, k⟩ => ⟨F, D0, D, ok, hr, fun σ' o ok' => k σ' ⟨o.1, fun i hi => o.2 i fun z => hi (hv i z)⟩ ok'⟩
section
variable {X : Cx} {g : List Sl} {a b e : Expr} {rest : List Expr} {pos p1 p2 tpos : Pos} {x : Str} {rs : List Rp} {m : List (Int × Int)} {α : Type} {fa : α → Rp} {l : List α}
theorem ig_itemsI {elts : List Expr} {kk : Nat} (he : EG X e g (rDK (kE (iK m)))) (hbase : attributeBase e "items" X.env (eval e X.env) = eval e X.env := by rfl) (hline : (p1.endLine == pos.line) = true := by rfl) :
    IG X (.Tuple elts kk tpos) (.Call (.Attribute e "items" p1) [] [] pos) g (m.map fun z => rT [rInt z.1, rInt z.2]) := by
  have h := ig_items (tpos := tpos) (kk := kk) (elts := elts) he hbase hline
  unfold iK at h
  rw [List.map_map] at h
  exact h
/-- len of a list of the def's own -/
theorem eg_lenO (n : Nat) (hm : X.mg "len" = none) (hgn : g[n]? = some (.l rs) := by rfl) (hN : X.N[n]? = some x := by rfl) (hg : Gl X "len" := by rfl) (he : starEach [.Name x p2] X.env = (false, eval (.Name x p2) X.env) :: starEach [] X.env := by rfl)
    (hv : Vis X.env.scope x := by first | exact Or.inl rfl | exact Or.inr (Or.inl rfl) | exact Or.inr (Or.inr rfl)) (hd : (x == ("__debug__" : Str)) = false := by decide) (hcd : (x == ("__classdict__" : Str)) = false := by decide) : EG X (.Call (.Name "len" p1) [.Name x p2] [] pos) g (rInt rs.length) :=
  pe_to (pe_callB call_len_seq hg hm boot_len (pa_cons (pe_var hN hv hd hcd) pa_nil he) (by decide) (by decide) he (by rfl)) fun σ H Q ⟨F, D0, D, ok, k⟩ => by
    obtain ⟨p, o, h1, h2, h3, h4, h5⟩ := ok.own n _ hgn rfl
    cases o with
    | lst vs => exact ⟨.ref p, h1, p, vs, rfl, .inl (SqL.of h2), k.here ok.sub (by rw [Reps.length h5]; rfl)⟩
    | _ => exact h5.elim
end

section
variable {P : Program} {w : World} {K : PySem.W.Frag} {mg : Str → Option Value} {base : Heap} {f : Addr} {fd : FuncData}

def oddStep (m : List (Int × Int)) (l : Int) : Option (List (Int × Int)) := if m.length ≤ 1000 then some (putG m (absI l) ((valG m (absI l)).getD 0 + (if 0 < l then 1 else -1))) else none
inductive relOdd : Rel
  | mk (ls : List Int) (m : List (Int × Int)) (h : foldM oddStep [] ls = some m) (hz : m.length ≤ 1000) (h0 : m.all (fun z => decide (z.2 = 0)) = true) : relOdd [rInts ls] rNon

theorem sc_odd_kind : FnScope ["letters", "more", "letter", "odd", "kind", "number"] ["letters"] (defScope (top 48)) := ⟨rfl, rfl, rfl, by decide +kernel, rfl, by decide +kernel, by decide +kernel⟩
theorem c_odd_kind (T : Fre mg) (F : FnP K "odd_kind" (top 48) f fd) (gm : mg "odd_kind" = some (.ref f)) : DefC P w K mg base "odd_kind" 1 relOdd := by
  refine ⟨f, fd, ["letters"], def_g F sc_odd_kind (fun A r h => by cases h <;> rfl) (by decide) (fun cdv A outer s H E hr As r h => ?_), gm, F.kp, F.bindsN fun _ _ _ _ _ _ us hl => match us, hl with | [_], _ => rfl⟩
  cases h with
  | mk ls m h hz h0 =>
    refine sg_setV 1 vg_k sc_odd_kind.nd ?_
    refine sg_for (fa := rInt) (l := ls) (fun m : List (Int × Int) => [.d (rInts ls), .k (kE (iK m)), .non, .non, .non, .non]) oddStep (fun m x => [.d (rInts ls), .k (kE (iK m)), .d (rInt x), .non, .non, .non]) [2] (ig_list (eg_name 0)) h (Le.refl _) rfl
      (fun s x => kg_name 2 sc_odd_kind.nd) (fun s x s' _ e => ?_) ?_
    · unfold oddStep at e
      by_cases hs : s.length ≤ 1000
      · rw [if_pos hs] at e
        cases e
        refine sg_kput (m := iK s) 1 hr.units rfl (by unfold iK; rw [List.length_map]; omega) (eg_add (j := if 0 < x then 1 else -1) (eg_eq (iK_get s _ 0) (eg_kget hr.units (dk_own 1) (eg_abs T.abs (eg_name 2)) eg_int)) (eg_if (k := decide (0 < x)) (bg_gt (eg_name 2) eg_int) (fun q => eg_eq (congrArg rInt (if_pos (of_decide_eq_true q)).symm) eg_int) fun q => eg_eq (congrArg rInt (if_neg (of_decide_eq_false q)).symm) (eg_neg eg_int))) (eg_abs T.abs (eg_name 2)) (sg_nil ?_)
        rw [iK_put]
        exact (LeS.same (.same (.non (.same (.same (.same .nil)))))).go
      · rw [if_neg hs] at e; cases e
    · refine sg_lockK (m := iK m) 1 rfl ?_
      refine sg_setLc (l := m) (fa := fun z : Int × Int => rT [rInt z.1, rInt z.2]) (fb := rInt) 3 [("kind", 4), ("number", 5)] (fun z => [.d (rInts ls), .d (rDK (kE (iK m))), .non, .non, .d (rInt z.1), .d (rInt z.2)]) (fun z => some (!decide (z.2 = 0))) (fun z => some z.1) (ys := []) rfl sc_odd_kind.nd (ig_itemsI (eg_name 1)) ?_ (blkOk_by (N := ["letters", "more", "letter", "odd", "kind", "number"]) (sc := defScope (top 48)) (by decide +kernel))
        (fun x s H C cl fp => kg_pair 4 5 rfl sc_odd_kind.nd) (fun x k s H C cl fp e => by cases e; exact ts_one (bg_nei (eg_name 5) eg_int)) (fun x y s H C cl fp _ e => by cases e; exact eg_name 4) ?_
      · unfold comp
        rw [if_pos (by omega)]
        refine compG_false fun x hx => ?_
        have q := List.all_eq_true.mp h0 x hx
        show some (!decide (x.2 = 0)) = some false
        rw [q]; rfl
      · exact sg_ret (eg_if (k := !decide (([] : List Int) = [])) (bg_neO (l := []) dat_int hr.units 3 rfl) (fun q => nomatch q) fun _ => eg_non) rfl

def nextsStep (found : List Int) (w : List Int) : Option (List Int) := if 0 < w.length ∧ w.length ≤ 100 ∧ found.length ≤ 1000 then some (found ++ (rangeI w.length).map fun i => (found.length : Int) + (i + 1) % (w.length : Int)) else none
inductive relNexts (K : PySem.W.Frag) : Rel
  | mk (ws : List (List Int)) (ns : List Int) (h : foldM nextsStep [] ws = some ns) : relNexts K [rL (ws.map (rWord K))] (rTI ns)
theorem rangeI_len {n : Int} : (rangeI n).length = n.toNat := by unfold rangeI; rw [List.length_map, List.length_range]

theorem sc_nexts_of : FnScope ["words", "found", "word", "begin", "at"] ["words"] (defScope (top 49)) := ⟨rfl, rfl, rfl, by decide +kernel, rfl, by decide +kernel, by decide +kernel⟩
theorem c_nexts_of (T : Fre mg) (W : KWord K) (F : FnP K "nexts_of" (top 49) f fd) (gm : mg "nexts_of" = some (.ref f)) : DefC P w K mg base "nexts_of" 1 (relNexts K) := by
  refine ⟨f, fd, ["words"], def_g F sc_nexts_of (fun A r h => by cases h <;> rfl) (by decide) (fun cdv A outer s H E hr As r h => ?_), gm, F.kp, F.bindsN fun _ _ _ _ _ _ us hl => match us, hl with | [_], _ => rfl⟩
  cases h with
  | mk ws ns h =>
    refine sg_setV 1 (vg_l (ng_lst ag_nil)) sc_nexts_of.nd ?_
    refine sg_for (fa := rWord K) (l := ws) (fun m : List Int => [.d (rL (ws.map (rWord K))), .l (m.map rInt), .non, .non, .non]) nextsStep (fun m x => [.d (rL (ws.map (rWord K))), .l (m.map rInt), .d (rWord K x), .non, .non]) [2] (ig_list (eg_name 0)) h (Le.refl _) rfl
      (fun s x => kg_name 2 sc_nexts_of.nd) (fun s x s' _ e => ?_) (sg_ret (eg_tupleO 1 T.tuple) rfl)
    unfold nextsStep at e
    by_cases hs : 0 < x.length ∧ x.length ≤ 100 ∧ s.length ≤ 1000
    · rw [if_pos hs] at e
      cases e
      refine sg_set 3 (eg_lenO 1 T.len) sc_nexts_of.nd ?_
      rw [List.length_map]
      refine sg_extend 1 rfl (eg_n (ng_lc (fa := rInt) (fb := rInt) (l := rangeI x.length) [("at", 4)] (fun i => [.d (rL (ws.map (rWord K))), .l (s.map rInt), .d (rWord K x), .d (rInt s.length), .d (rInt i)]) (fun _ => some true) (fun i => some ((s.length : Int) + (i + 1) % (x.length : Int))) rfl sc_nexts_of.nd (ig_range T.range (by omega) (eg_fld W.c.cl (W.n _ (by decide)) (eg_name 2))) (comp_all (by rw [rangeI_len]; omega)) (blkOk_by (N := ["words", "found", "word", "begin", "at"]) (sc := defScope (top 49)) (by decide +kernel))
        (fun x s H C cl fp => kg_name 4 sc_nexts_of.nd) (fun x k s H C cl fp e => by cases e; exact ts_nil) (fun i y s H C cl fp _ e => by cases e; exact eg_add (eg_name 3) (eg_mod (by omega) (eg_add (eg_name 4) eg_int) (eg_fld W.c.cl (W.n _ (by decide)) (eg_name 2)))))) ?_ (sg_nil ?_)
      · rw [List.length_map, List.length_map, List.length_map, rangeI_len]; omega
      · rw [List.map_append]
        exact (LeS.same (.same (.non (.non (.same .nil))))).go
    · rw [if_neg hs] at e; cases e

def numbersM (ws : List (List Int)) : List Int := (enumI ws).flatMap fun z => z.2.map fun _ => z.1
inductive relNumbers (K : PySem.W.Frag) : Rel
  | mk (ws : List (List Int)) (hz : (numbersM ws).length ≤ 1000) : relNumbers K [rL (ws.map (rWord K))] (rTI (numbersM ws))

theorem sc_numbers_of : FnScope ["words", "number", "word", "letter"] ["words"] (defScope (top 50)) := ⟨rfl, rfl, rfl, by decide +kernel, rfl, by decide +kernel, by decide +kernel⟩
theorem c_numbers_of (T : Fre mg) (W : KWord K) (F : FnP K "numbers_of" (top 50) f fd) (gm : mg "numbers_of" = some (.ref f)) : DefC P w K mg base "numbers_of" 1 (relNumbers K) := by
  refine ⟨f, fd, ["words"], def_g F sc_numbers_of (fun A r h => by cases h <;> rfl) (by decide) (fun cdv A outer s H E hr As r h => ?_), gm, F.kp, F.bindsN fun _ _ _ _ _ _ us hl => match us, hl with | [_], _ => rfl⟩
  cases h with
  | mk ws hz =>
    refine sg_ret (eg_tupleL T.tuple (eg_n (ng_lc2 (fa := fun z : Int × List Int => rT [rInt z.1, rWord K z.2]) (fb := rInt) (fc := rInt) (l := enumI ws) (own := [("number", 1), ("word", 2), ("letter", 3)]) [3] (fun z => z.2) (fun z _ => z.1) (fun z => [.d (rL (ws.map (rWord K))), .d (rInt z.1), .d (rWord K z.2), .non]) (fun z y => [.d (rL (ws.map (rWord K))), .d (rInt z.1), .d (rWord K z.2), .d (rInt y)]) rfl sc_numbers_of.nd ?_ (blkOk_by (N := ["words", "number", "word", "letter"]) (sc := defScope (top 50)) (by decide +kernel)) (Nat.le_trans hz (by decide))
      (fun x s H C cl fp => ?_) (fun x s H C cl fp => ig_tup (eg_fld W.c.cl (W.n _ (by decide)) (eg_name 2))) (fun x y s H C cl fp => kg_name 3 sc_numbers_of.nd) (fun x y s H C cl fp => eg_name 1)))) rfl
    · rw [← enumR_map]
      exact ig_enum false T.enumerate (eg_name 0)
    · exact kg_in (kg_pair 1 2 rfl sc_numbers_of.nd) (by decide)

end
end Rf

namespace Rf
open PySem PySem.Spec PyProof.Rows L2
open Sem (wp)

/-! ### set(xs), xs a list of ints -/
abbrev es0 (w : World) : Obj := { cls := .type "set", dict := none, data := .set #[] 0 (.fresh 0 0 (!w.params.followText "set-order")) }
section
variable {P : Program} {w : World} {A : Around} {E : Value → Shared → Prop} {s : Shared}
theorem call_set_listI {l : Addr} {items : Array Value} (ns : List Int) {Q : Value → Shared → Prop} (hh : A.handled = none) (hl : s.heap.IsList l items) (hit : IntsAre items.toList ns) (room : ns.length + 1 < scanBound)
    (fin : ∀ (hp : Heap) (tk c : Nat), SetR w hp s.heap.objs.size (fun j => decide (j ∈ ns)) c → c ≤ ns.length → (∀ b o, s.heap.get? b = some o → hp.get? b = some o) → Q (.ref s.heap.objs.size) { s with heap := hp, toks := tk }) :
    wpAny (model P w) A (call (.type "set") [.ref l]) Q E s := by
  have isz : items.size = ns.length := by rw [← Array.length_toList]; exact hit.length
  obtain ⟨c, tl, hmro⟩ := F.called_set.mro
  have hmade := F.called_set.made
  have hsub := F.called_set.sub
  refine wpAny_call (codeAny_of_tree (wpAny_pure ⟨Code.quiet_builtin _ (by decide +kernel), codeAny_builtin F.entry_type_call ?_⟩))
  rw [Around.under_plain (weight_type_call_type "set" [.ref l] []) rfl]
  have h1 := F.called_set.notType
  have h2 := F.called_set.canCreate
  have hct := F.typeCall_set_1 (.ref l)
  repeat (any_goals (first | assumption | wp_step))
  refine codeAny_mono (code_set_led1 (.ref l) (E := E) (Q₁ := fun ob z => ob = .ref s.heap.objs.size ∧ z = { s with heap := s.heap.push (es0 w) }) ⟨rfl, rfl⟩) fun r z hr => ?_
  match r, hr with
  | .error e, hr => exact hr
  | .ok (.ret ob), hr =>
    obtain ⟨rfl, rfl⟩ := hr
    have at0 : (s.heap.push (es0 w)).get? s.heap.objs.size = some (es0 w) := Heap.get?_push_size _ rfl
    have hT : Shared.TypeIs { s with heap := s.heap.push (es0 w) } (.ref s.heap.objs.size) "set" := ⟨_, at0, rfl⟩
    have hli := F.called_set.init.lookup
    have hbi := F.called_set.init.bind (.ref s.heap.objs.size)
    repeat (any_goals (first | assumption | wp_step))
    refine codeAny_mono (codeAny_call_builtin (R := wants (fun r z => r = .none ∧ ∃ hp tk c, z = { s with heap := hp, toks := tk } ∧ SetR w hp s.heap.objs.size (fun j => decide (j ∈ ns)) c ∧ c ≤ ns.length ∧ (∀ b o, s.heap.get? b = some o → hp.get? b = some o)) E)
      F.called_set.init.plain F.entry_set_init (check_set_init_1 hT ?_)) fun r2 z2 hr2 => ?_
    · obtain ⟨⟨ocls, od, odt, osl⟩, hol, hcl, nl, hdl⟩ := hl
      simp only at hcl hdl
      subst hcl hdl
      have hol' : (s.heap.push (es0 w)).get? l = some { cls := .type "list", dict := od, data := .seq items nl, slots := osl } := Heap.get?_push_of_some _ hol
      have q1 := F.sub_list_set
      have q2 := F.sub_list_frozenset
      have q3 : (Value.type "list" == Value.type "dict") = false := by decide
      have hl1 : (s.heap.push (es0 w)).IsList l items := ⟨_, hol', rfl, nl, rfl⟩
      unfold Builtin.«set.__init__» noKeywords Builtin.Frozenset.updateFrom
      generalize ePI : pyIter = PI
      wp_walk
      subst ePI
      refine wpAny_pyIter_list hl1 (wpAny_bind (wpAny_runValue ?_))
      have ltl : l < s.heap.objs.size := Heap.lt_size hol
      have calm : A.in1.in1.in1.handled = none := by simp [hh]
      have neI : l ≠ (s.heap.push (es0 w)).objs.size := by rw [Heap.size_push]; exact Nat.ne_of_lt (Nat.lt_succ_of_lt ltl)
      have offS : s.heap.objs.size ∉ [(s.heap.push (es0 w)).objs.size, l] := by
        rw [Heap.size_push]
        simp only [List.mem_cons, List.mem_singleton, List.not_mem_nil, or_false, not_or]
        exact ⟨Nat.ne_of_lt (Nat.lt_succ_self _), Nat.ne_of_gt ltl⟩
      have vals : ∀ (i : Nat) (v : Value), items[i]? = some v → ∃ k t, ns[i]? = some k ∧ v = .int k t := fun i v hv => by
        have lt : i < ns.length := by rw [← isz]; exact (Array.getElem?_eq_some_iff.mp hv).1
        obtain ⟨t, e⟩ := IntsAre.int_at hit i v (by rw [Array.getElem?_toList]; exact hv)
        refine ⟨ns[i], t, List.getElem?_eq_getElem lt, ?_⟩
        rw [e, List.getD_eq_getElem?_getD, List.getElem?_eq_getElem lt]; rfl
      refine set_update_ints ((Walks.list calm _ l neI items).toS) s.heap.objs.size offS ns isz room vals (items.size - 0) 0 _ (by omega) (Nat.zero_le _) ⟨⟨_, Heap.get?_push_size _ rfl, rfl, rfl⟩, (hl1.push _)⟩ ?start ?stop
      case start =>
        exact ⟨0, Nat.le_refl 0, setR_new_at (Heap.get?_push_of_some _ at0)⟩
      case stop =>
        rintro ⟨hp, g2, d2, t2, o2⟩ c2 mv lec R2
        have eg : g2 = s.gens := mv.gens
        have ed : d2 = s.drawn := mv.drawn
        have eo : o2 = s.os := mv.os
        subst eg ed eo
        show wpAny _ _ _ _ _ _
        refine wpAny_pure ?_
        show wpAny _ _ (ret Value.none) _ _ _
        rw [isz] at lec
        refine wpAny_pure ⟨rfl, hp, t2, c2, rfl, R2, lec, fun b o e => ?_⟩
        have b0 : b < s.heap.objs.size := Heap.lt_size e
        refine mv.heap b o ?_ (Heap.get?_push_of_some _ (Heap.get?_push_of_some _ e))
        simp only [List.mem_cons, List.mem_singleton, List.not_mem_nil, or_false, not_or]
        exact ⟨Nat.ne_of_lt b0, by rw [Heap.size_push]; exact Nat.ne_of_lt (Nat.lt_succ_of_lt b0)⟩
    · match r2, hr2 with
      | .error e, hr2 => exact hr2
      | .ok (.ret r), hr2 =>
        obtain ⟨rfl, hp, tk, c2, rfl, R2, lec, kp⟩ := hr2
        repeat (any_goals (first | assumption | wp_step))
        exact fin _ _ _ R2 lec kp
end
end Rf

namespace Rf
open PySem PySem.Spec PyProof.Rows L2

theorem intsAreOf : ∀ {ns : List Int} {us : List Value}, Vals (ns.map V.int) us → IntsAre us ns
  | [], _, .nil => .nil
  | n :: ns, _, .cons ⟨k, e⟩ t => by subst e; exact .cons n k (intsAreOf t)
/-- tuples of which it is known that they have no dict (methods may be called) -/
def rTd (rs : List Rp) : Rp := ⟨fun H v => ∃ a vs ob, v = .ref a ∧ H a = some (.frz ob (.tup vs)) ∧ ob.cls = .type "tuple" ∧ ob.dict = none ∧ Reps H rs vs, fun e ⟨a, vs, ob, h1, h2, h3, h4, h5⟩ => ⟨a, vs, ob, h1, e _ _ h2, h3, h4, h5.mono e⟩⟩
abbrev rTDi (ns : List Int) : Rp := rTd (ns.map rInt)
theorem sqT_frz {K : PySem.W.Frag} {H : Hp} {a : Addr} {ob : Obj} {vs : List V} (h : H a = some (.frz ob (.tup vs))) : SqT K H a vs := .inl (.inr ⟨ob, h⟩)
def rTupD (K : PySem.W.Frag) : List V → Hp → VK → Prop := fun xs H Q => ∃ p ys, xs = [.ref p] ∧ SqL K H p ys ∧ ∀ l ob, ob.cls = .type "tuple" → ob.dict = none → H l = none → Q (.ref l) (upd H l (.frz ob (.tup ys)))
theorem cr_tupD {X : Cx} : CallR X (.type "tuple") (rTupD X.K) := by
  intro pins s σ H xs us Q I r h
  obtain ⟨p, ys, rfl, hq, q⟩ := h
  rw [Vals.ref1 r]
  obtain ⟨its, r', pl, hz⟩ := I.list hq
  have hlen := r'.length
  refine call_tuple_list pl.isList (fun hp kp => ?_) (by simp only [List.size_toArray]; omega)
  have I1 : Inv X pins σ H { s with heap := hp } := I.kept (t' := s.toks) kp
  have new : ObjOk X.prog X.w (upd H hp.objs.size (.frz { cls := .type "tuple", data := .seq its.toArray } (.tup ys))) (hp.push { cls := .type "tuple", data := .seq its.toArray }) hp.objs.size (.frz { cls := .type "tuple", data := .seq its.toArray } (.tup ys)) :=
    ⟨Heap.get?_push_size _ rfl, hz, its, r', IsTup.new _ _⟩
  exact ⟨.ref hp.objs.size, _, I1.laid (t' := s.toks) (fun b o e => Heap.get?_push_of_some _ e) (Nat.le_refl _) new, rfl, q _ _ rfl rfl (I1.hok.fresh (Nat.le_refl _))⟩
section
variable {X : Cx} {g : List Sl} {a b e o : Expr} {es : List Expr} {pos p1 p2 p3 tpos : Pos} {r : Rp} {rs : List Rp} {x : Str} {i : Int} {ns : List Int} {α : Type} {fa : α → Rp} {l : List α}
theorem eg_tupleLd (hm : X.mg "tuple" = none) (ha : EG X a g (rL rs)) (hg : Gl X "tuple" := by rfl) (he : starEach [a] X.env = (false, eval a X.env) :: starEach [] X.env := by rfl) : EG X (.Call (.Name "tuple" p1) [a] [] pos) g (rTd rs) :=
  pe_to (pe_callTy cr_tupD hg hm boot_tuple (ag_cons ha ag_nil he) (by decide) (by decide) he (by rfl)) fun σ H Q ⟨F, D0, D, ok, k⟩ => ⟨F, D0, D, ok, fun vs H' D' e1 hvs => by
    cases hvs with
    | cons h1 t =>
      cases t
      obtain ⟨p, ws, rfl, h2, h3⟩ := h1
      refine ⟨p, ws, rfl, SqL.of (e1.i _ _ h2), fun q ob c1 c2 nq => k (.ref q) _ _ (e1.trans (Grow.new e1.i nq)) ⟨q, ws, ob, rfl, upd_same, c1, c2, h3.mono (same_upd (e1.i.free nq))⟩⟩⟩
theorem eg_lenTd (hm : X.mg "len" = none) (ha : EG X a g (rTd (l.map fa))) (hg : Gl X "len" := by rfl) (he : starEach [a] X.env = (false, eval a X.env) :: starEach [] X.env := by rfl) : EG X (.Call (.Name "len" p1) [a] [] pos) g (rInt l.length) :=
  eg_bi call_len_seq hm boot_len (ag_cons ha ag_nil he) (fun vs H D Q s h k => by
    cases h with | cons h1 t => cases t; obtain ⟨p, ws, ob, rfl, h2, _, _, h3⟩ := h1; exact ⟨p, ws, rfl, .inr (sqT_frz (s _ _ h2)), k.here s (by rw [← h3.length, List.length_map]; rfl)⟩) hg (by decide) (by decide) he
theorem eg_ixTd {y : α} (ha : EG X a g (rTd (l.map fa))) (hb : EG X b g (rInt i)) (h : atI l i = some y) (hs : PlainIx b := by exact fun _ _ => rfl) : EG X (.Subscript a b pos) g (fa y) := pe_to (pe_ix ix_tup ha hb hs) fun _ _ _ q => two (ta := tG g (rTd (l.map fa))) (tb := tG g (rInt i))
  (fun x z H D Q s hx hz k => by
    obtain ⟨p, vs, ob, rfl, h2, _, _, h3⟩ := hx
    obtain ⟨v, h4, h5⟩ := reps_at h3 (atI_map (f := fa) h)
    exact ⟨p, vs, i, v, rfl, hz, sqT_frz (s _ _ h2), h4, k.here s h5⟩) q
theorem walks_tupD {K : PySem.W.Frag} {p : Addr} {ob : Obj} {vs : List V} {D1 : Hp} (h : D1 p = some (.frz ob (.tup vs))) (h2 : Reps D1 rs vs) : Walks (Itt K p) D1 rs := fun i H' D' e1 e2 => by
  have q : SqT K H' p vs := sqT_frz (e2 _ _ (e1 _ _ h))
  refine ⟨fun r hr => ?_, fun hi => ⟨vs, q, by rw [← h2.length]; exact Nat.le_of_eq hi⟩⟩
  obtain ⟨v, h3, h4⟩ := reps_get h2 hr
  refine ⟨⟨vs, v, q, h3⟩, fun x H'' hy => ?_⟩
  obtain ⟨rfl, hy⟩ := hy
  have z := hy vs q
  rw [h3] at z; cases z
  exact ⟨D', Grow.refl e2, r.mono e1 h4⟩
theorem ig_tupD {tg : Expr} (he : EG X e g (rTd rs)) : IG X tg e g rs :=
  pi_to (pi_tup he) fun σ H R ⟨F, D0, D, ok, k⟩ => ⟨F, D0, D, ok, fun v H' D' e hv => by
    obtain ⟨p, vs, ob, rfl, h2, _, _, h3⟩ := hv
    exact ⟨p, rfl, ⟨vs, sqT_frz (e.i _ _ h2)⟩, k _ H' D' e (walks_tupD h2 h3)⟩⟩
theorem ig_enumD {elts : List Expr} {kk : Nat} (hm : X.mg "enumerate" = none) (h1 : EG X e g (rTd rs)) (hg : Gl X "enumerate" := by rfl) (hs : starEach [e] X.env = (false, eval e X.env) :: starEach [] X.env := by rfl) :
    IG X (.Tuple elts kk tpos) (.Call (.Name "enumerate" p1) [e] [] pos) g (enumR rs) :=
  pi_to (pi_enum2 true hg hm (ag_cons h1 ag_nil hs) hs) fun σ H R ⟨F, D0, D, ok, k⟩ => ⟨F, D0, D, ok, fun vs H' D' e hvs => by
    cases hvs with
    | cons q1 t =>
      cases t
      obtain ⟨p, vs, ob, rfl, h2, _, _, h3⟩ := q1
      exact ⟨p, vs, rfl, sqT_frz (e.i _ _ h2), k _ H' D' e (walks_e (fun H s => sqT_frz (s _ _ h2)) h3)⟩⟩
/-! ### t.count(i) -/
def IsTd (H : Hp) (p : Addr) (ms : List Int) : Prop := ∃ ob : Obj, H p = some (.frz ob (.tup (ms.map V.int))) ∧ ob.cls = .type "tuple" ∧ ob.dict = none
def tCnt (to : TE) (ta : TA) : TE := fun σ H Q => to σ H fun x H1 => (∃ (p : Addr) (ms : List Int), x = V.ref p ∧ IsTd H1 p ms) ∧ ta σ H1 fun ys H2 => ∃ (p : Addr) (ms : List Int) (k : Int), x = V.ref p ∧ IsTd H2 p ms ∧ ys = [V.int k] ∧ Q (.int (ms.count k : Nat)) H2
theorem eqk_counts {k : Int} : ∀ {us : List Value} {ns : List Int}, IntsAre us ns → us.countP (eqk k) = ns.count k
  | _, _, .nil => rfl
  | _, _, .cons n t h => by
    rw [List.countP_cons, List.count_cons, eqk_counts (k := k) h]; rfl
theorem pe_count {to : TE} {ta : TA} (ho : PE X o to) (ha : PA X (e :: []) ta) (hbase : attributeBase o "count" X.env (eval o X.env) = eval o X.env := by rfl)
    (hfew : ((backTo pos (starEach (e :: []) X.env)).all (fun x => !x.1) && (backToKw pos (keywordEach [] X.env)).all (fun x => x.1.isSome) && decide ((e :: []).length + ([] : List Keyword).length + (if ([] : List Keyword).isEmpty then 0 else 1) < 30)) = true := by rfl)
    (hline : (p1.endLine == pos.line) = true := by rfl) (hs : starEach (e :: []) X.env = (false, eval e X.env) :: starEach [] X.env := by rfl) (hplain : (backTo pos (starEach [] X.env)).any (·.1) = false := by rfl) : PE X (.Call (.Attribute o "count" p1) [e] [] pos) (tCnt to ta) := ⟨fun pins s σ H Q I h => by
  refine wpAny_Call_method_late hbase hfew hline rfl (thn (ho.run pins s σ H _ I h) fun v s1 ⟨x, H1, I1, r1, ⟨p, ms, ex, ob, hp, hc, hd⟩, q1⟩ => ?_)
  subst ex
  obtain rfl : v = Value.ref p := r1
  have hob := (I1.hok p _ hp).1
  refine ⟨"tuple", "tuple.count", PySem.F.plainAttrs_tuple, PySem.F.slot_tuple_count, PySem.F.type_tuple_count, ⟨ob, hob, hc⟩, fun a ea => ?_, ?_⟩
  · cases ea; exact ⟨ob, hob, hd⟩
  have hA := ha.run pos pins s1 σ H1 _ I1 q1
  rw [hs] at hA ⊢
  refine Calls.callWith_builtin (by show (false || (backTo pos (starEach [] X.env)).any (·.1)) = false; rw [hplain]; rfl) (Calls.evalArgs_plain (thn hA fun us s2 ⟨vs, H2, I2, r2, p2, m2, k, ep, ⟨ob2, hp2, hc2, hd2⟩, ey, qq⟩ => ?_))
  subst ey
  cases ep
  cases r2 with
  | cons rk t =>
    cases t
    obtain ⟨tk, rfl⟩ := rk
    obtain ⟨hob2, hz, its, rv, o3, ho3, _, n, hd3⟩ := I2.hok p _ hp2
    rw [hob2] at ho3; cases ho3
    obtain ⟨cls, dd, data, sl⟩ := ob2
    simp only at hc2 hd2 hd3
    subst hc2 hd2 hd3
    have hi := intsAreOf rv
    refine call_meets PySem.F.slot_tuple_count ⟨_, hob2, rfl⟩ PySem.F.entry_tuple_count (PySem.F.args_tuple_count_2 _ _) (SeqAt.tuple_countAt p its.toArray n none sl (.int k tk) (eqk k)) ⟨hob2, fun y hy => (eqk_gives hi y (by simpa using hy)).at _ _, ?_⟩
    have ec : its.toArray.toList.countP (eqk k) = m2.count k := eqk_counts hi
    refine ⟨.int (m2.count k : Nat), H2, I2.tok _, ⟨s2.toks, ?_⟩, qq⟩
    rw [ec]⟩
theorem eg_count (ho : EG X o g (rTDi ns)) (ha : EG X e g (rInt i)) (hbase : attributeBase o "count" X.env (eval o X.env) = eval o X.env := by rfl)
    (hfew : ((backTo pos (starEach (e :: []) X.env)).all (fun x => !x.1) && (backToKw pos (keywordEach [] X.env)).all (fun x => x.1.isSome) && decide ((e :: []).length + ([] : List Keyword).length + (if ([] : List Keyword).isEmpty then 0 else 1) < 30)) = true := by rfl)
    (hline : (p1.endLine == pos.line) = true := by rfl) (hs : starEach (e :: []) X.env = (false, eval e X.env) :: starEach [] X.env := by rfl) (hplain : (backTo pos (starEach [] X.env)).any (·.1) = false := by rfl) : EG X (.Call (.Attribute o "count" p1) [e] [] pos) g (rInt (ns.count i : Nat)) :=
  pe_to (pe_count ho (ag_cons ha ag_nil hs) hbase hfew hline hs hplain) fun σ H Q ⟨F, D0, D, ok, k⟩ => ⟨F, D0, D, ok, fun v H1 D1 e1 hv => by
    obtain ⟨p, vs, ob, rfl, h2, h3, h4, h5⟩ := hv
    rw [reps_ints h5] at h2
    refine ⟨⟨p, ns, rfl, ob, e1.i _ _ h2, h3, h4⟩, F, D0, D1, ok.grow e1, fun ys H2 D2 e2 hys => ?_⟩
    cases hys with
    | cons q1 t =>
      cases t
      cases q1
      exact ⟨p, ns, i, rfl, ⟨ob, e2.i _ _ (e2.d _ _ h2), h3, h4⟩, rfl, (k.later (e1.trans e2)).here e2.i rfl⟩⟩
/-! ### factorial(i) -/
def factN : Nat → Nat
  | 0 => 1
  | n + 1 => factN n * (n + 1)
theorem factN_is : ∀ n, Builtin.Math.factorialNat n = factN n
  | 0 => rfl
  | n + 1 => by rw [PySem.W.mc_fac_succ, factN_is n]; rfl
def rFact : List V → Hp → VK → Prop := fun xs H Q => ∃ n : Nat, xs = [.int n] ∧ n ≤ 20000 ∧ Q (.int (factN n : Nat)) H
theorem cr_fact : CallR X (.builtin "math.factorial") rFact := by
  intro pins s σ H vs us Q I r h
  obtain ⟨n, rfl, hn, q⟩ := h
  cases r with
  | cons rk t =>
    cases t
    obtain ⟨tk, rfl⟩ := rk
    refine PySem.W.mc_factorial (by omega) (by omega) fun _ => ⟨.int (factN n : Nat), H, I.tok _, ⟨s.toks, ?_⟩, q⟩
    rw [← factN_is]; rfl
theorem eg_fact {n : Nat} (hn : n ≤ 20000) (hm : X.mg x = some (.builtin "math.factorial")) (ha : EG X e g (rInt n)) (hg : Gl X x := by rfl) (hdb : (x == ("__debug__" : Str)) = false := by decide) (he : starEach (e :: []) X.env = (false, eval e X.env) :: starEach [] X.env := by rfl)
    (hpl : (backTo pos (starEach [] X.env)).any (·.1) = false := by rfl) : EG X (.Call (.Name x p1) [e] [] pos) g (rInt (factN n : Nat)) :=
  pe_to (pe_callBfun cr_fact hg hm (ag_cons ha ag_nil he) hdb he hpl) fun σ H Q ⟨F, D0, D, ok, k⟩ => ⟨F, D0, D, ok, fun vs H' D' e1 hvs => by
    cases hvs with
    | cons q1 t =>
      cases t
      cases q1
      exact ⟨n, rfl, hn, (k.later e1).here e1.i rfl⟩⟩
/-! ### set(xs) -/
def rSetL (w : World) (K : PySem.W.Frag) : List V → Hp → VK → Prop := fun xs H Q => ∃ (p : Addr) (ms : List Int), xs = [.ref p] ∧ SqL K H p (ms.map V.int) ∧ ms.length ≤ 1000 ∧ ∀ q n, H q = none → n ≤ ms.length → Q (.ref q) (upd H q (SetO w q (fun j => decide (j ∈ ms)) n))
theorem cr_setL (hc : X.calm = true) : CallR X (.type "set") (rSetL X.w X.K) := by
  intro pins s σ H vs us Q I r h
  obtain ⟨p, ms, rfl, hq, hz, q⟩ := h
  rw [Vals.ref1 r]
  obtain ⟨its, rv, pl, _⟩ := I.list hq
  refine call_set_listI ms (I.ok.hd hc) pl.isList (by simpa using intsAreOf rv) (by unfold scanBound; omega) fun hp tk c R lec kp => ?_
  exact ⟨.ref s.heap.objs.size, _, I.laid (t' := tk) kp (Nat.le_refl _) (setO_new R), rfl, q _ c (I.hok.fresh (Nat.le_refl _)) lec⟩
theorem set_l (hz : ns.length ≤ 1000) (hc : X.calm = true) (hm : X.mg "set" = none) (ha : EG X e g (rInts ns)) (hg : Gl X "set" := by rfl) (he : starEach [e] X.env = (false, eval e X.env) :: starEach [] X.env := by rfl) : SetG X (.Call (.Name "set" p1) [e] [] pos) g ns :=
  pe_to (pe_callTy (cr_setL hc) hg hm boot_set (ag_cons ha ag_nil he) (by decide) (by decide) he (by rfl)) fun σ H Q ⟨F, D0, D, ok, k⟩ => ⟨F, D0, D, ok, fun vs H' D' e1 hvs => by
    cases hvs with
    | cons q1 t =>
      cases t
      obtain ⟨p, ws, rfl, h2, h3⟩ := q1
      rw [reps_ints h3] at h2
      exact ⟨p, ns, rfl, SqL.of (e1.i _ _ h2), hz, fun q n nq hn => k q _ n _ D' (e1.trans (Grow.own e1.i nq)) upd_same hn fun j => by simp⟩⟩
end
end Rf

namespace Rf
open PySem PySem.Spec PyProof.Rows L2
abbrev fRims : List Str := ["words", "letters", "many", "bands", "is_short", "nexts", "numbers"]
abbrev KRims (K : PySem.W.Frag) : Prop := KlsA K (He.ga K "Rims") fRims
def lettersOf (ws : List (List Int)) : List Int := ws.flatMap fun x => x.map fun y => y
abbrev rimsF (K : PySem.W.Frag) (ws : List (List Int)) (nx : List Int) : List (Str × Rp) := [("words", rT (ws.map (rWord K))), ("letters", rTDi (lettersOf ws)), ("many", rInt (lettersOf ws).length), ("bands", rInt ((lettersOf ws).length / 2)), ("is_short", rSB), ("nexts", rTI nx), ("numbers", rTI (numbersM ws))]
abbrev rRims (K : PySem.W.Frag) (ws : List (List Int)) (nx : List Int) : Rp := Rf.rI (He.ga K "Rims") (rimsF K ws nx)
theorem all_ok {α : Type} {l : List α} : ((l.map fun _ => true).all id) = true := by rw [all_mapB]; simp

section
variable {P : Program} {w : World} {K : PySem.W.Frag} {mg : Str → Option Value} {base : Heap} {f : Addr} {fd : FuncData}

inductive relNeedR (K : PySem.W.Frag) : Rel
  | mk (fs : List (Str × Rp)) : relNeedR K [Rf.rI (He.ga K "Rims") fs] rNon

theorem sc_need_rims : FnScope ["value"] ["value"] (defScope (top 46)) := ⟨rfl, rfl, rfl, by decide +kernel, rfl, by decide +kernel, by decide +kernel⟩
theorem c_need_rims (T : Fre mg) (R : KRims K) (gR : mg "Rims" = some (.ref (He.ga K "Rims"))) (F : FnP K "need_rims" (top 46) f fd) (gm : mg "need_rims" = some (.ref f)) : DefC P w K mg base "need_rims" 1 (relNeedR K) := by
  refine ⟨f, fd, ["value"], def_g F sc_need_rims (fun A r h => by cases h <;> rfl) (by decide) (fun cdv A outer s H E hr As r h => ?_), gm, F.kp, F.bindsN fun _ _ _ _ _ _ us hl => match us, hl with | [_], _ => rfl⟩
  cases h with
  | mk fs => exact sg_ifF (k := false) (bg_not (k := true) (bg_val (eg_isi T.isinstance (eg_name 0) (eg_glob (v := .ref (He.ga K "Rims")) gR rfl) (ty_I R.c) (.own _) R.kit))) rfl (sg_nil rfl)

inductive relNeedP (K : PySem.W.Frag) : Rel
  | mk (ws : List (List Int)) (nx : List Int) (p : Int) (h : 0 ≤ p ∧ p < (lettersOf ws).length) : relNeedP K [rRims K ws nx, rInt p] rNon

theorem sc_need_place : FnScope ["rims", "value"] ["rims", "value"] (defScope (top 47)) := ⟨rfl, rfl, rfl, by decide +kernel, rfl, by decide +kernel, by decide +kernel⟩
theorem c_need_place (R : KRims K) (C1 : DefC P w K mg base "is_within" 2 (relWithin K)) (F : FnP K "need_place" (top 47) f fd) (gm : mg "need_place" = some (.ref f)) : DefC P w K mg base "need_place" 3 (relNeedP K) := by
  refine ⟨f, fd, ["rims", "value"], def_g F sc_need_place (fun A r h => by cases h <;> rfl) (by decide) (fun cdv A outer s H E hr As r h => ?_), gm, F.kp, F.bindsN fun _ _ _ _ _ _ us hl => match us, hl with | [_, _], _ => rfl⟩
  cases h with
  | mk ws nx p h =>
    refine sg_ifF (k := false) (bg_not (k := true) (bg_val (eg_call C1 (ag_cons (eg_name 1) (ag_cons eg_int (ag_cons (eg_sub (eg_fld R.c.cl (R.n _ (by decide)) (eg_name 0)) eg_int) ag_nil))) (.inl ⟨p, some 0, some ((lettersOf ws).length - 1), rfl, ?_⟩) hr))) rfl (sg_nil rfl)
    show rBl true = rBl (withinB p (some 0) (some ((lettersOf ws).length - 1)))
    have q : withinB p (some 0) (some ((lettersOf ws).length - 1)) = true := by
      show ((false || decide (0 ≤ p)) && (false || decide (p ≤ ((lettersOf ws).length : Int) - 1))) = true
      rw [decide_eq_true h.1, decide_eq_true (by omega)]; rfl
    rw [q]

inductive relNext (K : PySem.W.Frag) : Rel
  | mk (ws : List (List Int)) (nx : List Int) (p n : Int) (h : 0 ≤ p ∧ p < (lettersOf ws).length) (hn : atI nx p = some n) : relNext K [rRims K ws nx, rInt p] (rInt n)

theorem sc_Rims_next : FnScope ["self", "place"] ["self", "place"] (defScope (inClass (top 52) 2)) := ⟨rfl, rfl, rfl, by decide +kernel, rfl, by decide +kernel, by decide +kernel⟩
theorem c_Rims_next (R : KRims K) (C1 : DefC P w K mg base "need_place" 3 (relNeedP K)) (F : FnM K "next" "Rims.next" (inClass (top 52) 2) f fd) (gm : Meth K (He.ga K "Rims") "next" f) : MethC P w K mg base (He.ga K "Rims") "next" 4 (relNext K) := by
  refine ⟨f, fd, ["self", "place"], def_g F sc_Rims_next (fun A r h => by cases h <;> rfl) (by decide) (fun cdv A outer s H E hr As r h => ?_), gm, F.bindsN fun _ _ _ _ _ _ us hl => match us, hl with | [_, _], _ => rfl⟩
  cases h with
  | mk ws nx p n h hn =>
    refine sg_expr (eg_call C1 (ag_cons (eg_name 0) (ag_cons (eg_name 1) ag_nil)) (.mk ws nx p h) hr) ?_
    exact sg_ret (eg_ixT (eg_fld R.c.cl (R.n _ (by decide)) (eg_name 0)) (eg_name 1) hn) rfl

inductive relRimsI (K : PySem.W.Frag) : RelI
  | mk (ws : List (List Int)) (nx : List Int) (m : List (Int × Int)) (h1 : 1 ≤ ws.length ∧ ws.length ≤ 4) (h2 : ws.all (fun x => decide (0 < x.length)) = true) (h3 : (lettersOf ws).length ≤ 24) (h4 : (numbersM ws).length ≤ 1000) (h5 : foldM oddStep [] (lettersOf ws) = some m) (h6 : m.length ≤ 1000) (h7 : m.all (fun z => decide (z.2 = 0)) = true)
    (h8 : foldM nextsStep [] ws = some nx) : relRimsI K [rL (ws.map (rWord K))] (rimsF K ws nx)

theorem sc_Rims_init : FnScope ["self", "words", "letters", "odd", "word", "letter"] ["self", "words"] (defScope (inClass (top 52) 0)) := ⟨rfl, rfl, rfl, by decide +kernel, rfl, by decide +kernel, by decide +kernel⟩
theorem c_Rims_init (T : Fre mg) (W : KWord K) (R : KRims K) (gW : mg "Word" = some (.ref (He.ga K "Word"))) (g1 : ∃ t, mg "MOST_WORDS" = some (.int 4 t)) (g2 : ∃ t, mg "MOST_LETTERS_rims" = some (.int 24 t)) (C1 : DefC P w K mg base "is_listed" 1 (relListed K)) (C2 : DefC P w K mg base "odd_kind" 1 relOdd) (C3 : DefC P w K mg base "nexts_of" 1 (relNexts K)) (C4 : DefC P w K mg base "numbers_of" 1 (relNumbers K)) (F : FnM K "__init__" "Rims.__init__" (inClass (top 52) 0) f fd) (gm : mg "Rims" = some (.ref (He.ga K "Rims"))) (mk : Mk K (He.ga K "Rims") f) : MakeC P w K mg base "Rims" (He.ga K "Rims") 2 (relRimsI K) := by
  refine ⟨f, fd, ["self", "words"], init_g F sc_Rims_init (fun A r h => by cases h <;> rfl) (by decide) (fun cdv A outer s H E hr As fs ax adx h => ?_), gm, mk, F.bindsN fun _ _ _ _ _ _ us hl => match us, hl with | [_, _], _ => rfl⟩
  cases h with
  | mk ws nx m h1 h2 h3 h4 h5 h6 h7 h8 =>
    obtain ⟨t1, g1⟩ := g1
    obtain ⟨t2, g2⟩ := g2
    refine sg_ifF (k := (false || false)) (bg_w (wg_or (bg_not (k := true) (bg_val (eg_call C1 (ag_cons (eg_name 1) ag_nil) listed_L hr))) fun _ => wg_or1 (bg_not (k := true) (bg_eq (k1 := decide ((1 : Int) ≤ ws.length) && decide ((ws.length : Int) ≤ 4)) (by rw [decide_eq_true (by omega), decide_eq_true (by omega)]; rfl) (bg_chain (q1 := fun i j => decide (i ≤ j)) (q2 := fun i j => decide (i ≤ j)) op_le op_le eg_int (eg_lenL1 T.len (eg_name 1)) (eg_glob (v := .int 4) g1 ⟨_, rfl⟩)))))) rfl ?_
    refine sg_ifF (k := (false || false)) (bg_w (wg_or (bg_not (k := true) (bg_val (eg_eq (congrArg rBl (all_ok (l := ws))) (eg_all rfl T.all (eg_n (ng_lc (fa := rWord K) (fb := rBl) (l := ws) [("word", 4)] (fun x => [.i ax adx (He.ga K "Rims") [], .d (rL (ws.map (rWord K))), .non, .non, .d (rWord K x), .non]) (fun _ => some true) (fun _ => some true) rfl sc_Rims_init.nd (ig_list (eg_name 1)) (comp_all (by omega)) (blkOk_by (N := ["self", "words", "letters", "odd", "word", "letter"]) (sc := defScope (inClass (top 52) 0)) (by decide +kernel))
      (fun x s H C cl fp => kg_name 4 sc_Rims_init.nd) (fun x k s H C cl fp e => by cases e; exact ts_nil) (fun x y s H C cl fp _ e => by cases e; exact eg_isi T.isinstance (eg_name 4) (eg_glob (v := .ref (He.ga K "Word")) gW rfl) (ty_I W.c) (.own _) W.kit))))))) fun _ => wg_or1 (bg_not (k := true) (bg_val (eg_eq (r1 := rBl ((ws.map fun x => decide (0 < (x.length : Int))).all id)) ?_ (eg_all rfl T.all (eg_n (ng_lc (fa := rWord K) (fb := rBl) (l := ws) [("word", 4)] (fun x => [.i ax adx (He.ga K "Rims") [], .d (rL (ws.map (rWord K))), .non, .non, .d (rWord K x), .non]) (fun _ => some true) (fun x => some (decide (0 < (x.length : Int)))) rfl sc_Rims_init.nd (ig_list (eg_name 1)) (comp_all (by omega)) (blkOk_by (N := ["self", "words", "letters", "odd", "word", "letter"]) (sc := defScope (inClass (top 52) 0)) (by decide +kernel))
      (fun x s H C cl fp => kg_name 4 sc_Rims_init.nd) (fun x k s H C cl fp e => by cases e; exact ts_nil) (fun x y s H C cl fp _ e => by cases e; exact eg_gt (eg_fld W.c.cl (W.n _ (by decide)) (eg_name 4)) eg_int))))))))) rfl ?_
    · have q : (fun x : List Int => decide (0 < (x.length : Int))) = fun x => decide (0 < x.length) := funext fun x => decide_eq_decide.mpr (by omega)
      rw [all_mapB, q, h2]
    refine sg_setLc2 (fa := rWord K) (fb := rInt) (fc := rInt) (l := ws) (own := [("word", 4), ("letter", 5)]) 2 [5] (fun x => x) (fun _ y => y) (fun x => [.i ax adx (He.ga K "Rims") [], .d (rL (ws.map (rWord K))), .non, .non, .d (rWord K x), .non]) (fun x y => [.i ax adx (He.ga K "Rims") [], .d (rL (ws.map (rWord K))), .non, .non, .d (rWord K x), .d (rInt y)]) rfl sc_Rims_init.nd (ig_list (eg_name 1)) (blkOk_by (N := ["self", "words", "letters", "odd", "word", "letter"]) (sc := defScope (inClass (top 52) 0)) (by decide +kernel)) (Nat.le_trans h3 (by decide))
      (fun x s H C cl fp => kg_in (kg_name 4 sc_Rims_init.nd) (by decide)) (fun x s H C cl fp => ig_tup (eg_fld W.c.cl (W.n _ (by decide)) (eg_name 4))) (fun x y s H C cl fp => kg_name 5 sc_Rims_init.nd) (fun x y s H C cl fp => eg_name 5) ?_
    refine sg_le (Le.freeze 2 rfl rfl) ?_
    refine sg_ifF (k := decide ((24 : Int) < (lettersOf ws).length)) (bg_gt (eg_lenL1 T.len (eg_name 2)) (eg_glob (v := .int 24) g2 ⟨_, rfl⟩)) (decide_eq_false (by omega)) ?_
    refine sg_set 3 (eg_call C2 (ag_cons (eg_name 2) ag_nil) (.mk (lettersOf ws) m h5 h6 h7) hr) sc_Rims_init.nd ?_
    refine sg_ifF (k := !decide (V.non = V.non)) (bg_notN (eg_name 3) (nonR_v (v := .non))) (by simp) ?_
    refine sg_fld 0 R.c.cl (R.n _ (by decide)) rfl (eg_tupleL T.tuple (eg_name 1)) ?_
    refine sg_fld 0 R.c.cl (R.n _ (by decide)) rfl (eg_tupleLd T.tuple (eg_name 2)) ?_
    refine sg_fld 0 R.c.cl (R.n _ (by decide)) rfl (eg_lenL1 T.len (eg_name 2)) ?_
    refine sg_fld 0 R.c.cl (R.n _ (by decide)) rfl (eg_fdiv (j := 2) ⟨by decide, by decide⟩ (eg_lenL1 T.len (eg_name 2)) eg_int) ?_
    refine sg_fld 0 R.c.cl (R.n _ (by decide)) rfl (eg_allS (n := ws.length) rfl T.all (eg_eq (by rw [List.map_map, ← List.map_const']; rfl) (eg_n (ng_lc (fa := rWord K) (fb := fun _ : Unit => rSB) (l := ws) [("word", 4)] (fun x => [.i ax adx (He.ga K "Rims") [("words", rT (ws.map (rWord K))), ("letters", rTDi (lettersOf ws)), ("many", rInt (lettersOf ws).length), ("bands", rInt ((lettersOf ws).length / 2))], .d (rL (ws.map (rWord K))), .d (rInts (lettersOf ws)), .d rNon, .d (rWord K x), .non]) (fun _ => some true) (fun _ => some ()) rfl sc_Rims_init.nd (ig_list (eg_name 1)) (comp_all (by omega)) (blkOk_by (N := ["self", "words", "letters", "odd", "word", "letter"]) (sc := defScope (inClass (top 52) 0)) (by decide +kernel))
      (fun x s H C cl fp => kg_name 4 sc_Rims_init.nd) (fun x k s H C cl fp e => by cases e; exact ts_nil) (fun x y s H C cl fp _ e => eg_fld W.c.cl (W.n _ (by decide)) (eg_name 4)))))) ?_
    refine sg_fld 0 R.c.cl (R.n _ (by decide)) rfl (eg_call C3 (ag_cons (eg_name 1) ag_nil) (.mk ws nx h8) hr) ?_
    refine sg_fld 0 R.c.cl (R.n _ (by decide)) rfl (eg_call C4 (ag_cons (eg_name 1) ag_nil) (.mk ws h4) hr) ?_
    exact sg_nil rfl

end
end Rf

namespace Rf
open PySem PySem.Spec PyProof.Rows L2

/-! ### rows of ints in order -/
def leL : List Int → List Int → Bool
  | [], _ => true
  | _ :: _, [] => false
  | x :: l, y :: m => if x < y then true else if x = y then leL l m else false
theorem leL_refl : ∀ l, leL l l = true
  | [] => rfl
  | x :: l => by unfold leL; rw [if_neg (Int.lt_irrefl x), if_pos rfl]; exact leL_refl l
theorem leL_anti : ∀ {l m : List Int}, leL l m = true → leL m l = true → l = m
  | [], [], _, _ => rfl
  | [], _ :: _, _, h => by simp [leL] at h
  | _ :: _, [], h, _ => by simp [leL] at h
  | x :: l, y :: m, h1, h2 => by
    unfold leL at h1 h2
    by_cases a : x < y
    · rw [if_neg (by omega), if_neg (by omega)] at h2; cases h2
    · by_cases b : x = y
      · subst b
        rw [if_neg (Int.lt_irrefl x), if_pos rfl] at h1 h2
        rw [leL_anti h1 h2]
      · rw [if_neg a, if_neg b] at h1; cases h1
theorem leL_total : ∀ l m : List Int, (leL l m || leL m l) = true
  | [], _ => by simp [leL]
  | _ :: _, [] => by simp [leL]
  | x :: l, y :: m => by
    unfold leL
    by_cases a : x < y
    · rw [if_pos a]; rfl
    · by_cases b : x = y
      · subst b
        rw [if_neg a, if_pos rfl, if_neg a, if_pos rfl]; exact leL_total l m
      · rw [if_neg a, if_neg b, if_pos (by omega)]; rfl
theorem leL_trans : ∀ {l m n : List Int}, leL l m = true → leL m n = true → leL l n = true
  | [], _, _, _, _ => by simp [leL]
  | _ :: _, [], _, h, _ => by simp [leL] at h
  | _ :: _, _ :: _, [], _, h => by simp [leL] at h
  | x :: l, y :: m, z :: n, h1, h2 => by
    unfold leL at h1 h2 ⊢
    by_cases a : x < y
    · by_cases b : y < z
      · rw [if_pos (by omega)]
      · rw [if_neg b] at h2
        by_cases c : y = z
        · rw [if_pos (by omega)]
        · rw [if_neg c] at h2; cases h2
    · rw [if_neg a] at h1
      by_cases e : x = y
      · rw [if_pos e] at h1
        subst e
        by_cases b : x < z
        · rw [if_pos b]
        · rw [if_neg b] at h2 ⊢
          by_cases c : x = z
          · rw [if_pos c] at h2 ⊢; exact leL_trans h1 h2
          · rw [if_neg c] at h2; cases h2
      · rw [if_neg e] at h1; cases h1
theorem leL_lt : ∀ xs ys : List Int, (!decide (ys < xs)) = leL xs ys
  | [], ys => by simp [leL]
  | x :: xs, [] => by simp [leL]
  | x :: xs, y :: ys => by
    unfold leL
    have ih := leL_lt xs ys
    by_cases a : x < y
    · rw [if_pos a]
      simp [List.cons_lt_cons_iff]; omega
    · rw [if_neg a]
      by_cases b : x = y
      · subst b
        rw [if_pos rfl, ← ih]
        simp [List.cons_lt_cons_iff]
      · rw [if_neg b]
        simp [List.cons_lt_cons_iff]; omega
theorem dataLe_tups {β : Type} (x : β → List Int) : PySem.W.dataLe false (fun b => .tuple ((x b).map .int)) = fun p q => leL (x p) (x q) := by
  funext p q
  show (!PySem.W.dataLt (.tuple ((x q).map .int)) (.tuple ((x p).map .int))) = _
  rw [PySem.W.dataLt_tuple]
  show (!PySem.W.rowLt ((x q).map .int) ((x p).map .int)) = _
  rw [PySem.W.dataLt_ints, leL_lt]
def insL (x : List Int) : List (List Int) → List (List Int)
  | [] => [x]
  | y :: l => if leL x y = true then x :: y :: l else y :: insL x l
def isortL : List (List Int) → List (List Int)
  | [] => []
  | x :: l => insL x (isortL l)
theorem insL_perm (x : List Int) : ∀ l, (insL x l).Perm (x :: l)
  | [] => .refl _
  | y :: l => by
    unfold insL
    by_cases h : leL x y = true
    · rw [if_pos h]
    · rw [if_neg h]
      exact ((insL_perm x l).cons y).trans (.swap x y l)
theorem isortL_perm : ∀ l, (isortL l).Perm l
  | [] => .refl _
  | x :: l => (insL_perm x _).trans ((isortL_perm l).cons x)
theorem insL_pw {x : List Int} : ∀ {l : List (List Int)}, l.Pairwise (fun p q => leL p q = true) → (insL x l).Pairwise (fun p q => leL p q = true)
  | [], _ => by simp [insL]
  | y :: l, h => by
    obtain ⟨h1, h2⟩ := List.pairwise_cons.mp h
    unfold insL
    by_cases hx : leL x y = true
    · rw [if_pos hx]
      refine List.pairwise_cons.mpr ⟨fun z hz => ?_, h⟩
      rcases List.mem_cons.mp hz with e | e
      · rw [e]; exact hx
      · exact leL_trans hx (h1 z e)
    · rw [if_neg hx]
      refine List.pairwise_cons.mpr ⟨fun z hz => ?_, insL_pw h2⟩
      rcases List.mem_cons.mp ((insL_perm x l).mem_iff.mp hz) with e | e
      · have t := leL_total x y
        rw [Bool.or_eq_true] at t
        rw [e]
        exact t.resolve_left hx
      · exact h1 z e
theorem isortL_pw : ∀ l, (isortL l).Pairwise (fun p q => leL p q = true)
  | [] => by simp [isortL]
  | _ :: l => insL_pw (isortL_pw l)
theorem sorted_eq : ∀ {l m : List (List Int)}, l.Perm m → l.Pairwise (fun p q => leL p q = true) → m.Pairwise (fun p q => leL p q = true) → l = m
  | [], m, h, _, _ => (List.Perm.nil_eq h)
  | x :: l, [], h, _, _ => by have q := h.length_eq; simp at q
  | x :: l, y :: m, h, h1, h2 => by
    obtain ⟨a1, a2⟩ := List.pairwise_cons.mp h1
    obtain ⟨b1, b2⟩ := List.pairwise_cons.mp h2
    have e : x = y := by
      rcases List.mem_cons.mp (h.mem_iff.mp (List.mem_cons_self ..)) with q | q
      · exact q
      · rcases List.mem_cons.mp (h.mem_iff.mpr (List.mem_cons_self ..)) with w | w
        · exact w.symm
        · exact leL_anti (a1 y w) (b1 x q)
    subst e
    rw [sorted_eq ((List.perm_cons x).mp h) a2 b2]
theorem msort_is (l : List (List Int)) : l.mergeSort leL = isortL l := by
  refine sorted_eq ((List.mergeSort_perm l leL).trans (isortL_perm l).symm) ?_ (isortL_pw l)
  exact List.pairwise_mergeSort (le := leL) (fun a b c h1 h2 => leL_trans h1 h2) leL_total l
/-! ### sorted(a list of tuples of ints) -/
abbrev ZL := List (V × List Int)
def rSortedL (K : PySem.W.Frag) : List V → Hp → VK → Prop := fun vs H Q => ∃ (a : Addr) (zs : ZL), vs = [.ref a] ∧ SqL K H a (zs.map (·.1)) ∧ (∀ z ∈ zs, Dp K H z.1 (.tuple (z.2.map .int))) ∧ (∀ z ∈ zs, z.2 ≠ []) ∧ ∀ p, H p = none → Q (.ref p) (upd H p (.lst ((zs.mergeSort fun p q => leL p.2 q.2).map (·.1))))
theorem each_vals {R : Value → (V × List Int) → Prop} : ∀ {zs : ZL} {us : List Value}, Vals (zs.map (·.1)) us → (∀ z ∈ zs, ∀ u, RelV z.1 u → R u z) → PySem.W.EachIs R us zs
  | [], _, .nil, _ => .nil
  | z :: zs, _, .cons a t, h => .cons (h z (List.mem_cons_self ..) _ a) (each_vals t fun y hy => h y (List.mem_cons_of_mem _ hy))
theorem vals_each : ∀ {zs : ZL} {us : List Value}, PySem.W.EachIs (fun u (z : V × List Int) => RelV z.1 u) us zs → Vals (zs.map (·.1)) us
  | _, _, .nil => .nil
  | _, _, .cons a t => .cons a (vals_each t)
theorem depth_t (x : List Int) : (PyData.tuple (x.map .int)).depth ≤ 1 := by
  simp only [PyData.depth]
  rw [PySem.W.depth_ints]; exact Nat.le_refl _
theorem cr_sortedL {X : Cx} (hu : X.A.units + 64 < cLine) : CallR X (.builtin "sorted") (rSortedL X.K) := by
  intro pins s σ H vs us Q I r h
  obtain ⟨a, zs, rfl, hs, hd, hn, q⟩ := h
  rw [Vals.ref1 r]
  obtain ⟨its, rv, hl, hz⟩ := I.list hs
  have ea : PySem.W.AllAlike (zs.map fun z => PyData.tuple (z.2.map .int)) := PySem.W.AllAlike.of fun b b' => by
    show PySem.W.alike (.tuple (b.2.map .int)) (.tuple (b'.2.map .int)) = true
    simp only [PySem.W.alike]; exact PySem.W.alike_ints _ _
  have es : PySem.W.Sortable (zs.map fun z => PyData.tuple (z.2.map .int)) := .inl fun d hd' => by
    obtain ⟨z, hz, rfl⟩ := List.mem_map.mp hd'
    have ne := hn z hz
    cases e : z.2 with
    | nil => exact absurd e ne
    | cons x l => exact ⟨_, _, by rw [List.map_cons]⟩
  refine PySem.W.sorted_data (enc := fun z : V × List Int => PyData.tuple (z.2.map .int)) (bs := zs) (vs := its) hl.isList (each_vals (R := fun u (z : V × List Int) => RelV z.1 u) rv fun z _ u ru => ru) (each_vals rv fun z hz u ru => Dp.reads I _ _ _ (hd z hz) ru) ea es (by rw [List.length_map] at hz; exact hz)
    (fun b _ => by have := depth_t b.2; omega) fun out hlen eo => ?_
  rw [dataLe_tups (fun z : V × List Int => z.2)] at eo
  obtain ⟨ep, he'⟩ := PyProof.Rows.sortedAll_at s.heap its out.toArray
  have ro := vals_each eo
  have hl2 : ((zs.mergeSort fun p q => leL p.2 q.2).map (·.1)).length ≤ sizeLine := by rw [List.length_map, List.length_mergeSort]; rw [List.length_map] at hz; exact hz
  exact ⟨.ref _, upd H (s.heap.objs.size + 1) (.lst ((zs.mergeSort fun p q => leL p.2 q.2).map (·.1))), I.laid (t' := s.toks) (fun _ _ => PyProof.Rows.sortedAll_old) (Nat.le_succ _) ⟨hl2, out, ep, ro, he'⟩, rfl, q _ (I.hok.fresh (Nat.le_succ _))⟩
theorem reps_zip {D : Hp} : ∀ {tss : List (List Int)} {vs : List V}, Reps D (tss.map rTI) vs → ∃ zs : ZL, vs = zs.map (·.1) ∧ tss = zs.map (·.2) ∧ ∀ z ∈ zs, (rTI z.2).p D z.1
  | [], _, .nil => ⟨[], rfl, rfl, fun _ h => absurd h List.not_mem_nil⟩
  | t :: tss, _, .cons (b := v) a r => by
    obtain ⟨zs, e1, e2, h⟩ := reps_zip r
    refine ⟨(v, t) :: zs, by rw [e1]; rfl, by rw [e2]; rfl, fun z hz => ?_⟩
    rcases List.mem_cons.mp hz with e | e
    · subst e; exact a
    · exact h z e
theorem zip_reps {D : Hp} : ∀ {zs : ZL}, (∀ z ∈ zs, (rTI z.2).p D z.1) → Reps D ((zs.map (·.2)).map rTI) (zs.map (·.1))
  | [], _ => .nil
  | z :: zs, h => .cons (h z (List.mem_cons_self ..)) (zip_reps fun y hy => h y (List.mem_cons_of_mem _ hy))
section
variable {X : Cx} {g : List Sl} {a b e o : Expr} {es : List Expr} {pos p1 p2 p3 tpos : Pos} {r : Rp} {rs : List Rp} {x : Str} {i j : Int} {ns : List Int} {α : Type} {fa : α → Rp} {l : List α} {tp : Bool} {tss : List (List Int)}
theorem ng_sortedL (hn : tss.all (fun t => !t.isEmpty) = true) (hu : X.A.units + 64 < cLine) (hm : X.mg "sorted" = none) (ha : EG X e g (rL (tss.map rTI))) (hg : Gl X "sorted" := by rfl) (he : starEach [e] X.env = (false, eval e X.env) :: starEach [] X.env := by rfl) : NG X (.Call (.Name "sorted" p1) [e] [] pos) g ((isortL tss).map rTI) :=
  pe_to (pe_callB (cr_sortedL hu) hg hm (by decide +kernel) (ag_cons ha ag_nil he) (by decide) (by decide) he (by rfl)) fun σ H Q ⟨F, D0, D, ok, k⟩ => ⟨F, D0, D, ok, fun vs H' D' e1 hvs => by
    cases hvs with
    | cons h1 t =>
      cases t
      obtain ⟨p, ws, rfl, h2, h3⟩ := h1
      obtain ⟨zs, rfl, rfl, h4⟩ := reps_zip h3
      refine ⟨p, zs, rfl, SqL.of (e1.i _ _ h2), fun z hz => ?_, fun z hz en => ?_, fun q nq => ?_⟩
      · obtain ⟨b, ys, e, hb, hy⟩ := h4 z hz
        have ey := reps_ints hy
        subst ey
        rw [e]
        exact .tup (SqT.of (e1.i _ _ hb)) (by
          have w : ∀ ns : List Int, DpAll X.K H' (ns.map V.int) (ns.map PyData.int) := fun ns => by
            induction ns with
            | nil => exact .nil
            | cons n ns ih => exact .cons (.int n) ih
          exact w z.2)
      · have w := List.all_eq_true.mp hn z.2 (List.mem_map.mpr ⟨z, hz, rfl⟩)
        rw [en] at w; cases w
      · refine k q _ H' D' e1 nq ?_
        have w := zip_reps (D := D') (zs := zs.mergeSort fun p q => leL p.2 q.2) fun z hz => h4 z ((List.mergeSort_perm zs _).mem_iff.mp hz)
        rw [List.map_mergeSort (s := leL) (fun _ _ _ _ => rfl), msort_is] at w
        exact w⟩
/-! ### lists and tuples alike -/
theorem eg_lenQ (hm : X.mg "len" = none) (ha : EG X a g (rQ tp (l.map fa))) (hg : Gl X "len" := by rfl) (he : starEach [a] X.env = (false, eval a X.env) :: starEach [] X.env := by rfl) : EG X (.Call (.Name "len" p1) [a] [] pos) g (rInt l.length) := by
  cases tp with
  | true => exact eg_lenT1 hm ha hg he
  | false => exact eg_lenL1 hm ha hg he
theorem eg_ixQ {y : α} (ha : EG X a g (rQ tp (l.map fa))) (hb : EG X b g (rInt i)) (h : atI l i = some y) (hs : PlainIx b := by exact fun _ _ => rfl) : EG X (.Subscript a b pos) g (fa y) := by
  cases tp with
  | true => exact eg_ixT ha hb h hs
  | false => exact eg_ixL ha hb h hs
theorem eg_tupleQ (hm : X.mg "tuple" = none) (ha : EG X a g (rQ tp rs)) (hg : Gl X "tuple" := by rfl) (he : starEach [a] X.env = (false, eval a X.env) :: starEach [] X.env := by rfl) : EG X (.Call (.Name "tuple" p1) [a] [] pos) g (rT rs) := by
  cases tp with
  | true => exact eg_tupleT hm ha hg he
  | false => exact eg_tupleL hm ha hg he
theorem ig_Q {tg : Expr} (he : EG X e g (rQ tp rs)) : IG X tg e g rs := by
  cases tp with
  | true => exact ig_tup he
  | false => exact ig_list he
/-! ### min(a, b), x in (a, b) -/
theorem eg_min2 (hc : X.calm = true) (hm : X.mg "min" = none) (ha : EG X a g (rInt i)) (hb : EG X b g (rInt j)) (hg : Gl X "min" := by rfl) (h1 : starEach [a, b] X.env = (false, eval a X.env) :: starEach [b] X.env := by rfl) (h2 : starEach [b] X.env = (false, eval b X.env) :: starEach [] X.env := by rfl)
    (h3 : (backTo pos (starEach [b] X.env)).any (·.1) = false := by rfl) : EG X (.Call (.Name "min" p1) [a, b] [] pos) g (rInt (if j < i then j else i)) :=
  eg_bi (call_min2 hc) hm (by decide +kernel) (ag_cons ha (ag_cons hb ag_nil h2) h1) (fun vs H D Q s h k => by
    cases h with
    | cons q1 t =>
      cases t with
      | cons q2 t =>
        cases t
        exact ⟨i, j, by rw [show _ = V.int i from q1, show _ = V.int j from q2], k.here s rfl⟩) hg (by decide) (by decide) h1 h3
end
end Rf

namespace Rf
open PySem PySem.Spec PyProof.Rows L2
theorem compG_const {α β : Type} {c : α → Option Bool} {h : α → Option β} {y : β} : ∀ {l : List α}, (∀ x ∈ l, c x = some true ∧ h x = some y) → compG c h l = some (l.map fun _ => y)
  | [], _ => rfl
  | x :: l, q => by
    obtain ⟨q1, q2⟩ := q x (List.mem_cons_self ..)
    unfold compG
    rw [q1, q2, compG_const fun z hz => q z (List.mem_cons_of_mem _ hz)]; rfl
theorem comp_const {α β : Type} {c : α → Option Bool} {h : α → Option β} {y : β} {l : List α} (hz : l.length ≤ 100000) (q : ∀ x ∈ l, c x = some true ∧ h x = some y) : comp c h l = some (l.map fun _ => y) := by
  unfold comp; rw [if_pos hz]; exact compG_const q
theorem compG_filter {α β : Type} (p : α → Bool) (f : α → β) : ∀ l : List α, compG (fun x => some (p x)) (fun x => some (f x)) l = some ((l.filter p).map f)
  | [] => rfl
  | x :: l => by
    unfold compG
    rw [List.filter_cons]
    cases h : p x with
    | true => simp only [if_true]; rw [compG_filter p f l]; rfl
    | false => simp only [Bool.false_eq_true, if_false]; exact compG_filter p f l
theorem comp_filter {α β : Type} {p : α → Bool} {f : α → β} {l : List α} (hz : l.length ≤ 100000) : comp (fun x => some (p x)) (fun x => some (f x)) l = some ((l.filter p).map f) := by
  unfold comp; rw [if_pos hz]; exact compG_filter p f l
theorem enumI_len {α : Type} {l : List α} : (enumI l).length = l.length := by unfold enumI; simp
section
variable {X : Cx} {g : List Sl} {a b e : Expr} {pos : Pos} {i x y : Int} {l : List Int} {tp : Bool} {tpos p1 : Pos} {elts : List Expr} {kk : Nat}
theorem inV2 : inV (.int i) [.int x, .int y] = (decide (i = x) || decide (i = y)) := by
  show ((eqV (.int x) (.int i)) || ((eqV (.int y) (.int i)) || false)) = _
  rw [Bool.or_false]
  show ((x == i) || (y == i)) = _
  rw [Bool.beq_eq_decide_eq, Bool.beq_eq_decide_eq, decide_eq_decide.mpr (show x = i ↔ i = x from ⟨Eq.symm, Eq.symm⟩), decide_eq_decide.mpr (show y = i ↔ i = y from ⟨Eq.symm, Eq.symm⟩)]
theorem bg_in2 (ha : EG X a g (rInt i)) (hb : EG X b g (rT [rInt x, rInt y])) (hm : behindInMarks .In b = false := by rfl) : BG X (.Compare a [.In] [b] pos) g (decide (i = x) || decide (i = y)) :=
  bg_cmp op_in_seq ha hb hm fun u v H D Q s hx hy k => by
    obtain ⟨p, vs, rfl, h2, h3⟩ := hy
    have e := reps_ints (ns := [x, y]) h3
    subst e
    have hx : u = .int i := hx
    subst hx
    exact ⟨p, _, rfl, .inr (SqT.of (s _ _ h2)), rfl, rfl, k.here s (by show V.bl (inV _ _) = _; rw [show [x, y].map V.int = [V.int x, V.int y] from rfl, inV2])⟩
theorem ig_enumQ (hm : X.mg "enumerate" = none) (h1 : EG X e g (rQ tp (l.map rInt))) (hg : Gl X "enumerate" := by rfl) (hs : starEach [e] X.env = (false, eval e X.env) :: starEach [] X.env := by rfl) :
    IG X (.Tuple elts kk tpos) (.Call (.Name "enumerate" p1) [e] [] pos) g ((enumI l).map fun z => rT [rInt z.1, rInt z.2]) := by rw [← enumR_map]; exact ig_enum tp hm h1 hg hs
end
abbrev rQi (tp : Bool) (ns : List Int) : Rp := rQ tp (ns.map rInt)
theorem ints_Q {tp : Bool} {ns : List Int} (hz : ns.length ≤ 1000) : relInts [rQi tp ns] (rBl true) := by
  cases tp with
  | true => exact ⟨ns, hz, .inr rfl, rfl⟩
  | false => exact ⟨ns, hz, .inl rfl, rfl⟩

section
variable {P : Program} {w : World} {K : PySem.W.Frag} {mg : Str → Option Value} {base : Heap} {f : Addr} {fd : FuncData}

def kindsM (ls : List Int) : List Int := usort (ls.map absI)
inductive relKinds : Rel
  | mk (ls : List Int) (hz : ls.length ≤ 60) : relKinds [rTDi ls] (rInts (kindsM ls))

theorem sc_kinds_of : FnScope ["letters", "letter"] ["letters"] (defScope (top 57)) := ⟨rfl, rfl, rfl, by decide +kernel, rfl, by decide +kernel, by decide +kernel⟩
theorem c_kinds_of (T : Fre mg) (F : FnP K "kinds_of" (top 57) f fd) (gm : mg "kinds_of" = some (.ref f)) : DefC P w K mg base "kinds_of" 1 relKinds := by
  refine ⟨f, fd, ["letters"], def_g F sc_kinds_of (fun A r h => by cases h <;> rfl) (by decide) (fun cdv A outer s H E hr As r h => ?_), gm, F.kp, F.bindsN fun _ _ _ _ _ _ us hl => match us, hl with | [_], _ => rfl⟩
  cases h with
  | mk ls hz =>
    exact sg_ret (eg_n (ng_sortedS (ns := ls.map absI) (by rw [List.length_map]; omega) rfl T.sorted (set_c [("letter", 1)] (fun x => [.d (rTDi ls), .d (rInt x)]) absI rfl sc_kinds_of.nd (ig_tupD (eg_name 0)) hz (blkOk_by (N := ["letters", "letter"]) (sc := defScope (top 57)) (by decide +kernel)) (fun x s H C cl fp => kg_name 1 sc_kinds_of.nd) (fun x s H C cl fp => eg_abs T.abs (eg_name 1))))) rfl

def manyStep (ls : List Int) (f k : Int) : Option Int := if 0 ≤ f ∧ f < 1000000000000 ∧ ls.count k ≤ 20 then some (f * (factN (ls.count k) : Nat)) else none
def manyM (ls : List Int) : Option Int := foldM (manyStep ls) 1 (kindsM ls)
inductive relMany : Rel
  | mk (ls : List Int) (n : Int) (hz : ls.length ≤ 60) (h : manyM ls = some n) : relMany [rTDi ls] (rInt n)

theorem sc_many_of : FnScope ["letters", "found", "kind"] ["letters"] (defScope (top 58)) := ⟨rfl, rfl, rfl, by decide +kernel, rfl, by decide +kernel, by decide +kernel⟩
theorem c_many_of (gF : mg "factorial" = some (.builtin "math.factorial")) (C1 : DefC P w K mg base "kinds_of" 1 relKinds) (F : FnP K "many_of" (top 58) f fd) (gm : mg "many_of" = some (.ref f)) : DefC P w K mg base "many_of" 2 relMany := by
  refine ⟨f, fd, ["letters"], def_g F sc_many_of (fun A r h => by cases h <;> rfl) (by decide) (fun cdv A outer s H E hr As r h => ?_), gm, F.kp, F.bindsN fun _ _ _ _ _ _ us hl => match us, hl with | [_], _ => rfl⟩
  cases h with
  | mk ls n hz h =>
    refine sg_set 1 eg_int sc_many_of.nd ?_
    refine sg_for (fa := rInt) (l := kindsM ls) (fun f : Int => [.d (rTDi ls), .d (rInt f), .non]) (manyStep ls) (fun f k => [.d (rTDi ls), .d (rInt f), .d (rInt k)]) [2] (ig_list (eg_call C1 (ag_cons (eg_name 0) ag_nil) (.mk ls hz) hr)) h (Le.refl _) rfl
      (fun s x => kg_name 2 sc_many_of.nd) (fun s x s' _ e => ?_) (sg_ret (eg_name 1) rfl)
    unfold manyStep at e
    by_cases hs : 0 ≤ s ∧ s < 1000000000000 ∧ ls.count x ≤ 20
    · rw [if_pos hs] at e
      cases e
      exact sg_set 1 (eg_mul (.inl ⟨by omega, by omega⟩) (eg_name 1) (eg_fact (by omega) gF (eg_count (eg_name 0) (eg_name 2)))) sc_many_of.nd (sg_nil (LeS.same (.same (.non .nil))).go)
    · rw [if_neg hs] at e; cases e

inductive relFewS (K : PySem.W.Frag) : Rel
  | mk (ws : List (List Int)) (nx : List Int) (n : Int) (hz : (lettersOf ws).length ≤ 60) (h : manyM (lettersOf ws) = some n) (hn : n ≤ 720) : relFewS K [rRims K ws nx] rNon

theorem sc_need_few_sewings : FnScope ["rims"] ["rims"] (defScope (top 55)) := ⟨rfl, rfl, rfl, by decide +kernel, rfl, by decide +kernel, by decide +kernel⟩
theorem c_need_few_sewings (R : KRims K) (g1 : ∃ t, mg "MOST_SEWINGS" = some (.int 720 t)) (C1 : DefC P w K mg base "need_rims" 1 (relNeedR K)) (C2 : DefC P w K mg base "many_of" 2 relMany) (F : FnP K "need_few" (top 55) f fd) (gm : mg "need_few_sewings" = some (.ref f)) : DefC P w K mg base "need_few_sewings" 3 (relFewS K) := by
  refine ⟨f, fd, ["rims"], def_g F sc_need_few_sewings (fun A r h => by cases h <;> rfl) (by decide) (fun cdv A outer s H E hr As r h => ?_), gm, F.kp, F.bindsN fun _ _ _ _ _ _ us hl => match us, hl with | [_], _ => rfl⟩
  cases h with
  | mk ws nx n hz h hn =>
    obtain ⟨t1, g1⟩ := g1
    refine sg_expr (eg_call C1 (ag_cons (eg_name 0) ag_nil) (.mk _) (hr.mono (by decide))) ?_
    exact sg_ifF (k := decide (720 < n)) (bg_gt (eg_call C2 (ag_cons (eg_fld R.c.cl (R.n _ (by decide)) (eg_name 0)) ag_nil) (.mk _ n hz h) hr) (eg_glob (v := .int 720) g1 ⟨_, rfl⟩)) (decide_eq_false (by omega)) (sg_nil rfl)

def sewStep (f : List Int) (z : Int × Int) : Option (List Int) := match ixN f.length z.1, ixN f.length z.2 with
  | some i, some j => some ((f.set i z.2).set j z.1)
  | _, _ => none
def sewnM (m f b : List Int) : Option (List Int) := foldM sewStep m (f.zip b)
inductive relSewn : Rel
  | mk (m f b r : List Int) (h : sewnM m f b = some r) : relSewn [rInts m, rInts f, rTI b] (rInts r)

theorem sc_sewn : FnScope ["mates", "forward", "backward", "found", "one", "other"] ["mates", "forward", "backward"] (defScope (top 59)) := ⟨rfl, rfl, rfl, by decide +kernel, rfl, by decide +kernel, by decide +kernel⟩
theorem c_sewn (T : Fre mg) (F : FnP K "sewn" (top 59) f fd) (gm : mg "sewn" = some (.ref f)) : DefC P w K mg base "sewn" 1 relSewn := by
  refine ⟨f, fd, ["mates", "forward", "backward"], def_g F sc_sewn (fun A r h => by cases h <;> rfl) (by decide) (fun cdv A outer s H E hr As r h => ?_), gm, F.kp, F.bindsN fun _ _ _ _ _ _ us hl => match us, hl with | [_, _, _], _ => rfl⟩
  cases h with
  | mk m f b r h =>
    refine sg_setV 3 (vg_l (ng_listL T.list (eg_name 0))) sc_sewn.nd ?_
    refine sg_for (fa := fun z : Int × Int => rT [rInt z.1, rInt z.2]) (l := f.zip b) (fun s : List Int => [.d (rInts m), .d (rInts f), .d (rTI b), .l (s.map rInt), .non, .non]) sewStep (fun s z => [.d (rInts m), .d (rInts f), .d (rTI b), .l (s.map rInt), .d (rInt z.1), .d (rInt z.2)]) [4, 5] ?_ h (Le.refl _) rfl
      (fun s x => kg_pair 4 5 rfl sc_sewn.nd) (fun s x s' _ e => ?_) ?_
    · rw [← zipR_map]
      exact ig_zip false true T.zip (eg_name 1) (eg_name 2)
    · unfold sewStep at e
      cases h1 : ixN s.length x.1 with
      | none => rw [h1] at e; cases e
      | some i =>
        rw [h1] at e
        cases h2 : ixN s.length x.2 with
        | none => rw [h2] at e; cases e
        | some j =>
          rw [h2] at e; cases e
          refine sg_store 3 (m := i) rfl (eg_name 5) (eg_name 4) (by rw [List.length_map]; exact h1) ?_ (pg_sub (pv 3) (eg_name 4) set_list) rfl rfl
          refine sg_store 3 (m := j) rfl (eg_name 4) (eg_name 5) (by rw [List.length_set, List.length_map]; exact h2) ?_ (pg_sub (pv 3) (eg_name 5) set_list) rfl rfl
          refine sg_nil ?_
          rw [List.map_set, List.map_set]
          exact (LeS.same (.same (.same (.same (.non (.non .nil)))))).go
    · refine sg_le (Le.freeze 3 rfl rfl) ?_
      exact sg_ret (eg_name 3) rfl

end
end Rf

namespace Rf
open PySem PySem.Spec PyProof.Rows L2
section
variable {P : Program} {w : World} {K : PySem.W.Frag} {mg : Str → Option Value} {base : Heap} {f : Addr} {fd : FuncData}

/-! ### corners -/
abbrev CornS := KD × List Int × Int
def cornC (s : CornS) : Option Bool := some (!(valG s.1 s.2.2).isSome)
def cornW (nx ms : List Int) (s : CornS) : Option CornS := match atI ms s.2.2 with
  | some m => (match atI nx m with
    | some n => if s.1.length ≤ 1000 ∧ s.2.1.length ≤ 1000 then some (putG s.1 s.2.2 (.bl true), s.2.1 ++ [s.2.2], n) else none
    | none => none)
  | none => none
def cornStep (nx ms : List Int) (s : KD × List (List Int)) (p : Int) : Option (KD × List (List Int)) := if s.2.length ≤ 1000 then (match whileM cornC (cornW nx ms) 100 (s.1, [], p) with
  | some q => if q.2.1 = [] then some (q.1, s.2) else some (q.1, s.2 ++ [q.2.1])
  | none => none) else none
def cornersM (nx ms : List Int) : Option (KD × List (List Int)) := foldM (cornStep nx ms) ([], []) (rangeI ms.length)
inductive relCorn : Rel
  | mk (nx ms : List Int) (tp : Bool) (s : KD × List (List Int)) (hz : ms.length ≤ 1000) (h : cornersM nx ms = some s) : relCorn [rTI nx, rQi tp ms] (rT (s.2.map rTI))

theorem sc_corners_of : FnScope ["nexts", "mates", "known", "found", "place", "corner", "at"] ["nexts", "mates"] (defScope (top 61)) := ⟨rfl, rfl, rfl, by decide +kernel, rfl, by decide +kernel, by decide +kernel⟩
theorem c_corners_of (T : Fre mg) (F : FnP K "corners_of" (top 61) f fd) (gm : mg "corners_of" = some (.ref f)) : DefC P w K mg base "corners_of" 1 relCorn := by
  refine ⟨f, fd, ["nexts", "mates"], def_g F sc_corners_of (fun A r h => by cases h <;> rfl) (by decide) (fun cdv A outer s H E hr As r h => ?_), gm, F.kp, F.bindsN fun _ _ _ _ _ _ us hl => match us, hl with | [_, _], _ => rfl⟩
  cases h with
  | mk nx ms tp s hz h =>
    refine sg_par 2 3 vg_k (vg_l (ng_lst ag_nil)) rfl sc_corners_of.nd ?_
    refine sg_for (fa := rInt) (l := rangeI ms.length) (fun s : KD × List (List Int) => [.d (rTI nx), .d (rQi tp ms), .k (kE s.1), .l (s.2.map rTI), .non, .non, .non]) (cornStep nx ms) (fun s p => [.d (rTI nx), .d (rQi tp ms), .k (kE s.1), .l (s.2.map rTI), .d (rInt p), .non, .non]) [4] (ig_range T.range (by omega) (eg_lenQ T.len (eg_name 1))) h (Le.refl _) rfl
      (fun s x => kg_name 4 sc_corners_of.nd) (fun s p s' _ e => ?_) (sg_ret (eg_tupleO 3 T.tuple) rfl)
    unfold cornStep at e
    by_cases hs : s.2.length ≤ 1000
    · rw [if_pos hs] at e
      cases hw : whileM cornC (cornW nx ms) 100 (s.1, [], p) with
      | none => rw [hw] at e; cases e
      | some q =>
        rw [hw] at e; try dsimp only at e
        refine sg_par 5 6 (vg_l (ng_lst ag_nil)) (vg_d (eg_name 4)) rfl sc_corners_of.nd ?_
        refine sg_while (fun c : CornS => [.d (rTI nx), .d (rQi tp ms), .k (kE c.1), .l (s.2.map rTI), .d (rInt p), .l (c.2.1.map rInt), .d (rInt c.2.2)]) cornC (cornW nx ms) 100 hw (Le.refl _) (fun c k e => ?_) (fun c c' _ e => ?_) ?_
        · cases e
          exact bg_dnotin hr.units (dk_own 2) (eg_name 6)
        · unfold cornW at e
          cases h1 : atI ms c.2.2 with
          | none => rw [h1] at e; cases e
          | some m =>
            rw [h1] at e; try dsimp only at e
            cases h2 : atI nx m with
            | none => rw [h2] at e; cases e
            | some n =>
              rw [h2] at e; try dsimp only at e
              by_cases hc : c.1.length ≤ 1000 ∧ c.2.1.length ≤ 1000
              · rw [if_pos hc] at e
                cases e
                refine sg_kput (m := c.1) 2 hr.units rfl (by omega) (eg_bl (n := true)) (eg_name 6) ?_
                refine sg_append 5 rfl (eg_name 6) (by rw [List.length_map]; omega) ?_
                refine sg_set 6 (eg_ixT (eg_name 0) (eg_ixQ (eg_name 1) (eg_name 6) h1) h2) sc_corners_of.nd (sg_nil ?_)
                rw [List.map_append]
                exact Le.refl _
              · rw [if_neg hc] at e; cases e
        · by_cases hq : q.2.1 = []
          · rw [if_pos hq] at e; cases e
            exact sg_ifF (k := !decide (q.2.1 = [])) (bg_neO (l := q.2.1) dat_int hr.units 5 rfl) (by rw [decide_eq_true hq]; rfl) (sg_nil (LeS.same (.same (.same (.same (.non (.non (.non .nil))))))).go)
          · rw [if_neg hq] at e; cases e
            refine sg_if _ (bg_neO (l := q.2.1) dat_int hr.units 5 rfl) (fun _ => sg_append 3 rfl (eg_tupleO 5 T.tuple) (by rw [List.length_map]; omega) (sg_nil (Le.refl _))) (fun z => by rw [decide_eq_false hq] at z; cases z) (sg_nil ?_)
            rw [List.map_append]
            exact (LeS.same (.same (.same (.same (.non (.non (.non .nil))))))).go
    · rw [if_neg hs] at e; cases e

/-! ### mates -/
def mateH (ls ms : List Int) (z : Int × Int) : Option Bool := match atI ms z.2, atI ls z.2, atI ls z.1 with
  | some a, some b, some c => some (decide (a = z.1) && decide (b = -c))
  | _, _, _ => none
def matesOk (ls ms : List Int) : Bool := decide (ms.length = ls.length) && decide (ms.length ≤ 60) && ms.all (fun m => decide (0 ≤ m) && decide (m < (ls.length : Int))) && (enumI ms).all (fun z => decide (mateH ls ms z = some true))
inductive relMates : Rel
  | mk (ls ms : List Int) (tp : Bool) (h : matesOk ls ms = true) : relMates [rTDi ls, rQi tp ms] (rBl true)

theorem sc_are_mates : FnScope ["letters", "value", "mate", "place"] ["letters", "value"] (defScope (top 63)) := ⟨rfl, rfl, rfl, by decide +kernel, rfl, by decide +kernel, by decide +kernel⟩
theorem c_are_mates (T : Fre mg) (C1 : DefC P w K mg base "are_integers" 2 relInts) (F : FnP K "are_mates" (top 63) f fd) (gm : mg "are_mates" = some (.ref f)) : DefC P w K mg base "are_mates" 3 relMates := by
  refine ⟨f, fd, ["letters", "value"], def_g F sc_are_mates (fun A r h => by cases h <;> rfl) (by decide) (fun cdv A outer s H E hr As r h => ?_), gm, F.kp, F.bindsN fun _ _ _ _ _ _ us hl => match us, hl with | [_, _], _ => rfl⟩
  cases h with
  | mk ls ms tp h =>
    unfold matesOk at h
    rw [Bool.and_eq_true, Bool.and_eq_true, Bool.and_eq_true, decide_eq_true_eq, decide_eq_true_eq, List.all_eq_true, List.all_eq_true] at h
    obtain ⟨⟨⟨h1, h2⟩, h3⟩, h4⟩ := h
    refine sg_ifF (k := (false || !decide ((ms.length : Int) = ls.length))) (bg_w (wg_or (bg_not (k := true) (bg_val (eg_call C1 (ag_cons (eg_name 1) ag_nil) (ints_Q (by omega)) hr))) fun _ => wg_or1 (bg_nei (eg_lenQ T.len (eg_name 1)) (eg_lenTd T.len (eg_name 0))))) (by rw [decide_eq_true (by omega)]; rfl) ?_
    refine sg_ifF (k := false) (bg_not (k := true) (bg_val (eg_eq (congrArg rBl (all_ok (l := ms))) (eg_all rfl T.all (eg_n (ng_lc (fa := rInt) (fb := rBl) (l := ms) [("mate", 2)] (fun x => [.d (rTDi ls), .d (rQi tp ms), .d (rInt x), .non]) (fun _ => some true) (fun x => some (decide (0 ≤ x) && decide (x < (ls.length : Int)))) rfl sc_are_mates.nd (ig_Q (eg_name 1)) (comp_const (by omega) fun x hx => ⟨rfl, congrArg some (h3 x hx)⟩) (blkOk_by (N := ["letters", "value", "mate", "place"]) (sc := defScope (top 63)) (by decide +kernel))
      (fun x s H C cl fp => kg_name 2 sc_are_mates.nd) (fun x k s H C cl fp e => by cases e; exact ts_nil) (fun x y s H C cl fp _ e => by cases e; exact eg_chain (q1 := fun i j => decide (i ≤ j)) (q2 := fun i j => decide (i < j)) op_le op_lt eg_int (eg_name 2) (eg_lenTd T.len (eg_name 0))))))))) rfl ?_
    refine sg_ret (eg_eq (congrArg rBl (all_ok (l := enumI ms))) (eg_all rfl T.all (eg_n (ng_lc (fa := fun z : Int × Int => rT [rInt z.1, rInt z.2]) (fb := rBl) (l := enumI ms) [("place", 3), ("mate", 2)] (fun z => [.d (rTDi ls), .d (rQi tp ms), .d (rInt z.2), .d (rInt z.1)]) (fun _ => some true) (mateH ls ms) rfl sc_are_mates.nd (ig_enumQ T.enumerate (eg_name 1)) (comp_const (by rw [enumI_len]; omega) fun x hx => ⟨rfl, of_decide_eq_true (h4 x hx)⟩) (blkOk_by (N := ["letters", "value", "mate", "place"]) (sc := defScope (top 63)) (by decide +kernel))
      (fun x s H C cl fp => kg_pair 3 2 rfl sc_are_mates.nd) (fun x k s H C cl fp e => by cases e; exact ts_nil) (fun z y s H C cl fp _ e => ?_))))) rfl
    unfold mateH at e
    cases a1 : atI ms z.2 with
    | none => rw [a1] at e; cases e
    | some a =>
      rw [a1] at e; try dsimp only at e
      cases b1 : atI ls z.2 with
      | none => rw [b1] at e; cases e
      | some b =>
        rw [b1] at e; try dsimp only at e
        cases c1 : atI ls z.1 with
        | none => rw [c1] at e; cases e
        | some c =>
          rw [c1] at e; cases e
          exact eg_and (eg_eqi (eg_ixQ (eg_name 1) (eg_name 2) a1) (eg_name 3)) fun _ => eg_one (eg_eqi (eg_ixTd (eg_name 0) (eg_name 2) b1) (eg_neg (eg_ixTd (eg_name 0) (eg_name 3) c1)))

/-! ### pieces -/
def headStep (nb hs : List Int) (z : Int × Int) : Option (List Int) := match atI nb z.1, atI nb z.2 with
  | some a, some b => (match atI hs a, atI hs b with
    | some x, some y => if hs.length ≤ 1000 then some (hs.map fun h => if (decide (h = x) || decide (h = y)) = true then (if y < x then y else x) else h) else none
    | _, _ => none)
  | _, _ => none
def headsM (nb ms : List Int) : Option (List Int) := match atI nb (-1) with
  | some k => if -1 ≤ k ∧ k ≤ 100 then foldM (headStep nb) (rangeI (k + 1)) (enumI ms) else none
  | none => none
def lotM (hs : List Int) (least : Int) : List Int := ((enumI hs).filter fun z => decide (z.2 = least)).map (·.1)
def piecesM (nb ms : List Int) : Option (List (List Int)) := match headsM nb ms with
  | some hs => if hs.length ≤ 60 then some ((usort hs).map (lotM hs)) else none
  | none => none
inductive relPiec : Rel
  | mk (nb ms : List Int) (tp : Bool) (ps : List (List Int)) (h : piecesM nb ms = some ps) : relPiec [rTI nb, rQi tp ms] (rT (ps.map rTI))
theorem insU_len (x : Int) : ∀ l, (insU x l).length ≤ l.length + 1
  | [] => by simp [insU]
  | y :: l => by
    unfold insU
    split
    · simp
    · split
      · simp
      · simp; exact insU_len x l
theorem usort_len : ∀ l, (usort l).length ≤ l.length
  | [] => by simp [usort]
  | x :: l => by
    have h := insU_len x (usort l)
    have h2 := usort_len l
    unfold usort
    rw [List.length_cons]; omega

theorem sc_pieces_of : FnScope ["numbers", "mates", "heads", "place", "mate", "one", "other", "lots", "head", "least", "number", "lot"] ["numbers", "mates"] (defScope (top 62)) := ⟨rfl, rfl, rfl, by decide +kernel, rfl, by decide +kernel, by decide +kernel⟩
theorem c_pieces_of (T : Fre mg) (F : FnP K "pieces_of" (top 62) f fd) (gm : mg "pieces_of" = some (.ref f)) : DefC P w K mg base "pieces_of" 1 relPiec := by
  refine ⟨f, fd, ["numbers", "mates"], def_g F sc_pieces_of (fun A r h => by cases h <;> rfl) (by decide) (fun cdv A outer s H E hr As r h => ?_), gm, F.kp, F.bindsN fun _ _ _ _ _ _ us hl => match us, hl with | [_, _], _ => rfl⟩
  cases h with
  | mk nb ms tp ps h =>
    unfold piecesM at h
    cases hh : headsM nb ms with
    | none => rw [hh] at h; cases h
    | some hs =>
      rw [hh] at h; try dsimp only at h
      by_cases hz : hs.length ≤ 60
      · rw [if_pos hz] at h
        cases h
        unfold headsM at hh
        cases h0 : atI nb (-1) with
        | none => rw [h0] at hh; cases hh
        | some k =>
          rw [h0] at hh; try dsimp only at hh
          by_cases hk : -1 ≤ k ∧ k ≤ 100
          · rw [if_pos hk] at hh
            refine sg_set 2 (eg_n (ng_listRg rfl T.list T.range (by omega) (eg_add (eg_ixT (eg_name 0) (eg_neg eg_int) h0) eg_int))) sc_pieces_of.nd ?_
            refine sg_for (fa := fun z : Int × Int => rT [rInt z.1, rInt z.2]) (l := enumI ms) (fun hs : List Int => [.d (rTI nb), .d (rQi tp ms), .d (rInts hs), .non, .non, .non, .non, .non, .non, .non, .non, .non]) (headStep nb) (fun hs z => [.d (rTI nb), .d (rQi tp ms), .d (rInts hs), .d (rInt z.1), .d (rInt z.2), .non, .non, .non, .non, .non, .non, .non]) [3, 4] (ig_enumQ T.enumerate (eg_name 1)) hh (Le.refl _) rfl
              (fun s x => kg_pair 3 4 rfl sc_pieces_of.nd) (fun s z s' _ e => ?_) ?_
            · unfold headStep at e
              cases a1 : atI nb z.1 with
              | none => rw [a1] at e; cases e
              | some a =>
                rw [a1] at e; try dsimp only at e
                cases b1 : atI nb z.2 with
                | none => rw [b1] at e; cases e
                | some b =>
                  rw [b1] at e; try dsimp only at e
                  cases x1 : atI s a with
                  | none => rw [x1] at e; cases e
                  | some x =>
                    rw [x1] at e; try dsimp only at e
                    cases y1 : atI s b with
                    | none => rw [y1] at e; cases e
                    | some y =>
                      rw [y1] at e; try dsimp only at e
                      by_cases hs : s.length ≤ 1000
                      · rw [if_pos hs] at e
                        cases e
                        refine sg_parC 5 6 (vg_d (eg_ixL (eg_name 2) (eg_ixT (eg_name 0) (eg_name 3) a1) x1)) (vg_d (eg_ixL (eg_name 2) (eg_ixT (eg_name 0) (eg_name 4) b1) y1)) rfl sc_pieces_of.nd ?_
                        refine sg_set 2 (eg_n (ng_lc (fa := rInt) (fb := rInt) (l := s) [("head", 8)] (fun h => [.d (rTI nb), .d (rQi tp ms), .d (rInts s), .d (rInt z.1), .d (rInt z.2), .d (rInt x), .d (rInt y), .non, .d (rInt h), .non, .non, .non]) (fun _ => some true) (fun h => some (if (decide (h = x) || decide (h = y)) = true then (if y < x then y else x) else h)) rfl sc_pieces_of.nd (ig_list (eg_name 2)) (comp_all (by omega)) (blkOk_by (N := ["numbers", "mates", "heads", "place", "mate", "one", "other", "lots", "head", "least", "number", "lot"]) (sc := defScope (top 62)) (by decide +kernel))
                          (fun x s H C cl fp => kg_name 8 sc_pieces_of.nd) (fun x k s H C cl fp e => by cases e; exact ts_nil) (fun h v s H C cl fp _ e => by
                            cases e
                            exact eg_if (k := decide (h = x) || decide (h = y)) (bg_in2 (eg_name 8) (eg_tup (ag_cons (eg_name 5) (ag_cons (eg_name 6) ag_nil)))) (fun q => eg_eq (congrArg rInt (if_pos q).symm) (eg_min2 rfl T.min (eg_name 5) (eg_name 6))) fun q => eg_eq (congrArg rInt (if_neg (by rw [q]; exact Bool.false_ne_true)).symm) (eg_name 8)))) sc_pieces_of.nd (sg_nil ?_)
                        exact (LeS.same (.same (.same (.non (.non (.non (.non (.same (.same (.same (.same (.same .nil)))))))))))).go
                      · rw [if_neg hs] at e; cases e
            · refine sg_setLc (fa := rInt) (fb := rInts) (l := usort hs) 7 [("least", 9)] (fun le => [.d (rTI nb), .d (rQi tp ms), .d (rInts hs), .non, .non, .non, .non, .non, .non, .d (rInt le), .non, .non]) (fun _ => some true) (fun le => some (lotM hs le)) rfl sc_pieces_of.nd (ig_list (eg_n (ng_sortedS (ns := hs) hz rfl T.sorted (set_l (by omega) rfl T.set (eg_name 2))))) (comp_all (by have q := usort_len hs; omega)) (blkOk_by (N := ["numbers", "mates", "heads", "place", "mate", "one", "other", "lots", "head", "least", "number", "lot"]) (sc := defScope (top 62)) (by decide +kernel))
                (fun x s H C cl fp => kg_name 9 sc_pieces_of.nd) (fun x k s H C cl fp e => by cases e; exact ts_nil) (fun le v s H C cl fp _ e => ?_) ?_
              · cases e
                exact eg_n (ng_lc (fa := fun z : Int × Int => rT [rInt z.1, rInt z.2]) (fb := rInt) (l := enumI hs) [("number", 10), ("head", 8)] (fun z => [.d (rTI nb), .d (rQi tp ms), .d (rInts hs), .non, .non, .non, .non, .non, .d (rInt z.2), .d (rInt le), .d (rInt z.1), .non]) (fun z => some (decide (z.2 = le))) (fun z => some z.1) rfl sc_pieces_of.nd (ig_enumQ (tp := false) T.enumerate (eg_name 2)) (comp_filter (by rw [enumI_len]; omega)) (blkOk_by (N := ["numbers", "mates", "heads", "place", "mate", "one", "other", "lots", "head", "least", "number", "lot"]) (sc := relS _ (defScope (top 62))) (by decide +kernel))
                  (fun x s H C cl fp => kg_pair 10 8 rfl sc_pieces_of.nd) (fun x k s H C cl fp e => by cases e; exact ts_one (bg_eqi (eg_name 8) (eg_name 9))) (fun z y s H C cl fp _ e => by cases e; exact eg_name 10))
              · refine sg_le (Le.freeze 7 rfl rfl) ?_
                refine sg_ret (eg_tupleL T.tuple (eg_eq (congrArg rL ?_) (eg_n (ng_lc (fa := rInts) (fb := rTI) (l := (usort hs).map (lotM hs)) [("lot", 11)] (fun l => [.d (rTI nb), .d (rQi tp ms), .d (rInts hs), .non, .non, .non, .non, .d (rL (((usort hs).map (lotM hs)).map rInts)), .non, .non, .non, .d (rInts l)]) (fun _ => some true) (fun l => some l) rfl sc_pieces_of.nd (ig_list (eg_name 7)) (comp_all (by rw [List.length_map]; have q := usort_len hs; omega)) (blkOk_by (N := ["numbers", "mates", "heads", "place", "mate", "one", "other", "lots", "head", "least", "number", "lot"]) (sc := defScope (top 62)) (by decide +kernel))
                  (fun x s H C cl fp => kg_name 11 sc_pieces_of.nd) (fun x k s H C cl fp e => by cases e; exact ts_nil) (fun l y s H C cl fp _ e => by cases e; exact eg_tupleL T.tuple (eg_name 11)))))) rfl
                rw [List.map_id']
          · rw [if_neg hk] at hh; cases hh
      · rw [if_neg hz] at h; cases h

end
end Rf

namespace Rf
open PySem PySem.Spec PyProof.Rows L2
open Sem (wp)

/-! ### itertools.permutations(xs) -/
theorem mro_pm : mroOf (.type "itertools.permutations") = pure [.type "itertools.permutations", .type "object"] := by rw [mroOf_type]; kernel_rfl
theorem lkp_pm_new : typeLookup (.type "itertools.permutations") "__new__" = pure (some (.builtin "itertools.permutations.__new__")) := by rw [typeLookup_type, builtinLookup_eq_fast]; kernel_rfl
theorem slot_pm_init : Slot "itertools.permutations" "__init__" "object.__init__" := .of (owner := "object") (n := "__init__") (by rw [typeLookup_type, builtinLookup_eq_fast]; kernel_rfl) (by decide +kernel) (by decide +kernel) (by decide +kernel) (by first | exact .inl (by decide +kernel) | exact .inr (by decide +kernel)) (by rw [isSubtype_type]; kernel_rfl)
theorem sub_pm : isSubtype (.type "itertools.permutations") (.type "itertools.permutations") = pure true := by rw [isSubtype_type]; kernel_rfl
theorem called_pm : TypeCalled "itertools.permutations" "itertools.permutations.__new__" "object.__init__" := ⟨by decide +kernel, by decide +kernel, ⟨_, _, mro_pm⟩, madeBy_type mro_pm lkp_pm_new (by decide +kernel), by decide +kernel, sub_pm, slot_pm_init⟩
theorem tCall_pm (a : Value) : checkTypeCall "itertools.permutations" ⟨[a], []⟩ = pure () := by kernel_rfl
theorem nCall_pm (a : Value) : checkBuiltinCall "itertools.permutations.__new__" ⟨[.type "itertools.permutations", a], []⟩ = pure () := by kernel_rfl
theorem entry_pm_new : entryFor table "itertools.permutations.__new__" = some Builtin.«itertools.permutations.__new__» := entryFor_of_tree (by kernel_rfl)
theorem slot_pm_iter : Slot "itertools.permutations" "__iter__" "itertools.permutations.__iter__" := .of (owner := "itertools.permutations") (n := "__iter__") (by rw [typeLookup_type, builtinLookup_eq_fast]; kernel_rfl) (by decide +kernel) (by decide +kernel) (by decide +kernel) (by first | exact .inl (by decide +kernel) | exact .inr (by decide +kernel)) sub_pm
theorem slot_pm_next : Slot "itertools.permutations" "__next__" "itertools.permutations.__next__" := .of (owner := "itertools.permutations") (n := "__next__") (by rw [typeLookup_type, builtinLookup_eq_fast]; kernel_rfl) (by decide +kernel) (by decide +kernel) (by decide +kernel) (by first | exact .inl (by decide +kernel) | exact .inr (by decide +kernel)) sub_pm
theorem entry_pm_iter : entryFor table "itertools.permutations.__iter__" = some Builtin.«dict_keyiterator.__iter__» := entryFor_alias (id' := "dict_keyiterator.__iter__") (by kernel_rfl) (by first | rfl | decide +kernel | (unfold String.splitOn; simp +decide [String.splitOnAux])) (by decide +kernel) (by kernel_rfl)
theorem entry_pm_next : entryFor table "itertools.permutations.__next__" = some Builtin.«itertools.permutations.__next__» := entryFor_of_tree (by kernel_rfl)
theorem owner_pm : Manifest.owners.lookup (String.ofList ['s', 'n', 'o', 'i', 't', 'a', 't', 'u', 'm', 'r', 'e', 'p', '.', 's', 'l', 'o', 'o', 't', 'r', 'e', 't', 'i'].reverse) = some Manifest.sig_itertools_permutations := by kernel_rfl
theorem args_pm_iter (a : Value) : argsOk "itertools.permutations.__iter__" ⟨[a], []⟩ := by
  unfold argsOk; rw [signature?_of (id := "itertools.permutations.__iter__") (n := ['_', '_', 'r', 'e', 't', 'i', '_', '_']) (o := ['s', 'n', 'o', 'i', 't', 'a', 't', 'u', 'm', 'r', 'e', 'p', '.', 's', 'l', 'o', 'o', 't', 'r', 'e', 't', 'i']) (by kernel_rfl) owner_pm]; kernel_rfl
theorem args_pm_next (a : Value) : argsOk "itertools.permutations.__next__" ⟨[a], []⟩ := by
  unfold argsOk; rw [signature?_of (id := "itertools.permutations.__next__") (n := ['_', '_', 't', 'x', 'e', 'n', '_', '_']) (o := ['s', 'n', 'o', 'i', 't', 'a', 't', 'u', 'm', 'r', 'e', 'p', '.', 's', 'l', 'o', 'o', 't', 'r', 'e', 't', 'i']) (by kernel_rfl) owner_pm]; kernel_rfl
theorem noDict_pm : typeHasDict (.type "itertools.permutations") = false := by decide +kernel
/-- the next numbers -/
def nextP (n : Nat) : Nat → List Nat → List Nat → Option (List Nat × List Nat)
  | 0, _, _ => none
  | i + 1, ix, cy => if (cy.getD i 0 - 1 == 0) = true then nextP n i (ix.take i ++ ix.drop (i + 1) ++ [ix.getD i 0]) (cy.set i (n - i))
    else some ((ix.set i (ix.getD (n - (cy.getD i 0 - 1)) 0)).set (n - (cy.getD i 0 - 1)) (ix.getD i 0), cy.set i (cy.getD i 0 - 1))
theorem pm_next_is : ∃ NP : Nat → Nat → List Nat → List Nat → Option (List Nat × List Nat), (∀ n i ix cy, NP n i ix cy = nextP n i ix cy) ∧ ∀ args, Builtin.«itertools.permutations.__next__» args = (do
    let (self, _) ← slotArgs "__next__" 0 args
    let items ← PySem.Builtin.Itertools.itPoolItems (← field self 0)
    let n := items.size
    let r := (← PySem.Builtin.Itertools.itIntField self 2).toNat
    let numbers ← PySem.Builtin.Itertools.itNumbersFrom self 4
    let result (indices : List Nat) : Sem Fin := do
      let t ← newTuple ((indices.take r).map fun i => items.getD i .none)
      let before ← field self 3
      setField self 3 t
      letGo [before] [t]
      ret t
    match ← PySem.Builtin.Itertools.itIntField self 1 with
    | 0 => setField self 1 (rawInt 1); result numbers
    | 1 =>
      match NP n r (numbers.take n) (numbers.drop n) with
      | some (indices, cycles) => PySem.Builtin.Itertools.itSetNumbersFrom self 4 (indices ++ cycles); result indices
      | none => setField self 1 (rawInt 2); PySem.Builtin.Itertools.itStop
    | _ => rule "itertools.permutations.ended"; PySem.Builtin.Itertools.itStop) := by
  refine ⟨?NP, ?a, ?b⟩
  case b => intro args; rfl
  case a =>
    intro n i
    induction i with
    | zero => intro ix cy; rfl
    | succ i ih =>
      intro ix cy
      unfold nextP
      rw [← ih]
      rfl
end Rf

namespace Rf
open PySem PySem.Spec PyProof.Rows L2
open Sem (wp)

abbrev pmObj (pool : Addr) (flag n : Nat) (prev : Value) (nums : List Nat) : Obj := { cls := .type "itertools.permutations", dict := none, data := .fields (#[.ref pool, rawInt flag, rawInt n, prev] ++ (nums.map fun (k : Nat) => rawInt k).toArray), slots := #[] }
structure IsPm (h : Heap) (it pool : Addr) (its : List Value) (flag : Nat) (nums : List Nat) : Prop where
  ob : ∃ prev, h.get? it = some (pmObj pool flag its.length prev nums)
  pl : h.get? pool = some { cls := .type "tuple", data := .seq its.toArray }
def pick (its : List Value) (ix : List Nat) : List Value := (ix.take its.length).map fun i => its.toArray.getD i .none
section
variable {prog : Program} {w : World} {A : Around} {E : Value → Shared → Prop} {s : Shared} {it pool : Addr} {its : List Value} {nums : List Nat}
theorem pm_type {flag : Nat} (hit : IsPm s.heap it pool its flag nums) : s.TypeIs (.ref it) "itertools.permutations" := let ⟨_, e⟩ := hit.ob; ⟨_, e, rfl⟩
theorem pm_iter {flag : Nat} {Q : Value → Shared → Prop} (hit : IsPm s.heap it pool its flag nums) (h : Q (.ref it) s) : wpAny (model prog w) A (pyIter (.ref it)) Q E s := by
  refine wpAny_pyIter_slot (pm_type hit) slot_pm_iter (wpAny_call_entry slot_pm_iter (pm_type hit) entry_pm_iter ?_ (args_pm_iter _))
  exact wpAny_pure ⟨_, rfl, "itertools.permutations", _, pm_type hit, slot_pm_next.lookup, h⟩
def valNat : Value → Nat
  | .int n _ => n.toNat
  | _ => 0
theorem nums_back (pool : Addr) (flag n : Nat) (prev : Value) (nums : List Nat) : ((#[.ref pool, rawInt flag, rawInt n, prev] ++ (nums.map fun (k : Nat) => rawInt k).toArray : Array Value).toList.drop 4).map valNat = nums := by
  have e : ((#[.ref pool, rawInt flag, rawInt n, prev] ++ (nums.map fun (k : Nat) => rawInt k).toArray : Array Value).toList.drop 4) = nums.map fun (k : Nat) => rawInt k := by simp
  rw [e, List.map_map]
  have : (valNat ∘ fun (k : Nat) => rawInt k) = id := by funext k; rfl
  rw [this, List.map_id]
theorem set3 (a b c d x : Value) (l : List Value) : (#[a, b, c, d] ++ l.toArray : Array Value).setIfInBounds 3 x = #[a, b, c, x] ++ l.toArray := by
  apply Array.ext'
  simp
/-- handing out -/
theorem pm_give {flag : Nat} {nums' ix : List Nat} {Q : Value → Shared → Prop} {h1 : Heap} (hb : Heap.SameBut it s.heap h1) (hit : IsPm h1 it pool its flag nums') (hne : pool ≠ it) (hz : its.length ≤ 1000)
    (k : ∀ h', IsPm h' it pool its flag nums' → h'.get? s.heap.objs.size = some { cls := .type "tuple", data := .seq (pick its ix).toArray } → (∀ b o, b ≠ it → s.heap.get? b = some o → h'.get? b = some o) → Q (.ref s.heap.objs.size) { s with heap := h' }) :
    wpAny (model prog w) A (do
      let t ← newTuple ((ix.take its.length).map fun i => its.toArray.getD i .none)
      let before ← field (.ref it) 3
      setField (.ref it) 3 t
      letGo [before] [t]
      ret t) (fun fin s' => ∃ v, fin = .done (.ret v) ∧ Q v s') E { s with heap := h1 } := by
  obtain ⟨⟨prev, ho⟩, hp⟩ := hit
  have hsz : h1.objs.size = s.heap.objs.size := hb.1
  refine wpAny_bind (wpAny_newTuple ?_ (by rw [List.length_map, List.length_take, sizeLine_eq]; omega))
  have ho2 : (h1.push { cls := .type "tuple", data := .seq (pick its ix).toArray }).get? it = some (pmObj pool flag its.length prev nums') := Heap.get?_push_of_some _ ho
  have lt : it < h1.objs.size := Heap.lt_size ho
  refine wpAny_bind (wpAny_field (s := { s with heap := h1.push { cls := .type "tuple", data := .seq (pick its ix).toArray } }) ho2 rfl (x := prev) (by simp) ?_)
  refine wpAny_bind (wpAny_setField (s := { s with heap := h1.push { cls := .type "tuple", data := .seq (pick its ix).toArray } }) ho2 rfl (by simp) ?_)
  refine wpAny_bind (wpAny_letGo (wpAny_pure ⟨_, rfl, ?_⟩))
  show Q (.ref h1.objs.size) _
  rw [hsz]
  have sb := Heap.SameBut.update (h := h1.push { cls := .type "tuple", data := .seq (pick its ix).toArray }) (a := it) (f := Obj.mapFields fun x => x.setIfInBounds 3 (.ref s.heap.objs.size))
  refine k _ ⟨⟨.ref s.heap.objs.size, ?_⟩, ?_⟩ ?_ fun b o nb e => ?_
  · show ((h1.push { cls := .type "tuple", data := .seq (pick its ix).toArray }).update it (Obj.mapFields fun x => x.setIfInBounds 3 (.ref s.heap.objs.size))).get? it = _
    rw [Heap.get?_update_self _ ho2 rfl]
    show some ({ cls := .type "itertools.permutations", dict := none, data := .fields ((#[.ref pool, rawInt flag, rawInt its.length, prev] ++ (nums'.map fun (k : Nat) => rawInt k).toArray : Array Value).setIfInBounds 3 (.ref s.heap.objs.size)), slots := #[] } : Obj) = _
    rw [set3]
  · exact sb.extBut _ _ hne (Heap.get?_push_of_some _ hp)
  · have q := sb.extBut _ _ (Nat.ne_of_gt lt) (Heap.get?_push_size h1 rfl)
    rw [hsz] at q
    exact q
  · exact sb.extBut _ _ nb (Heap.get?_push_of_some _ (hb.extBut _ _ nb e))
end
end Rf

namespace Rf
open PySem PySem.Spec PyProof.Rows L2
open Sem (wp)

theorem set1 (a b c d x : Value) (l : List Value) : (#[a, b, c, d] ++ l.toArray : Array Value).setIfInBounds 1 x = #[a, x, c, d] ++ l.toArray := by
  apply Array.ext'
  simp
theorem ext4 (a b c d : Value) (l : List Value) (l' : List Value) : (#[a, b, c, d] ++ l.toArray : Array Value).extract 0 4 ++ l'.toArray = #[a, b, c, d] ++ l'.toArray := by
  apply Array.ext'
  simp
section
variable {prog : Program} {w : World} {A : Around} {E : Value → Shared → Prop} {s : Shared} {it pool : Addr} {its : List Value} {nums : List Nat}
theorem pm_first {Q : Option Value → Shared → Prop} (hit : IsPm s.heap it pool its 0 nums) (hne : pool ≠ it) (hz : its.length ≤ 1000)
    (k : ∀ h', IsPm h' it pool its 1 nums → h'.get? s.heap.objs.size = some { cls := .type "tuple", data := .seq (pick its nums).toArray } → (∀ b o, b ≠ it → s.heap.get? b = some o → h'.get? b = some o) → Q (some (.ref s.heap.objs.size)) { s with heap := h' }) :
    wpAny (model prog w) A (callSpecial? (.ref it) "__next__") Q E s := by
  obtain ⟨NP, hNP, hB⟩ := pm_next_is
  obtain ⟨prev, ho⟩ := hit.ob
  refine wpAny_callSpecial?_slot (name := Str.ofString "__next__") (pm_type hit) slot_pm_next (wpAny_call_entry slot_pm_next (pm_type hit) entry_pm_next ?_ (args_pm_next _))
  rw [hB]
  show wpAny _ _ (field (.ref it) 0 >>= _) _ _ s
  refine wpAny_bind (wpAny_field ho rfl (x := .ref pool) (by simp) ?_)
  show wpAny _ _ ((seqItems? (.ref pool) >>= _) >>= _) _ _ s
  refine wpAny_bind (wpAny_bind (wpAny_seqItems hit.pl rfl (wpAny_pure ?_)))
  show wpAny _ _ ((field (.ref it) 2 >>= _) >>= _) _ _ s
  refine wpAny_bind (wpAny_bind (wpAny_field ho rfl (x := rawInt its.length) (by simp) (wpAny_pure ?_)))
  show wpAny _ _ ((load it >>= _) >>= _) _ _ s
  refine wpAny_bind (wpAny_bind (wpAny_load ho ?_))
  show wpAny _ _ (pure ((#[.ref pool, rawInt (0 : Nat), rawInt its.length, prev] ++ (nums.map fun (k : Nat) => rawInt k).toArray : Array Value).toList.drop 4 |>.map valNat)) _ _ s
  rw [nums_back pool 0 its.length prev nums]
  refine wpAny_pure ?_
  show wpAny _ _ ((field (.ref it) 1 >>= _) >>= _) _ _ s
  refine wpAny_bind (wpAny_bind (wpAny_field ho rfl (x := rawInt (0 : Nat)) (by simp) (wpAny_pure ?_)))
  show wpAny _ _ (setField (.ref it) 1 (rawInt 1) >>= _) _ _ s
  refine wpAny_bind (wpAny_setField ho rfl (by simp) ?_)
  have sb := Heap.SameBut.update (h := s.heap) (a := it) (f := Obj.mapFields fun x => x.setIfInBounds 1 (rawInt 1))
  have hit2 : IsPm (s.heap.update it (Obj.mapFields fun x => x.setIfInBounds 1 (rawInt 1))) it pool its 1 nums := by
    refine ⟨⟨prev, ?_⟩, sb.extBut _ _ hne hit.pl⟩
    rw [Heap.get?_update_self _ ho rfl]
    show some ({ cls := .type "itertools.permutations", dict := none, data := .fields ((#[.ref pool, rawInt (0 : Nat), rawInt its.length, prev] ++ (nums.map fun (k : Nat) => rawInt k).toArray : Array Value).setIfInBounds 1 (rawInt 1)), slots := #[] } : Obj) = _
    rw [set1]; rfl
  exact pm_give (Q := fun v s' => Q (some v) s') sb hit2 hne hz fun h' a b c => k h' a b c
theorem pm_step {ix cy : List Nat} {Q : Option Value → Shared → Prop} (hit : IsPm s.heap it pool its 1 nums) (hn : nextP its.length its.length (nums.take its.length) (nums.drop its.length) = some (ix, cy)) (hne : pool ≠ it) (hz : its.length ≤ 1000) (hz2 : (ix ++ cy).length ≤ 10000)
    (k : ∀ h', IsPm h' it pool its 1 (ix ++ cy) → h'.get? s.heap.objs.size = some { cls := .type "tuple", data := .seq (pick its ix).toArray } → (∀ b o, b ≠ it → s.heap.get? b = some o → h'.get? b = some o) → Q (some (.ref s.heap.objs.size)) { s with heap := h' }) :
    wpAny (model prog w) A (callSpecial? (.ref it) "__next__") Q E s := by
  obtain ⟨NP, hNP, hB⟩ := pm_next_is
  obtain ⟨prev, ho⟩ := hit.ob
  refine wpAny_callSpecial?_slot (name := Str.ofString "__next__") (pm_type hit) slot_pm_next (wpAny_call_entry slot_pm_next (pm_type hit) entry_pm_next ?_ (args_pm_next _))
  rw [hB]
  show wpAny _ _ (field (.ref it) 0 >>= _) _ _ s
  refine wpAny_bind (wpAny_field ho rfl (x := .ref pool) (by simp) ?_)
  show wpAny _ _ ((seqItems? (.ref pool) >>= _) >>= _) _ _ s
  refine wpAny_bind (wpAny_bind (wpAny_seqItems hit.pl rfl (wpAny_pure ?_)))
  show wpAny _ _ ((field (.ref it) 2 >>= _) >>= _) _ _ s
  refine wpAny_bind (wpAny_bind (wpAny_field ho rfl (x := rawInt its.length) (by simp) (wpAny_pure ?_)))
  show wpAny _ _ ((load it >>= _) >>= _) _ _ s
  refine wpAny_bind (wpAny_bind (wpAny_load ho ?_))
  show wpAny _ _ (pure ((#[.ref pool, rawInt (1 : Nat), rawInt its.length, prev] ++ (nums.map fun (k : Nat) => rawInt k).toArray : Array Value).toList.drop 4 |>.map valNat)) _ _ s
  rw [nums_back pool 1 its.length prev nums]
  refine wpAny_pure ?_
  show wpAny _ _ ((field (.ref it) 1 >>= _) >>= _) _ _ s
  refine wpAny_bind (wpAny_bind (wpAny_field ho rfl (x := rawInt (1 : Nat)) (by simp) (wpAny_pure ?_)))
  show wpAny _ _ (match NP its.toArray.size (rawInt its.length |> fun | .int n _ => n.toNat | _ => 0) (nums.take its.toArray.size) (nums.drop its.toArray.size) with
      | some (ix, cy) => PySem.Builtin.Itertools.itSetNumbersFrom (.ref it) 4 (ix ++ cy) >>= _
      | none => setField (.ref it) 1 (rawInt 2) >>= _) _ _ s
  rw [hNP, show (rawInt its.length |> fun | .int n _ => n.toNat | _ => 0) = its.length from rfl, List.size_toArray, hn]
  show wpAny _ _ (updateFields it (fun fs => fs.extract 0 4 ++ ((ix ++ cy).map fun (n : Nat) => rawInt n).toArray) >>= _) _ _ s
  refine wpAny_bind (wpAny_updateFields ho rfl ?_ (by rw [ext4]; simp only [Array.size_append, List.size_toArray, List.length_map, sizeLine_eq]; show 4 + _ ≤ _; omega))
  have sb := Heap.SameBut.update (h := s.heap) (a := it) (f := Obj.mapFields fun fs => fs.extract 0 4 ++ ((ix ++ cy).map fun (n : Nat) => rawInt n).toArray)
  have hit2 : IsPm (s.heap.update it (Obj.mapFields fun fs => fs.extract 0 4 ++ ((ix ++ cy).map fun (n : Nat) => rawInt n).toArray)) it pool its 1 (ix ++ cy) := by
    refine ⟨⟨prev, ?_⟩, sb.extBut _ _ hne hit.pl⟩
    rw [Heap.get?_update_self _ ho rfl]
    show some ({ cls := .type "itertools.permutations", dict := none, data := .fields ((#[.ref pool, rawInt (1 : Nat), rawInt its.length, prev] ++ (nums.map fun (k : Nat) => rawInt k).toArray : Array Value).extract 0 4 ++ ((ix ++ cy).map fun (n : Nat) => rawInt n).toArray), slots := #[] } : Obj) = _
    rw [ext4]
  exact pm_give (Q := fun v s' => Q (some v) s') sb hit2 hne hz fun h' a b c => k h' a b c
theorem pm_end {Q : Option Value → Shared → Prop} (hh : A.handled = none) (hit : IsPm s.heap it pool its 1 nums) (hn : nextP its.length its.length (nums.take its.length) (nums.drop its.length) = none)
    (k : ∀ h' e, Heap.ExtBut it s.heap h' → (∃ o, h'.get? e = some o ∧ o.cls = .type "StopIteration") → E (.ref e) { s with heap := h' }) :
    wpAny (model prog w) A (callSpecial? (.ref it) "__next__") Q E s := by
  obtain ⟨NP, hNP, hB⟩ := pm_next_is
  obtain ⟨prev, ho⟩ := hit.ob
  refine wpAny_callSpecial?_slot (name := Str.ofString "__next__") (pm_type hit) slot_pm_next (wpAny_call_entry slot_pm_next (pm_type hit) entry_pm_next ?_ (args_pm_next _))
  rw [hB]
  show wpAny _ _ (field (.ref it) 0 >>= _) _ _ s
  refine wpAny_bind (wpAny_field ho rfl (x := .ref pool) (by simp) ?_)
  show wpAny _ _ ((seqItems? (.ref pool) >>= _) >>= _) _ _ s
  refine wpAny_bind (wpAny_bind (wpAny_seqItems hit.pl rfl (wpAny_pure ?_)))
  show wpAny _ _ ((field (.ref it) 2 >>= _) >>= _) _ _ s
  refine wpAny_bind (wpAny_bind (wpAny_field ho rfl (x := rawInt its.length) (by simp) (wpAny_pure ?_)))
  show wpAny _ _ ((load it >>= _) >>= _) _ _ s
  refine wpAny_bind (wpAny_bind (wpAny_load ho ?_))
  show wpAny _ _ (pure ((#[.ref pool, rawInt (1 : Nat), rawInt its.length, prev] ++ (nums.map fun (k : Nat) => rawInt k).toArray : Array Value).toList.drop 4 |>.map valNat)) _ _ s
  rw [nums_back pool 1 its.length prev nums]
  refine wpAny_pure ?_
  show wpAny _ _ ((field (.ref it) 1 >>= _) >>= _) _ _ s
  refine wpAny_bind (wpAny_bind (wpAny_field ho rfl (x := rawInt (1 : Nat)) (by simp) (wpAny_pure ?_)))
  show wpAny _ _ (match NP its.toArray.size (rawInt its.length |> fun | .int n _ => n.toNat | _ => 0) (nums.take its.toArray.size) (nums.drop its.toArray.size) with
      | some (ix, cy) => PySem.Builtin.Itertools.itSetNumbersFrom (.ref it) 4 (ix ++ cy) >>= _
      | none => setField (.ref it) 1 (rawInt 2) >>= _) _ _ s
  rw [hNP, show (rawInt its.length |> fun | .int n _ => n.toNat | _ => 0) = its.length from rfl, List.size_toArray, hn]
  show wpAny _ _ (setField (.ref it) 1 (rawInt 2) >>= _) _ _ s
  refine wpAny_bind (wpAny_setField ho rfl (by simp) ?_)
  show wpAny _ _ (newExc (.type "StopIteration") [] >>= _) _ _ _
  refine wpAny_bind ?_
  simp only [newExc, newTuple]
  refine wpAny_bind (wpAny_newObj_type ?_ (by size_fits))
  refine wpAny_bind (m := firstArgMember _ _) (wpAny_of_eq (a := Value.none) (by first | rfl | (simp only [firstArgMember]; rfl)) ?_)
  refine wpAny_newObj_type ?_ (by size_fits)
  simp only [raiseNew]
  refine wpAny_bind (wpAny_handled ?_)
  first | rw [show A.in1.handled = none from hh] | rw [hh]
  refine wpAny_bind (wpAny_pure (wpAny_throw ?_))
  exact k _ _ (((Heap.SameBut.update ..).extBut.push _).push _) ⟨_, Heap.get?_push_size _ rfl, rfl⟩
end
def nums0 (n : Nat) : List Nat := List.range n ++ (List.range n).map fun i => n - i
theorem nums0_is (n : Nat) (p : Value) : ([p, rawInt (0 : Int), rawInt n, .none] ++ (List.range n).map (fun (i : Nat) => rawInt i) ++ (List.range n).map fun (i : Nat) => rawInt ((n : Int) - i)).toArray = #[p, rawInt (0 : Nat), rawInt n, .none] ++ ((nums0 n).map fun (k : Nat) => rawInt k).toArray := by
  apply Array.ext'
  unfold nums0
  simp only [List.map_append, List.map_map, Array.toList_append, List.append_assoc]
  have e : ((List.range n).map fun (i : Nat) => rawInt ((n : Int) - i)) = (List.range n).map ((fun (k : Nat) => rawInt k) ∘ fun i => n - i) := List.map_congr_left fun i hi => by
    have := List.mem_range.mp hi
    show rawInt _ = rawInt _
    have e : ((n - i : Nat) : Int) = (n : Int) - i := by omega
    rw [← e]
  rw [e]; rfl
end Rf

namespace Rf
open PySem PySem.Spec PyProof.Rows L2
open Sem (wp)

theorem meets_pm_new (l : Addr) (vs : List Value) (hz : vs.length ≤ 1000) :
    Meets (Builtin.«itertools.permutations.__new__» ⟨[.type "itertools.permutations", .ref l], []⟩) (fun _ R s => s.heap.IsList l vs.toArray ∧ ∀ h', IsPm h' (s.heap.objs.size + 2) (s.heap.objs.size + 1) vs 0 (nums0 vs.length) → (∀ b o, s.heap.get? b = some o → h'.get? b = some o) → R (.ok (.ret (.ref (s.heap.objs.size + 2)))) { s with heap := h' }) :=
  .of_wp fun prog w A R s h => by
    obtain ⟨hl, h⟩ := h
    have hsub := sub_pm
    have hd := noDict_pm
    have es : ("itertools." ++ "permutations" : String) = "itertools.permutations" := by decide
    have hsub2 : isSubtype (.type "itertools.permutations") (.type ("itertools." ++ "permutations")) = pure true := by rw [es]; exact sub_pm
    obtain ⟨hp, g, d, tk, os⟩ := s
    have hcol : ∀ {A' : Around} {E : Value → Shared → Prop} {Q : List Value → Shared → Prop}, Q vs ⟨(hp.push (seqObj "list" #[] 0)).update hp.objs.size (Obj.mapSeq (· ++ vs.toArray)), g, d, tk, os⟩ → wpAny (model prog w) A' (collect (.ref l)) Q E ⟨hp, g, d, tk, os⟩ :=
      fun q => PyProof.Rows.collect_list (s := ⟨hp, g, d, tk, os⟩) hl q (by rw [sizeLine_eq]; omega)
    unfold Builtin.«itertools.permutations.__new__»
    generalize eC : collect = C
    repeat (first
      | wp_step
      | simp only [List.head?_cons, Option.some_or, List.getElem?_cons_succ, List.getElem?_cons_zero, List.length_cons, List.length_nil, List.forIn_nil])
    subst eC
    refine hcol ?_
    refine wpAny_bind (m := pure (vs.length : Int)) (wpAny_pure ?_)
    have c1 : ¬ ((vs.length : Int) < 0) := by omega
    have c2 : ¬ (PySem.Builtin.Itertools.itTooMany (vs.length : Int) = true) := by
      unfold PySem.Builtin.Itertools.itTooMany
      rw [decide_eq_true_eq]; omega
    rw [if_neg c1, if_neg c2]
    refine wpAny_bind (wpAny_newTuple ?_ (by rw [sizeLine_eq]; omega))
    have c3 : ¬ (vs.length > vs.length) := Nat.lt_irrefl _
    rw [Int.toNat_natCast, if_neg c3]
    unfold PySem.Builtin.Itertools.itNewRecord
    rw [hd]
    rw [show (!false) = true from rfl, if_pos rfl, nums0_is]
    refine wpAny_bind (wpAny_newObj_type ?_ ?_)
    · refine wpAny_pure ⟨_, rfl, ?_⟩
      have z0 : ((hp.push (seqObj "list" #[] 0)).update hp.objs.size (Obj.mapSeq fun x => x ++ vs.toArray)).objs.size = hp.objs.size + 1 := by rw [Heap.size_update, Heap.size_push]
      have z1 : (((hp.push (seqObj "list" #[] 0)).update hp.objs.size (Obj.mapSeq fun x => x ++ vs.toArray)).push { cls := .type "tuple", data := .seq vs.toArray }).objs.size = hp.objs.size + 2 := by rw [Heap.size_push, z0]
      have sb := Heap.SameBut.update (h := hp.push (seqObj "list" #[] 0)) (a := hp.objs.size) (f := Obj.mapSeq fun x => x ++ vs.toArray)
      have gp : (((hp.push (seqObj "list" #[] 0)).update hp.objs.size (Obj.mapSeq fun x => x ++ vs.toArray)).push { cls := .type "tuple", data := .seq vs.toArray }).get? (hp.objs.size + 1) = some { cls := .type "tuple", data := .seq vs.toArray } := by rw [← z0]; exact Heap.get?_push_size _ rfl
      show R (.ok (.ret (.ref (((hp.push (seqObj "list" #[] 0)).update hp.objs.size (Obj.mapSeq fun x => x ++ vs.toArray)).push { cls := .type "tuple", data := .seq vs.toArray }).objs.size))) _
      rw [z1]
      refine h _ ⟨⟨.none, ?_⟩, Heap.get?_push_of_some _ gp⟩ fun b o e => Heap.get?_push_of_some _ (Heap.get?_push_of_some _ (sb.extBut _ _ (Nat.ne_of_lt (Heap.lt_size e)) (Heap.get?_push_of_some _ e)))
      have q := Heap.get?_push_size (((hp.push (seqObj "list" #[] 0)).update hp.objs.size (Obj.mapSeq fun x => x ++ vs.toArray)).push { cls := .type "tuple", data := .seq vs.toArray }) (o := pmObj (hp.objs.size + 1) 0 vs.length .none (nums0 vs.length)) rfl
      rw [z1] at q
      show (Heap.push _ { cls := .type "itertools.permutations", dict := none, data := .fields (#[.ref ((hp.push (seqObj "list" #[] 0)).update hp.objs.size (Obj.mapSeq fun x => x ++ vs.toArray)).objs.size, rawInt (0 : Nat), rawInt vs.length, .none] ++ ((nums0 vs.length).map fun (k : Nat) => rawInt k).toArray), slots := #[] }).get? (hp.objs.size + 2) = _
      rw [z0]
      exact q
    · show (#[_, rawInt (0 : Nat), rawInt vs.length, .none] ++ ((nums0 vs.length).map fun (k : Nat) => rawInt k).toArray : Array Value).size ≤ sizeLine + 2
      simp only [Array.size_append, List.size_toArray, List.length_map, nums0, List.length_append, List.length_range, List.length_cons, List.length_nil, sizeLine_eq]
      omega
end Rf

namespace Rf
open PySem PySem.Spec PyProof.Rows L2
open Sem (wp)

/-- the numbers after the i-th row -/
def numsAt (n : Nat) : Nat → Option (List Nat)
  | 0 => some (nums0 n)
  | i + 1 => match numsAt n i with
    | some ns => (match nextP n n (ns.take n) (ns.drop n) with
      | some (ix, cy) => some (ix ++ cy)
      | none => none)
    | none => none
/-- every row of numbers is as long as the first -/
theorem nextP_len {n : Nat} : ∀ {i : Nat} {ix cy ix' cy' : List Nat}, nextP n i ix cy = some (ix', cy') → i ≤ ix.length → ix'.length = ix.length ∧ cy'.length = cy.length
  | 0, _, _, _, _, h, _ => by cases h
  | i + 1, ix, cy, ix', cy', h, hi => by
    unfold nextP at h
    split at h
    · have e := nextP_len h (by simp; omega)
      have l1 : (ix.take i ++ ix.drop (i + 1) ++ [ix.getD i 0]).length = ix.length := by simp; omega
      rw [l1, List.length_set] at e
      exact e
    · cases h
      simp
theorem numsAt_len {n : Nat} : ∀ {i : Nat} {ns : List Nat}, numsAt n i = some ns → ns.length = n + n
  | 0, ns, h => by cases h; unfold nums0; simp
  | i + 1, ns, h => by
    unfold numsAt at h
    cases e : numsAt n i with
    | none => rw [e] at h; cases h
    | some ms =>
      rw [e] at h
      have l := numsAt_len e
      dsimp only at h
      cases e2 : nextP n n (ms.take n) (ms.drop n) with
      | none => rw [e2] at h; cases h
      | some q =>
        obtain ⟨ix, cy⟩ := q
        rw [e2] at h
        cases h
        obtain ⟨q1, q2⟩ := nextP_len e2 (by rw [List.length_take]; omega)
        rw [List.length_append, q1, q2, List.length_take, List.length_drop]; omega
def ItPm (xs : List V) : It :=
  ⟨fun i _ => ∃ ns, numsAt xs.length i = some ns ∧ ∀ j ∈ ns.take xs.length, j < xs.length, fun i H v H' => ∃ T ns, v = .ref T ∧ H T = none ∧ numsAt xs.length i = some ns ∧ H' = upd H T (.tup ((ns.take xs.length).map fun j => xs.getD j .non)), fun i _ => 0 < i ∧ (numsAt xs.length (i - 1)).isSome = true ∧ numsAt xs.length i = none⟩
def PmSt (its : List Value) (it pool : Addr) (i : Nat) (h : Heap) : Prop := match i with
  | 0 => IsPm h it pool its 0 (nums0 its.length)
  | k + 1 => ∃ ns, numsAt its.length k = some ns ∧ IsPm h it pool its 1 ns
theorem pmSt_any {its : List Value} {it pool : Addr} {i : Nat} {h : Heap} (st : PmSt its it pool i h) : ∃ flag ns, IsPm h it pool its flag ns := by
  cases i with
  | zero => exact ⟨_, _, st⟩
  | succ k => obtain ⟨ns, _, q⟩ := st; exact ⟨_, _, q⟩
theorem isPm_at {its : List Value} {it pool : Addr} {flag : Nat} {ns : List Nat} {h h' : Heap} (x : IsPm h it pool its flag ns) (k1 : ∀ o, h.get? it = some o → h'.get? it = some o) (k2 : ∀ o, h.get? pool = some o → h'.get? pool = some o) : IsPm h' it pool its flag ns := ⟨let ⟨p, e⟩ := x.ob; ⟨p, k1 _ e⟩, k2 _ x.pl⟩
theorem pick_vals {xs : List V} {its : List Value} (r : Vals xs its) (ix : List Nat) (hx : ∀ j ∈ ix.take xs.length, j < xs.length) : Vals ((ix.take xs.length).map fun j => xs.getD j .non) (pick its ix) := by
  have hl : xs.length = its.length := Paired.length r
  unfold pick
  rw [← hl]
  generalize ix.take xs.length = js at hx
  induction js with
  | nil => exact .nil
  | cons j js ih =>
    refine .cons ?_ (ih fun k hk => hx k (List.mem_cons_of_mem _ hk))
    have hj : j < xs.length := hx j (List.mem_cons_self ..)
    have h1 : xs[j]? = some xs[j] := List.getElem?_eq_getElem hj
    obtain ⟨u, h2, h3⟩ := r.get h1
    show RelV (xs.getD j .non) (its.toArray.getD j .none)
    rw [show xs.getD j .non = xs[j] by rw [List.getD_eq_getElem?_getD, h1]; rfl]
    have h4 : its.toArray.getD j .none = u := by
      rw [Array.getD_eq_getD_getElem?]
      simp [h2]
    rw [h4]
    exact h3
theorem pmSt_keep {its : List Value} {it pool : Addr} {i : Nat} {h h' : Heap} (st : PmSt its it pool i h) (k : ∀ b ∈ [it, pool], ∀ o, h.get? b = some o → h'.get? b = some o) : PmSt its it pool i h' := by
  cases i with
  | zero => exact isPm_at st (k it (by simp)) (k pool (by simp))
  | succ j => obtain ⟨ns, e, q⟩ := st; exact ⟨ns, e, isPm_at q (k it (by simp)) (k pool (by simp))⟩
theorem turn_pm {P : Program} {w : World} {K : PySem.W.Frag} {tg : Expr} {it pool : Addr} {xs : List V} {its : List Value} (r : Vals xs its) (hz : xs.length ≤ 1000) (hne : pool ≠ it) : Turn P w K tg (ItPm xs) [it, pool] it (PmSt its it pool) where
  mem := by simp
  obj := fun i h st b hb => by
    obtain ⟨flag, ns, ⟨prev, e⟩, p⟩ := pmSt_any st
    have e' : b = it ∨ b = pool := by simpa using hb
    rcases e' with z | z
    · rw [z]; exact ⟨_, e, fun v q => nomatch q⟩
    · rw [z]; exact ⟨_, p, fun v q => nomatch q⟩
  keep := fun i h h' st k => pmSt_keep st k
  item := by
    intro X hP hw hK hc i pins s σ H E I hf st hg
    subst hP hw hK
    obtain ⟨ns, hns, hlt⟩ := hg
    have hl : xs.length = its.length := r.length
    have lit : it < s.heap.objs.size := by obtain ⟨_, _, ⟨_, e⟩, _⟩ := pmSt_any st; exact Heap.lt_size e
    have lpool : pool < s.heap.objs.size := by obtain ⟨_, _, _, e⟩ := pmSt_any st; exact Heap.lt_size e
    have fin : ∀ h', IsPm h' it pool its 1 ns → h'.get? s.heap.objs.size = some { cls := .type "tuple", data := .seq (pick its ns).toArray } → (∀ b o, b ≠ it → s.heap.get? b = some o → h'.get? b = some o) →
        ∃ u, some (Value.ref s.heap.objs.size) = some u ∧ wpAny (model X.prog X.w) X.A (letOwnedTupleGo tg (.ref it) u) (fun _ s2 => ∃ x H', Inv X pins σ H' s2 ∧ RelV x u ∧ (ItPm xs).yld i H x H' ∧ PmSt its it pool (i + 1) s2.heap ∧ ∀ b ∈ [it, pool], H' b = none) E { s with heap := h' } := fun h' q1 q2 q3 => by
      refine ⟨_, rfl, ?_⟩
      obtain ⟨prev, e⟩ := q1.ob
      refine go_of e rfl rfl (by decide) ?_
      have hv := pick_vals r ns hlt
      have new : ObjOk X.prog X.w (upd H s.heap.objs.size (.tup ((ns.take xs.length).map fun j => xs.getD j .non))) h' s.heap.objs.size (.tup ((ns.take xs.length).map fun j => xs.getD j .non)) :=
        ⟨by rw [List.length_map, List.length_take, sizeLine_eq]; omega, pick its ns, hv, ⟨_, q2, rfl, _, rfl⟩⟩
      have I1 : Inv X pins σ (upd H s.heap.objs.size (.tup ((ns.take xs.length).map fun j => xs.getD j .non))) { s with heap := h' } :=
        I.turnedNew (t' := s.toks) (ch := [it, pool]) (fun b ob hb q => q3 b ob (fun z => hb (by simp [z])) q) hf (Nat.le_refl _) new
      refine ⟨.ref s.heap.objs.size, _, I1, rfl, ⟨_, ns, rfl, I.hok.fresh (Nat.le_refl _), hns, rfl⟩, ⟨ns, by rw [← hl]; exact hns, q1⟩, fun b hb => ?_⟩
      have hb' : b < s.heap.objs.size := by
        have e' : b = it ∨ b = pool := by simpa using hb
        rcases e' with z | z
        · rw [z]; exact lit
        · rw [z]; exact lpool
      rw [upd_ne (Nat.ne_of_lt hb')]
      exact (hf b hb).1
    unfold pyNext
    refine wpAny_bind (wpAny_attempt ?_)
    cases i with
    | zero =>
      cases hns
      rw [hl] at fin
      exact pm_first st hne (by rw [← hl]; exact hz) fun h' q1 q2 q3 => wpAny_pure (fin h' q1 q2 q3)
    | succ k =>
      obtain ⟨ms, hms, q0⟩ := st
      rw [hl] at hns
      have hs : (match nextP its.length its.length (ms.take its.length) (ms.drop its.length) with
        | some (ix, cy) => some (ix ++ cy)
        | none => none) = some ns := by
        have e : numsAt its.length (k + 1) = (match numsAt its.length k with
          | some ns => (match nextP its.length its.length (ns.take its.length) (ns.drop its.length) with
            | some (ix, cy) => some (ix ++ cy)
            | none => none)
          | none => none) := rfl
        rw [hms] at e
        dsimp only at e
        rw [← e]; exact hns
      cases hq : nextP its.length its.length (ms.take its.length) (ms.drop its.length) with
      | none => rw [hq] at hs; cases hs
      | some p =>
        obtain ⟨ix, cy⟩ := p
        rw [hq] at hs
        cases hs
        have l0 := numsAt_len hns
        have lix : its.length ≤ ix.length := by
          obtain ⟨z1, _⟩ := nextP_len hq (by rw [List.length_take, numsAt_len hms]; omega)
          rw [z1, List.length_take, numsAt_len hms]; omega
        refine pm_step q0 hq hne (by rw [← hl]; exact hz) (by rw [l0]; omega) fun h' q1 q2 q3 => wpAny_pure (fin h' q1 ?_ q3)
        have e : pick its (ix ++ cy) = pick its ix := by
          unfold pick
          rw [List.take_append_of_le_length lix]
        rw [e]; exact q2
  done := by
    intro X hP hw hK hc i pins s σ H E I hf st hg
    subst hP hw hK
    obtain ⟨h0, hs, hn⟩ := hg
    have hl : xs.length = its.length := r.length
    have hh : X.A.in1.handled = none := I.ok.hd hc
    cases i with
    | zero => exact absurd h0 (Nat.lt_irrefl _)
    | succ k =>
      obtain ⟨ms, hms, q0⟩ := st
      rw [hl] at hn
      have e : numsAt its.length (k + 1) = (match numsAt its.length k with
          | some ns => (match nextP its.length its.length (ns.take its.length) (ns.drop its.length) with
            | some (ix, cy) => some (ix ++ cy)
            | none => none)
          | none => none) := rfl
      rw [hms, hn] at e
      dsimp only at e
      have hq : nextP its.length its.length (ms.take its.length) (ms.drop its.length) = none := by
        cases hq : nextP its.length its.length (ms.take its.length) (ms.drop its.length) with
        | none => rfl
        | some p => rw [hq] at e; cases e
      unfold pyNext
      refine wpAny_bind (wpAny_attempt (pm_end (by exact hh) q0 hq fun h' x he hx => ?_))
      obtain ⟨o, ho, hcl⟩ := hx
      refine wpAny_bind (wpAny_isInstance (T := "StopIteration") (b := true) ⟨o, ho, hcl⟩ isSubtype_stop (wpAny_pure ⟨rfl, I.turnedL (t' := s.toks) (ch := [it, pool]) (fun b o hb q => he b o (fun z => hb (by simp [z])) q) hf⟩))
  self := fun A i s Q E st h => let ⟨_, _, q⟩ := pmSt_any st; pm_iter q h
end Rf

namespace Rf
open PySem PySem.Spec PyProof.Rows L2
open Sem (wp)

def iPm (K : PySem.W.Frag) (te : TE) : TI := fun σ H R => te σ H fun v H1 => ∃ a xs, v = .ref a ∧ SqL K H1 a xs ∧ xs.length ≤ 1000 ∧ R (ItPm xs) H1
theorem pi_pm {X : Cx} {tg e : Expr} {te : TE} {x : Str} {p pos : Pos} (hg : Gl X x) (hm : X.mg x = some (.type "itertools.permutations")) (he : PE X e te) (hdb : (x == ("__debug__" : Str)) = false := by decide) (hs : starEach [e] X.env = (false, eval e X.env) :: starEach [] X.env := by rfl) :
    PI X tg (.Call (.Name x p) [e] [] pos) (iPm X.K te) := by
  refine ⟨fun pins s σ H R I h => ?_⟩
  refine wpAny_Call_Name_kw (ld_glob I hg hm ?_ hdb)
  refine PyProof.Rows.callWith_type1 (PyProof.Rows.args_cons (thn (he.run pins s σ H _ I h) fun v s1 ⟨x, H1, I1, r1, q1⟩ => PyProof.Rows.args_nil ?_) hs) hs rfl
  obtain ⟨a, xs, rfl, hq, hz, q⟩ := q1
  obtain rfl : v = Value.ref a := r1
  obtain ⟨its, rv, p', _⟩ := I1.list hq
  have hl : xs.length = its.length := rv.length
  refine callType_new called_pm (by decide) (tCall_pm _) (nCall_pm _) (fun obj => F.args_object_init_2 obj _) entry_pm_new (meets_pm_new a its (by omega)) ⟨p'.isList, fun h' q1 kp => ?_⟩
  refine ⟨pm_type (s := { s1 with heap := h' }) q1, ?_⟩
  refine pm_iter (s := { s1 with heap := h' }) q1 ?_
  have I2 : Inv X pins σ H1 { s1 with heap := h' } := I1.kept (t' := s1.toks) kp
  refine ⟨s1.heap.objs.size + 2, [s1.heap.objs.size + 2, s1.heap.objs.size + 1], _, _, H1, rfl, I2, turn_pm rv hz (by show (s1.heap.objs.size + 1 : Nat) ≠ s1.heap.objs.size + 2; omega), q1, fun b hb => ?_, q⟩
  have e' : b = s1.heap.objs.size + 2 ∨ b = s1.heap.objs.size + 1 := by simpa using hb
  have hle : s1.heap.objs.size ≤ b := by
    rcases e' with z | z
    · rw [z]; exact Nat.le_add_right _ _
    · rw [z]; exact Nat.le_add_right _ _
  exact I1.fpOk hle (I1.hok.fresh hle)
/-- the rows of numbers, one after the other -/
def permGo : Nat → Nat → List Nat → Option (List (List Nat))
  | 0, _, _ => none
  | f + 1, n, ns => if (ns.take n).all (fun j => decide (j < n)) = true then (match nextP n n (ns.take n) (ns.drop n) with
    | none => some [ns.take n]
    | some (ix, cy) => (match permGo f n (ix ++ cy) with
      | some rows => some (ns.take n :: rows)
      | none => none)) else none
theorem permGo_is {n : Nat} : ∀ {f : Nat} {ns : List Nat} {rows : List (List Nat)} {i : Nat}, permGo f n ns = some rows → numsAt n i = some ns →
    0 < rows.length ∧ (∀ k row, rows[k]? = some row → ∃ ms, numsAt n (i + k) = some ms ∧ ms.take n = row ∧ ∀ j ∈ row, j < n) ∧ numsAt n (i + rows.length) = none
  | 0, _, _, _, h, _ => by cases h
  | f + 1, ns, rows, i, h, hi => by
    unfold permGo at h
    by_cases ha : (ns.take n).all (fun j => decide (j < n)) = true
    · rw [if_pos ha] at h
      have hb : ∀ j ∈ ns.take n, j < n := fun j hj => of_decide_eq_true (List.all_eq_true.mp ha j hj)
      cases hn : nextP n n (ns.take n) (ns.drop n) with
      | none =>
        rw [hn] at h
        cases h
        refine ⟨Nat.zero_lt_one, fun k row hk => ?_, ?_⟩
        · cases k with
          | zero => cases hk; exact ⟨ns, hi, rfl, hb⟩
          | succ k => simp at hk
        · show (match numsAt n i with
            | some ns => (match nextP n n (ns.take n) (ns.drop n) with
              | some (ix, cy) => some (ix ++ cy)
              | none => none)
            | none => none) = none
          rw [hi]; dsimp only; rw [hn]
      | some q =>
        obtain ⟨ix, cy⟩ := q
        rw [hn] at h
        dsimp only at h
        cases hg : permGo f n (ix ++ cy) with
        | none => rw [hg] at h; cases h
        | some rs =>
          rw [hg] at h
          cases h
          have hi2 : numsAt n (i + 1) = some (ix ++ cy) := by
            show (match numsAt n i with
              | some ns => (match nextP n n (ns.take n) (ns.drop n) with
                | some (ix, cy) => some (ix ++ cy)
                | none => none)
              | none => none) = _
            rw [hi]; dsimp only; rw [hn]
          obtain ⟨h1, h2, h3⟩ := permGo_is hg hi2
          refine ⟨Nat.succ_pos _, fun k row hk => ?_, ?_⟩
          · cases k with
            | zero => cases hk; exact ⟨ns, hi, rfl, hb⟩
            | succ k =>
              obtain ⟨ms, a, b⟩ := h2 k row (by simpa using hk)
              exact ⟨ms, by rw [show i + (k + 1) = i + 1 + k by omega]; exact a, b⟩
          · rw [List.length_cons, show i + (rs.length + 1) = i + 1 + rs.length by omega]; exact h3
    · rw [if_neg ha] at h; cases h
def permM (ns : List Int) : Option (List (List Int)) := match permGo 100 ns.length (nums0 ns.length) with
  | some rows => some (rows.map fun ix => ix.map fun j => ns.getD j 0)
  | none => none
theorem pick_ints (ns : List Int) (row : List Nat) (h : ∀ j ∈ row, j < ns.length) : (row.map fun j => (ns.map V.int).getD j .non) = (row.map fun j => ns.getD j 0).map V.int := by
  rw [List.map_map]
  refine List.map_congr_left fun j hj => ?_
  have q := h j hj
  show (ns.map V.int).getD j .non = V.int (ns.getD j 0)
  rw [List.getD_eq_getElem?_getD, List.getD_eq_getElem?_getD, List.getElem?_map, List.getElem?_eq_getElem q]; rfl
theorem walks_pm {ns : List Int} {rows : List (List Int)} (h : permM ns = some rows) {D1 : Hp} : Walks (ItPm (ns.map V.int)) D1 (rows.map rTI) := fun i H' D' e1 e2 => by
  unfold permM at h
  cases hg : permGo 100 ns.length (nums0 ns.length) with
  | none => rw [hg] at h; cases h
  | some rs =>
    rw [hg] at h
    cases h
    obtain ⟨h1, h2, h3⟩ := permGo_is (i := 0) hg rfl
    have hl : (ns.map V.int).length = ns.length := List.length_map ..
    refine ⟨fun r hr => ?_, fun hi => ?_⟩
    · rw [List.map_map, List.getElem?_map] at hr
      cases q : rs[i]? with
      | none => rw [q] at hr; cases hr
      | some row =>
        rw [q] at hr
        cases hr
        obtain ⟨ms, a, b, c⟩ := h2 i row q
        rw [Nat.zero_add] at a
        refine ⟨⟨ms, by rw [hl]; exact a, by rw [hl, b]; exact c⟩, fun x H'' hy => ?_⟩
        obtain ⟨T, ns', rfl, nT, a', rfl⟩ := hy
        rw [hl, a] at a'
        cases a'
        rw [hl, b, pick_ints ns row c]
        exact ⟨_, Grow.new e2 nT, T, _, rfl, upd_same, reps_ofI _⟩
    · rw [List.length_map, List.length_map] at hi
      refine ⟨by omega, ?_, by rw [hl, ← hi]; rw [Nat.zero_add] at h3; exact h3⟩
      have hlt : rs.length - 1 < rs.length := by omega
      obtain ⟨ms, a, _⟩ := h2 (rs.length - 1) _ (List.getElem?_eq_getElem hlt)
      rw [Nat.zero_add] at a
      rw [hl, ← hi, a]; rfl
theorem ig_perm {X : Cx} {g : List Sl} {tg e : Expr} {x : Str} {p pos : Pos} {ns : List Int} {rows : List (List Int)} (h : permM ns = some rows) (hz : ns.length ≤ 1000) (hm : X.mg x = some (.type "itertools.permutations")) (he : EG X e g (rInts ns)) (hg : Gl X x := by rfl) (hdb : (x == ("__debug__" : Str)) = false := by decide)
    (hs : starEach [e] X.env = (false, eval e X.env) :: starEach [] X.env := by rfl) : IG X tg (.Call (.Name x p) [e] [] pos) g (rows.map rTI) :=
  pi_to (pi_pm hg hm he hdb hs) fun σ H R ⟨F, D0, D, ok, k⟩ => ⟨F, D0, D, ok, fun v H' D' e1 hv => by
    obtain ⟨a, vs, rfl, h2, h3⟩ := hv
    rw [reps_ints h3] at h2
    exact ⟨a, _, rfl, SqL.of (e1.i _ _ h2), by rw [List.length_map]; exact hz, k _ H' D' e1 (walks_pm h)⟩⟩
end Rf

namespace Rf
open PySem PySem.Spec PyProof.Rows L2
section
variable {P : Program} {w : World} {K : PySem.W.Frag} {mg : Str → Option Value} {base : Heap} {f : Addr} {fd : FuncData}

def placesM (ls : List Int) (k : Int) : List Int := ((enumI ls).filter fun z => decide (z.2 = k)).map (·.1)
def amInner (fw : List Int) (rows : List (List Int)) (acc : List (List Int)) (m : List Int) : Option (List (List Int)) := if acc.length ≤ 2000 then (match comp (fun _ => some true) (sewnM m fw) rows with
  | some r => if r.length ≤ 1000 then some (acc ++ r) else none
  | none => none) else none
def amStep (ls : List Int) (fs : List (List Int)) (k : Int) : Option (List (List Int)) := match permM (placesM ls (-k)) with
  | some rows => foldM (amInner (placesM ls k) rows) [] fs
  | none => none
def allMatesM (ls : List Int) : Option (List (List Int)) := match foldM (amStep ls) [ls.map fun _ => 0] (kindsM ls) with
  | some fs => if fs.all (fun t => !t.isEmpty) = true ∧ fs.length ≤ 1000 then some (isortL fs) else none
  | none => none
inductive relAllM : Rel
  | mk (ls : List Int) (ms : List (List Int)) (hz : ls.length ≤ 60) (h : allMatesM ls = some ms) : relAllM [rTDi ls] (rL (ms.map rTI))
theorem places_len {ls : List Int} {k : Int} : (placesM ls k).length ≤ ls.length := by
  unfold placesM
  rw [List.length_map]
  exact Nat.le_trans (List.length_filter_le ..) (by rw [enumI_len]; exact Nat.le_refl _)

theorem sc_all_mates : FnScope ["letters", "found", "kind", "forward", "backward", "longer", "mates", "letter", "place", "order"] ["letters"] (defScope (top 60)) := ⟨rfl, rfl, rfl, by decide +kernel, rfl, by decide +kernel, by decide +kernel⟩
theorem c_all_mates (T : Fre mg) (gP : mg "permutations" = some (.type "itertools.permutations")) (C1 : DefC P w K mg base "kinds_of" 1 relKinds) (C2 : DefC P w K mg base "sewn" 1 relSewn) (F : FnP K "all_mates" (top 60) f fd) (gm : mg "all_mates" = some (.ref f)) : DefC P w K mg base "all_mates" 2 relAllM := by
  refine ⟨f, fd, ["letters"], def_g F sc_all_mates (fun A r h => by cases h <;> rfl) (by decide) (fun cdv A outer s H E hr As r h => ?_), gm, F.kp, F.bindsN fun _ _ _ _ _ _ us hl => match us, hl with | [_], _ => rfl⟩
  cases h with
  | mk ls ms hz h =>
    unfold allMatesM at h
    cases hf : foldM (amStep ls) [ls.map fun _ => 0] (kindsM ls) with
    | none => rw [hf] at h; cases h
    | some fs0 =>
      rw [hf] at h
      dsimp only at h
      by_cases hq : fs0.all (fun t => !t.isEmpty) = true ∧ fs0.length ≤ 1000
      · rw [if_pos hq] at h
        cases h
        refine sg_set 1 (eg_n (ng_lst (ag_cons (eg_n (ng_lc (fa := rInt) (fb := rInt) (l := ls) [("letter", 7)] (fun x => [.d (rTDi ls), .non, .non, .non, .non, .non, .non, .d (rInt x), .non, .non]) (fun _ => some true) (fun _ => some 0) rfl sc_all_mates.nd (ig_tupD (eg_name 0)) (comp_all (by omega)) (blkOk_by (N := ["letters", "found", "kind", "forward", "backward", "longer", "mates", "letter", "place", "order"]) (sc := defScope (top 60)) (by decide +kernel))
          (fun x s H C cl fp => kg_name 7 sc_all_mates.nd) (fun x k s H C cl fp e => by cases e; exact ts_nil) (fun x y s H C cl fp _ e => by cases e; exact eg_int))) ag_nil))) sc_all_mates.nd ?_
        refine sg_for (fa := rInt) (l := kindsM ls) (fun fs : List (List Int) => [.d (rTDi ls), .d (rL (fs.map rInts)), .non, .non, .non, .non, .non, .non, .non, .non]) (amStep ls) (fun fs k => [.d (rTDi ls), .d (rL (fs.map rInts)), .d (rInt k), .non, .non, .non, .non, .non, .non, .non]) [2] (ig_list (eg_call C1 (ag_cons (eg_name 0) ag_nil) (.mk ls hz) (hr.mono (by decide)))) hf (Le.refl _) rfl
          (fun s x => kg_name 2 sc_all_mates.nd) (fun fs k fs' _ e => ?_) ?_
        · unfold amStep at e
          cases hp : permM (placesM ls (-k)) with
          | none => rw [hp] at e; cases e
          | some rows =>
            rw [hp] at e
            dsimp only at e
            refine sg_set 3 (eg_n (ng_lc (fa := fun z : Int × Int => rT [rInt z.1, rInt z.2]) (fb := rInt) (l := enumI ls) [("place", 8), ("letter", 7)] (fun z => [.d (rTDi ls), .d (rL (fs.map rInts)), .d (rInt k), .non, .non, .non, .non, .d (rInt z.2), .d (rInt z.1), .non]) (fun z => some (decide (z.2 = k))) (fun z => some z.1) rfl sc_all_mates.nd ?_ (comp_filter (by rw [enumI_len]; omega)) (blkOk_by (N := ["letters", "found", "kind", "forward", "backward", "longer", "mates", "letter", "place", "order"]) (sc := defScope (top 60)) (by decide +kernel))
              (fun x s H C cl fp => kg_pair 8 7 rfl sc_all_mates.nd) (fun x k s H C cl fp e => by cases e; exact ts_one (bg_eqi (eg_name 7) (eg_name 2))) (fun z y s H C cl fp _ e => by cases e; exact eg_name 8))) sc_all_mates.nd ?_
            · rw [← enumR_map]; exact ig_enumD T.enumerate (eg_name 0)
            refine sg_setLc (fa := fun z : Int × Int => rT [rInt z.1, rInt z.2]) (fb := rInt) (l := enumI ls) 4 [("place", 8), ("letter", 7)] (fun z => [.d (rTDi ls), .d (rL (fs.map rInts)), .d (rInt k), .d (rInts (placesM ls k)), .non, .non, .non, .d (rInt z.2), .d (rInt z.1), .non]) (fun z => some (decide (z.2 = -k))) (fun z => some z.1) rfl sc_all_mates.nd ?_ (comp_filter (by rw [enumI_len]; omega)) (blkOk_by (N := ["letters", "found", "kind", "forward", "backward", "longer", "mates", "letter", "place", "order"]) (sc := defScope (top 60)) (by decide +kernel))
              (fun x s H C cl fp => kg_pair 8 7 rfl sc_all_mates.nd) (fun x k s H C cl fp e => by cases e; exact ts_one (bg_eqi (eg_name 7) (eg_neg (eg_name 2)))) (fun z y s H C cl fp _ e => by cases e; exact eg_name 8) ?_
            · rw [← enumR_map]; exact ig_enumD T.enumerate (eg_name 0)
            refine sg_le (Le.freeze 4 rfl rfl) ?_
            refine sg_setV 5 (vg_l (ng_lst ag_nil)) sc_all_mates.nd ?_
            refine sg_for (fa := rInts) (l := fs) (fun acc : List (List Int) => [.d (rTDi ls), .d (rL (fs.map rInts)), .d (rInt k), .d (rInts (placesM ls k)), .d (rInts (placesM ls (-k))), .l (acc.map rInts), .non, .non, .non, .non]) (amInner (placesM ls k) rows) (fun acc m => [.d (rTDi ls), .d (rL (fs.map rInts)), .d (rInt k), .d (rInts (placesM ls k)), .d (rInts (placesM ls (-k))), .l (acc.map rInts), .d (rInts m), .non, .non, .non]) [6] (ig_list (eg_name 1)) e (Le.refl _) rfl
              (fun s x => kg_name 6 sc_all_mates.nd) (fun acc m acc' _ e => ?_) ?_
            · unfold amInner at e
              by_cases hl : acc.length ≤ 2000
              · rw [if_pos hl] at e
                cases hc : comp (fun _ => some true) (sewnM m (placesM ls k)) rows with
                | none => rw [hc] at e; cases e
                | some r =>
                  rw [hc] at e
                  dsimp only at e
                  by_cases hl2 : r.length ≤ 1000
                  · rw [if_pos hl2] at e
                    cases e
                    refine sg_extend 5 rfl (eg_n (ng_lc (fa := rTI) (fb := rInts) (l := rows) [("order", 9)] (fun o => [.d (rTDi ls), .d (rL (fs.map rInts)), .d (rInt k), .d (rInts (placesM ls k)), .d (rInts (placesM ls (-k))), .l (acc.map rInts), .d (rInts m), .non, .non, .d (rTI o)]) (fun _ => some true) (sewnM m (placesM ls k)) rfl sc_all_mates.nd (ig_perm hp (by have q := places_len (ls := ls) (k := -k); omega) gP (eg_name 4)) hc (blkOk_by (N := ["letters", "found", "kind", "forward", "backward", "longer", "mates", "letter", "place", "order"]) (sc := defScope (top 60)) (by decide +kernel))
                      (fun x s H C cl fp => kg_name 9 sc_all_mates.nd) (fun x k s H C cl fp e => by cases e; exact ts_nil) (fun o y s H C cl fp _ e => eg_call C2 (ag_cons (eg_name 6) (ag_cons (eg_name 3) (ag_cons (eg_name 9) ag_nil))) (.mk _ _ _ _ e) (hr.mono (by decide))))) (by rw [List.length_map, List.length_map]; omega) (sg_nil ?_)
                    rw [List.map_append]
                    exact (LeS.same (.same (.same (.same (.same (.same (.non (.same (.same (.same .nil)))))))))).go
                  · rw [if_neg hl2] at e; cases e
              · rw [if_neg hl] at e; cases e
            · refine sg_le (Le.freeze 5 rfl rfl) ?_
              refine sg_set 1 (eg_name 5) sc_all_mates.nd (sg_nil ?_)
              exact (LeS.same (.same (.non (.non (.non (.non (.same (.same (.same (.same .nil)))))))))).go
        · refine sg_ret (eg_n (ng_sortedL hq.1 hr.units T.sorted (eg_eq (congrArg rL (by rw [List.map_id'])) (eg_n (ng_lc (fa := rInts) (fb := rTI) (l := fs0) [("mates", 6)] (fun m => [.d (rTDi ls), .d (rL (fs0.map rInts)), .non, .non, .non, .non, .d (rInts m), .non, .non, .non]) (fun _ => some true) (fun m => some m) rfl sc_all_mates.nd (ig_list (eg_name 1)) (comp_all (by omega)) (blkOk_by (N := ["letters", "found", "kind", "forward", "backward", "longer", "mates", "letter", "place", "order"]) (sc := defScope (top 60)) (by decide +kernel))
            (fun x s H C cl fp => kg_name 6 sc_all_mates.nd) (fun x k s H C cl fp e => by cases e; exact ts_nil) (fun x y s H C cl fp _ e => by cases e; exact eg_tupleL T.tuple (eg_name 6))))))) rfl
      · rw [if_neg hq] at h; cases h

abbrev fSew : List Str := ["rims", "mates", "corners", "cost", "pieces", "handles"]
abbrev KSew (K : PySem.W.Frag) : Prop := KlsA K (He.ga K "Sewing") fSew
structure SewD where
  ws : List (List Int)
  nx : List Int
  ms : List Int
  cs : List (List Int)
  ps : List (List Int)
def SewD.bands (S : SewD) : Int := ((lettersOf S.ws).length : Int) / 2
def SewD.cost (S : SewD) : Int := S.bands - S.cs.length
abbrev sewF (K : PySem.W.Frag) (S : SewD) : List (Str × Rp) := [("rims", rRims K S.ws S.nx), ("mates", rTI S.ms), ("corners", rT (S.cs.map rTI)), ("cost", rInt S.cost), ("pieces", rT (S.ps.map rTI)), ("handles", rAny)]
abbrev rSew (K : PySem.W.Frag) (S : SewD) : Rp := Rf.rI (He.ga K "Sewing") (sewF K S)
inductive relSewI (K : PySem.W.Frag) : RelI
  | mk (S : SewD) (tp : Bool) (kn : KD) (hw : S.ws.length ≤ 1000) (hp : S.ps.length ≤ 1000) (h1 : matesOk (lettersOf S.ws) S.ms = true) (h2 : cornersM S.nx S.ms = some (kn, S.cs)) (h3 : piecesM (numbersM S.ws) S.ms = some S.ps) : relSewI K [rRims K S.ws S.nx, rQi tp S.ms] (sewF K S)
theorem matesOk_len {ls ms : List Int} (h : matesOk ls ms = true) : ms.length ≤ 60 := by
  unfold matesOk at h
  rw [Bool.and_eq_true, Bool.and_eq_true, Bool.and_eq_true, decide_eq_true_eq, decide_eq_true_eq] at h
  exact h.1.1.2

theorem sc_Sewing_init : FnScope ["self", "rims", "mates"] ["self", "rims", "mates"] (defScope (inClass (top 64) 0)) := ⟨rfl, rfl, rfl, by decide +kernel, rfl, by decide +kernel, by decide +kernel⟩
theorem c_Sewing_init (T : Fre mg) (R : KRims K) (S0 : KSew K) (C1 : DefC P w K mg base "need_rims" 1 (relNeedR K)) (C2 : DefC P w K mg base "are_mates" 3 relMates) (C3 : DefC P w K mg base "corners_of" 1 relCorn) (C4 : DefC P w K mg base "pieces_of" 1 relPiec) (F : FnM K "__init__" "Sewing.__init__" (inClass (top 64) 0) f fd) (gm : mg "Sewing" = some (.ref (He.ga K "Sewing"))) (mk : Mk K (He.ga K "Sewing") f) : MakeC P w K mg base "Sewing" (He.ga K "Sewing") 4 (relSewI K) := by
  refine ⟨f, fd, ["self", "rims", "mates"], init_g F sc_Sewing_init (fun A r h => by cases h <;> rfl) (by decide) (fun cdv A outer s H E hr As fs ax adx h => ?_), gm, mk, F.bindsN fun _ _ _ _ _ _ us hl => match us, hl with | [_, _, _], _ => rfl⟩
  cases h with
  | mk S tp kn hw hp h1 h2 h3 =>
    refine sg_expr (eg_call C1 (ag_cons (eg_name 1) ag_nil) (.mk _) (hr.mono (by decide))) ?_
    refine sg_ifF (k := false) (bg_not (k := true) (bg_val (eg_call C2 (ag_cons (eg_fld R.c.cl (R.n _ (by decide)) (eg_name 1)) (ag_cons (eg_name 2) ag_nil)) (.mk _ _ _ h1) hr))) rfl ?_
    refine sg_fld 0 S0.c.cl (S0.n _ (by decide)) rfl (eg_name 1) ?_
    refine sg_fld 0 S0.c.cl (S0.n _ (by decide)) rfl (eg_tupleQ T.tuple (eg_name 2)) ?_
    refine sg_fld 0 S0.c.cl (S0.n _ (by decide)) rfl (eg_call C3 (ag_cons (eg_fld R.c.cl (R.n _ (by decide)) (eg_name 1)) (ag_cons (eg_name 2) ag_nil)) (.mk S.nx S.ms tp (kn, S.cs) (by have := matesOk_len h1; omega) h2) (hr.mono (by decide))) ?_
    refine sg_fld 0 S0.c.cl (S0.n _ (by decide)) rfl (eg_sub (eg_fld R.c.cl (R.n _ (by decide)) (eg_name 1)) (eg_lenT1 T.len (eg_fldO 0 S0.c.cl (S0.n _ (by decide))))) ?_
    refine sg_fld 0 S0.c.cl (S0.n _ (by decide)) rfl (eg_call C4 (ag_cons (eg_fld R.c.cl (R.n _ (by decide)) (eg_name 1)) (ag_cons (eg_name 2) ag_nil)) (.mk _ S.ms tp S.ps h3) (hr.mono (by decide))) ?_
    refine sg_fld 0 S0.c.cl (S0.n _ (by decide)) rfl (eg_any (eg_fdiv (j := 2) ⟨by decide, by decide⟩ (eg_add (eg_sub (eg_mul (i := 2) (.inl ⟨by decide, by decide⟩) eg_int (eg_lenT1 T.len (eg_fldO 0 S0.c.cl (S0.n _ (by decide))))) (eg_lenT1 T.len (eg_fld R.c.cl (R.n _ (by decide)) (eg_name 1)))) (eg_fldO 0 S0.c.cl (S0.n _ (by decide)))) eg_int)) ?_
    exact sg_nil rfl

/-- a sewing of these rims with these mates -/
def sewD (ws : List (List Int)) (nx ms : List Int) : Option SewD := if matesOk (lettersOf ws) ms = true ∧ ws.length ≤ 1000 then (match cornersM nx ms with
  | some q => (match piecesM (numbersM ws) ms with
    | some ps => if ps.length ≤ 1000 then some ⟨ws, nx, ms, q.2, ps⟩ else none
    | none => none)
  | none => none) else none
theorem sewD_rel {K : PySem.W.Frag} {ws : List (List Int)} {nx ms : List Int} {S : SewD} (tp : Bool) (h : sewD ws nx ms = some S) : relSewI K [rRims K ws nx, rQi tp ms] (sewF K S) := by
  unfold sewD at h
  by_cases h1 : matesOk (lettersOf ws) ms = true ∧ ws.length ≤ 1000
  · rw [if_pos h1] at h
    cases h2 : cornersM nx ms with
    | none => rw [h2] at h; cases h
    | some q =>
      obtain ⟨kn, cs⟩ := q
      rw [h2] at h; dsimp only at h
      cases h3 : piecesM (numbersM ws) ms with
      | none => rw [h3] at h; cases h
      | some ps =>
        rw [h3] at h; dsimp only at h
        by_cases h4 : ps.length ≤ 1000
        · rw [if_pos h4] at h; cases h
          exact relSewI.mk ⟨ws, nx, ms, cs, ps⟩ tp kn h1.2 h4 h1.1 h2 h3
        · rw [if_neg h4] at h; cases h
  · rw [if_neg h1] at h; cases h
inductive relAllS (K : PySem.W.Frag) : Rel
  | mk (ws : List (List Int)) (nx : List Int) (n : Int) (mss : List (List Int)) (Ss : List SewD) (hz : (lettersOf ws).length ≤ 60) (h : manyM (lettersOf ws) = some n) (hn : n ≤ 720) (h2 : allMatesM (lettersOf ws) = some mss) (h3 : comp (fun _ => some true) (sewD ws nx) mss = some Ss) : relAllS K [rRims K ws nx] (rT (Ss.map (rSew K)))

theorem sc_all_sewings : FnScope ["rims", "mates"] ["rims"] (defScope (top 65)) := ⟨rfl, rfl, rfl, by decide +kernel, rfl, by decide +kernel, by decide +kernel⟩
theorem c_all_sewings (T : Fre mg) (R : KRims K) (C1 : DefC P w K mg base "need_few_sewings" 3 (relFewS K)) (C2 : DefC P w K mg base "all_mates" 2 relAllM) (C3 : MakeC P w K mg base "Sewing" (He.ga K "Sewing") 4 (relSewI K)) (F : FnP K "all_sewings" (top 65) f fd) (gm : mg "all_sewings" = some (.ref f)) : DefC P w K mg base "all_sewings" 6 (relAllS K) := by
  refine ⟨f, fd, ["rims"], def_g F sc_all_sewings (fun A r h => by cases h <;> rfl) (by decide) (fun cdv A outer s H E hr As r h => ?_), gm, F.kp, F.bindsN fun _ _ _ _ _ _ us hl => match us, hl with | [_], _ => rfl⟩
  cases h with
  | mk ws nx n mss Ss hz h hn h2 h3 =>
    refine sg_expr (eg_call C1 (ag_cons (eg_name 0) ag_nil) (.mk ws nx n hz h hn) (hr.mono (by decide))) ?_
    exact sg_ret (eg_tupleL T.tuple (eg_n (ng_lc (fa := rTI) (fb := rSew K) (l := mss) [("mates", 1)] (fun m => [.d (rRims K ws nx), .d (rTI m)]) (fun _ => some true) (sewD ws nx) rfl sc_all_sewings.nd (ig_list (eg_call C2 (ag_cons (eg_fld R.c.cl (R.n _ (by decide)) (eg_name 0)) ag_nil) (.mk _ mss hz h2) (hr.mono (by decide)))) h3 (blkOk_by (N := ["rims", "mates"]) (sc := defScope (top 65)) (by decide +kernel))
      (fun x s H C cl fp => kg_name 1 sc_all_sewings.nd) (fun x k s H C cl fp e => by cases e; exact ts_nil) (fun m S s H C cl fp _ e => eg_make C3 (ag_cons (eg_name 0) (ag_cons (eg_name 1) ag_nil)) (sewD_rel true e) hr)))) rfl

end
end Rf

namespace Rf
open PySem PySem.Spec PyProof.Rows L2
open Sem (wp)

/-! ### list(zip(xs, ys)): the pairs stay -/
section
variable {prog : Program} {w : World} {A : Around} {E : Value → Shared → Prop} {s : Shared} {z TI TO T i1 i2 : Addr} {f : Bool} {oT : Obj} {fp1 fp2 : List Addr} {n1 n2 i : Nat} {P1 P2 : Nat → Value → Prop} {St1 St2 : Nat → Heap → Prop}
theorem zh_item {Q : Value → Shared → Prop} (S : ZipSep2 z TI TO i1 i2 fp1 fp2) (D1 : Draws prog w A i1 fp1 n1 P1 St1) (D2 : Draws prog w A i2 fp2 n2 P2 St2) (hz : IsZipHeld s.heap z TI TO T f) (hT : s.heap.get? T = some oT) (hTI : IsPair s.heap TI (.ref i1) (.ref i2))
    (st1 : St1 i s.heap) (st2 : St2 i s.heap) (lt1 : i < n1) (lt2 : i < n2)
    (k : ∀ x y h' tk, P1 i x → P2 i y → IsZipHeld h' z TI TO T true → St1 (i + 1) h' → St2 (i + 1) h' → IsPair h' s.heap.objs.size x y → h'.objs.size = s.heap.objs.size + 1 → (∀ c o, c ≠ z → c ≠ i1 → c ≠ i2 → s.heap.get? c = some o → h'.get? c = some o) → Q (.ref s.heap.objs.size) { s with heap := h', toks := tk }) :
    wpAny (model prog w) A (Builtin.«zip.__next__» ⟨[.ref z], []⟩) (fun fin s' => ∃ v, fin = .done (.ret v) ∧ Q v s') E s := by
  obtain ⟨hp, g, d, tk0, os⟩ := s
  show wpAny _ _ (field (.ref z) 2 >>= _) _ _ _
  refine wpAny_bind (wpAny_field hz rfl (x := .bool false) rfl ?_)
  show wpAny _ _ (field (.ref z) 3 >>= _) _ _ _
  refine wpAny_bind (wpAny_field hz rfl (x := .ref TI) rfl (wpAny_bind (wpAny_seqItems hTI rfl ?_)))
  show wpAny _ _ (Builtin.SmallTypes.ownedTupleIsFree (.ref z) >>= _) _ _ _
  refine wpAny_bind (wpAny_tupleHeld_zip hz hT fun g1 z1 b1 => ?_)
  replace b1 : Heap.SameBut z hp g1 := b1
  simp only [Bool.false_eq_true, if_false]
  refine wpAny_bind ?_
  rw [← Array.forIn_toList]
  simp only [List.forIn_cons, List.forIn_nil]
  refine wpAny_bind (wpAny_bind (wpAny_holding ?_))
  show wpAny _ _ (Builtin.SmallTypes.nextOf (.ref i1) >>= _) _ _ ⟨g1, g, d, tk0, os⟩
  refine wpAny_bind (D1.item i _ _ _ lt1 (D1.over st1 b1 S.zf1) fun x g2 t2 px sx b2 => wpAny_pure (wpAny_pure (wpAny_bind (wpAny_bind (wpAny_holding ?_)))))
  replace b2 : Heap.SameBut i1 g1 g2 := b2
  show wpAny _ _ (Builtin.SmallTypes.nextOf (.ref i2) >>= _) _ _ ⟨g2, g, d, t2, os⟩
  refine wpAny_bind (D2.item i _ _ _ lt2 (D2.over (D2.over st2 b1 S.zf2) b2 S.sep1_2) fun y g3 t3 py sy b3 => wpAny_pure (wpAny_pure (wpAny_pure ?_)))
  replace b3 : Heap.SameBut i2 g2 g3 := b3
  show wpAny _ _ (newTuple [x, y] >>= _) _ _ ⟨g3, g, d, t3, os⟩
  refine wpAny_bind (wpAny_newTuple ?_)
  have sz : g3.objs.size = hp.objs.size := by rw [b3.1, b2.1, b1.1]
  have z3 : IsZipHeld g3 z TI TO T true := b3.extBut _ _ S.zi2 (b2.extBut _ _ S.zi1 z1)
  have old : ∀ c o, c ≠ z → c ≠ i1 → c ≠ i2 → hp.get? c = some o → g3.get? c = some o := fun c o c1 c2 c3 e => b3.extBut _ _ c3 (b2.extBut _ _ c2 (b1.extBut _ _ c1 e))
  refine wpAny_pure ⟨_, rfl, ?_⟩
  show Q (.ref g3.objs.size) ⟨g3.push { cls := .type "tuple", data := .seq #[x, y] }, g, d, t3, os⟩
  have hp2 : IsPair (g3.push { cls := .type "tuple", data := .seq #[x, y] }) g3.objs.size x y := Heap.get?_push_size _ rfl
  have sz2 : (g3.push { cls := .type "tuple", data := .seq #[x, y] }).objs.size = g3.objs.size + 1 := Heap.size_push ..
  rw [sz] at hp2 sz2 ⊢
  exact k x y _ t3 px py (Heap.get?_push_of_some _ z3) (D1.frame _ _ _ (D1.over sx b3 S.sep2_1) fun b _ o e => Heap.get?_push_of_some _ e) (D2.frame _ _ _ sy fun b _ o e => Heap.get?_push_of_some _ e) hp2 sz2 fun c o c1 c2 c3 e => Heap.get?_push_of_some _ (old c o c1 c2 c3 e)
theorem zh_end {Q : Fin → Shared → Prop} (S : ZipSep2 z TI TO i1 i2 fp1 fp2) (D1 : Draws prog w A i1 fp1 n1 P1 St1) (hz : IsZipHeld s.heap z TI TO T f) (hT : s.heap.get? T = some oT) (hTI : IsPair s.heap TI (.ref i1) (.ref i2)) (st1 : St1 n1 s.heap)
    (k : ∀ h' e, (∀ c o, c ≠ z → c ≠ i1 → c ≠ i2 → s.heap.get? c = some o → h'.get? c = some o) → (∃ o, h'.get? e = some o ∧ o.cls = .type "StopIteration") → E (.ref e) { s with heap := h' }) :
    wpAny (model prog w) A (Builtin.«zip.__next__» ⟨[.ref z], []⟩) Q E s := by
  obtain ⟨hp, g, d, tk0, os⟩ := s
  show wpAny _ _ (field (.ref z) 2 >>= _) _ _ _
  refine wpAny_bind (wpAny_field hz rfl (x := .bool false) rfl ?_)
  show wpAny _ _ (field (.ref z) 3 >>= _) _ _ _
  refine wpAny_bind (wpAny_field hz rfl (x := .ref TI) rfl (wpAny_bind (wpAny_seqItems hTI rfl ?_)))
  show wpAny _ _ (Builtin.SmallTypes.ownedTupleIsFree (.ref z) >>= _) _ _ _
  refine wpAny_bind (wpAny_tupleHeld_zip hz hT fun g1 z1 b1 => ?_)
  replace b1 : Heap.SameBut z hp g1 := b1
  simp only [Bool.false_eq_true, if_false]
  refine wpAny_bind ?_
  rw [← Array.forIn_toList]
  simp only [List.forIn_cons, List.forIn_nil]
  refine wpAny_bind (wpAny_bind (wpAny_holding ?_))
  show wpAny _ _ (Builtin.SmallTypes.nextOf (.ref i1) >>= _) _ _ ⟨g1, g, d, tk0, os⟩
  refine wpAny_bind (D1.done _ _ _ (D1.over st1 b1 S.zf1) fun g2 e b2 he => ?_)
  exact k g2 e (fun c o c1 c2 _ x => b2 _ _ c2 (b1.extBut _ _ c1 x)) he
theorem zh_pyItem {Q : Option Value → Shared → Prop} (S : ZipSep2 z TI TO i1 i2 fp1 fp2) (D1 : Draws prog w A.in1 i1 fp1 n1 P1 St1) (D2 : Draws prog w A.in1 i2 fp2 n2 P2 St2) (hz : IsZipHeld s.heap z TI TO T f) (hT : s.heap.get? T = some oT) (hTI : IsPair s.heap TI (.ref i1) (.ref i2))
    (st1 : St1 i s.heap) (st2 : St2 i s.heap) (lt1 : i < n1) (lt2 : i < n2)
    (k : ∀ x y h' tk, P1 i x → P2 i y → IsZipHeld h' z TI TO T true → St1 (i + 1) h' → St2 (i + 1) h' → IsPair h' s.heap.objs.size x y → h'.objs.size = s.heap.objs.size + 1 → (∀ c o, c ≠ z → c ≠ i1 → c ≠ i2 → s.heap.get? c = some o → h'.get? c = some o) → Q (some (.ref s.heap.objs.size)) { s with heap := h', toks := tk }) :
    wpAny (model prog w) A (pyNext (.ref z)) Q E s := by
  have ty : s.TypeIs (.ref z) "zip" := ⟨_, hz, rfl⟩
  unfold pyNext
  exact wpAny_bind (wpAny_attempt (wpAny_callSpecial?_slot (name := Str.ofString "__next__") ty F.slot_zip_next (wpAny_call_entry F.slot_zip_next ty F.entry_zip_next
    (zh_item S D1 D2 hz hT hTI st1 st2 lt1 lt2 fun x y h' tk a b c d e f g q => wpAny_pure (k x y h' tk a b c d e f g q)) (F.args_zip_next_1 _))))
theorem zh_pyEnd {Q : Option Value → Shared → Prop} (S : ZipSep2 z TI TO i1 i2 fp1 fp2) (D1 : Draws prog w A.in1 i1 fp1 n1 P1 St1) (hz : IsZipHeld s.heap z TI TO T f) (hT : s.heap.get? T = some oT) (hTI : IsPair s.heap TI (.ref i1) (.ref i2)) (st1 : St1 n1 s.heap)
    (k : ∀ h', (∀ c o, c ≠ z → c ≠ i1 → c ≠ i2 → s.heap.get? c = some o → h'.get? c = some o) → Q none { s with heap := h' }) : wpAny (model prog w) A (pyNext (.ref z)) Q E s := by
  have ty : s.TypeIs (.ref z) "zip" := ⟨_, hz, rfl⟩
  unfold pyNext
  refine wpAny_bind (wpAny_attempt (wpAny_callSpecial?_slot (name := Str.ofString "__next__") ty F.slot_zip_next (wpAny_call_entry F.slot_zip_next ty F.entry_zip_next (zh_end S D1 hz hT hTI st1 fun h' e old he => ?_) (F.args_zip_next_1 _))))
  obtain ⟨o, ho, hc⟩ := he
  exact wpAny_bind (wpAny_isInstance (T := "StopIteration") (b := true) ⟨o, ho, hc⟩ isSubtype_stop (wpAny_pure (k _ old)))
end
end Rf

namespace Rf
open PySem PySem.Spec PyProof.Rows L2
open Sem (wp)

section
variable {prog : Program} {w : World} {A : Around} {S z TI TO i1 i2 a b : Addr} {t1 t2 : Bool} {xs ys : Array Value}
/-- the zip after i turns: the last pair stands -/
def ZHd (S z TI TO i1 i2 : Addr) (h : Heap) : Prop := ∃ T f oT, IsZipHeld h z TI TO T f ∧ h.get? T = some oT ∧ T ≠ z ∧ T ≠ i1 ∧ T ≠ i2 ∧ T ≠ S
def ZSt (t1 t2 : Bool) (S z TI TO i1 i2 a b : Addr) (xs ys : Array Value) (i : Nat) (h : Heap) : Prop :=
  (IsZip h z TI TO .none ∨ ZHd S z TI TO i1 i2 h) ∧ (∃ u v, IsTupOf2 h TO u v) ∧ IsTupOf2 h TI (.ref i1) (.ref i2) ∧ (ItS t1 h i1 a i ∧ IsS t1 h a xs) ∧ ItS t2 h i2 b i ∧ IsS t2 h b ys
/-- the pairs so far -/
def Prs (i1 : Addr) (xs ys acc : Array Value) (i : Nat) (h : Heap) : Prop := ∃ as : List Addr, as.length = i ∧ acc = (as.map Value.ref).toArray ∧ as.Pairwise (fun p q => (p : Nat) < q) ∧ (∀ t ∈ as, (i1 : Nat) < t) ∧ ∀ (j : Nat) (T : Addr), as[j]? = some T → ∃ x y, xs[j]? = some x ∧ ys[j]? = some y ∧ IsTupOf2 h T x y
theorem Prs.size {i1 : Addr} {xs ys acc : Array Value} {i : Nat} {h : Heap} (p : Prs i1 xs ys acc i h) : acc.size = i := by
  obtain ⟨as, e1, e2, _⟩ := p
  rw [e2]; simp [e1]
theorem Prs.keep {i1 : Addr} {xs ys acc : Array Value} {i : Nat} {h h' : Heap} (p : Prs i1 xs ys acc i h) (k : ∀ (j : Nat) (T : Addr) (o : Obj), acc[j]? = some (Value.ref T) → h.get? T = some o → h'.get? T = some o) : Prs i1 xs ys acc i h' := by
  obtain ⟨as, e1, e2, e3, e4, e5⟩ := p
  refine ⟨as, e1, e2, e3, e4, fun j T hT => ?_⟩
  obtain ⟨x, y, a, b, c⟩ := e5 j T hT
  exact ⟨x, y, a, b, k j T _ (by rw [e2]; simp [hT]) c⟩
theorem Prs.push {i1 : Addr} {xs ys acc : Array Value} {i : Nat} {h : Heap} {T : Addr} {x y : Value} (p : Prs i1 xs ys acc i h) (hx : xs[i]? = some x) (hy : ys[i]? = some y) (hT : IsTupOf2 h T x y) (lo : (i1 : Nat) < T) (up : ∀ (j : Nat) (t : Addr), acc[j]? = some (Value.ref t) → (t : Nat) < T) : Prs i1 xs ys (acc.push (.ref T)) (i + 1) h := by
  obtain ⟨as, e1, e2, e3, e4, e5⟩ := p
  refine ⟨as ++ [T], by rw [List.length_append, e1]; rfl, by rw [e2]; simp, ?_, fun t ht => ?_, fun j t hj => ?_⟩
  · refine List.pairwise_append.mpr ⟨e3, List.pairwise_singleton .., fun t ht q hq => ?_⟩
    rw [List.mem_singleton.mp hq]
    obtain ⟨j, hj⟩ := List.mem_iff_getElem?.mp ht
    exact up j t (by rw [e2]; simp [hj])
  · rcases List.mem_append.mp ht with q | q
    · exact e4 t q
    · rw [List.mem_singleton.mp q]; exact lo
  · by_cases lt : j < as.length
    · rw [List.getElem?_append_left lt] at hj
      exact e5 j t hj
    · rw [List.getElem?_append_right (by omega)] at hj
      cases q : j - as.length with
      | zero =>
        rw [q] at hj
        cases hj
        have ej : j = i := by omega
        subst ej
        exact ⟨x, y, hx, hy, hT⟩
      | succ m => rw [q] at hj; cases hj
abbrev LsO (acc : Array Value) (c : Nat) : Obj := { cls := .type "list", dict := none, data := .seq acc c, slots := #[] }
theorem IsS.at {tp : Bool} {h h' : Heap} {a : Addr} {its : Array Value} (p : IsS tp h a its) (k : ∀ o, h.get? a = some o → h'.get? a = some o) : IsS tp h' a its := by
  cases tp with
  | true => exact Heap.IsTuple.at p k
  | false => exact Heap.IsList.at p k
theorem ext_zip {R : Result → Shared → Prop} {n : Nat} (hh : A.handled = none) (D : ZipSep2 z TI TO i1 i2 [i1, a] [i2, b]) (n1 : xs.size = n) (n2 : ys.size = n) (hz : n ≤ 1000) (h1 : a ≠ i1) (h2 : b ≠ i2) (e1 : S ≠ z) (e2 : S ≠ i1) (e3 : S ≠ i2) (e4 : S ≠ TI) (e5 : S ≠ TO) (e6 : S ≠ a) (e7 : S ≠ b) (res : Value) :
    ∀ (k i : Nat) (s : Shared) (acc : Array Value) (c : Nat), n - i = k → i ≤ n → ZSt t1 t2 S z TI TO i1 i2 a b xs ys i s.heap → s.heap.get? S = some (LsO acc c) → Prs i1 xs ys acc i s.heap → (∀ (j : Nat) (T : Addr), acc[j]? = some (Value.ref T) → T ≠ S ∧ T ≠ z ∧ T ≠ TO ∧ T ≠ i1 ∧ T ≠ i2) →
    (∀ (h' : Heap) (tk : Nat) (acc' : Array Value) (c' : Nat), h'.get? S = some (LsO acc' c') → Prs i1 xs ys acc' n h' → (∀ q o, q ≠ S → q ≠ z → q ≠ TO → q ≠ i1 → q ≠ i2 → s.heap.get? q = some o → h'.get? q = some o) → R (.ok (.ret res)) { s with heap := h', toks := tk }) →
    codeAny (model prog w) A (.builtin "list.extend.loop" ⟨[.ref S, .ref z, res], []⟩) R s := by
  intro k
  induction k with
  | zero =>
    intro i s acc c hk hi st hS hp ne hR
    have hin : i = n := by omega
    subst hin
    refine codeAny_builtin PySem.F.entry_extend_loop ?_
    rw [Around.under_plainId PySem.F.plain_extend_loop _]
    show wpAny _ A.in1 (pyNext (.ref z) >>= _) _ _ s
    obtain ⟨zs, ⟨u, v, hTO⟩, hTI, s1, s2⟩ := st
    rcases zs with hz0 | ⟨T, f, oT, hzT, hT, nT1, nT2, nT3, nT4⟩
    · refine wpAny_bind (wpAny_pyNext_zipD2_end D (draws_s (by exact hh) t1 i1 a h1 xs) (draws_s (by exact hh) t2 i2 b h2 ys) hz0 hTI hTO s1 s2 (by omega) (by omega) (.inl n1.symm) fun h' tk old => ?_)
      refine wpAny_pure (hR h' tk acc c (old _ _ e1 e5 e2 e3 hS) (hp.keep fun j T o ht e => ?_) fun q o _ q1 q2 q3 q4 e => old q o q1 q2 q3 q4 e)
      obtain ⟨a1, a2, a3, a4, a5⟩ := ne j T ht
      exact old _ _ a2 a3 a4 a5 e
    · refine wpAny_bind (zh_pyEnd D (draws_s (by exact hh) t1 i1 a h1 xs) hzT hT hTI (by rw [n1]; exact s1) fun h' old => ?_)
      refine wpAny_pure (hR h' s.toks acc c (old _ _ e1 e2 e3 hS) (hp.keep fun j T' o ht e => ?_) fun q o _ q1 q2 q3 q4 e => old q o q1 q3 q4 e)
      obtain ⟨a1, a2, a3, a4, a5⟩ := ne j T' ht
      exact old _ _ a2 a4 a5 e
  | succ k ih =>
    intro i s acc c hk hi st hS hp ne hR
    have lt : i < n := by omega
    refine codeAny_builtin PySem.F.entry_extend_loop ?_
    rw [Around.under_plainId PySem.F.plain_extend_loop _]
    show wpAny _ A.in1 (pyNext (.ref z) >>= _) _ _ s
    have step : ∀ (x y : Value) (h' : Heap) (tk : Nat), xs[i]? = some x → ys[i]? = some y → ZHd S z TI TO i1 i2 h' → (∃ u v, IsTupOf2 h' TO u v) → (ItS t1 h' i1 a (i + 1) ∧ IsS t1 h' a xs) → (ItS t2 h' i2 b (i + 1) ∧ IsS t2 h' b ys) → IsTupOf2 h' s.heap.objs.size x y → (∀ q o, q ≠ z → q ≠ TO → q ≠ i1 → q ≠ i2 → s.heap.get? q = some o → h'.get? q = some o) →
        wpAny (model prog w) A.in1 (updateSeq S (·.push (.ref s.heap.objs.size)) >>= fun _ => again (.builtin "list.extend.loop" ⟨[.ref S, .ref z, res], []⟩))
          (fun fin s' => match fin with | .done f => R (.ok f) s' | .again c' => c'.quiet = true ∧ codeAny (model prog w) A c' R s') (fun e s' => R (.error e) s') { s with heap := h', toks := tk } := fun x y h' tk hx hy q1 q0 q2 q3 q4 old => by
      have hS' := old _ _ e1 e5 e2 e3 hS
      have lz : z < s.heap.objs.size := by
        rcases st.1 with hz0 | ⟨T, f, oT, hzT, _⟩
        · exact Heap.lt_size hz0
        · exact Heap.lt_size hzT
      have l1 : i1 < s.heap.objs.size := by obtain ⟨o, e, _⟩ := st.2.2.2.1.1.obj; exact Heap.lt_size e
      have l2 : i2 < s.heap.objs.size := by obtain ⟨o, e, _⟩ := st.2.2.2.2.1.obj; exact Heap.lt_size e
      have lS : S < s.heap.objs.size := Heap.lt_size hS
      have hTI' : IsTupOf2 h' TI (.ref i1) (.ref i2) := old _ _ D.TIz D.TITO D.TIi1 D.TIi2 st.2.2.1
      refine wpAny_bind (wpAny_updateSeq (s := { s with heap := h', toks := tk }) hS' rfl (wpAny_pure ⟨plainId_quiet PySem.F.plain_extend_loop _, ?_⟩) (by rw [hp.size, sizeLine_eq]; omega) (by show (acc.push _).size ≤ sizeLine + 1; rw [Array.size_push, hp.size, sizeLine_eq]; omega))
      have off : ∀ q o, q ≠ S → h'.get? q = some o → (h'.update S (Obj.mapSeq (·.push (.ref s.heap.objs.size)))).get? q = some o := fun q o nq e => (Heap.get?_update_other _ _ (Ne.symm nq)).trans e
      have nT : s.heap.objs.size ≠ S := Nat.ne_of_gt lS
      have lTO : TO < s.heap.objs.size := by obtain ⟨u, v, e⟩ := st.2.1; exact Heap.lt_size e
      obtain ⟨T0, f, oT, w1, w2, w3, w4, w5, w6⟩ := q1
      obtain ⟨u0, v0, q0⟩ := q0
      refine ih (i + 1) { s with heap := h'.update S (Obj.mapSeq (·.push (.ref s.heap.objs.size))), toks := tk } (acc.push (.ref s.heap.objs.size)) _ (by omega) lt ⟨.inr ⟨T0, f, oT, off _ _ e1.symm w1, off _ _ w6 w2, w3, w4, w5, w6⟩, ⟨u0, v0, off _ _ e5.symm q0⟩, off _ _ e4.symm hTI', ⟨q2.1.keep fun o e => off _ _ e2.symm e, q2.2.at fun o e => off _ _ e6.symm e⟩, q3.1.keep fun o e => off _ _ e3.symm e, q3.2.at fun o e => off _ _ e7.symm e⟩
        (Heap.get?_update_self _ hS' rfl) (Prs.push (hp.keep fun j T o ht e => ?_) hx hy (off _ _ nT q4) l1 fun j T ht => ?_) (fun j T hT => ?_) fun h'' tk'' acc' c' r1 r2 r3 => ?_
      · obtain ⟨a1, a2, a3, a4, a5⟩ := ne j T ht
        exact off _ _ a1 (old _ _ a2 a3 a4 a5 e)
      · obtain ⟨as, f1, f2, f3, f4, f5⟩ := hp
        obtain ⟨x', y', _, _, e⟩ := f5 j T (by rw [f2] at ht; simpa using ht)
        exact Heap.lt_size e
      · rw [Array.getElem?_push, hp.size] at hT
        split at hT
        · cases hT
          exact ⟨nT, Nat.ne_of_gt lz, Nat.ne_of_gt lTO, Nat.ne_of_gt l1, Nat.ne_of_gt l2⟩
        · exact ne j T hT
      · exact hR h'' tk'' acc' c' r1 r2 fun q o a1 a2 a3 a4 a5 e => r3 q o a1 a2 a3 a4 a5 (off _ _ a1 (old _ _ a2 a3 a4 a5 e))
    obtain ⟨zs, ⟨u, v, hTO⟩, hTI, s1, s2⟩ := st
    rcases zs with hz0 | ⟨T, f, oT, hzT, hT, nT1, nT2, nT3, nT4⟩
    · refine wpAny_bind (wpAny_pyNext_zipD2_item D (draws_s (by exact hh) t1 i1 a h1 xs) (draws_s (by exact hh) t2 i2 b h2 ys) hz0 hTI hTO s1 s2 (by omega) (by omega) fun x y h' tk p1 p2 q1 q2 q3 q4 q5 q6 old => ?_)
      have lt1 : i1 < s.heap.objs.size := by obtain ⟨o, e, _⟩ := s1.1.obj; exact Heap.lt_size e
      have lt2 : i2 < s.heap.objs.size := by obtain ⟨o, e, _⟩ := s2.1.obj; exact Heap.lt_size e
      exact step x y h' tk p1 p2 ⟨s.heap.objs.size, false, _, q1, q5, Nat.ne_of_gt (Heap.lt_size hz0), Nat.ne_of_gt lt1, Nat.ne_of_gt lt2, Nat.ne_of_gt (Heap.lt_size hS)⟩ ⟨_, _, q2⟩ q3 q4 q5 old
    · refine wpAny_bind (zh_pyItem D (draws_s (by exact hh) t1 i1 a h1 xs) (draws_s (by exact hh) t2 i2 b h2 ys) hzT hT hTI s1 s2 (by omega) (by omega) fun x y h' tk p1 p2 q1 q3 q4 q5 q6 old => ?_)
      exact step x y h' tk p1 p2 ⟨T, true, _, q1, old _ _ nT1 nT2 nT3 hT, nT1, nT2, nT3, nT4⟩ ⟨u, v, old _ _ D.TOz D.Ti1 D.Ti2 hTO⟩ q3 q4 q5 fun q o a1 _ a3 a4 e => old q o a1 a3 a4 e
end
end Rf

namespace Rf
open PySem PySem.Spec PyProof.Rows L2
open Sem (wp)

theorem zip_nolen : typeLookup (.type "zip") "__len__" = pure none := by rw [typeLookup_type, builtinLookup_eq_fast]; kernel_rfl
theorem zip_nohint : typeLookup (.type "zip") "__length_hint__" = pure none := by rw [typeLookup_type, builtinLookup_eq_fast]; kernel_rfl
section
variable {prog : Program} {w : World} {A : Around} {E : Value → Shared → Prop} {s : Shared} {S z TI TO i1 i2 a b : Addr} {t1 t2 : Bool} {xs ys : Array Value} {n : Nat}
/-- what the caller learns -/
abbrev ZFin (S z TO i1 i2 : Addr) (xs ys : Array Value) (n : Nat) (s : Shared) (K : Shared → Prop) : Prop := ∀ (h' : Heap) (tk : Nat) (acc' : Array Value) (c' : Nat), h'.get? S = some (LsO acc' c') → Prs i1 xs ys acc' n h' → (∀ q o, q ≠ S → q ≠ z → q ≠ TO → q ≠ i1 → q ≠ i2 → s.heap.get? q = some o → h'.get? q = some o) → K { s with heap := h', toks := tk }
structure ZOff (S z TI TO i1 i2 a b : Addr) : Prop where
  z : S ≠ z
  i1 : S ≠ i1
  i2 : S ≠ i2
  TI : S ≠ TI
  TO : S ≠ TO
  a : S ≠ a
  b : S ≠ b
theorem zst_at {h h' : Heap} {i : Nat} (st : ZSt t1 t2 S z TI TO i1 i2 a b xs ys i h) (o : ZOff S z TI TO i1 i2 a b) (k : ∀ q u, q ≠ S → h.get? q = some u → h'.get? q = some u) : ZSt t1 t2 S z TI TO i1 i2 a b xs ys i h' := by
  obtain ⟨zs, ⟨u, v, hTO⟩, hTI, s1, s2⟩ := st
  refine ⟨?_, ⟨u, v, k _ _ o.TO.symm hTO⟩, k _ _ o.TI.symm hTI, ⟨s1.1.keep fun u e => k _ _ o.i1.symm e, s1.2.at fun u e => k _ _ o.a.symm e⟩, s2.1.keep fun u e => k _ _ o.i2.symm e, s2.2.at fun u e => k _ _ o.b.symm e⟩
  rcases zs with hz0 | ⟨T, f, oT, hzT, hT, r⟩
  · exact .inl (k _ _ o.z.symm hz0)
  · exact .inr ⟨T, f, oT, k _ _ o.z.symm hzT, k _ _ r.2.2.2 hT, r⟩
theorem zl_extend {R : Result → Shared → Prop} (hh : A.handled = none) (D : ZipSep2 z TI TO i1 i2 [i1, a] [i2, b]) (n1 : xs.size = n) (n2 : ys.size = n) (hz : n ≤ 1000) (h1 : a ≠ i1) (h2 : b ≠ i2) (o : ZOff S z TI TO i1 i2 a b) (c0 : Nat) (st : ZSt t1 t2 S z TI TO i1 i2 a b xs ys 0 s.heap) (hz0 : IsZip s.heap z TI TO .none) (hS : s.heap.get? S = some (LsO #[] c0))
    (hR : ZFin S z TO i1 i2 xs ys n s fun s' => R (.ok (.ret .none)) s') :
    wpAny (model prog w) A.in1 (Builtin.List.listExtendWith (.ref S) (.ref z) .none)
      (fun fin s' => match fin with | .done f => R (.ok f) s' | .again c' => c'.quiet = true ∧ codeAny (model prog w) A c' R s') (fun e s' => R (.error e) s') s := by
  have ty : s.TypeIs (.ref z) "zip" := ⟨_, hz0, rfl⟩
  unfold Builtin.List.listExtendWith
  refine wpAny_bind (wpAny_typeOf ty ?_)
  have b1 : Builtin.List.listSameRef (.ref S) (.ref z) = false := by simp [Builtin.List.listSameRef, o.z]
  have b2 : (Value.type "zip" == Value.type "list") = false := by decide
  have b3 : (Value.type "zip" == Value.type "tuple") = false := by decide
  simp only [b1, b2, b3, Bool.or_false, Bool.false_eq_true, if_false]
  refine wpAny_bind (wpAny_pyIter_zip hz0 (wpAny_bind (wpAny_holding ?_)))
  unfold Builtin.List.listLengthHint
  refine wpAny_bind (wpAny_specialOf ty zip_nolen ?_)
  show wpAny _ A.in1 (specialOf (Value.ref z) (Str.ofString "__length_hint__") >>= _) _ _ _
  refine wpAny_bind (wpAny_specialOf ty zip_nohint (wpAny_pure ?_))
  show wpAny _ A.in1 (rule "list.extend.makes-room" >>= fun _ => Builtin.List.listTouch (.ref S) >>= fun _ => again (.builtin "list.extend.loop" ⟨[.ref S, .ref z, .none], []⟩)) _ _ _
  refine wpAny_bind (wpAny_rule (wpAny_bind ?_))
  show wpAny _ A.in1 (updateSeq S (·.push .none) >>= fun _ => updateSeq S (·.pop)) _ _ _
  refine wpAny_bind (wpAny_updateSeq hS rfl ?_)
  have g1 := Heap.get?_update_self (Obj.mapSeq (·.push Value.none)) hS rfl
  refine wpAny_updateSeq (hz := by seq_fits) g1 rfl ?_
  have g2 := Heap.get?_update_self (Obj.mapSeq (·.pop)) g1 rfl
  have off : ∀ q u, q ≠ S → s.heap.get? q = some u → ((s.heap.update S (Obj.mapSeq (·.push Value.none))).update S (Obj.mapSeq (·.pop))).get? q = some u := fun q u nq e => (Heap.get?_update_other _ _ (Ne.symm nq)).trans ((Heap.get?_update_other _ _ (Ne.symm nq)).trans e)
  refine wpAny_pure ⟨plainId_quiet PySem.F.plain_extend_loop _, ext_zip hh D n1 n2 hz h1 h2 o.z o.i1 o.i2 o.TI o.TO o.a o.b .none n 0 _ _ _ rfl (Nat.zero_le _) (zst_at st o off) g2 ⟨[], rfl, rfl, List.Pairwise.nil, fun t ht => (List.not_mem_nil ht).elim, fun j T hT => by cases hT⟩ (fun j T hT => by simp at hT) fun h' tk acc' c' r1 r2 r3 => ?_⟩
  exact hR h' tk acc' c' r1 r2 fun q u q1 q2 q3 q4 q5 e => r3 q u q1 q2 q3 q4 q5 (off _ _ q1 e)
theorem zl_init {R : Result → Shared → Prop} (hh : A.handled = none) (D : ZipSep2 z TI TO i1 i2 [i1, a] [i2, b]) (n1 : xs.size = n) (n2 : ys.size = n) (hz : n ≤ 1000) (h1 : a ≠ i1) (h2 : b ≠ i2) (o : ZOff S z TI TO i1 i2 a b) (st : ZSt t1 t2 S z TI TO i1 i2 a b xs ys 0 s.heap) (hz0 : IsZip s.heap z TI TO .none) (hS : s.heap.get? S = some { cls := .type "list", data := .seq #[] })
    (hR : ZFin S z TO i1 i2 xs ys n s fun s' => R (.ok (.ret .none)) s') :
    wpAny (model prog w) A.in1 (Builtin.«list.__init__» ⟨[.ref S, .ref z], []⟩)
      (fun fin s' => match fin with | .done f => R (.ok f) s' | .again c' => c'.quiet = true ∧ codeAny (model prog w) A c' R s') (fun e s' => R (.error e) s') s := by
  show wpAny _ A.in1 (do let old ← Builtin.List.listItems (.ref S); Builtin.List.listUpdate (.ref S) (fun _ => #[]); letGo old.toList.reverse; Builtin.List.listExtendWith (.ref S) (.ref z) .none) _ _ s
  refine wpAny_bind ?_
  unfold Builtin.List.listItems
  refine wpAny_bind (wpAny_seqItems hS rfl (wpAny_pure ?_))
  show wpAny _ A.in1 (updateSeq S (fun _ => #[]) >>= fun _ => letGo (#[] : Array Value).toList.reverse >>= fun _ => Builtin.List.listExtendWith (.ref S) (.ref z) .none) _ _ s
  refine wpAny_bind (wpAny_updateSeq hS rfl ?_)
  have g1 := Heap.get?_update_self (Obj.mapSeq (fun _ => (#[] : Array Value))) hS rfl
  have off : ∀ q u, q ≠ S → s.heap.get? q = some u → (s.heap.update S (Obj.mapSeq (fun _ => (#[] : Array Value)))).get? q = some u := fun q u nq e => (Heap.get?_update_other _ _ (Ne.symm nq)).trans e
  refine wpAny_bind (wpAny_letGo (zl_extend (s := { s with heap := s.heap.update S (Obj.mapSeq (fun _ => (#[] : Array Value))) }) hh D n1 n2 hz h1 h2 o _ (zst_at st o off) (off _ _ o.z.symm hz0) g1 fun h' tk acc' c' r1 r2 r3 => ?_))
  exact hR h' tk acc' c' r1 r2 fun q u q1 q2 q3 q4 q5 e => r3 q u q1 q2 q3 q4 q5 (off _ _ q1 e)
theorem call_list_zip {Q : Value → Shared → Prop} (hh : A.handled = none) (D : ZipSep2 z TI TO i1 i2 [i1, a] [i2, b]) (n1 : xs.size = n) (n2 : ys.size = n) (hz : n ≤ 1000) (h1 : a ≠ i1) (h2 : b ≠ i2) (o : ZOff s.heap.objs.size z TI TO i1 i2 a b) (st : ZSt t1 t2 s.heap.objs.size z TI TO i1 i2 a b xs ys 0 s.heap) (hz0 : IsZip s.heap z TI TO .none)
    (hQ : ZFin s.heap.objs.size z TO i1 i2 xs ys n s fun s' => Q (.ref s.heap.objs.size) s') : wpAny (model prog w) A (call (.type "list") [.ref z]) Q E s := by
  refine callType_codes (Q₁ := fun ob q => ob = .ref s.heap.objs.size ∧ q = { s with heap := s.heap.push { cls := .type "list", data := .seq #[] } }) PySem.F.called_list (PySem.F.typeCall_list_1 _) PySem.F.entry_list_init (code_list_new _ ⟨rfl, rfl⟩) fun ob q hq => ?_
  obtain ⟨rfl, rfl⟩ := hq
  have hS : (s.heap.push { cls := .type "list", data := .seq #[] }).get? s.heap.objs.size = some { cls := .type "list", data := .seq #[] } := Heap.get?_push_size _ rfl
  refine ⟨⟨_, hS, rfl⟩, PySem.F.args_list_init_2 _ _, zl_init (A := A.in1) (s := { s with heap := s.heap.push { cls := .type "list", data := .seq #[] } }) (by exact hh) D n1 n2 hz h1 h2 o (zst_at st o fun q u _ e => Heap.get?_push_of_some _ e) (Heap.get?_push_of_some _ hz0) hS fun h' tk acc' c' r1 r2 r3 => ?_⟩
  exact ⟨rfl, hQ h' tk acc' c' r1 r2 fun q u q1 q2 q3 q4 q5 e => r3 q u q1 q2 q3 q4 q5 (Heap.get?_push_of_some _ e)⟩
end
end Rf

namespace Rf
open PySem PySem.Spec PyProof.Rows L2
open Sem (wp)

/-- pairs at their places -/
def putP : Hp → List Addr → List (V × V) → Hp
  | H, a :: as, p :: ps => putP (upd H a (.tup [p.1, p.2])) as ps
  | H, _, _ => H
theorem putP_off {b : Addr} : ∀ (as : List Addr) (ps : List (V × V)) (H : Hp), b ∉ as → putP H as ps b = H b
  | [], _, _, _ => rfl
  | _ :: _, [], _, _ => rfl
  | a :: as, p :: ps, H, h => by
    rw [List.mem_cons, not_or] at h
    show putP (upd H a (.tup [p.1, p.2])) as ps b = H b
    rw [putP_off as ps _ h.2, upd_ne h.1]
theorem putP_at : ∀ (as : List Addr) (ps : List (V × V)) (H : Hp), as.length = ps.length → as.Nodup → ∀ (j : Nat) (t : Addr), as[j]? = some t → ∃ p, ps[j]? = some p ∧ putP H as ps t = some (.tup [p.1, p.2])
  | [], _, _, _, _, j, t, h => by cases h
  | _ :: _, [], _, h, _, _, _, _ => by cases h
  | a :: as, p :: ps, H, h, hn, j, t, ht => by
    obtain ⟨n1, n2⟩ := List.nodup_cons.mp hn
    cases j with
    | zero =>
      cases ht
      refine ⟨p, rfl, ?_⟩
      show putP (upd H a (.tup [p.1, p.2])) as ps a = _
      rw [putP_off as ps _ n1, upd_same]
    | succ j => exact putP_at as ps _ (Nat.succ.inj h) n2 j t ht
def tListZip (K : PySem.W.Frag) (t1 t2 : Bool) (ta : TA) : TE := fun σ H Q => ta σ H fun vs H1 => ∃ a b xs ys, vs = [.ref a, .ref b] ∧ Sq K t1 H1 a xs ∧ Sq K t2 H1 b ys ∧ xs.length = ys.length ∧ xs.length ≤ 1000 ∧
  ∀ (p : Addr) (as : List Addr), as.length = xs.length → as.Nodup → H1 p = none → p ∉ as → (∀ q ∈ as, H1 q = none) → Q (.ref p) (putP (upd H1 p (.lst (as.map V.ref))) as (xs.zip ys))
theorem zip_laid {X : Cx} {pins : List (Addr × Obj)} {σ : L2.St} {H : Hp} {s : Shared} {h' : Heap} {tk c : Nat} {p i1 : Addr} {acc : Array Value} {xs ys : List V} {us ws : List Value} (I : Inv X pins σ H s) (r1 : Vals xs us) (r2 : Vals ys ws) (hl : xs.length = ys.length) (hz : xs.length ≤ 1000) (hk : ∀ b o, s.heap.get? b = some o → h'.get? b = some o)
    (lo : (s.heap.objs.size : Nat) ≤ i1) (hp : (s.heap.objs.size : Nat) ≤ p) (hS : h'.get? p = some (LsO acc c)) (P : Prs i1 us.toArray ws.toArray acc xs.length h') :
    ∃ as : List Addr, as.length = xs.length ∧ as.Nodup ∧ H p = none ∧ p ∉ as ∧ (∀ q ∈ as, H q = none) ∧ Inv X pins σ (putP (upd H p (.lst (as.map V.ref))) as (xs.zip ys)) { s with heap := h', toks := tk } := by
  obtain ⟨as, e1, e2, e3, e4, e5⟩ := P
  have nd : as.Nodup := List.Pairwise.imp (fun {a b} (h : (a : Nat) < b) => Nat.ne_of_lt h) e3
  have hpn : H p = none := I.hok.fresh hp
  have new : ∀ t ∈ as, H t = none := fun t ht => I.hok.fresh (Nat.le_trans lo (Nat.le_of_lt (e4 t ht)))
  have pas : p ∉ as := fun hm => by
    obtain ⟨j, hj⟩ := List.mem_iff_getElem?.mp hm
    obtain ⟨x, y, _, _, g⟩ := e5 j p hj
    have g : h'.get? p = some _ := g
    rw [hS] at g
    have q := congrArg Obj.cls (Option.some.inj g)
    exact absurd (Value.type.inj q) (by decide)
  have lz : as.length = (xs.zip ys).length := by rw [List.length_zip]; omega
  have off : ∀ b, b ∉ as → b ≠ p → putP (upd H p (.lst (as.map V.ref))) as (xs.zip ys) b = H b := fun b h1 h2 => by rw [putP_off as _ _ h1, upd_ne h2]
  have atP := putP_at as (xs.zip ys) (upd H p (.lst (as.map V.ref))) lz nd
  have kp : ∀ b u, H b = some u → putP (upd H p (.lst (as.map V.ref))) as (xs.zip ys) b = some u := fun b u e => by
    rw [off b (fun z => by rw [new b z] at e; cases e) (fun z => by rw [z, hpn] at e; cases e)]; exact e
  have low : ∀ b o, s.heap.get? b = some o → b ∉ as ∧ b ≠ p := fun b o e => ⟨fun z => absurd (Heap.lt_size e) (Nat.not_lt.mpr (Nat.le_trans lo (Nat.le_of_lt (e4 b z)))), fun z => absurd (Heap.lt_size e) (Nat.not_lt.mpr (by rw [z]; exact hp))⟩
  refine ⟨as, e1, nd, hpn, pas, new, I.un ⟨fun b o q _ _ _ => hk b o q, fun b o q _ _ _ => ⟨o.slots, hk b o q⟩, fun b o q n _ => ?_, fun b o q _ => ⟨o, hk b o q⟩, fun b xs q => kp b _ q, fun b o u q => kp b _ q, fun b ps q => ⟨#[], by rw [kp b _ q]; simp⟩⟩ fun b u q => ?_⟩
  · obtain ⟨z1, z2⟩ := low b o q
    rw [off b z1 z2]; exact n
  · by_cases hb : b ∈ as
    · obtain ⟨j, hj⟩ := List.mem_iff_getElem?.mp hb
      obtain ⟨pr, f1, f2⟩ := atP j b hj
      rw [f2] at q
      cases q
      obtain ⟨u1, u2, g1, g2, g3⟩ := e5 j b hj
      obtain ⟨k1, k2⟩ := List.getElem?_zip_eq_some.mp f1
      obtain ⟨v1, m1, m2⟩ := r1.get k1
      obtain ⟨v2, m3, m4⟩ := r2.get k2
      have g1' : us[j]? = some u1 := by simpa using g1
      have g2' : ws[j]? = some u2 := by simpa using g2
      rw [g1'] at m1
      rw [g2'] at m3
      cases m1
      cases m3
      exact ⟨by show 2 ≤ sizeLine; decide, [u1, u2], .cons m2 (.cons m4 .nil), ⟨_, g3, rfl, _, rfl⟩⟩
    · by_cases hb2 : b = p
      · subst hb2
        rw [putP_off as _ _ hb, upd_same] at q
        cases q
        refine ⟨by rw [List.length_map, e1, sizeLine_eq]; omega, as.map Value.ref, c, ?_, by rw [← e2]; exact hS⟩
        clear e1 e2 e3 e4 e5 nd new pas lz off atP kp low hb
        induction as with
        | nil => exact .nil
        | cons a as ih => exact .cons rfl ih
      · rw [off b hb hb2] at q
        exact (I.hok b u q).stay (fun d v _ y => hk d v y) (fun d y => kp d _ y) fun d xs y => kp d _ y
theorem pe_listZip {X : Cx} {e e2 : Expr} {ta : TA} {p1 p2 q pos : Pos} (t1 t2 : Bool) (hc : X.calm = true) (hg : Gl X "list") (hm : X.mg "list" = none) (hg2 : Gl X "zip") (hm2 : X.mg "zip" = none) (ha : PA X [e, e2] ta)
    (hs : starEach [e, e2] X.env = (false, eval e X.env) :: starEach [e2] X.env := by rfl) (hpl : (backTo q (starEach [e2] X.env)).any (·.1) = false := by rfl)
    (na : starEach [.Call (.Name "zip" p2) [e, e2] [] q] X.env = (false, eval (.Call (.Name "zip" p2) [e, e2] [] q) X.env) :: starEach [] X.env := by rfl) :
    PE X (.Call (.Name "list" p1) [.Call (.Name "zip" p2) [e, e2] [] q] [] pos) (tListZip X.K t1 t2 ta) := by
  refine ⟨fun pins s σ H Q I h => ?_⟩
  refine Call_ (ld_blt I hg hm boot_list ?_)
  refine PyProof.Rows.callWith_type1 (PyProof.Rows.args_cons ?_ na) na rfl
  refine Call_ (ld_blt I hg2 hm2 PyProof.Rows.boot_zip (PyProof.Rows.callWith_type1 (thn (ha.run q pins s σ H _ I h) fun us s1 ⟨vs, H1, I1, r1, q1⟩ => ?_) hs hpl))
  obtain ⟨a, b, xs, ys, ex, hqx, hqy, hl, hz, fin⟩ := q1
  subst ex
  cases r1 with
  | cons r rr =>
    cases rr with
    | cons r' rr =>
      cases rr
      cases r
      cases r'
      obtain ⟨its, rv, m1, _⟩ := inv_sq I1 hqx
      obtain ⟨its2, rv2, m2, _⟩ := inv_sq I1 hqy
      have l1 := rv.length
      have l2 := rv2.length
      have la := isS_lt m1
      have lb := isS_lt m2
      refine zip_begins2 (begins_s t1 a its.toArray) (begins_s t2 b its2.toArray) m1 m2 fun h' z' hTI hTO h1 h2 hsz hk => ?_
      refine PyProof.Rows.args_nil ?_
      have hN : h'.objs.size = s1.heap.objs.size + 5 := hsz
      have m1' : IsS t1 h' a its.toArray := m1.at fun o e => hk _ _ e
      have m2' : IsS t2 h' b its2.toArray := m2.at fun o e => hk _ _ e
      have of : ZOff h'.objs.size (s1.heap.objs.size + 4) (s1.heap.objs.size + 2) (s1.heap.objs.size + 3) s1.heap.objs.size (s1.heap.objs.size + 1) a b := by
        rw [hN]
        exact ⟨show (s1.heap.objs.size + 5 : Nat) ≠ _ by omega, show (s1.heap.objs.size + 5 : Nat) ≠ _ by omega, show (s1.heap.objs.size + 5 : Nat) ≠ _ by omega, show (s1.heap.objs.size + 5 : Nat) ≠ _ by omega, show (s1.heap.objs.size + 5 : Nat) ≠ _ by omega, Nat.ne_of_gt (Nat.lt_of_lt_of_le la (Nat.le_add_right _ _)), Nat.ne_of_gt (Nat.lt_of_lt_of_le lb (Nat.le_add_right _ _))⟩
      refine call_list_zip (s := { s1 with heap := h' }) (n := xs.length) (xs := its.toArray) (ys := its2.toArray) (t1 := t1) (t2 := t2) (a := a) (b := b) (z := s1.heap.objs.size + 4) (TI := s1.heap.objs.size + 2) (TO := s1.heap.objs.size + 3) (i1 := s1.heap.objs.size) (i2 := s1.heap.objs.size + 1) (I1.ok.hd hc)
        (zip_sep2 (N := s1.heap.objs.size) (fp1 := [a]) (fp2 := [b]) (fun c hc => by rw [List.mem_singleton.mp hc]; exact la) fun c hc => by rw [List.mem_singleton.mp hc]; exact lb) (by simp; omega) (by simp; omega) hz (Nat.ne_of_lt la) (show (b : Nat) ≠ s1.heap.objs.size + 1 from Nat.ne_of_lt (Nat.lt_succ_of_lt lb)) of
        ⟨.inl z', ⟨_, _, hTO⟩, hTI, ⟨its_new t1 h1, m1'⟩, its_new t2 h2, m2'⟩ z' fun h'' tk acc c r1 r2 r3 => ?_
      have old : ∀ b o, s1.heap.get? b = some o → h''.get? b = some o := fun b o e => by
        have lt := Heap.lt_size e
        exact r3 b o (by rw [hN]; exact Nat.ne_of_lt (Nat.lt_of_lt_of_le lt (Nat.le_add_right _ _))) (Nat.ne_of_lt (Nat.lt_of_lt_of_le lt (Nat.le_add_right _ _))) (Nat.ne_of_lt (Nat.lt_of_lt_of_le lt (Nat.le_add_right _ _))) (Nat.ne_of_lt lt) (Nat.ne_of_lt (Nat.lt_of_lt_of_le lt (Nat.le_add_right _ _))) (hk _ _ e)
      obtain ⟨as, k1, k2, k3, k4, k5, J⟩ := zip_laid (tk := tk) I1 rv rv2 hl hz old (Nat.le_refl _) (show (s1.heap.objs.size : Nat) ≤ h'.objs.size by rw [hN]; exact Nat.le_add_right _ _) r1 r2
      exact ⟨.ref _, _, J, rfl, fin _ as k1 k2 k3 k4 k5⟩
end Rf

namespace Rf
open PySem PySem.Spec PyProof.Rows L2

theorem putP_upd {p : Addr} {o : HO} : ∀ (as : List Addr) (ps : List (V × V)) (H : Hp), p ∉ as → putP (upd H p o) as ps = upd (putP H as ps) p o
  | [], _, _, _ => rfl
  | _ :: _, [], _, _ => rfl
  | a :: as, q :: ps, H, h => by
    rw [List.mem_cons, not_or] at h
    show putP (upd (upd H p o) a (.tup [q.1, q.2])) as ps = upd (putP (upd H a (.tup [q.1, q.2])) as ps) p o
    rw [← putP_upd as ps _ h.2]
    congr 1
    funext b
    by_cases h1 : b = a
    · subst h1; rw [upd_same, upd_ne (Ne.symm h.1), upd_same]
    · by_cases h2 : b = p
      · subst h2; rw [upd_ne h1, upd_same, upd_same]
      · rw [upd_ne h1, upd_ne h2, upd_ne h2, upd_ne h1]
theorem putP_grow : ∀ (as : List Addr) (ps : List (V × V)) (H D : Hp), Same D H → as.Nodup → (∀ t ∈ as, H t = none) → Grow H D (putP H as ps) (putP D as ps)
  | [], _, H, D, s, _, _ => Grow.refl s
  | _ :: _, [], H, D, s, _, _ => Grow.refl s
  | a :: as, q :: ps, H, D, s, hn, hf => by
    obtain ⟨n1, n2⟩ := List.nodup_cons.mp hn
    have g1 : Grow H D (upd H a (.tup [q.1, q.2])) (upd D a (.tup [q.1, q.2])) := Grow.new s (hf a (List.mem_cons_self ..))
    exact g1.trans (putP_grow as ps _ _ g1.i n2 fun t ht => by
      have ne : t ≠ a := fun e => n1 (by rw [← e]; exact ht)
      rw [upd_ne ne]
      exact hf t (List.mem_cons_of_mem _ ht))
section
variable {X : Cx} {g : List Sl} {a b e e2 : Expr} {es : List Expr} {p1 p2 p3 q pos : Pos} {α β : Type} {fa : α → Rp} {fb : β → Rp} {l : List α} {m : List β} {rs rs' : List Rp} {r : Rp}
theorem reps_pairs {D : Hp} : ∀ {l : List α} {m : List β} {xs ys : List V} {as : List Addr}, Reps D (l.map fa) xs → Reps D (m.map fb) ys → as.length = (l.zip m).length → (∀ (j : Nat) (t : Addr), as[j]? = some t → ∃ p, (xs.zip ys)[j]? = some p ∧ D t = some (.tup [p.1, p.2])) → Reps D ((l.zip m).map fun z => rT [fa z.1, fb z.2]) (as.map V.ref)
  | [], _, _, _, as, _, _, hl, _ => by
    cases as with
    | nil => exact .nil
    | cons a as => cases hl
  | _ :: _, [], _, _, as, _, _, hl, _ => by
    cases as with
    | nil => exact .nil
    | cons a as => cases hl
  | x :: l, y :: m, _, _, as, .cons hx tx, .cons hy ty, hl, h => by
    cases as with
    | nil => cases hl
    | cons t as =>
      refine .cons ?_ (reps_pairs tx ty (Nat.succ.inj hl) fun j u hj => by
        obtain ⟨p, q1, q2⟩ := h (j + 1) u (by simpa using hj)
        exact ⟨p, by simpa using q1, q2⟩)
      obtain ⟨p, q1, q2⟩ := h 0 t rfl
      cases q1
      exact ⟨t, _, rfl, q2, .cons hx (.cons hy .nil)⟩
theorem ng_listZip (t1 t2 : Bool) (hl : l.length = m.length) (hz : l.length ≤ 1000) (hc : X.calm = true) (hm : X.mg "list" = none) (hm2 : X.mg "zip" = none) (h1 : EG X e g (rQ t1 (l.map fa))) (h2 : EG X e2 g (rQ t2 (m.map fb))) (hg : Gl X "list" := by rfl) (hg2 : Gl X "zip" := by rfl)
    (hs : starEach [e, e2] X.env = (false, eval e X.env) :: starEach [e2] X.env := by rfl) (hs2 : starEach [e2] X.env = (false, eval e2 X.env) :: starEach [] X.env := by rfl) (hpl : (backTo q (starEach [e2] X.env)).any (·.1) = false := by rfl)
    (na : starEach [.Call (.Name "zip" p2) [e, e2] [] q] X.env = (false, eval (.Call (.Name "zip" p2) [e, e2] [] q) X.env) :: starEach [] X.env := by rfl) :
    NG X (.Call (.Name "list" p1) [.Call (.Name "zip" p2) [e, e2] [] q] [] pos) g ((l.zip m).map fun z => rT [fa z.1, fb z.2]) :=
  pe_to (pe_listZip t1 t2 hc hg hm hg2 hm2 (ag_cons h1 (ag_cons h2 ag_nil hs2) hs) hs hpl na) fun σ H Q ⟨F, D0, D, ok, k⟩ => ⟨F, D0, D, ok, fun vs H' D' e hvs => by
    cases hvs with
    | cons q1 t =>
      cases t with
      | cons q2 t =>
        cases t
        obtain ⟨a, xs, rfl, r1, s1⟩ := rQ_sq (K := X.K) q1
        obtain ⟨b, ys, rfl, r2, s2⟩ := rQ_sq (K := X.K) q2
        have lx := r1.length
        have ly := r2.length
        rw [List.length_map] at lx ly
        refine ⟨a, b, xs, ys, rfl, s1 _ e.i, s2 _ e.i, by omega, by omega, fun p as k1 k2 k3 k4 k5 => ?_⟩
        rw [putP_upd _ _ _ k4]
        have gr := putP_grow as (xs.zip ys) H' D' e.i k2 k5
        have lz : as.length = (xs.zip ys).length := by rw [List.length_zip]; omega
        have hat := putP_at as (xs.zip ys) D' lz k2
        refine k p _ _ _ (e.trans gr) (by rw [putP_off _ _ _ k4]; exact k3) (reps_pairs (r1.mono gr.d) (r2.mono gr.d) (by rw [List.length_zip]; omega) hat)⟩
/-! ### (*xs, y) -/
theorem eg_tupStar {sp : Pos} {u : Nat} (h1 : EG X a g (rL rs)) (h2 : AG X es g rs') (hz : rs.length + rs'.length ≤ 10000) (hs : starEach (.Starred a sp :: es) X.env = (true, eval a X.env) :: starEach es X.env := by rfl) : EG X (.Tuple (.Starred a sp :: es) u pos) g (rT (rs ++ rs')) :=
  pe_to (pe_tup (StX.pa_star h1 h2 hs)) fun σ H Q ⟨F, D0, D, ok, k⟩ => ⟨F, D0, D, ok, fun v H1 D1 e1 hv => by
    obtain ⟨p, xs, rfl, q1, q2⟩ := hv
    refine ⟨p, xs, rfl, .inr (SqL.of (e1.i _ _ q1)), F, D0, D1, ok.grow e1, fun ys H2 D2 e2 hys => ⟨?_, fun z nz => (k.later (e1.trans e2)).tup e2.i (reps_app (q2.mono e2.d) hys) nz⟩⟩
    rw [List.length_append, ← q2.length, ← hys.length, sizeLine_eq]; omega⟩
end
/-! ### min of a list of tuples of ints -/
def minL : List Int → List (List Int) → List Int
  | a, [] => a
  | a, y :: l => minL (if leL a y = true then a else y) l
theorem lt_le (a b : List Int) : PySem.W.dataLt (.tuple (b.map .int)) (.tuple (a.map .int)) = !leL a b := by
  rw [PySem.W.dataLt_tuple]
  show PySem.W.rowLt (b.map .int) (a.map .int) = _
  rw [PySem.W.dataLt_ints, ← leL_lt, Bool.not_not]
theorem minD_is : ∀ (l : List (List Int)) (a : List Int), PySem.W.minD (.tuple (a.map .int)) (l.map fun t => .tuple (t.map .int)) = .tuple ((minL a l).map .int)
  | [], _ => rfl
  | y :: l, a => by
    have ih := minD_is l (if leL a y = true then a else y)
    unfold PySem.W.minD at ih ⊢
    rw [List.map_cons, List.foldl_cons, lt_le]
    unfold minL
    rw [← ih]
    cases h : leL a y with
    | true => rfl
    | false => rfl
theorem ints_fun : ∀ {us : List Value} {ns ms : List Int}, IntsAre us ns → IntsAre us ms → ns = ms
  | _, _, _, .nil, .nil => rfl
  | _, _, _, .cons n t h, h2 => by
    cases h2 with
    | cons m u h3 => rw [ints_fun h h3]
theorem dpAll_ints {K : PySem.W.Frag} {H : Hp} : ∀ {vs : List V} {ns : List Int}, DpAll K H vs (ns.map .int) → vs = ns.map V.int
  | _, [], h => by cases h; rfl
  | _, n :: ns, h => by
    cases h with
    | cons h1 h2 => cases h1; rw [dpAll_ints h2]; rfl
theorem dpAll_tups {K : PySem.W.Frag} {H : Hp} : ∀ {zs : ZL}, (∀ z ∈ zs, Dp K H z.1 (.tuple (z.2.map .int))) → DpAll K H (zs.map (·.1)) ((zs.map (·.2)).map fun t => .tuple (t.map .int))
  | [], _ => .nil
  | z :: zs, h => .cons (h z (List.mem_cons_self ..)) (dpAll_tups fun y hy => h y (List.mem_cons_of_mem _ hy))
theorem depth_all1 : ∀ l : List (List Int), PyData.depthAll (l.map fun t => .tuple (t.map .int)) ≤ 1
  | [] => by simp [PyData.depthAll]
  | x :: l => by
    have h1 := depth_t x
    have h2 := depth_all1 l
    rw [List.map_cons, PyData.depthAll]
    omega
def rMinT (K : PySem.W.Frag) : List V → Hp → VK → Prop := fun vs H Q => ∃ (a : Addr) (zs : ZL) (t : List Int) (ts : List (List Int)), vs = [.ref a] ∧ SqL K H a (zs.map (·.1)) ∧ (∀ z ∈ zs, Dp K H z.1 (.tuple (z.2.map .int))) ∧ zs.map (·.2) = t :: ts ∧ ∀ z ∈ zs, z.2 = minL t ts → Q z.1 H
theorem cr_minT {X : Cx} (hc : X.calm = true) (hu : X.A.units + 64 < cLine) : CallR X (.builtin "min") (rMinT X.K) := by
  intro pins s σ H vs us Q I r h
  obtain ⟨a, zs, t, ts, rfl, hs, hd, hz, q⟩ := h
  rw [Vals.ref1 r]
  obtain ⟨its, rv, hl, _⟩ := I.list hs
  have hd2 := dpAll_tups hd
  rw [hz, List.map_cons] at hd2
  obtain ⟨as, hr⟩ := Dp.readsAll I _ _ its hd2 rv
  have hr2 : ReadsAll s.heap its.toArray.toList (.tuple (t.map .int) :: ts.map fun t => .tuple (t.map .int)) as := by simpa using hr
  have dp := depth_all1 (t :: ts)
  rw [List.map_cons] at dp
  refine PySem.W.min_list_data (I.ok.hd hc) hl.isList hr2 ?_ (by omega) fun i v h' tk bs hi hb old => ?_
  · have e : (PyData.tuple (t.map .int) :: ts.map fun t => PyData.tuple (t.map .int)) = (t :: ts).map fun t => PyData.tuple (t.map .int) := rfl
    rw [e]
    refine ⟨fun x hx y hy => ?_, fun x hx => ?_⟩
    · obtain ⟨p, _, rfl⟩ := List.mem_map.mp hx
      obtain ⟨q, _, rfl⟩ := List.mem_map.mp hy
      simp only [PySem.W.alike]; exact PySem.W.alike_ints _ _
    · obtain ⟨p, _, rfl⟩ := List.mem_map.mp hx
      exact fun z => by cases z
  · rw [minD_is] at hb
    have hi2 : its[i]? = some v := by simpa using hi
    have I1 : Inv X pins σ H { s with heap := h', toks := tk } := I.kept old
    have lz : i < zs.length := by
      have q := (List.getElem?_eq_some_iff.mp hi2).1
      have w := rv.length
      rw [List.length_map] at w; omega
    have ez : (zs.map (·.1))[i]? = some zs[i].1 := by rw [List.getElem?_map, List.getElem?_eq_getElem lz]; rfl
    obtain ⟨u, hu2, ru⟩ := rv.get ez
    rw [hi2] at hu2
    cases hu2
    have hm : zs[i] ∈ zs := List.getElem_mem lz
    refine ⟨zs[i].1, H, I1, ru, q _ hm ?_⟩
    have dz := hd _ hm
    generalize zs[i].1 = V0 at dz ru
    generalize zs[i].2 = n0 at dz
    cases dz with
    | tup hs0 ha0 =>
      have e0 := dpAll_ints ha0
      subst e0
      cases ru
      obtain ⟨its0, rv0, ⟨o, ho, hc0, n, hd0⟩, _⟩ := I1.tuple hs0
      cases hb with
      | tuple g1 g2 g3 g4 =>
        rw [ho] at g1
        cases g1
        rw [hd0] at g3
        cases g3
        obtain ⟨k1, _⟩ := readsAll_intsAre g4
        exact ints_fun (intsAreOf rv0) (by simpa using k1)
section
variable {X : Cx} {g : List Sl} {e : Expr} {p1 pos : Pos} {t : List Int} {ts : List (List Int)}
theorem eg_minT (hc : X.calm = true) (hu : X.A.units + 64 < cLine) (hm : X.mg "min" = none) (h : EG X e g (rL ((t :: ts).map rTI))) (hg : Gl X "min" := by rfl) (he : starEach [e] X.env = (false, eval e X.env) :: starEach [] X.env := by rfl) : EG X (.Call (.Name "min" p1) [e] [] pos) g (rTI (minL t ts)) :=
  pe_to (pe_callB (cr_minT hc hu) hg hm (by decide +kernel) (ag_cons h ag_nil he) (by decide) (by decide) he (by rfl)) fun σ H Q ⟨F, D0, D, ok, k⟩ => ⟨F, D0, D, ok, fun vs H' D' e1 hvs => by
    cases hvs with
    | cons h1 w =>
      cases w
      obtain ⟨p, ws, rfl, h2, h3⟩ := h1
      obtain ⟨zs, rfl, h4, h5⟩ := reps_zip h3
      refine ⟨p, zs, t, ts, rfl, SqL.of (e1.i _ _ h2), fun z hz => ?_, h4.symm, fun z hz ez => (k.later e1).here e1.i ?_⟩
      · obtain ⟨b, ys, e, hb, hy⟩ := h5 z hz
        have ey := reps_ints hy
        subst ey
        rw [e]
        exact .tup (SqT.of (e1.i _ _ hb)) (by
          have w : ∀ ns : List Int, DpAll X.K H' (ns.map V.int) (ns.map PyData.int) := fun ns => by
            induction ns with
            | nil => exact .nil
            | cons n ns ih => exact .cons (.int n) ih
          exact w z.2)
      · rw [← ez]; exact h5 z hz⟩
end
end Rf

namespace Rf
open PySem PySem.Spec PyProof.Rows L2
open Sem (wp)

/-! ### sorted(d), the keys tuples of ints -/
theorem src_dT {prog : Program} {w : World} {d : Addr} {o : Obj} {es : Array DictEntry} {ep : Nat} (lo : (d == sysModules) = false) (hx : o.ExactDict) (hdt : o.data = .dict es ep) :
    PySem.W.KdlSrc prog w "dict" d d es.size (fun i v => ∃ en, es[i]? = some en ∧ v = en.key) (fun h => h.get? d = some o) where
  type := fun s e => ⟨o, e, hx.1⟩
  there := fun h e => ⟨Heap.lt_size e, Heap.lt_size e⟩
  keep := fun h h' e k => k d (.inl rfl) o e
  notList := by decide
  notTuple := by decide
  hint := fun A E s Q e hq => PySem.W.kdl_hint_dict ⟨o, e, hx.1⟩ hq
  iter := fun A s hh e => by
    have hne : d ≠ s.heap.objs.size := Nat.ne_of_lt (Heap.lt_size e)
    refine ⟨{ cls := .type "dict_keyiterator", data := .fields #[.ref d, .int 0 0, .int es.size 0, .int ep 0] }, fun i h => h.IsKeyIter s.heap.objs.size d i es.size ep ∧ h.get? d = some o, fun E Q hq => iter_keys lo e hx hdt hq, ⟨?_, ?_, ?_, ?_, ?_⟩, ⟨_, Heap.get?_push_size _ rfl, rfl, rfl⟩, Heap.get?_push_of_some _ e⟩
    · exact fun b hb => by rw [List.mem_singleton.mp hb]; exact List.mem_cons_self ..
    · exact fun i h h' st k => ⟨st.1.at fun u q => k _ (by simp) u q, k d (by simp) o st.2⟩
    · intro i s' Q E hi st hQ
      have hen : es[i]? = some es[i] := Array.getElem?_eq_getElem hi
      exact next_key_item st.1 st.2 hdt rfl hen fun h' st' sb => hQ es[i].key h' s'.toks ⟨_, hen, rfl⟩ ⟨st', (sb.2 d hne).trans st.2⟩ fun b u nb q => (sb.2 b (fun z => nb (by simp [z]))).trans q
    · intro s' Q E st hQ
      exact next_key_end hh st.1 st.2 hdt rfl (Nat.le_refl _) fun h' eb => hQ h' s'.toks fun b u nb q => eb b u (fun z => nb (by simp [z])) q
    · intro i s' Q E st hQ
      refine wpAny_pyIter_slot st.1.typeIs F.slot_dict_keyiterator_iter (wpAny_call_entry F.slot_dict_keyiterator_iter st.1.typeIs F.entry_dict_keyiterator_iter ?_ (F.args_dict_keyiterator_iter_1 _))
      exact wpAny_pure ⟨_, rfl, "dict_keyiterator", _, st.1.typeIs, F.slot_dict_keyiterator_next.lookup, hQ⟩
/-- the keys' tuples at their places -/
def KeyAt (H : Hp) (z : V × List Int) : Prop := ∃ q, z.1 = V.ref q ∧ H q = some (.tup (z.2.map V.int))
def rSortDT : List V → Hp → VK → Prop := fun vs H Q => ∃ (a : Addr) (o : Obj) (kvs : List (List Key × V)) (tss : List (List Int)), vs = [.ref a] ∧ H a = some (.frz o (.dT kvs)) ∧ kvs.map (·.1) = tss.map (fun t => t.map Sum.inl) ∧ tss.all (fun t => !t.isEmpty) = true ∧ tss.length ≤ 1000 ∧
  ∀ (p : Addr) (zs : ZL), zs.map (·.2) = isortL tss → (∀ z ∈ zs, KeyAt H z) → H p = none → Q (.ref p) (upd H p (.lst (zs.map (·.1))))
theorem tup_reads {X : Cx} {pins : List (Addr × Obj)} {σ : L2.St} {H : Hp} {s : Shared} {q : Addr} {ns : List Int} (I : Inv X pins σ H s) (h : H q = some (.tup (ns.map V.int))) : Reads s.heap (.ref q) (.tuple (ns.map .int)) [] := by
  have dp : Dp X.K H (.ref q) (.tuple (ns.map .int)) := .tup (SqT.of h) (by
    have w : ∀ ns : List Int, DpAll X.K H (ns.map V.int) (ns.map PyData.int) := fun ns => by
      induction ns with
      | nil => exact .nil
      | cons n ns ih => exact .cons (.int n) ih
    exact w ns)
  obtain ⟨as, r⟩ := Dp.reads I _ _ (.ref q) dp rfl
  obtain ⟨a, l, e1, e2, e3⟩ := reads_tuple_items r
  obtain ⟨_, e4⟩ := readsAll_intsAre e3
  rw [e4] at r
  exact r
theorem keys_zl {X : Cx} {pins : List (Addr × Obj)} {σ : L2.St} {H : Hp} {s : Shared} {es : Array DictEntry} : ∀ (L : List Value) (tss : List (List Int)) (k : Nat), L.length = tss.length → (∀ (j : Nat) (v : Value), L[j]? = some v → ∃ en, es[k + j]? = some en ∧ v = en.key) → (∀ (j : Nat) (t : List Int), tss[j]? = some t → ∃ en q, es[k + j]? = some en ∧ en.key = .ref q ∧ H q = some (.tup (t.map V.int))) →
    ∃ zs : ZL, zs.map (·.2) = tss ∧ Vals (zs.map (·.1)) L ∧ ∀ z ∈ zs, KeyAt H z
  | [], [], _, _, _, _ => ⟨[], rfl, .nil, fun _ h => absurd h List.not_mem_nil⟩
  | [], _ :: _, _, h, _, _ => by cases h
  | _ :: _, [], _, h, _, _ => by cases h
  | v :: L, t :: tss, k, hl, h1, h2 => by
    obtain ⟨zs, a1, a2, a3⟩ := keys_zl (X := X) (pins := pins) (σ := σ) (H := H) (s := s) (es := es) L tss (k + 1) (Nat.succ.inj hl) (fun j v hv => by rw [show k + 1 + j = k + (j + 1) by omega]; exact h1 (j + 1) v (by simpa using hv)) (fun j t ht => by rw [show k + 1 + j = k + (j + 1) by omega]; exact h2 (j + 1) t (by simpa using ht))
    obtain ⟨en, b1, b2⟩ := h1 0 v rfl
    obtain ⟨en', q, c1, c2, c3⟩ := h2 0 t rfl
    rw [b1] at c1
    cases c1
    refine ⟨(.ref q, t) :: zs, by rw [List.map_cons, a1], .cons (by rw [b2, c2]; exact rfl) a2, fun z hz => ?_⟩
    rcases List.mem_cons.mp hz with e | e
    · subst e; exact ⟨q, rfl, c3⟩
    · exact a3 z e
theorem cr_sortedDT {X : Cx} (hc : X.calm = true) (hu : X.A.units + 64 < cLine) : CallR X (.builtin "sorted") rSortDT := by
  intro pins s σ H vs us Q I r h
  obtain ⟨a, o, kvs, tss, rfl, hd, hk, hn, hz, q⟩ := h
  rw [Vals.ref1 r]
  obtain ⟨lo, hod, hx, es, ep, hdt, hsz, ent⟩ := I.frzT hd
  have hl : kvs.length = tss.length := by have w := congrArg List.length hk; rwa [List.length_map, List.length_map] at w
  refine Calls.call_function_entry PyProof.Rows.kind_sorted PyProof.Rows.plain_sorted PyProof.Rows.entry_sorted (PyProof.Rows.args_sorted1 _) ?_
  unfold Builtin.«sorted»
  refine wpAny_bind (m := checkCount "sorted" 1 1 _) (wpAny_pure ?_)
  refine wpAny_bind (PySem.W.kdu_collect (A := X.A.in1) (src_dT lo hx hdt) (I.ok.hd hc) hod (by rw [sizeLine_eq]; omega) fun h' tk acc old hacc => ?_)
  have hal : acc.toList.length = tss.length := by rw [Array.length_toList, hacc.1]; omega
  obtain ⟨zs, z1, z2, z3⟩ := keys_zl (X := X) (pins := pins) (σ := σ) (H := H) (s := s) (es := es) acc.toList tss 0 hal (fun j v hv => by
      rw [Nat.zero_add]
      exact hacc.2 j v (by rw [← Array.getElem?_toList]; exact hv)) (fun j t ht => by
      rw [Nat.zero_add]
      have e3 : (kvs.map (·.1))[j]? = some (t.map Sum.inl) := by rw [hk, List.getElem?_map, ht]; rfl
      rw [List.getElem?_map] at e3
      cases e4 : kvs[j]? with
      | none => rw [e4] at e3; cases e3
      | some kv =>
        rw [e4] at e3
        obtain ⟨k1, v1⟩ := kv
        have e5 : k1 = t.map Sum.inl := Option.some.inj e3
        subst e5
        obtain ⟨en, q', f1, f2, f3⟩ := ent j _ v1 e4
        rw [kVs_ints] at f3
        exact ⟨en, q', f1, f2, f3⟩)
  have I1 : Inv X pins σ H { s with heap := h', toks := tk } := I.kept old
  refine wpAny_bind (wpAny_newList ?_ (by rw [hal, sizeLine_eq]; omega))
  have hoL : (h'.push (seqObj "list" acc.toList.toArray 0)).get? h'.objs.size = some (seqObj "list" acc.toList.toArray 0) := Heap.get?_push_size _ rfl
  show wpAny _ _ _ _ _ { s with heap := h'.push (seqObj "list" acc.toList.toArray 0), toks := tk }
  have I2 : Inv X pins σ H { s with heap := h'.push (seqObj "list" acc.toList.toArray 0), toks := tk } := I1.kept (t' := tk) fun b u e => Heap.get?_push_of_some _ e
  have ea : PySem.W.AllAlike (zs.map fun z => PyData.tuple (z.2.map .int)) := PySem.W.AllAlike.of fun b b' => by
    show PySem.W.alike (.tuple (b.2.map .int)) (.tuple (b'.2.map .int)) = true
    simp only [PySem.W.alike]; exact PySem.W.alike_ints _ _
  have es' : PySem.W.Sortable (zs.map fun z => PyData.tuple (z.2.map .int)) := .inl fun d hd' => by
    obtain ⟨z, hz', rfl⟩ := List.mem_map.mp hd'
    have w := List.all_eq_true.mp hn z.2 (by rw [← z1]; exact List.mem_map.mpr ⟨z, hz', rfl⟩)
    cases e : z.2 with
    | nil => rw [e] at w; cases w
    | cons x l => exact ⟨_, _, by rw [List.map_cons]⟩
  refine wpAny_bind (wpAny_holding (PySem.W.list_sort_data (enc := fun z : V × List Int => PyData.tuple (z.2.map .int)) (bs := zs) (vs := acc.toList) (R := fun u (z : V × List Int) => RelV z.1 u) hoL (each_vals z2 fun z _ u ru => ru)
    (each_vals z2 fun z hz' u ru => by
      obtain ⟨q', e1, e2⟩ := z3 z hz'
      rw [e1] at ru
      cases ru
      exact ⟨[], tup_reads I2 e2, List.not_mem_nil⟩) ea es' (by have w := z2.length; rw [List.length_map] at w; rw [w, hal, sizeLine_eq]; omega) (fun b _ => by have := depth_t b.2; show X.A.units + _ + _ + _ < _; omega) fun out hlen eo => ?_))
  rw [dataLe_tups (fun z : V × List Int => z.2)] at eo
  obtain ⟨e', he'⟩ := PyProof.Rows.sortedHeap_at (vs := acc.toList) (out := out.toArray) hoL
  have ro := vals_each eo
  have lzs : zs.length = tss.length := by rw [← z1, List.length_map]
  have hl2 : ((zs.mergeSort fun p q => leL p.2 q.2).map (·.1)).length ≤ sizeLine := by rw [List.length_map, List.length_mergeSort, lzs, sizeLine_eq]; omega
  have off : ∀ b u, h'.get? b = some u → (PyProof.Rows.sortedHeap (h'.push (seqObj "list" acc.toList.toArray 0)) h'.objs.size acc.toList out.toArray).get? b = some u := fun b u e => by
    have hb : b < h'.objs.size := Heap.lt_size e
    rw [PyProof.Rows.sortedHeap_old (Nat.ne_of_lt hb) (by rw [size_push']; exact Nat.lt_succ_of_lt hb)]
    exact Heap.get?_push_of_some _ e
  refine wpAny_pure ⟨_, rfl, .ref h'.objs.size, upd H h'.objs.size (.lst ((zs.mergeSort fun p q => leL p.2 q.2).map (·.1))), I1.laid (t' := tk) off (Nat.le_refl _) ⟨hl2, out, e', ro, he'⟩, rfl, q _ _ ?_ (fun z hz' => z3 z ((List.mergeSort_perm zs _).mem_iff.mp hz')) (I1.hok.fresh (Nat.le_refl _))⟩
  rw [List.map_mergeSort (s := leL) (fun _ _ _ _ => rfl), msort_is, z1]
/-- all tuples count as told -/
def absorb (H D : Hp) : Hp := fun b => match H b with
  | some (.tup xs) => some (.tup xs)
  | _ => D b
theorem absorb_tup {H D : Hp} {b : Addr} {xs : List V} (h : H b = some (.tup xs)) : absorb H D b = some (.tup xs) := by unfold absorb; rw [h]
theorem absorb_cases (H D : Hp) (b : Addr) : (∃ xs, H b = some (.tup xs) ∧ absorb H D b = some (.tup xs)) ∨ ((∀ xs, H b ≠ some (.tup xs)) ∧ absorb H D b = D b) := by
  unfold absorb
  cases h : H b with
  | none => exact .inr ⟨fun xs e => (nomatch e), rfl⟩
  | some u => cases u <;> first | exact .inl ⟨_, rfl, rfl⟩ | exact .inr ⟨fun xs e => (nomatch e), rfl⟩
theorem absorb_grow {H D : Hp} (s : Same D H) : Grow H D H (absorb H D) := ⟨Same.refl _, fun b u hb => by
  rcases absorb_cases H D b with ⟨xs, h1, h2⟩ | ⟨h1, h2⟩
  · have w := s _ _ hb
    rw [h1] at w; cases w; exact h2
  · rw [h2]; exact hb, fun b u hb => by
  rcases absorb_cases H D b with ⟨xs, h1, h2⟩ | ⟨h1, h2⟩
  · rw [h2] at hb; cases hb; exact h1
  · rw [h2] at hb; exact s _ _ hb, fun b hb => by
  rcases absorb_cases H D b with ⟨xs, h1, h2⟩ | ⟨h1, h2⟩
  · exact .inr (.inr ⟨_, h1, .inl ⟨xs, rfl⟩⟩)
  · rw [h2] at hb; exact .inl hb⟩
section
variable {X : Cx} {g : List Sl} {e : Expr} {p1 pos : Pos} {tm : TD}
theorem ng_sortedD (hn : (tm.map (·.1)).all (fun t => !t.isEmpty) = true) (hz : tm.length ≤ 1000) (hc : X.calm = true) (hu : X.A.units + 64 < cLine) (hm : X.mg "sorted" = none) (h : EG X e g (rDT (tE tm))) (hg : Gl X "sorted" := by rfl) (he : starEach [e] X.env = (false, eval e X.env) :: starEach [] X.env := by rfl) :
    NG X (.Call (.Name "sorted" p1) [e] [] pos) g ((isortL (tm.map (·.1))).map rTI) :=
  pe_to (pe_callB (cr_sortedDT hc hu) hg hm (by decide +kernel) (ag_cons h ag_nil he) (by decide) (by decide) he (by rfl)) fun σ H Q ⟨F, D0, D, ok, k⟩ => ⟨F, D0, D, ok, fun vs H' D' e1 hvs => by
    cases hvs with
    | cons h1 w =>
      cases w
      obtain ⟨p, od, ws, rfl, h2, h3⟩ := h1
      rw [ents_t h3] at h2
      refine ⟨p, od, tW tm, tm.map (·.1), rfl, e1.i _ _ h2, by unfold tW; rw [List.map_map, List.map_map]; rfl, hn, by rw [List.length_map]; exact hz, fun q zs z1 z2 nq => ?_⟩
      have key : ∀ z ∈ zs, ∃ b, z.1 = V.ref b ∧ H' b = some (.tup (z.2.map V.int)) := z2
      have r2 : ∀ z ∈ zs, (rTI z.2).p (absorb H' D') z.1 := fun z hz' => by
        obtain ⟨b, e2, e3⟩ := key z hz'
        exact ⟨b, z.2.map V.int, e2, absorb_tup e3, reps_ofI _⟩
      refine k q _ H' _ (e1.trans (absorb_grow e1.i)) nq ?_
      rw [← z1]
      exact zip_reps r2⟩
end
end Rf

namespace Rf
open PySem PySem.Spec PyProof.Rows L2
/-! ### dicts whose keys are pairs of ints -/
abbrev BY := List ((Int × Int) × Int)
def bK (z : Int × Int) : List Int := [z.1, z.2]
theorem bK_inj (a b : Int × Int) (h : bK a = bK b) : a = b := by
  unfold bK at h
  injection h with h1 h2
  injection h2 with h2 _
  exact Prod.ext h1 h2
def bT (m : BY) : TD := m.map fun z => (bK z.1, V.int z.2)
theorem val_key {κ κ' β : Type} [DecidableEq κ] [DecidableEq κ'] {h : κ → κ'} (hi : ∀ a b, h a = h b → a = b) (k : κ) : ∀ m : List (κ × β), valG (m.map fun z => (h z.1, z.2)) (h k) = valG m k
  | [] => rfl
  | (a, v) :: m => by
    have ih := val_key hi k m
    unfold valG at ih ⊢
    rw [List.map_cons, List.find?_cons, List.find?_cons]
    by_cases e : a = k
    · subst e; simp
    · have e' : ¬ h a = h k := fun z => e (hi _ _ z)
      simp only [decide_eq_false e, decide_eq_false e']; exact ih
theorem put_key {κ κ' β : Type} [DecidableEq κ] [DecidableEq κ'] {h : κ → κ'} (hi : ∀ a b, h a = h b → a = b) (k : κ) (v : β) (m : List (κ × β)) : putG (m.map fun z => (h z.1, z.2)) (h k) v = (putG m k v).map fun z => (h z.1, z.2) := by
  have e : ((m.map fun z => (h z.1, z.2)).any fun kv => decide (kv.1 = h k)) = m.any fun kv => decide (kv.1 = k) := by
    rw [List.any_map]; congr 1; funext kv
    exact decide_eq_decide.mpr ⟨fun z => hi _ _ z, fun z => congrArg h z⟩
  unfold putG
  rw [e]
  by_cases q : (m.any fun kv => decide (kv.1 = k)) = true
  · rw [if_pos q, if_pos q, List.map_map, List.map_map]
    refine List.map_congr_left fun kv _ => ?_
    by_cases z : kv.1 = k
    · simp [z]
    · have z' : ¬ h kv.1 = h k := fun w => z (hi _ _ w)
      simp [z, z']
  · rw [if_neg q, if_neg q, List.map_append]; rfl
theorem bT_two (m : BY) : bT m = (m.map fun z => (bK z.1, z.2)).map fun z => (z.1, V.int z.2) := by unfold bT; rw [List.map_map]; rfl
theorem bT_val (m : BY) (k : Int × Int) : valG (bT m) (bK k) = (valG m k).map V.int := by rw [bT_two, val_int, val_key bK_inj]
theorem bT_get (m : BY) (k : Int × Int) (d : Int) : rv ((valG (bT m) (bK k)).getD (.int d)) = rInt ((valG m k).getD d) := by rw [bT_val]; cases valG m k <;> rfl
theorem bT_put (m : BY) (k : Int × Int) (v : Int) : putG (bT m) (bK k) (.int v) = bT (putG m k v) := by rw [bT_two, put_int, put_key bK_inj, ← bT_two]
abbrev rBY (m : BY) : Rp := rDT (tE (bT m))
theorem ig_by {X : Cx} {g : List Sl} {tg e : Expr} {m : BY} (he : EG X e g (rBY m)) : IG X tg e g (m.map fun z => rT [rInt z.1.1, rInt z.1.2]) := by
  have h := ig_dt (tg := tg) he
  unfold bT at h
  rw [List.map_map] at h
  exact h
/-- walks with their numbers -/
abbrev WS := List (List Int × Int)
abbrev rWk (z : List Int × Int) : Rp := rT [rInts z.1, rInt z.2]
abbrev rWS (ws : WS) : Rp := rL (ws.map rWk)
abbrev rPr (z : Int × Int) : Rp := rT [rInt z.1, rInt z.2]

section
variable {P : Program} {w : World} {K : PySem.W.Frag} {mg : Str → Option Value} {base : Heap} {f : Addr} {fd : FuncData}

def aheadStep (nx : List Int) (n : Nat) (f : List Int) (p : Int) : Option (List Int) := match atI nx p with
  | some m => (match ixN f.length m with
    | some j => if 0 ≤ p ∧ p < (n : Int) then some (f.set j p) else none
    | none => none)
  | none => none
def aheadM (nx : List Int) (n : Nat) : Option (List Int) := foldM (aheadStep nx n) (List.replicate n [(0 : Int)]).flatten (rangeI n)
inductive relAhead (K : PySem.W.Frag) : Rel
  | mk (ws : List (List Int)) (nx ah : List Int) (hz : (lettersOf ws).length ≤ 1000) (h : aheadM nx (lettersOf ws).length = some ah) : relAhead K [rRims K ws nx] (rInts ah)

theorem sc_ahead_of : FnScope ["rims", "found", "place"] ["rims"] (defScope (top 67)) := ⟨rfl, rfl, rfl, by decide +kernel, rfl, by decide +kernel, by decide +kernel⟩
theorem c_ahead_of (T : Fre mg) (R : KRims K) (C1 : MethC P w K mg base (He.ga K "Rims") "next" 4 (relNext K)) (F : FnP K "ahead_of" (top 67) f fd) (gm : mg "ahead_of" = some (.ref f)) : DefC P w K mg base "ahead_of" 5 (relAhead K) := by
  refine ⟨f, fd, ["rims"], def_g F sc_ahead_of (fun A r h => by cases h <;> rfl) (by decide) (fun cdv A outer s H E hr As r h => ?_), gm, F.kp, F.bindsN fun _ _ _ _ _ _ us hl => match us, hl with | [_], _ => rfl⟩
  cases h with
  | mk ws nx ah hz h =>
    refine sg_setV 1 (vg_l (ng_rep1 (l := [(0 : Int)]) (fa := rInt) (j := ((lettersOf ws).length : Int)) (by simp; omega) (by omega) (eg_n (ng_lst (ag_cons eg_int ag_nil))) (eg_fld R.c.cl (R.n _ (by decide)) (eg_name 0)))) sc_ahead_of.nd ?_
    refine sg_for (fa := rInt) (l := rangeI (lettersOf ws).length) (fun f : List Int => [.d (rRims K ws nx), .l (f.map rInt), .non]) (aheadStep nx (lettersOf ws).length) (fun f p => [.d (rRims K ws nx), .l (f.map rInt), .d (rInt p)]) [2] (ig_range T.range (by omega) (eg_fld R.c.cl (R.n _ (by decide)) (eg_name 0))) h (Le.refl _) rfl
      (fun s x => kg_name 2 sc_ahead_of.nd) (fun s p s' _ e => ?_) ?_
    · unfold aheadStep at e
      cases h1 : atI nx p with
      | none => rw [h1] at e; cases e
      | some m =>
        rw [h1] at e; dsimp only at e
        cases h2 : ixN s.length m with
        | none => rw [h2] at e; cases e
        | some j =>
          rw [h2] at e; dsimp only at e
          by_cases hp : 0 ≤ p ∧ p < ((lettersOf ws).length : Int)
          · rw [if_pos hp] at e; cases e
            refine sg_store 1 (m := j) rfl (eg_name 2) (eg_meth C1 R.c.cl (eg_name 0) (ag_cons (eg_name 2) ag_nil) (.mk ws nx p m hp h1) hr) (by rw [List.length_map]; exact h2) ?_ (pg_sub (pv 1) (eg_meth C1 R.c.cl (eg_name 0) (ag_cons (eg_name 2) ag_nil) (.mk ws nx p m hp h1) hr) set_list) rfl rfl
            refine sg_nil ?_
            rw [← List.map_set]
            exact (LeS.same (.same (.non .nil))).go
          · rw [if_neg hp] at e; cases e
    · refine sg_le (Le.freeze 1 rfl rfl) ?_
      exact sg_ret (eg_name 1) rfl

def stepsM (w : List Int) : Option (List (Int × Int)) := match atI w 0 with
  | some x => if (cutL w (some 1) none).length + 1 = w.length ∧ w.length ≤ 1000 then some (w.zip (cutL w (some 1) none ++ [x])) else none
  | none => none
inductive relSteps : Rel
  | mk (w : List Int) (st : List (Int × Int)) (h : stepsM w = some st) : relSteps [rInts w] (rL (st.map rPr))
theorem stepsM_len {w : List Int} {st : List (Int × Int)} (h : stepsM w = some st) : st.length ≤ 1000 := by
  unfold stepsM at h
  cases h0 : atI w 0 with
  | none => rw [h0] at h; cases h
  | some x =>
    rw [h0] at h; dsimp only at h
    by_cases hq : (cutL w (some 1) none).length + 1 = w.length ∧ w.length ≤ 1000
    · rw [if_pos hq] at h; cases h
      rw [List.length_zip]; omega
    · rw [if_neg hq] at h; cases h

theorem sc_steps_in : FnScope ["walk"] ["walk"] (defScope (top 68)) := ⟨rfl, rfl, rfl, by decide +kernel, rfl, by decide +kernel, by decide +kernel⟩
theorem c_steps_in (T : Fre mg) (F : FnP K "steps_in" (top 68) f fd) (gm : mg "steps_in" = some (.ref f)) : DefC P w K mg base "steps_in" 1 relSteps := by
  refine ⟨f, fd, ["walk"], def_g F sc_steps_in (fun A r h => by cases h <;> rfl) (by decide) (fun cdv A outer s H E hr As r h => ?_), gm, F.kp, F.bindsN fun _ _ _ _ _ _ us hl => match us, hl with | [_], _ => rfl⟩
  cases h with
  | mk w st h =>
    unfold stepsM at h
    cases h0 : atI w 0 with
    | none => rw [h0] at h; cases h
    | some x =>
      rw [h0] at h; dsimp only at h
      by_cases hq : (cutL w (some 1) none).length + 1 = w.length ∧ w.length ≤ 1000
      · rw [if_pos hq] at h; cases h
        refine sg_ret (eg_n (ng_listZip (l := w) (m := cutL w (some 1) none ++ [x]) (fa := rInt) (fb := rInt) false true (by rw [List.length_append]; simp; omega) hq.2 rfl T.list T.zip (eg_name 0) (eg_eq (congrArg rT ?_) (eg_tupStar (eg_n (ng_slL1 (fa := rInt) (eg_name 0) (og_some eg_int) og_none)) (ag_cons (eg_ixL (eg_name 0) eg_int h0) ag_nil) (by rw [List.length_map]; simp; omega))))) rfl
        rw [List.map_append]; rfl
      · rw [if_neg hq] at h; cases h

def rotM (w : List Int) (i : Int) : List Int := cutL w (some i) none ++ cutL w none (some i)
inductive relLeast : Rel
  | mk (w t : List Int) (ts : List (List Int)) (hz : w.length ≤ 1000) (h : (rangeI w.length).map (rotM w) = t :: ts) : relLeast [rInts w] (rTI (minL t ts))
theorem cutL_len {α : Type} (l : List α) (a b : Option Int) : (cutL l a b).length ≤ l.length := by
  unfold cutL; rw [List.length_take, List.length_drop]; omega

theorem sc_least_form : FnScope ["walk", "at"] ["walk"] (defScope (top 69)) := ⟨rfl, rfl, rfl, by decide +kernel, rfl, by decide +kernel, by decide +kernel⟩
theorem c_least_form (T : Fre mg) (F : FnP K "least_form" (top 69) f fd) (gm : mg "least_form" = some (.ref f)) : DefC P w K mg base "least_form" 1 relLeast := by
  refine ⟨f, fd, ["walk"], def_g F sc_least_form (fun A r h => by cases h <;> rfl) (by decide) (fun cdv A outer s H E hr As r h => ?_), gm, F.kp, F.bindsN fun _ _ _ _ _ _ us hl => match us, hl with | [_], _ => rfl⟩
  cases h with
  | mk w t ts hz h =>
    refine sg_ret (eg_minT rfl hr.units T.min (eg_eq (congrArg rL (congrArg (List.map rTI) h)) (eg_n (ng_lc (fa := rInt) (fb := rTI) (l := rangeI w.length) [("at", 1)] (fun i => [.d (rInts w), .d (rInt i)]) (fun _ => some true) (fun i => some (rotM w i)) rfl sc_least_form.nd (ig_range T.range (by omega) (eg_lenL1 T.len (eg_name 0))) (comp_all (by rw [rangeI_len]; omega)) (blkOk_by (N := ["walk", "at"]) (sc := defScope (top 69)) (by decide +kernel))
      (fun x s H C cl fp => kg_name 1 sc_least_form.nd) (fun x k s H C cl fp e => by cases e; exact ts_nil) (fun i y s H C cl fp _ e => by
        cases e
        have c1 := cutL_len w (some i) none
        have c2 := cutL_len w none (some i)
        exact eg_catT1 (by omega) (eg_tupleL T.tuple (eg_n (ng_slL1 (fa := rInt) (eg_name 0) (og_some (eg_name 1)) og_none))) (eg_tupleL T.tuple (eg_n (ng_slL1 (fa := rInt) (eg_name 0) og_none (og_some (eg_name 1)))))))))) rfl

end
end Rf

namespace Rf
open PySem PySem.Spec PyProof.Rows L2
section
variable {P : Program} {w : World} {K : PySem.W.Frag} {mg : Str → Option Value} {base : Heap} {f : Addr} {fd : FuncData}

def walkH (ls ah : List Int) (z : Int × Int) : Option Bool := match atI ls z.1, atI ah z.2 with
  | some a, some q => (match atI ls q with
    | some b => some (decide (a = -b))
    | none => none)
  | _, _ => none
def walkOk (ls ah w : List Int) : Bool := decide (w ≠ []) && w.all (fun p => withinB p (some 0) (some (ls.length - 1))) && (match stepsM w with
  | some st => st.all (fun z => decide (walkH ls ah z = some true))
  | none => false)
inductive relWalk (K : PySem.W.Frag) : Rel
  | mk (ws : List (List Int)) (nx ah w : List Int) (hz : w.length ≤ 1000) (h : walkOk (lettersOf ws) ah w = true) : relWalk K [rRims K ws nx, rInts ah, rInts w] (rBl true)

theorem sc_is_walk : FnScope ["rims", "ahead", "value", "place", "after"] ["rims", "ahead", "value"] (defScope (top 70)) := ⟨rfl, rfl, rfl, by decide +kernel, rfl, by decide +kernel, by decide +kernel⟩
theorem c_is_walk (T : Fre mg) (R : KRims K) (C1 : DefC P w K mg base "are_integers" 2 relInts) (C2 : DefC P w K mg base "is_within" 2 (relWithin K)) (C3 : DefC P w K mg base "steps_in" 1 relSteps) (F : FnP K "is_walk" (top 70) f fd) (gm : mg "is_walk" = some (.ref f)) : DefC P w K mg base "is_walk" 3 (relWalk K) := by
  refine ⟨f, fd, ["rims", "ahead", "value"], def_g F sc_is_walk (fun A r h => by cases h <;> rfl) (by decide) (fun cdv A outer s H E hr As r h => ?_), gm, F.kp, F.bindsN fun _ _ _ _ _ _ us hl => match us, hl with | [_, _, _], _ => rfl⟩
  cases h with
  | mk ws nx ah w hz h =>
    unfold walkOk at h
    rw [Bool.and_eq_true, Bool.and_eq_true, decide_eq_true_eq] at h
    obtain ⟨⟨h1, h2⟩, h3⟩ := h
    cases hs : stepsM w with
    | none => rw [hs] at h3; cases h3
    | some st =>
      rw [hs] at h3; dsimp only at h3
      have lw : 0 < w.length := by
        cases w with
        | nil => exact absurd rfl h1
        | cons x l => exact Nat.succ_pos _
      refine sg_ifF (k := (false || (decide ((w.length : Int) = 0) || false))) (bg_w (wg_or (bg_not (k := true) (bg_val (eg_call C1 (ag_cons (eg_name 2) ag_nil) (ints_Q (tp := false) hz) (hr.mono (by decide))))) fun _ => wg_or (bg_eqi (eg_lenL1 T.len (eg_name 2)) eg_int) fun _ => wg_or1 (bg_not (k := true) (bg_val (eg_eq (r1 := rBl ((w.map fun p => withinB p (some 0) (some ((lettersOf ws).length - 1))).all id)) (by rw [all_mapB, h2]) (eg_all rfl T.all (eg_n (ng_lc (fa := rInt) (fb := rBl) (l := w) [("place", 3)] (fun p => [.d (rRims K ws nx), .d (rInts ah), .d (rInts w), .d (rInt p), .non]) (fun _ => some true) (fun p => some (withinB p (some 0) (some ((lettersOf ws).length - 1)))) rfl sc_is_walk.nd (ig_list (eg_name 2)) (comp_all (by omega)) (blkOk_by (N := ["rims", "ahead", "value", "place", "after"]) (sc := defScope (top 70)) (by decide +kernel))
        (fun x s H C cl fp => kg_name 3 sc_is_walk.nd) (fun x k s H C cl fp e => by cases e; exact ts_nil) (fun p y s H C cl fp _ e => by
          cases e
          exact eg_call C2 (ag_cons (eg_name 3) (ag_cons eg_int (ag_cons (eg_sub (eg_fld R.c.cl (R.n _ (by decide)) (eg_name 0)) eg_int) ag_nil))) (.inl ⟨p, some 0, some ((lettersOf ws).length - 1), rfl, rfl⟩) (hr.mono (by decide))))))))))) (by rw [decide_eq_false (by omega)]; rfl) ?_
      refine sg_ret (eg_eq (congrArg rBl (all_ok (l := st))) (eg_all rfl T.all (eg_n (ng_lc (fa := rPr) (fb := rBl) (l := st) [("place", 3), ("after", 4)] (fun z => [.d (rRims K ws nx), .d (rInts ah), .d (rInts w), .d (rInt z.1), .d (rInt z.2)]) (fun _ => some true) (walkH (lettersOf ws) ah) rfl sc_is_walk.nd (ig_list (eg_call C3 (ag_cons (eg_name 2) ag_nil) (.mk w st hs) (hr.mono (by decide)))) (comp_const (by have := stepsM_len hs; omega) fun x hx => ⟨rfl, of_decide_eq_true (List.all_eq_true.mp h3 x hx)⟩) (blkOk_by (N := ["rims", "ahead", "value", "place", "after"]) (sc := defScope (top 70)) (by decide +kernel))
        (fun x s H C cl fp => kg_pair 3 4 rfl sc_is_walk.nd) (fun x k s H C cl fp e => by cases e; exact ts_nil) (fun z y s H C cl fp _ e => ?_))))) rfl
      unfold walkH at e
      cases a1 : atI (lettersOf ws) z.1 with
      | none => rw [a1] at e; cases e
      | some a =>
        rw [a1] at e
        cases q1 : atI ah z.2 with
        | none => rw [q1] at e; cases e
        | some q =>
          rw [q1] at e; dsimp only at e
          cases b1 : atI (lettersOf ws) q with
          | none => rw [b1] at e; cases e
          | some b =>
            rw [b1] at e; cases e
            exact eg_eqi (eg_ixTd (eg_fld R.c.cl (R.n _ (by decide)) (eg_name 0)) (eg_name 3) a1) (eg_neg (eg_ixTd (eg_fld R.c.cl (R.n _ (by decide)) (eg_name 0)) (eg_ixL (eg_name 1) (eg_name 4) q1) b1))

inductive relCounted (K : PySem.W.Frag) : Rel
  | mk (ws : List (List Int)) (nx ah : List Int) (vs : WS) (hz : vs ≠ [] ∧ vs.length ≤ 1000) (h : vs.all (fun z => walkOk (lettersOf ws) ah z.1 && decide (z.1.length ≤ 1000) && decide (1 ≤ z.2)) = true) : relCounted K [rRims K ws nx, rInts ah, rWS vs] (rBl true)

theorem sc_are_counted : FnScope ["rims", "ahead", "value", "pair", "walk", "number"] ["rims", "ahead", "value"] (defScope (top 71)) := ⟨rfl, rfl, rfl, by decide +kernel, rfl, by decide +kernel, by decide +kernel⟩
theorem c_are_counted (T : Fre mg) (R : KRims K) (C1 : DefC P w K mg base "is_listed" 1 (relListed K)) (C2 : DefC P w K mg base "is_within" 2 (relWithin K)) (C3 : DefC P w K mg base "is_walk" 3 (relWalk K)) (F : FnP K "are_counted" (top 71) f fd) (gm : mg "are_counted" = some (.ref f)) : DefC P w K mg base "are_counted" 4 (relCounted K) := by
  refine ⟨f, fd, ["rims", "ahead", "value"], def_g F sc_are_counted (fun A r h => by cases h <;> rfl) (by decide) (fun cdv A outer s H E hr As r h => ?_), gm, F.kp, F.bindsN fun _ _ _ _ _ _ us hl => match us, hl with | [_, _, _], _ => rfl⟩
  cases h with
  | mk ws nx ah vs hz h =>
    have lw : 0 < vs.length := by
      cases vs with
      | nil => exact absurd rfl hz.1
      | cons x l => exact Nat.succ_pos _
    refine sg_ifF (k := (false || (decide ((vs.length : Int) = 0) || false))) (bg_w (wg_or (bg_not (k := true) (bg_val (eg_call C1 (ag_cons (eg_name 2) ag_nil) listed_L (hr.mono (by decide))))) fun _ => wg_or (bg_eqi (eg_lenL1 T.len (eg_name 2)) eg_int) fun _ => wg_or1 (bg_not (k := true) (bg_val (eg_eq (congrArg rBl (all_ok (l := vs))) (eg_all rfl T.all (eg_n (ng_lc (fa := rWk) (fb := rBl) (l := vs) [("pair", 3)] (fun p => [.d (rRims K ws nx), .d (rInts ah), .d (rWS vs), .d (rWk p), .non, .non]) (fun _ => some true) (fun p => some true) rfl sc_are_counted.nd (ig_list (eg_name 2)) (comp_all (by omega)) (blkOk_by (N := ["rims", "ahead", "value", "pair", "walk", "number"]) (sc := defScope (top 71)) (by decide +kernel))
        (fun x s H C cl fp => kg_name 3 sc_are_counted.nd) (fun x k s H C cl fp e => by cases e; exact ts_nil) (fun p y s H C cl fp _ e => by
          cases e
          exact eg_eq (r1 := rBl (true && decide (([rInts p.1, rInt p.2].length : Int) = 2))) rfl (eg_and (k1 := true) (k2 := decide (([rInts p.1, rInt p.2].length : Int) = 2)) (eg_call C1 (ag_cons (eg_name 3) ag_nil) listed_T (hr.mono (by decide))) fun _ => eg_one (eg_eqi (eg_lenT (rs := [rInts p.1, rInt p.2]) T.len (eg_name 3)) eg_int))))))))))) (by rw [decide_eq_false (by omega)]; rfl) ?_
    refine sg_ret (eg_eq (congrArg rBl (all_ok (l := vs))) (eg_all rfl T.all (eg_n (ng_lc (fa := rWk) (fb := rBl) (l := vs) [("walk", 4), ("number", 5)] (fun z => [.d (rRims K ws nx), .d (rInts ah), .d (rWS vs), .non, .d (rInts z.1), .d (rInt z.2)]) (fun _ => some true) (fun z => if walkOk (lettersOf ws) ah z.1 = true ∧ z.1.length ≤ 1000 ∧ 1 ≤ z.2 then some true else none) rfl sc_are_counted.nd (ig_list (eg_name 2)) (comp_const (by omega) fun x hx => ⟨rfl, ?_⟩) (blkOk_by (N := ["rims", "ahead", "value", "pair", "walk", "number"]) (sc := defScope (top 71)) (by decide +kernel))
        (fun x s H C cl fp => kg_pair 4 5 rfl sc_are_counted.nd) (fun x k s H C cl fp e => by cases e; exact ts_nil) (fun z y s H C cl fp _ e => ?_))))) rfl
    · have q := List.all_eq_true.mp h x hx
      rw [Bool.and_eq_true, Bool.and_eq_true, decide_eq_true_eq, decide_eq_true_eq] at q
      rw [if_pos ⟨q.1.1, q.1.2, q.2⟩]
    · by_cases hq : walkOk (lettersOf ws) ah z.1 = true ∧ z.1.length ≤ 1000 ∧ 1 ≤ z.2
      · rw [if_pos hq] at e; cases e
        refine eg_eq (r1 := rBl (true && withinB z.2 (some 1) none)) ?_ (eg_and (eg_call C3 (ag_cons (eg_name 0) (ag_cons (eg_name 1) (ag_cons (eg_name 4) ag_nil))) (.mk ws nx ah z.1 hq.2.1 hq.1) hr) fun _ => eg_one (eg_call C2 (ag_cons (eg_name 5) (ag_cons eg_int (ag_cons eg_non ag_nil))) (.inl ⟨z.2, some 1, none, rfl, rfl⟩) (hr.mono (by decide))))
        have q : withinB z.2 (some 1) none = true := by
          show ((false || decide (1 ≤ z.2)) && (true || _)) = true
          rw [decide_eq_true hq.2.2]; rfl
        rw [q]; rfl
      · rw [if_neg hq] at e; cases e

def byStep (ah : List Int) (n : Int) (m : BY) (z : Int × Int) : Option BY := match atI ah z.2 with
  | some q => if m.length ≤ 1000 then some (putG m (z.1, q) ((valG m (z.1, q)).getD 0 + n)) else none
  | none => none
def byWalk (ah : List Int) (m : BY) (z : List Int × Int) : Option BY := match stepsM z.1 with
  | some st => foldM (byStep ah z.2) m st
  | none => none
def byM (ah : List Int) (ws : WS) : Option BY := foldM (byWalk ah) [] ws
inductive relBy : Rel
  | mk (ah : List Int) (ws : WS) (m : BY) (h : byM ah ws = some m) : relBy [rInts ah, rWS ws] (rBY m)

theorem sc_steps_by : FnScope ["ahead", "walks", "found", "walk", "number", "place", "after", "by"] ["ahead", "walks"] (defScope (top 72)) := ⟨rfl, rfl, rfl, by decide +kernel, rfl, by decide +kernel, by decide +kernel⟩
theorem c_steps_by (T : Fre mg) (C1 : DefC P w K mg base "steps_in" 1 relSteps) (F : FnP K "steps_by" (top 72) f fd) (gm : mg "steps_by" = some (.ref f)) : DefC P w K mg base "steps_by" 2 relBy := by
  refine ⟨f, fd, ["ahead", "walks"], def_g F sc_steps_by (fun A r h => by cases h <;> rfl) (by decide) (fun cdv A outer s H E hr As r h => ?_), gm, F.kp, F.bindsN fun _ _ _ _ _ _ us hl => match us, hl with | [_, _], _ => rfl⟩
  cases h with
  | mk ah ws m h =>
    refine sg_setV 2 vg_t sc_steps_by.nd ?_
    refine sg_for (fa := rWk) (l := ws) (fun m : BY => [.d (rInts ah), .d (rWS ws), .t (tE (bT m)), .non, .non, .non, .non, .non]) (byWalk ah) (fun m z => [.d (rInts ah), .d (rWS ws), .t (tE (bT m)), .d (rInts z.1), .d (rInt z.2), .non, .non, .non]) [3, 4] (ig_list (eg_name 1)) h (Le.refl _) rfl
      (fun s x => kg_pair 3 4 rfl sc_steps_by.nd) (fun m z m' _ e => ?_) ?_
    · unfold byWalk at e
      cases hs : stepsM z.1 with
      | none => rw [hs] at e; cases e
      | some st =>
        rw [hs] at e; dsimp only at e
        refine sg_for (fa := rPr) (l := st) (fun m : BY => [.d (rInts ah), .d (rWS ws), .t (tE (bT m)), .d (rInts z.1), .d (rInt z.2), .non, .non, .non]) (byStep ah z.2) (fun m y => [.d (rInts ah), .d (rWS ws), .t (tE (bT m)), .d (rInts z.1), .d (rInt z.2), .d (rInt y.1), .d (rInt y.2), .non]) [5, 6] (ig_list (eg_call C1 (ag_cons (eg_name 3) ag_nil) (.mk z.1 st hs) hr)) e (Le.refl _) rfl
          (fun s x => kg_pair 5 6 rfl sc_steps_by.nd) (fun m y m' _ e => ?_) (sg_nil (LeS.same (.same (.same (.non (.non (.same (.same (.same .nil)))))))).go)
        unfold byStep at e
        cases hq : atI ah y.2 with
        | none => rw [hq] at e; cases e
        | some q =>
          rw [hq] at e; dsimp only at e
          by_cases hl : m.length ≤ 1000
          · rw [if_pos hl] at e; cases e
            refine sg_set 7 (eg_tup (ag_cons (eg_name 5) (ag_cons (eg_ixL (eg_name 0) (eg_name 6) hq) ag_nil))) sc_steps_by.nd ?_
            refine sg_tput (tm := bT m) (ns := bK (y.1, q)) (w := .int ((valG m (y.1, q)).getD 0 + z.2)) 2 hr.units rfl (by unfold bT; rw [List.length_map]; omega) (eg_add (eg_eq (bT_get m (y.1, q) 0) (eg_tget (ns := bK (y.1, q)) hr.units (dt_own 2) (eg_name 7) eg_int)) (eg_name 4)) (eg_name 7) (sg_nil ?_)
            rw [bT_put]
            exact (LeS.same (.same (.same (.same (.same (.non (.non (.non .nil)))))))).go
          · rw [if_neg hl] at e; cases e
    · exact sg_lockT (tm := bT m) 2 rfl (sg_ret (eg_name 2) rfl)

end
end Rf

namespace Rf
open PySem PySem.Spec PyProof.Rows L2
section
variable {P : Program} {w : World} {K : PySem.W.Frag} {mg : Str → Option Value} {base : Heap} {f : Addr} {fd : FuncData}

def fromStep (m : BY) (f : List Int) (z : (Int × Int) × Int) : Option (List Int) := match atI f z.1.1, ixN f.length z.1.1, valG m z.1 with
  | some a, some j, some n => some (f.set j (a + n))
  | _, _, _ => none
def fromM (n : Nat) (m : BY) : Option (List Int) := foldM (fromStep m) (List.replicate n [(0 : Int)]).flatten m
inductive relFrom (K : PySem.W.Frag) : Rel
  | mk (ws : List (List Int)) (nx : List Int) (m : BY) (fr : List Int) (hz : (lettersOf ws).length ≤ 1000) (h : fromM (lettersOf ws).length m = some fr) : relFrom K [rRims K ws nx, rBY m] (rInts fr)
theorem bT_key {m : BY} {k : Int × Int} {n : Int} (h : valG m k = some n) : valG (bT m) (bK k) = some (.int n) := by rw [bT_val, h]; rfl

theorem sc_steps_from : FnScope ["rims", "by", "found", "place", "mate"] ["rims", "by"] (defScope (top 73)) := ⟨rfl, rfl, rfl, by decide +kernel, rfl, by decide +kernel, by decide +kernel⟩
theorem c_steps_from (R : KRims K) (F : FnP K "steps_from" (top 73) f fd) (gm : mg "steps_from" = some (.ref f)) : DefC P w K mg base "steps_from" 1 (relFrom K) := by
  refine ⟨f, fd, ["rims", "by"], def_g F sc_steps_from (fun A r h => by cases h <;> rfl) (by decide) (fun cdv A outer s H E hr As r h => ?_), gm, F.kp, F.bindsN fun _ _ _ _ _ _ us hl => match us, hl with | [_, _], _ => rfl⟩
  cases h with
  | mk ws nx m fr hz h =>
    refine sg_setV 2 (vg_l (ng_rep1 (l := [(0 : Int)]) (fa := rInt) (j := ((lettersOf ws).length : Int)) (by simp; omega) (by omega) (eg_n (ng_lst (ag_cons eg_int ag_nil))) (eg_fld R.c.cl (R.n _ (by decide)) (eg_name 0)))) sc_steps_from.nd ?_
    refine sg_for (fa := fun z : (Int × Int) × Int => rT [rInt z.1.1, rInt z.1.2]) (l := m) (fun f : List Int => [.d (rRims K ws nx), .d (rBY m), .l (f.map rInt), .non, .non]) (fromStep m) (fun f z => [.d (rRims K ws nx), .d (rBY m), .l (f.map rInt), .d (rInt z.1.1), .d (rInt z.1.2)]) [3, 4] (ig_by (eg_name 1)) h (Le.refl _) rfl
      (fun s x => kg_pair 3 4 rfl sc_steps_from.nd) (fun f z f' _ e => ?_) ?_
    · unfold fromStep at e
      cases a1 : atI f z.1.1 with
      | none => rw [a1] at e; cases e
      | some a =>
        rw [a1] at e
        cases j1 : ixN f.length z.1.1 with
        | none => rw [j1] at e; cases e
        | some j =>
          rw [j1] at e
          cases n1 : valG m z.1 with
          | none => rw [n1] at e; cases e
          | some n =>
            rw [n1] at e; cases e
            refine sg_store 2 (m := j) rfl (eg_add (i := a) (j := n) (eg_ixO 2 rfl (eg_name 3) a1) (eg_tix (w := .int n) (ns := bK z.1) hr.units (dt_dat (eg_name 1)) (eg_tup (ag_cons (eg_name 3) (ag_cons (eg_name 4) ag_nil))) (bT_key n1))) (eg_name 3) (by rw [List.length_map]; exact j1) ?_ (pg_sub (pv 2) (eg_name 3) set_list) rfl rfl
            refine sg_nil ?_
            rw [← List.map_set]
            exact (LeS.same (.same (.same (.non (.non .nil))))).go
    · refine sg_le (Le.freeze 2 rfl rfl) ?_
      exact sg_ret (eg_name 2) rfl

def evenH (m : BY) (z : (Int × Int) × Int) : Option Bool := match valG m z.1 with
  | some n => some (decide ((valG m (z.1.2, z.1.1)).getD 0 = n))
  | none => none
def evenOk (n : Nat) (m : BY) : Bool := (match fromM n m with
  | some fr => decide (fr = (List.replicate n (cutL fr none (some 1))).flatten)
  | none => false) && m.all (fun z => decide (evenH m z = some true))
inductive relEven (K : PySem.W.Frag) : Rel
  | mk (ws : List (List Int)) (nx : List Int) (m : BY) (hz : (lettersOf ws).length ≤ 1000) (hz2 : m.length ≤ 1000) (h : evenOk (lettersOf ws).length m = true) : relEven K [rRims K ws nx, rBY m] (rBl true)

theorem sc_are_even : FnScope ["rims", "by", "told", "place", "mate"] ["rims", "by"] (defScope (top 74)) := ⟨rfl, rfl, rfl, by decide +kernel, rfl, by decide +kernel, by decide +kernel⟩
theorem c_are_even (T : Fre mg) (R : KRims K) (C1 : DefC P w K mg base "steps_from" 1 (relFrom K)) (F : FnP K "are_even" (top 74) f fd) (gm : mg "are_even" = some (.ref f)) : DefC P w K mg base "are_even" 2 (relEven K) := by
  refine ⟨f, fd, ["rims", "by"], def_g F sc_are_even (fun A r h => by cases h <;> rfl) (by decide) (fun cdv A outer s H E hr As r h => ?_), gm, F.kp, F.bindsN fun _ _ _ _ _ _ us hl => match us, hl with | [_, _], _ => rfl⟩
  cases h with
  | mk ws nx m hz hz2 h =>
    unfold evenOk at h
    rw [Bool.and_eq_true] at h
    obtain ⟨h1, h2⟩ := h
    cases hf : fromM (lettersOf ws).length m with
    | none => rw [hf] at h1; cases h1
    | some fr =>
      rw [hf] at h1; dsimp only at h1
      have hf1 := of_decide_eq_true h1
      refine sg_set 2 (eg_call C1 (ag_cons (eg_name 0) (ag_cons (eg_name 1) ag_nil)) (.mk ws nx m fr hz hf) hr) sc_are_even.nd ?_
      have cl : (cutL fr none (some 1)).length ≤ 1 := by
        unfold cutL
        rw [List.length_take]
        have q : HT.sIx fr.length fr.length (some 1) ≤ 1 := by unfold HT.sIx; simp; omega
        omega
      refine sg_ret (eg_eq (r1 := rBl (decide (fr = (List.replicate (((lettersOf ws).length : Int)).toNat (cutL fr none (some 1))).flatten) && (m.map fun _ => true).all id)) (by rw [Int.toNat_natCast, ← hf1, all_ok]; simp) (eg_and (eg_eqd (dat_L dat_int) (dat_L dat_int) hr.units (eg_name 2) (eg_n (ng_rep1 (fa := rInt) ?_ (by omega) (eg_n (ng_slL1 (fa := rInt) (eg_name 2) og_none (og_some eg_int))) (eg_fld R.c.cl (R.n _ (by decide)) (eg_name 0))))) fun _ => eg_one (eg_all rfl T.all (eg_n (ng_lc (fa := fun z : (Int × Int) × Int => rT [rInt z.1.1, rInt z.1.2]) (fb := rBl) (l := m) [("place", 3), ("mate", 4)] (fun z => [.d (rRims K ws nx), .d (rBY m), .d (rInts fr), .d (rInt z.1.1), .d (rInt z.1.2)]) (fun _ => some true) (evenH m) rfl sc_are_even.nd (ig_by (eg_name 1)) (comp_const (by omega) fun x hx => ⟨rfl, of_decide_eq_true (List.all_eq_true.mp h2 x hx)⟩) (blkOk_by (N := ["rims", "by", "told", "place", "mate"]) (sc := defScope (top 74)) (by decide +kernel))
        (fun x s H C cl fp => kg_pair 3 4 rfl sc_are_even.nd) (fun x k s H C cl fp e => by cases e; exact ts_nil) (fun z y s H C cl fp _ e => ?_)))))) rfl
      · rw [Int.toNat_natCast]
        exact Nat.le_trans (Nat.mul_le_mul cl hz) (by decide)
      · unfold evenH at e
        cases n1 : valG m z.1 with
        | none => rw [n1] at e; cases e
        | some n =>
          rw [n1] at e; cases e
          exact eg_eqi (eg_eq (bT_get m (z.1.2, z.1.1) 0) (eg_tget (ns := bK (z.1.2, z.1.1)) hr.units (dt_dat (eg_name 1)) (eg_tup (ag_cons (eg_name 4) (ag_cons (eg_name 3) ag_nil))) eg_int)) (eg_tix (w := .int n) (ns := bK z.1) hr.units (dt_dat (eg_name 1)) (eg_tup (ag_cons (eg_name 3) (ag_cons (eg_name 4) ag_nil))) (bT_key n1))

def gatStep (m : WS) (z : List Int × Int) : Option WS := match (rangeI z.1.length).map (rotM z.1) with
  | t :: ts => if z.1.length ≤ 1000 ∧ m.length ≤ 1000 then some (putG m (minL t ts) ((valG m (minL t ts)).getD 0 + z.2)) else none
  | [] => none
def gatH (m : WS) (f : List Int) : Option (List Int × Int) := match valG m f with
  | some n => some (f, n)
  | none => none
def gatM (ws : WS) : Option WS := match foldM gatStep [] ws with
  | some m => if (m.map (·.1)).all (fun t => !t.isEmpty) = true ∧ m.length ≤ 1000 then comp (fun _ => some true) (gatH m) (isortL (m.map (·.1))) else none
  | none => none
abbrev rForm (z : List Int × Int) : Rp := rT [rTI z.1, rInt z.2]
inductive relGat : Rel
  | mk (ws gs : WS) (h : gatM ws = some gs) : relGat [rWS ws] (rT (gs.map rForm))

theorem sc_gathered : FnScope ["walks", "found", "walk", "number", "form"] ["walks"] (defScope (top 75)) := ⟨rfl, rfl, rfl, by decide +kernel, rfl, by decide +kernel, by decide +kernel⟩
theorem c_gathered (T : Fre mg) (C1 : DefC P w K mg base "least_form" 1 relLeast) (F : FnP K "gathered" (top 75) f fd) (gm : mg "gathered" = some (.ref f)) : DefC P w K mg base "gathered" 2 relGat := by
  refine ⟨f, fd, ["walks"], def_g F sc_gathered (fun A r h => by cases h <;> rfl) (by decide) (fun cdv A outer s H E hr As r h => ?_), gm, F.kp, F.bindsN fun _ _ _ _ _ _ us hl => match us, hl with | [_], _ => rfl⟩
  cases h with
  | mk ws gs h =>
    unfold gatM at h
    cases hm : foldM gatStep [] ws with
    | none => rw [hm] at h; cases h
    | some m =>
      rw [hm] at h; dsimp only at h
      by_cases hq : (m.map (·.1)).all (fun t => !t.isEmpty) = true ∧ m.length ≤ 1000
      · rw [if_pos hq] at h
        refine sg_setV 1 vg_t sc_gathered.nd ?_
        refine sg_for (fa := rWk) (l := ws) (fun m : WS => [.d (rWS ws), .t (tE (iT m)), .non, .non, .non]) gatStep (fun m z => [.d (rWS ws), .t (tE (iT m)), .d (rInts z.1), .d (rInt z.2), .non]) [2, 3] (ig_list (eg_name 0)) hm (Le.refl _) rfl
          (fun s x => kg_pair 2 3 rfl sc_gathered.nd) (fun m z m' _ e => ?_) ?_
        · unfold gatStep at e
          cases hr0 : (rangeI z.1.length).map (rotM z.1) with
          | nil => rw [hr0] at e; cases e
          | cons t ts =>
            rw [hr0] at e; dsimp only at e
            by_cases hl : z.1.length ≤ 1000 ∧ m.length ≤ 1000
            · rw [if_pos hl] at e; cases e
              refine sg_set 4 (eg_call C1 (ag_cons (eg_name 2) ag_nil) (.mk z.1 t ts hl.1 hr0) hr) sc_gathered.nd ?_
              refine sg_tput (tm := iT m) (ns := minL t ts) (w := .int ((valG m (minL t ts)).getD 0 + z.2)) 1 hr.units rfl (by unfold iT; rw [List.length_map]; omega) (eg_add (eg_eq (iT_get m (minL t ts) 0) (eg_tget (ns := minL t ts) hr.units (dt_own 1) (eg_name 4) eg_int)) (eg_name 3)) (eg_name 4) (sg_nil ?_)
              rw [iT_put]
              exact (LeS.same (.same (.non (.non (.non .nil))))).go
            · rw [if_neg hl] at e; cases e
        · refine sg_lockT (tm := iT m) 1 rfl ?_
          have ek : (iT m).map (·.1) = m.map (·.1) := by unfold iT; rw [List.map_map]; rfl
          refine sg_ret (eg_tupleL T.tuple (eg_n (ng_lc (fa := rTI) (fb := rForm) (l := isortL (m.map (·.1))) [("form", 4)] (fun f => [.d (rWS ws), .d (rDT (tE (iT m))), .non, .non, .d (rTI f)]) (fun _ => some true) (gatH m) rfl sc_gathered.nd (ig_list (eg_n ?_)) h (blkOk_by (N := ["walks", "found", "walk", "number", "form"]) (sc := defScope (top 75)) (by decide +kernel))
            (fun x s H C cl fp => kg_name 4 sc_gathered.nd) (fun x k s H C cl fp e => by cases e; exact ts_nil) (fun f y s H C cl fp _ e => ?_)))) rfl
          · rw [← ek]
            exact ng_sortedD (by rw [ek]; exact hq.1) (by unfold iT; rw [List.length_map]; exact hq.2) rfl hr.units T.sorted (eg_name 1)
          · unfold gatH at e
            cases n1 : valG m f with
            | none => rw [n1] at e; cases e
            | some n =>
              rw [n1] at e; cases e
              exact eg_tup (ag_cons (eg_name 4) (ag_cons (eg_tix (w := .int n) (ns := f) hr.units (dt_dat (eg_name 1)) (eg_name 4) (by unfold iT; rw [val_int, n1]; rfl)) ag_nil))
      · rw [if_neg hq] at h; cases h

end
end Rf

namespace Rf
open PySem PySem.Spec PyProof.Rows L2
abbrev fBag : List Str := ["rims", "walks", "many", "copies", "bands", "cost", "price"]
abbrev KBag (K : PySem.W.Frag) : Prop := KlsA K (He.ga K "Bag") fBag
structure BagD where
  ws : List (List Int)
  nx : List Int
  gs : WS
  many : Int
  copies : Int
  cost : Int
abbrev bagF (K : PySem.W.Frag) (B : BagD) : List (Str × Rp) := [("rims", rRims K B.ws B.nx), ("walks", rT (B.gs.map rForm)), ("many", rInt B.many), ("copies", rInt B.copies), ("bands", rAny), ("cost", rInt B.cost), ("price", rAny)]
abbrev rBag (K : PySem.W.Frag) (B : BagD) : Rp := Rf.rI (He.ga K "Bag") (bagF K B)
def bandH (m : BY) (z : (Int × Int) × Int) : Option (List Int) := match valG m z.1 with
  | some n => some [z.1.1, z.1.2, n]
  | none => none

section
variable {P : Program} {w : World} {K : PySem.W.Frag} {mg : Str → Option Value} {base : Heap} {f : Addr} {fd : FuncData}

inductive relBagI (K : PySem.W.Frag) : RelI
  | mk (ws : List (List Int)) (nx : List Int) (vs : WS) (ah : List Int) (m : BY) (gs : WS) (fr : List Int) (c : Int) (bs : List (List Int)) (s : Int × Int) (g : Nat) (hz : (lettersOf ws).length ≤ 1000) (hz2 : m.length ≤ 1000) (hz3 : vs ≠ [] ∧ vs.length ≤ 1000) (h1 : aheadM nx (lettersOf ws).length = some ah) (h2 : vs.all (fun z => walkOk (lettersOf ws) ah z.1 && decide (z.1.length ≤ 1000) && decide (1 ≤ z.2)) = true)
    (h3 : byM ah vs = some m) (h4 : evenOk (lettersOf ws).length m = true) (h5 : gatM vs = some gs) (h6 : fromM (lettersOf ws).length m = some fr) (h7 : atI fr 0 = some c) (h8 : comp (fun z : (Int × Int) × Int => some (decide (z.1.1 < z.1.2))) (bandH m) m = some bs) (h9 : bs.all (fun t => !t.isEmpty) = true) (hc : 0 < c ∧ c < 1000000)
    (h10 : gcdM g (c * ((lettersOf ws).length / 2) - (vs.map (·.2)).sum) (2 * c) = some s) (h11 : 0 < s.1 ∧ s.1 < 1073741824) : relBagI K [rRims K ws nx, rWS vs] (bagF K ⟨ws, nx, gs, (vs.map (·.2)).sum, c, c * ((lettersOf ws).length / 2) - (vs.map (·.2)).sum⟩)

theorem sc_Bag_init : FnScope ["self", "rims", "walks", "ahead", "by", "_", "number", "place", "mate"] ["self", "rims", "walks"] (defScope (inClass (top 76) 0)) := ⟨rfl, rfl, rfl, by decide +kernel, rfl, by decide +kernel, by decide +kernel⟩
theorem c_Bag_init (T : Fre mg) (R : KRims K) (B : KBag K) (C1 : DefC P w K mg base "need_rims" 1 (relNeedR K)) (C2 : DefC P w K mg base "ahead_of" 5 (relAhead K)) (C3 : DefC P w K mg base "are_counted" 4 (relCounted K)) (C4 : DefC P w K mg base "steps_by" 2 relBy) (C5 : DefC P w K mg base "are_even" 2 (relEven K)) (C6 : DefC P w K mg base "gathered" 2 relGat) (C7 : DefC P w K mg base "steps_from" 1 (relFrom K)) (C8 : DefC P w K mg base "lowest" 4 relLow) (F : FnM K "__init__" "Bag.__init__" (inClass (top 76) 0) f fd) (gm : mg "Bag" = some (.ref (He.ga K "Bag"))) (mk : Mk K (He.ga K "Bag") f) : MakeC P w K mg base "Bag" (He.ga K "Bag") 6 (relBagI K) := by
  refine ⟨f, fd, ["self", "rims", "walks"], init_g F sc_Bag_init (fun A r h => by cases h <;> rfl) (by decide) (fun cdv A outer s H E hr As fs ax adx h => ?_), gm, mk, F.bindsN fun _ _ _ _ _ _ us hl => match us, hl with | [_, _, _], _ => rfl⟩
  cases h with
  | mk ws nx vs ah m gs fr c bs s g hz hz2 hz3 h1 h2 h3 h4 h5 h6 h7 h8 h9 hc h10 h11 =>
    refine sg_expr (eg_call C1 (ag_cons (eg_name 1) ag_nil) (.mk _) (hr.mono (by decide))) ?_
    refine sg_set 3 (eg_call C2 (ag_cons (eg_name 1) ag_nil) (.mk ws nx ah hz h1) hr) sc_Bag_init.nd ?_
    refine sg_ifF (k := false) (bg_not (k := true) (bg_val (eg_call C3 (ag_cons (eg_name 1) (ag_cons (eg_name 3) (ag_cons (eg_name 2) ag_nil))) (.mk ws nx ah vs hz3 h2) (hr.mono (by decide))))) rfl ?_
    refine sg_set 4 (eg_call C4 (ag_cons (eg_name 3) (ag_cons (eg_name 2) ag_nil)) (.mk ah vs m h3) (hr.mono (by decide))) sc_Bag_init.nd ?_
    refine sg_ifF (k := false) (bg_not (k := true) (bg_val (eg_call C5 (ag_cons (eg_name 1) (ag_cons (eg_name 4) ag_nil)) (.mk ws nx m hz hz2 h4) (hr.mono (by decide))))) rfl ?_
    refine sg_fld 0 B.c.cl (B.n _ (by decide)) rfl (eg_name 1) ?_
    refine sg_fld 0 B.c.cl (B.n _ (by decide)) rfl (eg_call C6 (ag_cons (eg_name 2) ag_nil) (.mk vs gs h5) (hr.mono (by decide))) ?_
    refine sg_fld 0 B.c.cl (B.n _ (by decide)) rfl (eg_sum rfl T.sum (eg_n (ng_lc (fa := rWk) (fb := rInt) (l := vs) [("_", 5), ("number", 6)] (fun z => [.i ax adx (He.ga K "Bag") [("rims", rRims K ws nx), ("walks", rT (gs.map rForm))], .d (rRims K ws nx), .d (rWS vs), .d (rInts ah), .d (rBY m), .d (rInts z.1), .d (rInt z.2), .non, .non]) (fun _ => some true) (fun z => some z.2) rfl sc_Bag_init.nd (ig_list (eg_name 2)) (comp_all (by omega)) (blkOk_by (N := ["self", "rims", "walks", "ahead", "by", "_", "number", "place", "mate"]) (sc := defScope (inClass (top 76) 0)) (by decide +kernel))
      (fun x s H C cl fp => kg_pair 5 6 rfl sc_Bag_init.nd) (fun x k s H C cl fp e => by cases e; exact ts_nil) (fun z y s H C cl fp _ e => by cases e; exact eg_name 6)))) ?_
    refine sg_fld 0 B.c.cl (B.n _ (by decide)) rfl (eg_ixL (eg_call C7 (ag_cons (eg_name 1) (ag_cons (eg_name 4) ag_nil)) (.mk ws nx m fr hz h6) (hr.mono (by decide))) eg_int h7) ?_
    refine sg_fld 0 B.c.cl (B.n _ (by decide)) rfl (eg_any (eg_tupleL T.tuple (eg_n (ng_sortedL h9 hr.units T.sorted (eg_n (ng_lc (fa := fun z : (Int × Int) × Int => rT [rInt z.1.1, rInt z.1.2]) (fb := rTI) (l := m) [("place", 7), ("mate", 8)] (fun z => [.i ax adx (He.ga K "Bag") [("rims", rRims K ws nx), ("walks", rT (gs.map rForm)), ("many", rInt (vs.map (·.2)).sum), ("copies", rInt c)], .d (rRims K ws nx), .d (rWS vs), .d (rInts ah), .d (rBY m), .non, .non, .d (rInt z.1.1), .d (rInt z.1.2)]) (fun z => some (decide (z.1.1 < z.1.2))) (bandH m) rfl sc_Bag_init.nd (ig_by (eg_name 4)) h8 (blkOk_by (N := ["self", "rims", "walks", "ahead", "by", "_", "number", "place", "mate"]) (sc := defScope (inClass (top 76) 0)) (by decide +kernel))
      (fun x s H C cl fp => kg_pair 7 8 rfl sc_Bag_init.nd) (fun x k s H C cl fp e => by cases e; exact ts_one (bg_lt (eg_name 7) (eg_name 8))) (fun z y s H C cl fp _ e => ?_))))))) ?_
    · unfold bandH at e
      cases n1 : valG m z.1 with
      | none => rw [n1] at e; cases e
      | some n =>
        rw [n1] at e; cases e
        exact eg_tup (ag_cons (eg_name 7) (ag_cons (eg_name 8) (ag_cons (eg_tix (w := .int n) (ns := bK z.1) hr.units (dt_dat (eg_name 4)) (eg_tup (ag_cons (eg_name 7) (ag_cons (eg_name 8) ag_nil))) (bT_key n1)) ag_nil)))
    refine sg_fld 0 B.c.cl (B.n _ (by decide)) rfl (eg_sub (eg_mul (i := c) (.inl ⟨by omega, by omega⟩) (eg_fldO 0 B.c.cl (B.n _ (by decide))) (eg_fld R.c.cl (R.n _ (by decide)) (eg_name 1))) (eg_fldO 0 B.c.cl (B.n _ (by decide)))) ?_
    refine sg_fld 0 B.c.cl (B.n _ (by decide)) rfl (eg_call C8 (ag_cons (eg_fldO 0 B.c.cl (B.n _ (by decide))) (ag_cons (eg_mul (i := 2) (j := c) (.inl ⟨by decide, by decide⟩) eg_int (eg_fldO 0 B.c.cl (B.n _ (by decide)))) ag_nil)) (.mk g _ _ s h10 (by omega) h11) (hr.mono (by decide))) ?_
    exact sg_nil rfl

end
end Rf

namespace Rf
open PySem PySem.Spec PyProof.Rows L2

/-! ### len(x), x an instance with its own __len__ -/
/-- the call of a method, one C call below the body -/
theorem run_in1 {X : Cx} {pins : List (Addr × Obj)} {σ : L2.St} {H : Hp} {s : Shared} {f : Addr} {fd : FuncData} {ps : List Str} {sp : Sp} {k : Nat} {vs : List V} {us : List Value} {Q : VK} {Q' : Value → Shared → Prop}
    (F : FnOk X.prog X.w X.K X.mg X.base CX0 k f fd ps sp) (hr : Room (k + 1) X.A) (hb : Binds X.K fd ps []) (I : Inv X pins σ H s) (r : Vals vs us) (h : sp vs H Q E0) (fin : ∀ v u H' s', Inv X pins σ H' s' → RelV v u → Q v H' → Q' u s') :
    wpAny (model X.prog X.w) X.A.in1 (call (.ref f) us) Q' X.xe s := by
  have hl : (us ++ []).length = ps.length := by rw [List.append_nil, ← r.length]; exact F.len _ _ _ _ h
  refine wpAny_call (codeAny_mono (F.run X.A.in1 X.stack s H ⟨us, []⟩ us vs Q E0 hr.in1 I.env0.in1 (by have q := hb s us I.kIn hl; rw [List.append_nil] at q; exact q) r h) fun r s' hq => ?_)
  cases r with
  | error e => exact (hq : False).elim
  | ok fl =>
    cases fl with
    | ret u =>
      obtain ⟨v, H', I', rv', q⟩ := I.after hq
      exact fin v u H' s' I' rv' q
    | next => exact False.elim hq
    | brk => exact False.elim hq
    | cont => exact False.elim hq
def rLenOwn (C : Addr) (sp : Sp) : List V → Hp → VK → Prop := fun xs H Q => ∃ a dx fs, xs = [.ref a] ∧ H a = some (.ins C dx fs) ∧ sp [.ref a] H (fun v H' => ∃ n : Int, v = .int n ∧ 0 ≤ n ∧ n < 2 ^ 63 ∧ Q (.int n) H') E0
theorem cr_lenOwn {X : Cx} {C f : Addr} {fd : FuncData} {ps : List Str} {sp : Sp} {k : Nat} (F : FnOk X.prog X.w X.K X.mg X.base CX0 k f fd ps sp) (hr : Room (k + 1) X.A) (hb : Binds X.K fd ps []) (M : Meth X.K C "__len__" f) : CallR X (.builtin "len") (rLenOwn C sp) := by
  intro pins s σ H vs us Q I r h
  obtain ⟨a, dx, fs, rfl, ha, hsp⟩ := h
  rw [Vals.ref1 r]
  obtain ⟨mA, J, _⟩ := ins_get I.hok ha
  obtain ⟨od, J, _⟩ := J.look
  obtain ⟨m, hF⟩ := I.fr
  refine PySem.W.len_K hF I.ok.mod.kin J M.at_ M.fn (run_in1 (vs := [V.ref a]) F hr hb I (.cons rfl .nil) hsp fun v u H' s' I' ru ⟨n, e, h0, h1, q⟩ => ?_)
  subst e
  obtain ⟨t, rfl⟩ := ru
  exact ⟨⟨h0, h1⟩, .int n, H', I'.tok _, ⟨_, rfl⟩, q⟩
section
variable {X : Cx} {g : List Sl} {a : Expr} {p1 pos : Pos} {C : Addr} {fs : List (Str × Rp)} {rel : Rel} {k : Nat} {n : Int}
theorem eg_lenOwn (F : MethC X.prog X.w X.K X.mg X.base C "__len__" k rel) (hr : Room (k + 1) X.A) (h : rel [Rf.rI C fs] (rInt n)) (hn : 0 ≤ n ∧ n < 1000000) (hm : X.mg "len" = none) (ha : EG X a g (Rf.rI C fs)) (hg : Gl X "len" := by rfl) (he : starEach [a] X.env = (false, eval a X.env) :: starEach [] X.env := by rfl) :
    EG X (.Call (.Name "len" p1) [a] [] pos) g (rInt n) := by
  obtain ⟨f, fd, ps, F, M, b⟩ := F.ex
  refine pe_to (pe_callB (cr_lenOwn F hr b M) hg hm boot_len (ag_cons ha ag_nil he) (by decide) (by decide) he (by rfl)) fun σ H Q ⟨F, D0, D, ok, k⟩ => ⟨F, D0, D, ok, fun vs H1 D1 e1 hvs => ?_⟩
  cases hvs with
  | cons h1 t =>
    cases t
    obtain ⟨q, dx, ws, rfl, h2, h3⟩ := h1
    exact ⟨q, dx, ws, rfl, e1.i _ _ h2, [Rf.rI C fs], rInt n, D1, h, e1.i, .cons ⟨q, dx, ws, rfl, h2, h3⟩ .nil, fun v H2 D2 e2 hv => ⟨n, hv, hn.1, by omega, (k.later (e1.trans e2)).here e2.i rfl⟩⟩
end
/-! ### == of instances by their own __eq__, told to be True -/
/-- what a pair of representations says of two addresses -/
def RRel (r1 r2 : Rp) (a b : Addr) (H : Hp) : Prop := ∃ D, Same D H ∧ r1.p D (.ref a) ∧ r2.p D (.ref b)
theorem spEq_of {rel : Rel} {r1 r2 : Rp} (h : rel [r1, r2] (rBl true)) : ∀ vs H Q E, spEq (RRel r1 r2) vs H Q E → SpR rel vs H Q E := fun vs H Q E ⟨a, b, e, ⟨D, s, h1, h2⟩, k⟩ => by
  subst e
  exact ⟨[r1, r2], rBl true, D, h, s, .cons h1 (.cons h2 .nil), fun v H' D' e hv => by rw [show v = .bl true from hv]; exact k H' e.h⟩
theorem mon_rrel {r1 r2 : Rp} : ∀ a b H H', Ext H H' → RRel r1 r2 a b H → RRel r1 r2 a b H' := fun a b H H' e ⟨D, s, h1, h2⟩ => ⟨D, s.trans e, h1, h2⟩
end Rf

namespace Rf
open PySem PySem.Spec PyProof.Rows L2
/-! ### tuples of instances of one class, the same on both sides -/
def RAny {ι : Type} (f : ι → Rp) (a b : Addr) (H : Hp) : Prop := ∃ i, RRel (f i) (f i) a b H
theorem mon_rany {ι : Type} {f : ι → Rp} : ∀ a b H H', Ext H H' → RAny f a b H → RAny f a b H' := fun a b H H' e ⟨i, h⟩ => ⟨i, mon_rrel a b H H' e h⟩
section
variable {X : Cx} {g : List Sl} {a b : Expr} {pos : Pos} {C : Addr} {ι : Type} {fs : ι → List (Str × Rp)} {l : List ι} {rel : Rel} {k : Nat}
theorem eq_meth (F : MethC X.prog X.w X.K X.mg X.base C "__eq__" k rel) (h : ∀ i, rel [Rf.rI C (fs i), Rf.rI C (fs i)] (rBl true)) : EqG X k (DIns C (RAny fun i => Rf.rI C (fs i))) := by
  obtain ⟨f, fd, ps, F, M, b⟩ := F.ex
  exact eqG_ins (F.imp fun vs H Q E ⟨x, y, e, ⟨i, r⟩, q⟩ => spEq_of (h i) vs H Q E ⟨x, y, e, r, q⟩) M.at_ M.fn b pass0
theorem rc_meth (F : MethC X.prog X.w X.K X.mg X.base C "__eq__" k rel) (h : ∀ i, rel [Rf.rI C (fs i), Rf.rI C (fs i)] (rBl true)) : RcG X k (DIns C (RAny fun i => Rf.rI C (fs i))) := by
  obtain ⟨f, fd, ps, F, M, b⟩ := F.ex
  exact rcG_ins (F.imp fun vs H Q E ⟨x, y, e, ⟨i, r⟩, q⟩ => spEq_of (h i) vs H Q E ⟨x, y, e, r, q⟩) M.at_ M.fn b pass0
theorem grow_ext {H D H' : Hp} (s : Same D H) (e : Ext H H') : Grow H D H' D := ⟨e, Same.refl _, s.trans e, fun _ h => .inl h⟩
theorem dins_of {i : ι} {H D D2 : Hp} {x y : V} (s : Same D H) (s2 : Same D D2) (s3 : Same D2 H) (hx : (Rf.rI C (fs i)).p D x) (hy : (Rf.rI C (fs i)).p D2 y) : DIns C (RAny fun i => Rf.rI C (fs i)) x y H := by
  have hx' := (Rf.rI C (fs i)).mono s2 hx
  obtain ⟨p, dx, ws, rfl, h1, h2⟩ := hx'
  obtain ⟨q, dy, vs, rfl, h3, h4⟩ := hy
  exact ⟨p, q, dx, dy, ws, vs, rfl, rfl, s3 _ _ h1, s3 _ _ h3, i, D2, s3, ⟨p, dx, ws, rfl, h1, h2⟩, ⟨q, dy, vs, rfl, h3, h4⟩⟩
/-- x == y, by the own __eq__ -/
theorem eg_eqOwn {i : ι} (F : MethC X.prog X.w X.K X.mg X.base C "__eq__" k rel) (h : ∀ i, rel [Rf.rI C (fs i), Rf.rI C (fs i)] (rBl true)) (hr : Room k X.A) (ha : EG X a g (Rf.rI C (fs i))) (hb : EG X b g (Rf.rI C (fs i))) : EG X (.Compare a [.Eq] [b] pos) g (rBl true) :=
  eg_cmp (op_eqG (rc_meth F h) hr) ha hb (nomark _) fun x y H D Q s hx hy k => ⟨dins_of s (Same.refl _) s hx hy, fun H' e => k (.bl true) H' _ (grow_ext s e) rfl⟩
theorem prs_of {H D D2 : Hp} (s : Same D H) (s2 : Same D D2) (s3 : Same D2 H) : ∀ {l : List ι} {xs ys : List V}, Reps D (l.map fun i => Rf.rI C (fs i)) xs → Reps D2 (l.map fun i => Rf.rI C (fs i)) ys → L2.Prs (DIns C (RAny fun i => Rf.rI C (fs i))) xs ys H
  | [], _, _, .nil, .nil => L2.Prs.nil
  | i :: l, _, _, .cons a t, .cons b u => L2.Prs.cons (dins_of s s2 s3 a b) (prs_of s s2 s3 t u)
theorem eg_eqOwnT (F : MethC X.prog X.w X.K X.mg X.base C "__eq__" k rel) (h : ∀ i, rel [Rf.rI C (fs i), Rf.rI C (fs i)] (rBl true)) (hr : Room (k + 1) X.A) (ha : EG X a g (rT (l.map fun i => Rf.rI C (fs i)))) (hb : EG X b g (rT (l.map fun i => Rf.rI C (fs i)))) : EG X (.Compare a [.Eq] [b] pos) g (rBl true) :=
  eg_cmp (op_eqG (rcG_tup (mon_ins mon_rany) (eq_meth F h)) hr) ha hb (nomark _) fun x y H D Q s hx hy k => by
    obtain ⟨p, xs, rfl, h1, h2⟩ := hx
    obtain ⟨q, ys, rfl, h3, h4⟩ := hy
    exact ⟨⟨p, q, xs, ys, rfl, rfl, SqT.of (s _ _ h1), SqT.of (s _ _ h3), prs_of s (Same.refl _) s h2 h4⟩, fun H' e => k (.bl true) H' _ (grow_ext s e) rfl⟩
end

section
variable {P : Program} {w : World} {K : PySem.W.Frag} {mg : Str → Option Value} {base : Heap} {f : Addr} {fd : FuncData}

inductive relWLen (K : PySem.W.Frag) : Rel
  | mk (ls : List Int) : relWLen K [rWord K ls] (rInt ls.length)

theorem sc_Word_len : FnScope ["self"] ["self"] (defScope (inClass (top 41) 10)) := ⟨rfl, rfl, rfl, by decide +kernel, rfl, by decide +kernel, by decide +kernel⟩
theorem c_Word_len (T : Fre mg) (W : KWord K) (F : FnM K "__len__" "Word.__len__" (inClass (top 41) 10) f fd) (gm : Meth K (He.ga K "Word") "__len__" f) : MethC P w K mg base (He.ga K "Word") "__len__" 1 (relWLen K) := by
  refine ⟨f, fd, ["self"], def_g F sc_Word_len (fun A r h => by cases h <;> rfl) (by decide) (fun cdv A outer s H E hr As r h => ?_), gm, F.bindsN fun _ _ _ _ _ _ us hl => match us, hl with | [_], _ => rfl⟩
  cases h with
  | mk ls => exact sg_ret (eg_lenT1 T.len (eg_fld W.c.cl (W.n _ (by decide)) (eg_name 0))) rfl

inductive relWEq (K : PySem.W.Frag) : Rel
  | mk (l1 l2 : List Int) : relWEq K [rWord K l1, rWord K l2] (rBl (decide (l1 = l2)))

theorem sc_Word_eq : FnScope ["self", "other"] ["self", "other"] (defScope (inClass (top 41) 11)) := ⟨rfl, rfl, rfl, by decide +kernel, rfl, by decide +kernel, by decide +kernel⟩
theorem c_Word_eq (T : Fre mg) (W : KWord K) (gW : mg "Word" = some (.ref (He.ga K "Word"))) (F : FnM K "__eq__" "Word.__eq__" (inClass (top 41) 11) f fd) (gm : Meth K (He.ga K "Word") "__eq__" f) : MethC P w K mg base (He.ga K "Word") "__eq__" 1 (relWEq K) := by
  refine ⟨f, fd, ["self", "other"], def_g F sc_Word_eq (fun A r h => by cases h <;> rfl) (by decide) (fun cdv A outer s H E hr As r h => ?_), gm, F.bindsN fun _ _ _ _ _ _ us hl => match us, hl with | [_, _], _ => rfl⟩
  cases h with
  | mk l1 l2 => exact sg_ret (eg_and (k1 := true) (eg_isi T.isinstance (eg_name 1) (eg_glob (v := .ref (He.ga K "Word")) gW rfl) (ty_I W.c) (.own _) W.kit) fun _ => eg_one (eg_eqd (dat_T dat_int) (dat_T dat_int) hr.units (eg_fld W.c.cl (W.n _ (by decide)) (eg_name 0)) (eg_fld W.c.cl (W.n _ (by decide)) (eg_name 1)))) rfl

inductive relREq (K : PySem.W.Frag) : Rel
  | mk (ws : List (List Int)) (nx : List Int) : relREq K [rRims K ws nx, rRims K ws nx] (rBl true)
theorem weq_refl {K : PySem.W.Frag} (l : List Int) : relWEq K [rWord K l, rWord K l] (rBl true) := by
  have h := relWEq.mk (K := K) l l
  rw [decide_eq_true rfl] at h
  exact h

theorem sc_Rims_eq : FnScope ["self", "other"] ["self", "other"] (defScope (inClass (top 52) 4)) := ⟨rfl, rfl, rfl, by decide +kernel, rfl, by decide +kernel, by decide +kernel⟩
theorem c_Rims_eq (T : Fre mg) (R : KRims K) (gR : mg "Rims" = some (.ref (He.ga K "Rims"))) (C1 : MethC P w K mg base (He.ga K "Word") "__eq__" 1 (relWEq K)) (F : FnM K "__eq__" "Rims.__eq__" (inClass (top 52) 4) f fd) (gm : Meth K (He.ga K "Rims") "__eq__" f) : MethC P w K mg base (He.ga K "Rims") "__eq__" 3 (relREq K) := by
  refine ⟨f, fd, ["self", "other"], def_g F sc_Rims_eq (fun A r h => by cases h <;> rfl) (by decide) (fun cdv A outer s H E hr As r h => ?_), gm, F.bindsN fun _ _ _ _ _ _ us hl => match us, hl with | [_, _], _ => rfl⟩
  cases h with
  | mk ws nx => exact sg_ret (eg_eq (r1 := rBl (true && true)) rfl (eg_and (k1 := true) (k2 := true) (eg_isi T.isinstance (eg_name 1) (eg_glob (v := .ref (He.ga K "Rims")) gR rfl) (ty_I R.c) (.own _) R.kit) fun _ => eg_one (eg_eqOwnT (fs := wordF) (l := ws) C1 weq_refl hr (eg_fld R.c.cl (R.n _ (by decide)) (eg_name 0)) (eg_fld R.c.cl (R.n _ (by decide)) (eg_name 1))))) rfl

/-- two bags of the same rims -/
inductive relBEq (K : PySem.W.Frag) : Rel
  | mk (B1 B2 : BagD) (h1 : B1.ws = B2.ws) (h2 : B1.nx = B2.nx) : relBEq K [rBag K B1, rBag K B2] (rBl (decide (B1.gs = B2.gs)))

theorem sc_Bag_eq : FnScope ["self", "other"] ["self", "other"] (defScope (inClass (top 76) 1)) := ⟨rfl, rfl, rfl, by decide +kernel, rfl, by decide +kernel, by decide +kernel⟩
theorem c_Bag_eq (T : Fre mg) (R : KRims K) (B : KBag K) (gB : mg "Bag" = some (.ref (He.ga K "Bag"))) (C1 : MethC P w K mg base (He.ga K "Rims") "__eq__" 3 (relREq K)) (F : FnM K "__eq__" "Bag.__eq__" (inClass (top 76) 1) f fd) (gm : Meth K (He.ga K "Bag") "__eq__" f) : MethC P w K mg base (He.ga K "Bag") "__eq__" 4 (relBEq K) := by
  refine ⟨f, fd, ["self", "other"], def_g F sc_Bag_eq (fun A r h => by cases h <;> rfl) (by decide) (fun cdv A outer s H E hr As r h => ?_), gm, F.bindsN fun _ _ _ _ _ _ us hl => match us, hl with | [_, _], _ => rfl⟩
  cases h with
  | mk B1 B2 h1 h2 =>
    obtain ⟨ws, nx, gs, ma, co, cs⟩ := B1
    obtain ⟨ws2, nx2, gs2, ma2, co2, cs2⟩ := B2
    simp only at h1 h2
    subst h1 h2
    exact sg_ret (eg_and (k1 := true) (eg_isi T.isinstance (eg_name 1) (eg_glob (v := .ref (He.ga K "Bag")) gB rfl) (ty_I B.c) (.own _) B.kit) fun _ => eg_and (k1 := true) (eg_eqOwn (fs := fun z : List (List Int) × List Int => rimsF K z.1 z.2) (i := (ws, nx)) C1 (fun i => .mk i.1 i.2) (hr.mono (by decide)) (eg_fld B.c.cl (B.n _ (by decide)) (eg_name 0)) (eg_fld B.c.cl (B.n _ (by decide)) (eg_name 1))) fun _ => eg_one (eg_eqd (dat_T (dat_P (dat_T dat_int) dat_int)) (dat_T (dat_P (dat_T dat_int) dat_int)) hr.units (eg_fld B.c.cl (B.n _ (by decide)) (eg_name 0)) (eg_fld B.c.cl (B.n _ (by decide)) (eg_name 1)))) rfl

end
end Rf

namespace Rf
open PySem PySem.Spec PyProof.Rows L2
/-! ### built.py: numbers given for words -/
inductive Wv where
  | i (n : Int)
  | b (x : Bool)
  | non
def Wv.rp : Wv → Rp
  | .i n => rInt n
  | .b x => rBl x
  | .non => rNon
def Wv.ok (m : Int) : Wv → Bool
  | .i n => withinB n (some 0) (some m)
  | .b _ => false
  | .non => false
theorem wv_within {K : PySem.W.Frag} (m : Int) : ∀ v : Wv, relWithin K [v.rp, rInt 0, rInt m] (rBl (v.ok m))
  | .i n => .inl ⟨n, some 0, some m, rfl, rfl⟩
  | .b x => .inr ⟨_, _, _, rfl, inty_bl, rfl⟩
  | .non => .inr ⟨_, _, _, rfl, inty_non, rfl⟩
theorem listed_Q {K : PySem.W.Frag} {tp : Bool} {rs : List Rp} : relListed K [rQ tp rs] (rBl true) := by
  cases tp
  · exact listed_L
  · exact listed_T
def firstsS (s : List Int × Int) (w : List Int) : Option (List Int × Int) := if s.1.length ≤ 100 ∧ w.length < 1000 then some (s.1 ++ [s.2], s.2 + w.length) else none

section
variable {P : Program} {w : World} {K : PySem.W.Frag} {mg : Str → Option Value} {base : Heap} {f : Addr} {fd : FuncData}

inductive relFirsts (K : PySem.W.Frag) : Rel
  | mk (ws : List (List Int)) (nx : List Int) (s : List Int × Int) (h : foldM firstsS ([], 0) ws = some s) : relFirsts K [rRims K ws nx] (rInts s.1)

theorem sc_first_places : FnScope ["rims", "found", "at", "word"] ["rims"] (defScope (top 84)) := ⟨rfl, rfl, rfl, by decide +kernel, rfl, by decide +kernel, by decide +kernel⟩
theorem c_first_places (T : Fre mg) (R : KRims K) (C1 : MethC P w K mg base (He.ga K "Word") "__len__" 1 (relWLen K)) (F : FnP K "first_places" (top 84) f fd) (gm : mg "first_places" = some (.ref f)) : DefC P w K mg base "first_places" 3 (relFirsts K) := by
  refine ⟨f, fd, ["rims"], def_g F sc_first_places (fun A r h => by cases h <;> rfl) (by decide) (fun cdv A outer s H E hr As r h => ?_), gm, F.kp, F.bindsN fun _ _ _ _ _ _ us hl => match us, hl with | [_], _ => rfl⟩
  cases h with
  | mk ws nx s h =>
    refine sg_par 1 2 (s := .l []) (s2 := .d (rInt 0)) (vg_l (ng_lst ag_nil)) (vg_d eg_int) rfl sc_first_places.nd ?_
    refine sg_for (fa := rWord K) (l := ws) (fun s : List Int × Int => [.d (rRims K ws nx), .l (s.1.map rInt), .d (rInt s.2), .non]) firstsS (fun s x => [.d (rRims K ws nx), .l (s.1.map rInt), .d (rInt s.2), .d (rWord K x)]) [3] (ig_tup (eg_fld R.c.cl (R.n _ (by decide)) (eg_name 0))) h (Le.refl _) rfl
      (fun s x => kg_name 3 sc_first_places.nd) (fun s x s' _ e => ?_) ?_
    · unfold firstsS at e
      by_cases hs : s.1.length ≤ 100 ∧ x.length < 1000
      · rw [if_pos hs] at e
        cases e
        refine sg_append 1 rfl (eg_name 2) (by rw [List.length_map]; omega) ?_
        refine sg_set 2 (eg_add (eg_name 2) (eg_lenOwn C1 (hr.mono (by decide)) (.mk x) ⟨by omega, by omega⟩ T.len (eg_name 3))) sc_first_places.nd (sg_nil ?_)
        rw [List.map_append]
        exact (LeS.same (.same (.same (.non .nil)))).go
      · rw [if_neg hs] at e; cases e
    · exact sg_le (Le.freeze 1 rfl rfl) (sg_ret (eg_name 1) rfl)

inductive relWords (K : PySem.W.Frag) : Rel
  | no (S : SewD) (ws : List (List Int)) (nx : List Int) (rx : Rp) (h : relListed K [rx] (rBl false)) : relWords K [rSew K S, rRims K ws nx, rx] (rBl false)
  | mk (S : SewD) (ws : List (List Int)) (nx : List Int) (tp : Bool) (l : List Wv) (hz : l.length ≤ 1000) : relWords K [rSew K S, rRims K ws nx, rQ tp (l.map Wv.rp)] (rBl (decide (l.length = S.ws.length) && l.all (Wv.ok (ws.length - 1))))

theorem sc_are_words : FnScope ["sewing", "rims", "value", "number"] ["sewing", "rims", "value"] (defScope (top 85)) := ⟨rfl, rfl, rfl, by decide +kernel, rfl, by decide +kernel, by decide +kernel⟩
theorem c_are_words (T : Fre mg) (R : KRims K) (W : KSew K) (C1 : DefC P w K mg base "is_listed" 1 (relListed K)) (C2 : DefC P w K mg base "is_within" 2 (relWithin K)) (F : FnP K "are_words" (top 85) f fd) (gm : mg "are_words" = some (.ref f)) : DefC P w K mg base "are_words" 3 (relWords K) := by
  refine ⟨f, fd, ["sewing", "rims", "value"], def_g F sc_are_words (fun A r h => by cases h <;> rfl) (by decide) (fun cdv A outer s H E hr As r h => ?_), gm, F.kp, F.bindsN fun _ _ _ _ _ _ us hl => match us, hl with | [_, _, _], _ => rfl⟩
  cases h with
  | no S ws nx rx h =>
    exact sg_ifT (k := (true || false)) (bg_w (wg_or (k2 := false) (bg_not (k := false) (bg_val (eg_call C1 (ag_cons (eg_name 2) ag_nil) h (hr.mono (by decide))))) fun q => nomatch q)) rfl (sg_ret eg_bl rfl)
  | mk S ws nx tp l hz =>
    by_cases q : l.length = S.ws.length
    · refine sg_ifF (k := (false || (!decide ((l.length : Int) = (S.ws.length : Int)) ))) (bg_w (wg_or (bg_not (k := true) (bg_val (eg_call C1 (ag_cons (eg_name 2) ag_nil) listed_Q (hr.mono (by decide))))) fun _ => wg_or1 (bg_nei (eg_lenQ T.len (eg_name 2)) (eg_lenT1 T.len (eg_fld R.c.cl (R.n _ (by decide)) (eg_fld W.c.cl (W.n _ (by decide)) (eg_name 0))))))) (by rw [decide_eq_true (by omega)]; rfl) ?_
      rw [decide_eq_true q, Bool.true_and]
      refine sg_ret (eg_eq (r1 := rBl ((l.map (Wv.ok (ws.length - 1))).all id)) (by rw [all_mapB]) (eg_all rfl T.all (eg_n (ng_lc (fa := Wv.rp) (fb := rBl) (l := l) [("number", 3)] (fun p => [.d (rSew K S), .d (rRims K ws nx), .d (rQ tp (l.map Wv.rp)), .d p.rp]) (fun _ => some true) (fun p => some (p.ok (ws.length - 1))) rfl sc_are_words.nd (ig_Q (eg_name 2)) (comp_all (by omega)) (blkOk_by (N := ["sewing", "rims", "value", "number"]) (sc := defScope (top 85)) (by decide +kernel))
        (fun x s H C cl fp => kg_name 3 sc_are_words.nd) (fun x k s H C cl fp e => by cases e; exact ts_nil) (fun p y s H C cl fp _ e => by
          cases e
          exact eg_call C2 (ag_cons (eg_name 3) (ag_cons eg_int (ag_cons (eg_sub (eg_lenT1 T.len (eg_fld R.c.cl (R.n _ (by decide)) (eg_name 1))) eg_int) ag_nil))) (wv_within _ p) (hr.mono (by decide))))))) rfl
    · rw [decide_eq_false q, Bool.false_and]
      exact sg_ifT (k := (false || (!decide ((l.length : Int) = (S.ws.length : Int)) ))) (bg_w (wg_or (bg_not (k := true) (bg_val (eg_call C1 (ag_cons (eg_name 2) ag_nil) listed_Q (hr.mono (by decide))))) fun _ => wg_or1 (bg_nei (eg_lenQ T.len (eg_name 2)) (eg_lenT1 T.len (eg_fld R.c.cl (R.n _ (by decide)) (eg_fld W.c.cl (W.n _ (by decide)) (eg_name 0))))))) (by rw [decide_eq_false (by omega)]; rfl) (sg_ret eg_bl rfl)

end
end Rf

/-! a tuple times 0, 1 or more -/
namespace Rf
open PySem PySem.Spec PyProof.Rows L2
theorem times_one (l : Addr) (items : Array Value) (n : Nat) (dd : Option Addr) (sl : Array (Option Value)) (u : Tok) :
    Meets (Builtin.«tuple.__mul__» ⟨[.ref l, .int 1 u], []⟩) (fun _ R s => s.heap.get? l = some { cls := .type "tuple", dict := dd, data := .seq items n, slots := sl } ∧ R (.ok (.ret (Value.ref l))) s) :=
  .of_wp fun prog w A R s h => by
    obtain ⟨hp, g, d, tk, os⟩ := s
    obtain ⟨hl, h⟩ := h
    have f1 := AutoSeq1.idx_int
    have q1 : (decide ((1 : Int) < -(2 ^ 63)) || decide ((1 : Int) ≥ 2 ^ 63)) = false := by decide
    have q2 : (items.isEmpty || (1 : Int) == 1) = true := by rw [show ((1 : Int) == 1) = true from rfl, Bool.or_true]
    wp_walk using wpAny_loadPart' hl
    repeat (first
      | (refine wpAny_ite_false (decide_eq_false (by rw [q1]; exact Bool.false_ne_true)) ?_; wp_walk using wpAny_loadPart' hl)
      | (refine wpAny_ite_true (decide_eq_true q2) ?_; wp_walk using wpAny_loadPart' hl))
    exact ⟨_, rfl, h⟩
theorem times_zero (l : Addr) (items : Array Value) (n : Nat) (dd : Option Addr) (sl : Array (Option Value)) (u : Tok) (hi : items.isEmpty = false) :
    Meets (Builtin.«tuple.__mul__» ⟨[.ref l, .int 0 u], []⟩) (fun _ R s => s.heap.get? l = some { cls := .type "tuple", dict := dd, data := .seq items n, slots := sl } ∧ R (.ok (.ret (Value.ref s.heap.objs.size))) { s with heap := s.heap.push { cls := Value.type "tuple", data := Data.seq #[] }, toks := s.toks }) :=
  .of_wp fun prog w A R s h => by
    obtain ⟨hp, g, d, tk, os⟩ := s
    obtain ⟨hl, h⟩ := h
    have f1 := AutoSeq1.idx_int
    have q1 : (decide ((0 : Int) < -(2 ^ 63)) || decide ((0 : Int) ≥ 2 ^ 63)) = false := by decide
    have q2 : (items.isEmpty || (0 : Int) == 1) = false := by rw [hi]; rfl
    have q3 : (decide ((0 : Int) ≤ 0) || items.isEmpty) = true := rfl
    wp_walk using wpAny_loadPart' hl
    repeat (first
      | (refine wpAny_ite_false (decide_eq_false (by rw [q1]; exact Bool.false_ne_true)) ?_; wp_walk using wpAny_loadPart' hl)
      | (refine wpAny_ite_false (decide_eq_false (by rw [q2]; exact Bool.false_ne_true)) ?_; wp_walk using wpAny_loadPart' hl)
      | (refine wpAny_ite_true (decide_eq_true q3) ?_; wp_walk using wpAny_loadPart' hl))
    exact ⟨_, rfl, h⟩
def rTimes (K : PySem.W.Frag) : R2 := fun x y H Q => ∃ l k xs, x = .ref l ∧ y = .int k ∧ SqT K H l xs ∧ xs ≠ [] ∧ xs.length ≤ 1000 ∧ ((k = 1 ∧ Q (.ref l) H) ∨ ((k = 0 ∨ (2 ≤ k ∧ k ≤ 1000)) ∧ ∀ p, H p = none → Q (.ref p) (upd H p (.tup (List.replicate k.toNat xs).flatten))))
section
variable {X : Cx}
theorem op_times : OpR X (binaryOp .Mult) (rTimes X.K) := by
  intro pins s σ H x y v u Q I rx ry h
  obtain ⟨l, k, xs, hx, hy, hT, hne, hz, q⟩ := h
  by_cases h2 : 2 ≤ k
  · rcases q with ⟨e, _⟩ | ⟨e, q⟩
    · omega
    · exact op_repT pins s σ H x y v u Q I rx ry ⟨l, k, xs, hx, hy, hT, hne, h2, by omega, hz, q⟩
  · subst hx hy
    cases rx
    obtain ⟨t, rfl⟩ := ry
    obtain ⟨its, r, ⟨⟨cls, dd, data, sl⟩, ho, hc, n, hd⟩, hs⟩ := I.tuple hT
    simp only at hc hd
    subst hc hd
    have hi : its.toArray.isEmpty = false := by
      cases its with
      | nil => exact absurd (List.eq_nil_of_length_eq_zero r.length) hne
      | cons a b => rfl
    rcases q with ⟨rfl, q⟩ | ⟨e, q⟩
    · refine wpAny_binaryOp_repeat_ref (T := "tuple") (U := "int") (by decide) ⟨_, ho, rfl⟩ (fun s' => typeIs_int s' 1 t) noFill_tuple_mul F.fills_int_mul F.slot_int_rmul repeat_tuple F.slot_int_index.lookup
        (call_meets F.slot_int_rmul (typeIs_int s 1 t) F.entry_int_rmul (F.args_int_rmul_2 _ _) (int_rmul_tuple 1 t l its.toArray n dd sl)
          ⟨ho, rfl, ⟨_, ho, rfl⟩, call_meets F.slot_tuple_mul ⟨_, ho, rfl⟩ F.entry_tuple_mul (F.args_tuple_mul_2 _ _) (times_one l its.toArray n dd sl t) ⟨ho, ?_⟩⟩)
      exact ⟨.ref l, _, I, rfl, q⟩
    · have e0 : k = 0 := by omega
      subst e0
      refine wpAny_binaryOp_repeat_ref (T := "tuple") (U := "int") (by decide) ⟨_, ho, rfl⟩ (fun s' => typeIs_int s' 0 t) noFill_tuple_mul F.fills_int_mul F.slot_int_rmul repeat_tuple F.slot_int_index.lookup
        (call_meets F.slot_int_rmul (typeIs_int s 0 t) F.entry_int_rmul (F.args_int_rmul_2 _ _) (int_rmul_tuple 0 t l its.toArray n dd sl)
          ⟨ho, rfl, ⟨_, ho, rfl⟩, call_meets F.slot_tuple_mul ⟨_, ho, rfl⟩ F.entry_tuple_mul (F.args_tuple_mul_2 _ _) (times_zero l its.toArray n dd sl t hi) ⟨ho, ?_⟩⟩)
      refine ⟨.ref s.heap.objs.size, _, I.laid (t' := s.toks) (o := .tup []) (fun b ob q => Heap.get?_push_of_some _ q) (Nat.le_refl _) ?_, rfl, q _ (I.hok.fresh (Nat.le_refl _))⟩
      exact ⟨by rw [sizeLine_eq]; exact Nat.zero_le _, [], .nil, IsTup.new _ _⟩
variable {g : List Sl} {a b : Expr} {pos : Pos} {α : Type} {fa : α → Rp} {ls : List α} {k : Int}
theorem eg_repT (hk : 0 ≤ k ∧ k ≤ 1000) (hne : ls ≠ []) (hz : ls.length ≤ 1000) (ha : EG X a g (rT (ls.map fa))) (hb : EG X b g (rInt k)) : EG X (.BinOp a .Mult b pos) g (rT ((List.replicate k.toNat ls).flatten.map fa)) :=
  eg_op op_times ha hb fun x y H D Q s hx hy kk => by
    obtain ⟨l, vs, rfl, h1, h2⟩ := hx
    have hl := h2.length
    rw [List.length_map] at hl
    refine ⟨l, k, vs, rfl, hy, SqT.of (s _ _ h1), fun e => hne (List.eq_nil_of_length_eq_zero (by rw [hl, e]; rfl)), by omega, ?_⟩
    by_cases e : k = 1
    · subst e
      refine .inl ⟨rfl, kk.here s ⟨l, vs, rfl, h1, ?_⟩⟩
      rw [show (Int.toNat 1) = 1 from rfl, show (List.replicate 1 ls).flatten = ls from by simp]
      exact h2
    · refine .inr ⟨by omega, fun p n => kk.tup s ?_ n⟩
      rw [← flat_rep]
      exact reps_rep h2 _
end
end Rf

namespace Rf
open PySem PySem.Spec PyProof.Rows L2
/-- no value is so -/
def rBot : Rp := ⟨fun _ _ => False, fun _ h => h⟩
theorem sg_bot {X : Cx} {g : List Sl} {P : Pt} {b : List Stmt} (n : Nat) (h : g[n]? = some (.d rBot)) : SG X b g P := ⟨fun pins s σ H E I ⟨F, D0, D, ok, p⟩ => by
  obtain ⟨v, _, q⟩ := ok.dat n rBot h
  exact q.elim⟩
def mR (lo wd : List Int) : Nat := lo.length / wd.length
theorem mR_int (lo wd : List Int) : (mR lo wd : Int) = (lo.length : Int) / (wd.length : Int) := Int.natCast_ediv _ _
def roundsM (lo wd : List Int) : Int := if lo = (List.replicate (mR lo wd) wd).flatten then (mR lo wd : Int) else 0

section
variable {P : Program} {w : World} {K : PySem.W.Frag} {mg : Str → Option Value} {base : Heap} {f : Addr} {fd : FuncData}

inductive relRoundsIn (K : PySem.W.Frag) : Rel
  | mk (lo wd : List Int) (hz : wd ≠ [] ∧ wd.length ≤ 1000 ∧ lo.length ≤ 1000) : relRoundsIn K [rWord K lo, rWord K wd] (rInt (roundsM lo wd))

theorem sc_rounds_in : FnScope ["long", "word", "many"] ["long", "word"] (defScope (top 86)) := ⟨rfl, rfl, rfl, by decide +kernel, rfl, by decide +kernel, by decide +kernel⟩
theorem c_rounds_in (T : Fre mg) (W : KWord K) (C1 : MethC P w K mg base (He.ga K "Word") "__len__" 1 (relWLen K)) (F : FnP K "rounds_in" (top 86) f fd) (gm : mg "rounds_in" = some (.ref f)) : DefC P w K mg base "rounds_in" 3 (relRoundsIn K) := by
  refine ⟨f, fd, ["long", "word"], def_g F sc_rounds_in (fun A r h => by cases h <;> rfl) (by decide) (fun cdv A outer s H E hr As r h => ?_), gm, F.kp, F.bindsN fun _ _ _ _ _ _ us hl => match us, hl with | [_, _], _ => rfl⟩
  cases h with
  | mk lo wd hz =>
    have lw : 0 < wd.length := by
      cases wd with
      | nil => exact absurd rfl hz.1
      | cons x l => exact Nat.succ_pos _
    have lq : mR lo wd ≤ 1000 := Nat.le_trans (Nat.div_le_self _ _) hz.2.2
    refine sg_set (r := rInt (mR lo wd : Int)) 2 (eg_eq (by rw [mR_int]) (eg_fdiv ⟨by omega, by omega⟩ (eg_lenOwn C1 (hr.mono (by decide)) (.mk lo) ⟨by omega, by omega⟩ T.len (eg_name 0)) (eg_lenOwn C1 (hr.mono (by decide)) (.mk wd) ⟨by omega, by omega⟩ T.len (eg_name 1)))) sc_rounds_in.nd ?_
    unfold roundsM
    refine sg_ret (eg_if (k := decide (lo = (List.replicate (mR lo wd) wd).flatten)) (bg_eqd (dat_T dat_int) (dat_T dat_int) hr.units (eg_fld W.c.cl (W.n _ (by decide)) (eg_name 0)) (eg_repT (k := (mR lo wd : Int)) ⟨by omega, by omega⟩ hz.1 hz.2.1 (eg_fld W.c.cl (W.n _ (by decide)) (eg_name 1)) (eg_name 2))) (fun q => ?_) fun q => ?_) rfl
    · exact eg_eq (by rw [if_pos (of_decide_eq_true q)]) (eg_name 2)
    · exact eg_eq (by rw [if_neg (of_decide_eq_false q)]) eg_int

def rndPre (ws : List (List Int)) (had : List Int) (z : List Int × Int) : Option (Int × Nat × Int) := match atI ws z.2, ixN had.length z.2, atI had z.2 with
  | some wd, some j, some a => if wd ≠ [] ∧ wd.length ≤ 1000 ∧ z.1.length ≤ 1000 then some (roundsM z.1 wd, j, a) else none
  | _, _, _ => none
theorem rndPre_is {ws : List (List Int)} {had : List Int} {z : List Int × Int} {m a : Int} {j : Nat} (h : rndPre ws had z = some (m, j, a)) : ∃ wd, atI ws z.2 = some wd ∧ ixN had.length z.2 = some j ∧ atI had z.2 = some a ∧ (wd ≠ [] ∧ wd.length ≤ 1000 ∧ z.1.length ≤ 1000) ∧ m = roundsM z.1 wd := by
  unfold rndPre at h
  cases h1 : atI ws z.2 with
  | none => rw [h1] at h; cases h
  | some wd =>
    cases h2 : ixN had.length z.2 with
    | none => rw [h1, h2] at h; cases h
    | some j' =>
      cases h3 : atI had z.2 with
      | none => rw [h1, h2, h3] at h; cases h
      | some a' =>
        rw [h1, h2, h3] at h; dsimp only at h
        by_cases c : wd ≠ [] ∧ wd.length ≤ 1000 ∧ z.1.length ≤ 1000
        · rw [if_pos c] at h; cases h; exact ⟨wd, rfl, rfl, rfl, c, rfl⟩
        · rw [if_neg c] at h; cases h
def rStep (ws : List (List Int)) (had : List Int) (z : List Int × Int) : Option (List Int) := match rndPre ws had z with
  | some (m, j, a) => if m = 0 then none else some (had.set j (a + m))
  | none => none
/-- the same, none for: it has ended -/
def rStepE (ws : List (List Int)) : Option (List Int) → List Int × Int → Option (Option (List Int))
  | none, _ => some none
  | some had, z => match rndPre ws had z with
    | some (m, j, a) => if m = 0 then some none else some (some (had.set j (a + m)))
    | none => none
inductive relRounds (K : PySem.W.Frag) : Rel
  | mk (S : SewD) (ws : List (List Int)) (nx : List Int) (tp : Bool) (ns had : List Int) (c : Int) (hz : ws.length ≤ 100 ∧ had.length ≤ 100) (h : foldM (rStep ws) (List.replicate ws.length 0) (S.ws.zip ns) = some had) (hc : atI had 0 = some c) : relRounds K [rSew K S, rRims K ws nx, rQi tp ns] (rBl (decide (0 < c) && decide (had = (List.replicate had.length (cutL had none (some 1))).flatten)))
  | no (S : SewD) (ws : List (List Int)) (nx : List Int) (tp : Bool) (ns : List Int) (hz : ws.length ≤ 1000) (h : foldM (rStepE ws) (some (List.replicate ws.length 0)) (S.ws.zip ns) = some none) : relRounds K [rSew K S, rRims K ws nx, rQi tp ns] (rBl false)
theorem rep_zero (n : Nat) : (List.replicate n [(0 : Int)]).flatten = List.replicate n 0 := by
  induction n with
  | zero => rfl
  | succ n ih => rw [List.replicate_succ, List.flatten_cons, ih]; rfl

theorem sc_are_rounds : FnScope ["sewing", "rims", "words", "had", "long", "number", "many"] ["sewing", "rims", "words"] (defScope (top 87)) := ⟨rfl, rfl, rfl, by decide +kernel, rfl, by decide +kernel, by decide +kernel⟩
theorem c_are_rounds (T : Fre mg) (R : KRims K) (W : KSew K) (C1 : DefC P w K mg base "rounds_in" 3 (relRoundsIn K)) (F : FnP K "are_rounds" (top 87) f fd) (gm : mg "are_rounds" = some (.ref f)) : DefC P w K mg base "are_rounds" 4 (relRounds K) := by
  refine ⟨f, fd, ["sewing", "rims", "words"], def_g F sc_are_rounds (fun A r h => by cases h <;> rfl) (by decide) (fun cdv A outer s H E hr As r h => ?_), gm, F.kp, F.bindsN fun _ _ _ _ _ _ us hl => match us, hl with | [_, _, _], _ => rfl⟩
  cases h with
  | mk S ws nx tp ns had c hz h hc =>
    refine sg_setV 3 (s := .l ((List.replicate ws.length (0 : Int)).map rInt)) (vg_l (by rw [← rep_zero]; exact ng_rep1 (l := [(0 : Int)]) (fa := rInt) (j := (ws.length : Int)) (by simp; omega) (by omega) (eg_n (ng_lst (ag_cons eg_int ag_nil))) (eg_lenT1 T.len (eg_fld R.c.cl (R.n _ (by decide)) (eg_name 1))))) sc_are_rounds.nd ?_
    refine sg_for (fa := fun z : List Int × Int => rT [rWord K z.1, rInt z.2]) (l := S.ws.zip ns) (fun f : List Int => [.d (rSew K S), .d (rRims K ws nx), .d (rQi tp ns), .l (f.map rInt), .non, .non, .non]) (rStep ws) (fun f z => [.d (rSew K S), .d (rRims K ws nx), .d (rQi tp ns), .l (f.map rInt), .d (rWord K z.1), .d (rInt z.2), .non]) [4, 5] (by rw [← zipR_map (rWord K) rInt]; exact ig_zip true tp T.zip (eg_fld R.c.cl (R.n _ (by decide)) (eg_fld W.c.cl (W.n _ (by decide)) (eg_name 0))) (eg_name 2)) h (Le.refl _) rfl
      (fun s x => kg_pair 4 5 rfl sc_are_rounds.nd) (fun s z s' _ e => ?_) ?_
    · unfold rStep at e
      cases hp : rndPre ws s z with
      | none => rw [hp] at e; cases e
      | some q =>
        obtain ⟨m, j, a⟩ := q
        rw [hp] at e; dsimp only at e
        obtain ⟨wd, h1, h2, h3, c, rfl⟩ := rndPre_is hp
        by_cases m0 : roundsM z.1 wd = 0
        · rw [if_pos m0] at e; cases e
        · rw [if_neg m0] at e; cases e
          refine sg_set 6 (eg_call C1 (ag_cons (eg_name 4) (ag_cons (eg_ixT (eg_fld R.c.cl (R.n _ (by decide)) (eg_name 1)) (eg_name 5) h1) ag_nil)) (.mk _ _ c) hr) sc_are_rounds.nd ?_
          refine sg_ifF (k := decide (roundsM z.1 wd = 0)) (bg_eqi (eg_name 6) eg_int) (decide_eq_false m0) ?_
          refine sg_store 3 (m := j) rfl (eg_add (i := a) (j := roundsM z.1 wd) (eg_ixO 3 rfl (eg_name 5) h3) (eg_name 6)) (eg_name 5) (by rw [List.length_map]; exact h2) ?_ (pg_sub (pv 3) (eg_name 5) set_list) rfl rfl
          refine sg_nil ?_
          rw [← List.map_set]
          exact (LeS.same (.same (.same (.same (.non (.non (.non .nil))))))).go
    · refine sg_le (Le.freeze 3 rfl rfl) ?_
      refine sg_ret (eg_and (eg_gt (eg_ixL (fa := rInt) (l := had) (eg_name 3) eg_int hc) eg_int) fun _ => eg_one (eg_eqd (dat_L dat_int) (dat_L dat_int) hr.units (eg_name 3) (eg_n (ng_rep1 (j := (had.length : Int)) ?_ (by omega) (eg_n (ng_slL1 (fa := rInt) (l := had) (eg_name 3) og_none (og_some eg_int))) (eg_lenL1 (fa := rInt) (l := had) T.len (eg_name 3)))))) rfl
      have := cutL_len had none (some 1)
      exact Nat.le_trans (Nat.mul_le_mul this (Nat.le_refl _)) (Nat.le_trans (Nat.mul_le_mul hz.2 hz.2) (by decide))
  | no S ws nx tp ns hz h =>
    refine sg_setV 3 (s := .l ((List.replicate ws.length (0 : Int)).map rInt)) (vg_l (by rw [← rep_zero]; exact ng_rep1 (l := [(0 : Int)]) (fa := rInt) (j := (ws.length : Int)) (by simp; omega) (by omega) (eg_n (ng_lst (ag_cons eg_int ag_nil))) (eg_lenT1 T.len (eg_fld R.c.cl (R.n _ (by decide)) (eg_name 1))))) sc_are_rounds.nd ?_
    refine sg_for (fa := fun z : List Int × Int => rT [rWord K z.1, rInt z.2]) (l := S.ws.zip ns) (fun f : Option (List Int) => [.d (rSew K S), .d (rRims K ws nx), .d (rQi tp ns), (match f with | some f => .l (f.map rInt) | none => .d rBot), .non, .non, .non]) (rStepE ws) (fun f z => [.d (rSew K S), .d (rRims K ws nx), .d (rQi tp ns), (match f with | some f => .l (f.map rInt) | none => .d rBot), .d (rWord K z.1), .d (rInt z.2), .non]) [4, 5] (by rw [← zipR_map (rWord K) rInt]; exact ig_zip true tp T.zip (eg_fld R.c.cl (R.n _ (by decide)) (eg_fld W.c.cl (W.n _ (by decide)) (eg_name 0))) (eg_name 2)) h (Le.refl _) rfl
      (fun s x => kg_pair 4 5 rfl sc_are_rounds.nd) (fun s z s' _ e => ?_) (sg_bot 3 rfl)
    cases s with
    | none => exact sg_bot 3 rfl
    | some s =>
      unfold rStepE at e
      dsimp only at e
      cases hp : rndPre ws s z with
      | none => rw [hp] at e; cases e
      | some q =>
        obtain ⟨m, j, a⟩ := q
        rw [hp] at e; dsimp only at e
        obtain ⟨wd, h1, h2, h3, c, rfl⟩ := rndPre_is hp
        refine sg_set 6 (eg_call C1 (ag_cons (eg_name 4) (ag_cons (eg_ixT (eg_fld R.c.cl (R.n _ (by decide)) (eg_name 1)) (eg_name 5) h1) ag_nil)) (.mk _ _ c) hr) sc_are_rounds.nd ?_
        by_cases m0 : roundsM z.1 wd = 0
        · exact sg_ifT (k := decide (roundsM z.1 wd = 0)) (bg_eqi (eg_name 6) eg_int) (decide_eq_true m0) (sg_ret eg_bl rfl)
        · rw [if_neg m0] at e; cases e
          refine sg_ifF (k := decide (roundsM z.1 wd = 0)) (bg_eqi (eg_name 6) eg_int) (decide_eq_false m0) ?_
          refine sg_store 3 (m := j) rfl (eg_add (i := a) (j := roundsM z.1 wd) (eg_ixO 3 rfl (eg_name 5) h3) (eg_name 6)) (eg_name 5) (by rw [List.length_map]; exact h2) ?_ (pg_sub (pv 3) (eg_name 5) set_list) rfl rfl
          refine sg_nil ?_
          rw [← List.map_set]
          exact (LeS.same (.same (.same (.same (.non (.non (.non .nil))))))).go

end
end Rf

namespace Rf
open PySem PySem.Spec PyProof.Rows L2
def foldsStep (ws : List (List Int)) (fs : List Int) (found : List Int) (z : List Int × Int) : Option (List Int) := match atI fs z.2, atI ws z.2 with
  | some a, some wd => if 0 < wd.length ∧ wd.length < 1000 ∧ z.1.length ≤ 1000 ∧ found.length ≤ 1000 then some (found ++ (rangeI z.1.length).map fun i => a + i % (wd.length : Int)) else none
  | _, _ => none
theorem foldsStep_is {ws : List (List Int)} {fs found s' : List Int} {z : List Int × Int} (h : foldsStep ws fs found z = some s') : ∃ a wd, atI fs z.2 = some a ∧ atI ws z.2 = some wd ∧ (0 < wd.length ∧ wd.length < 1000 ∧ z.1.length ≤ 1000 ∧ found.length ≤ 1000) ∧ s' = found ++ (rangeI z.1.length).map fun i => a + i % (wd.length : Int) := by
  unfold foldsStep at h
  cases h1 : atI fs z.2 with
  | none => rw [h1] at h; cases h
  | some a =>
    cases h2 : atI ws z.2 with
    | none => rw [h1, h2] at h; cases h
    | some wd =>
      rw [h1, h2] at h; dsimp only at h
      by_cases c : 0 < wd.length ∧ wd.length < 1000 ∧ z.1.length ≤ 1000 ∧ found.length ≤ 1000
      · rw [if_pos c] at h; cases h; exact ⟨a, wd, rfl, rfl, c, rfl⟩
      · rw [if_neg c] at h; cases h

section
variable {P : Program} {w : World} {K : PySem.W.Frag} {mg : Str → Option Value} {base : Heap} {f : Addr} {fd : FuncData}

inductive relFolds (K : PySem.W.Frag) : Rel
  | mk (S : SewD) (ws : List (List Int)) (nx : List Int) (tp : Bool) (ns : List Int) (s : List Int × Int) (fo : List Int) (h1 : foldM firstsS ([], 0) ws = some s) (h : foldM (foldsStep ws s.1) [] (S.ws.zip ns) = some fo) : relFolds K [rSew K S, rRims K ws nx, rQi tp ns] (rInts fo)

theorem sc_folds_of : FnScope ["sewing", "rims", "words", "firsts", "found", "long", "number", "at"] ["sewing", "rims", "words"] (defScope (top 88)) := ⟨rfl, rfl, rfl, by decide +kernel, rfl, by decide +kernel, by decide +kernel⟩
theorem c_folds_of (T : Fre mg) (R : KRims K) (W : KSew K) (C1 : DefC P w K mg base "first_places" 3 (relFirsts K)) (C2 : MethC P w K mg base (He.ga K "Word") "__len__" 1 (relWLen K)) (F : FnP K "folds_of" (top 88) f fd) (gm : mg "folds_of" = some (.ref f)) : DefC P w K mg base "folds_of" 4 (relFolds K) := by
  refine ⟨f, fd, ["sewing", "rims", "words"], def_g F sc_folds_of (fun A r h => by cases h <;> rfl) (by decide) (fun cdv A outer s H E hr As r h => ?_), gm, F.kp, F.bindsN fun _ _ _ _ _ _ us hl => match us, hl with | [_, _, _], _ => rfl⟩
  cases h with
  | mk S ws nx tp ns s fo hf h =>
    refine sg_parC 3 4 (s := .d (rInts s.1)) (s2 := .l []) (vg_d (eg_call C1 (ag_cons (eg_name 1) ag_nil) (.mk ws nx s hf) hr)) (vg_l (ng_lst ag_nil)) rfl sc_folds_of.nd ?_
    refine sg_for (fa := fun z : List Int × Int => rT [rWord K z.1, rInt z.2]) (l := S.ws.zip ns) (fun f : List Int => [.d (rSew K S), .d (rRims K ws nx), .d (rQi tp ns), .d (rInts s.1), .l (f.map rInt), .non, .non, .non]) (foldsStep ws s.1) (fun f z => [.d (rSew K S), .d (rRims K ws nx), .d (rQi tp ns), .d (rInts s.1), .l (f.map rInt), .d (rWord K z.1), .d (rInt z.2), .non]) [5, 6] (by rw [← zipR_map (rWord K) rInt]; exact ig_zip true tp T.zip (eg_fld R.c.cl (R.n _ (by decide)) (eg_fld W.c.cl (W.n _ (by decide)) (eg_name 0))) (eg_name 2)) h (Le.refl _) rfl
      (fun s x => kg_pair 5 6 rfl sc_folds_of.nd) (fun t z s' _ e => ?_) (sg_le (Le.freeze 4 rfl rfl) (sg_ret (eg_name 4) rfl))
    obtain ⟨a, wd, h1, h2, c, rfl⟩ := foldsStep_is e
    refine sg_extend 4 rfl (eg_n (ng_lc (fa := rInt) (fb := rInt) (l := rangeI z.1.length) [("at", 7)] (fun i => [.d (rSew K S), .d (rRims K ws nx), .d (rQi tp ns), .d (rInts s.1), .l (t.map rInt), .d (rWord K z.1), .d (rInt z.2), .d (rInt i)]) (fun _ => some true) (fun i => some (a + i % (wd.length : Int))) rfl sc_folds_of.nd (ig_range T.range (by omega) (eg_lenOwn C2 (hr.mono (by decide)) (.mk z.1) ⟨by omega, by omega⟩ T.len (eg_name 5))) (comp_all (by rw [rangeI_len]; omega)) (blkOk_by (N := ["sewing", "rims", "words", "firsts", "found", "long", "number", "at"]) (sc := defScope (top 88)) (by decide +kernel))
      (fun x s H C cl fp => kg_name 7 sc_folds_of.nd) (fun x k s H C cl fp e => by cases e; exact ts_nil) (fun i y s H C cl fp _ e => by cases e; exact eg_add (eg_ixL (fa := rInt) (eg_name 3) (eg_name 6) h1) (eg_mod (by omega) (eg_name 7) (eg_lenOwn C2 (hr.mono (by decide)) (.mk wd) ⟨by omega, by omega⟩ T.len (eg_ixT (fa := rWord K) (l := ws) (eg_fld R.c.cl (R.n _ (by decide)) (eg_name 1)) (eg_name 6) h2)))))) ?_ (sg_nil ?_)
    · rw [List.length_map, List.length_map, List.length_map, rangeI_len]; omega
    · rw [List.map_append]
      exact (LeS.same (.same (.same (.same (.same (.non (.non (.same .nil)))))))).go

end
end Rf

namespace Rf
open PySem PySem.Spec PyProof.Rows L2
def cornH (fo c : List Int) : Option (List Int × Int) := match comp (fun _ => some true) (atI fo) c with
  | some ys => some (ys, 1)
  | none => none

section
variable {P : Program} {w : World} {K : PySem.W.Frag} {mg : Str → Option Value} {base : Heap} {f : Addr} {fd : FuncData}

inductive relFB (K : PySem.W.Frag) : Rel
  | no (S : SewD) (ws : List (List Int)) (nx : List Int) (tp : Bool) (ns : List Int) (h : relRounds K [rSew K S, rRims K ws nx, rQi tp ns] (rBl false)) : relFB K [rSew K S, rRims K ws nx, rQi tp ns] rNon
  | mk (S : SewD) (ws : List (List Int)) (nx : List Int) (tp : Bool) (ns : List Int) (fo : List Int) (vs : WS) (B : BagD) (h : relRounds K [rSew K S, rRims K ws nx, rQi tp ns] (rBl true)) (hf : relFolds K [rSew K S, rRims K ws nx, rQi tp ns] (rInts fo)) (hv : comp (fun _ => some true) (cornH fo) S.cs = some vs)
    (hB : relBagI K [rRims K ws nx, rWS vs] (bagF K B)) : relFB K [rSew K S, rRims K ws nx, rQi tp ns] (rBag K B)

theorem sc_folded_bag : FnScope ["sewing", "rims", "words", "folds", "corner", "place"] ["sewing", "rims", "words"] (defScope (top 89)) := ⟨rfl, rfl, rfl, by decide +kernel, rfl, by decide +kernel, by decide +kernel⟩
theorem c_folded_bag (T : Fre mg) (R : KRims K) (W : KSew K) (C1 : DefC P w K mg base "are_rounds" 4 (relRounds K)) (C2 : DefC P w K mg base "folds_of" 4 (relFolds K)) (C3 : MakeC P w K mg base "Bag" (He.ga K "Bag") 6 (relBagI K)) (F : FnP K "folded_bag" (top 89) f fd) (gm : mg "folded_bag" = some (.ref f)) : DefC P w K mg base "folded_bag" 8 (relFB K) := by
  refine ⟨f, fd, ["sewing", "rims", "words"], def_g F sc_folded_bag (fun A r h => by cases h <;> rfl) (by decide) (fun cdv A outer s H E hr As r h => ?_), gm, F.kp, F.bindsN fun _ _ _ _ _ _ us hl => match us, hl with | [_, _, _], _ => rfl⟩
  cases h with
  | no S ws nx tp ns h => exact sg_ifT (k := true) (bg_not (k := false) (bg_val (eg_call C1 (ag_cons (eg_name 0) (ag_cons (eg_name 1) (ag_cons (eg_name 2) ag_nil))) h (hr.mono (by decide))))) rfl (sg_ret eg_non rfl)
  | mk S ws nx tp ns fo vs B h hf hv hB =>
    refine sg_ifF (k := false) (bg_not (k := true) (bg_val (eg_call C1 (ag_cons (eg_name 0) (ag_cons (eg_name 1) (ag_cons (eg_name 2) ag_nil))) h (hr.mono (by decide))))) rfl ?_
    refine sg_set 3 (eg_call C2 (ag_cons (eg_name 0) (ag_cons (eg_name 1) (ag_cons (eg_name 2) ag_nil))) hf (hr.mono (by decide))) sc_folded_bag.nd ?_
    refine sg_ret (eg_make C3 (ag_cons (eg_name 1) (ag_cons (eg_n (rs := vs.map rWk) ?_) ag_nil)) hB hr) rfl
    refine (ng_lc (fa := rTI) (fb := rWk) (l := S.cs) [("corner", 4)] (fun c => [.d (rSew K S), .d (rRims K ws nx), .d (rQi tp ns), .d (rInts fo), .d (rTI c), .non]) (fun _ => some true) (cornH fo) rfl sc_folded_bag.nd (ig_tup (eg_fld W.c.cl (W.n _ (by decide)) (eg_name 0))) hv (blkOk_by (N := ["sewing", "rims", "words", "folds", "corner", "place"]) (sc := defScope (top 89)) (by decide +kernel))
      (fun x s H C cl fp => kg_name 4 sc_folded_bag.nd) (fun x k s H C cl fp e => by cases e; exact ts_nil) (fun c y s H C cl fp _ e => ?_))
    unfold cornH at e
    cases hc : comp (fun _ => some true) (atI fo) c with
    | none => rw [hc] at e; cases e
    | some ys =>
      rw [hc] at e; cases e
      exact eg_tup (ag_cons (eg_n (ng_lc (fa := rInt) (fb := rInt) (l := c) [("place", 5)] (fun p => [.d (rSew K S), .d (rRims K ws nx), .d (rQi tp ns), .d (rInts fo), .d (rTI c), .d (rInt p)]) (fun _ => some true) (atI fo) rfl sc_folded_bag.nd (ig_tup (eg_name 4)) hc (blkOk_by (N := ["sewing", "rims", "words", "folds", "corner", "place"]) (sc := relS _ (defScope (top 89))) (by decide +kernel))
        (fun x s H C cl fp => kg_name 5 sc_folded_bag.nd) (fun x k s H C cl fp e => by cases e; exact ts_nil) (fun p y s H C cl fp _ e => eg_ixL (fa := rInt) (eg_name 3) (eg_name 5) e))) (ag_cons eg_int ag_nil))

end
end Rf

namespace Rf
open PySem PySem.Spec PyProof.Rows L2
section
variable {P : Program} {w : World} {K : PySem.W.Frag} {mg : Str → Option Value} {base : Heap} {f : Addr} {fd : FuncData}

theorem nonI {C : Addr} {fs : List (Str × Rp)} : NonR (Rf.rI C fs) false := fun D v ⟨a, dx, ws, e, _, _⟩ => by rw [e]; rfl
theorem wv_ints (ns : List Int) : (ns.map Wv.i).map Wv.rp = ns.map rInt := by rw [List.map_map]; rfl
theorem wv_all (ns : List Int) (m : Int) : (ns.map Wv.i).all (Wv.ok m) = ns.all fun n => withinB n (some 0) (some m) := by rw [List.all_map]; rfl
theorem words_ints {K : PySem.W.Frag} {S : SewD} {ws : List (List Int)} {nx : List Int} {tp : Bool} {ns : List Int} (hz : ns.length ≤ 1000) : relWords K [rSew K S, rRims K ws nx, rQi tp ns] (rBl (decide (ns.length = S.ws.length) && ns.all fun n => withinB n (some 0) (some (ws.length - 1)))) := by
  have h := relWords.mk (K := K) S ws nx tp (ns.map Wv.i) (by rw [List.length_map]; exact hz)
  rw [wv_ints, wv_all, List.length_map] at h
  exact h
inductive relNeedB (K : PySem.W.Frag) : Rel
  | mk (fs : List (Str × Rp)) (r : Rp) : relNeedB K [Rf.rI (He.ga K "Bag") fs, r] rNon

theorem sc_need_bag : FnScope ["value", "part"] ["value", "part"] (defScope (top 78)) := ⟨rfl, rfl, rfl, by decide +kernel, rfl, by decide +kernel, by decide +kernel⟩
theorem c_need_bag (T : Fre mg) (B : KBag K) (gB : mg "Bag" = some (.ref (He.ga K "Bag"))) (F : FnP K "need_bag" (top 78) f fd) (gm : mg "need_bag" = some (.ref f)) : DefC P w K mg base "need_bag" 1 (relNeedB K) := by
  refine ⟨f, fd, ["value", "part"], def_g F sc_need_bag (fun A r h => by cases h <;> rfl) (by decide) (fun cdv A outer s H E hr As r h => ?_), gm, F.kp, F.bindsN fun _ _ _ _ _ _ us hl => match us, hl with | [_, _], _ => rfl⟩
  cases h with
  | mk fs r => exact sg_ifF (k := false) (bg_not (k := true) (bg_val (eg_isi T.isinstance (eg_name 0) (eg_glob (v := .ref (He.ga K "Bag")) gB rfl) (ty_I B.c) (.own _) B.kit))) rfl (sg_nil rfl)

inductive relBR (K : PySem.W.Frag) : Rel
  | mk (S : SewD) (ws : List (List Int)) (nx : List Int) (tp : Bool) (ns : List Int) (B : BagD) (hz : ns.length ≤ 1000) (hw : (decide (ns.length = S.ws.length) && ns.all fun n => withinB n (some 0) (some (ws.length - 1))) = true) (h : relFB K [rSew K S, rRims K ws nx, rQi tp ns] (rBag K B)) : relBR K [rSew K S, rRims K ws nx, rQi tp ns] (rBag K B)

theorem sc_bag_of_rounds : FnScope ["sewing", "rims", "words", "found"] ["sewing", "rims", "words"] (defScope (top 90)) := ⟨rfl, rfl, rfl, by decide +kernel, rfl, by decide +kernel, by decide +kernel⟩
theorem fn_bag_of_rounds (T : Fre mg) (R : KRims K) (W : KSew K) (gS : mg "Sewing" = some (.ref (He.ga K "Sewing"))) (C1 : DefC P w K mg base "need_rims" 1 (relNeedR K)) (C2 : DefC P w K mg base "are_words" 3 (relWords K)) (C3 : DefC P w K mg base "folded_bag" 8 (relFB K)) (F : FnP K "bag_of_rounds" (top 90) f fd) : FnOk P w K mg base CX0 9 f fd ["sewing", "rims", "words"] (SpR (relBR K)) := by
  refine def_g F sc_bag_of_rounds (fun A r h => by cases h <;> rfl) (by decide) (fun cdv A outer s H E hr As r h => ?_)
  cases h with
  | mk S ws nx tp ns B hz hw h =>
    refine sg_ifF (k := false) (bg_not (k := true) (bg_val (eg_isi T.isinstance (eg_name 0) (eg_glob (v := .ref (He.ga K "Sewing")) gS rfl) (ty_I W.c) (.own _) W.kit))) rfl ?_
    refine sg_expr (eg_call C1 (ag_cons (eg_name 1) ag_nil) (.mk _) (hr.mono (by decide))) ?_
    refine sg_ifF (k := false) (bg_not (k := true) (bg_val (eg_eq (congrArg rBl hw) (eg_call C2 (ag_cons (eg_name 0) (ag_cons (eg_name 1) (ag_cons (eg_name 2) ag_nil))) (words_ints hz) (hr.mono (by decide)))))) rfl ?_
    refine sg_set 3 (eg_call C3 (ag_cons (eg_name 0) (ag_cons (eg_name 1) (ag_cons (eg_name 2) ag_nil))) h hr) sc_bag_of_rounds.nd ?_
    refine sg_ifF (k := false) (bg_isN (eg_name 3) nonI) rfl ?_
    exact sg_ret (eg_name 3) rfl
theorem c_bag_of_rounds (T : Fre mg) (R : KRims K) (W : KSew K) (gS : mg "Sewing" = some (.ref (He.ga K "Sewing"))) (C1 : DefC P w K mg base "need_rims" 1 (relNeedR K)) (C2 : DefC P w K mg base "are_words" 3 (relWords K)) (C3 : DefC P w K mg base "folded_bag" 8 (relFB K)) (F : FnP K "bag_of_rounds" (top 90) f fd) (gm : mg "bag_of_rounds" = some (.ref f)) : DefC P w K mg base "bag_of_rounds" 9 (relBR K) :=
  ⟨f, fd, ["sewing", "rims", "words"], fn_bag_of_rounds T R W gS C1 C2 C3 F, gm, F.kp, F.bindsN fun _ _ _ _ _ _ us hl => match us, hl with | [_, _, _], _ => rfl⟩

end
end Rf

namespace Rf
open PySem PySem.Spec PyProof.Rows L2
/-! ### the law's own defs: plain ones -/
def catStep (s w : List Int) : Option (List Int) := if s.length + w.length ≤ 1000 then some (s ++ w) else none

section
variable {P : Program} {w : World} {K : PySem.W.Frag} {mg : Str → Option Value} {base : Heap} {f : Addr} {fd : FuncData}

inductive relLL : Rel
  | mk (ws : List (List Int)) (ls : List Int) (h : foldM catStep [] ws = some ls) : relLL [rL (ws.map rInts)] (rInts ls)

theorem sc__law_letters : FnScope ["_law_words", "_law_found", "_law_word"] ["_law_words"] (defScope (top 99)) := ⟨rfl, rfl, rfl, by decide +kernel, rfl, by decide +kernel, by decide +kernel⟩
theorem c__law_letters (T : Fre mg) (F : FnP K "_law_letters" (top 99) f fd) (gm : mg "_law_letters" = some (.ref f)) : DefC P w K mg base "_law_letters" 1 relLL := by
  refine ⟨f, fd, ["_law_words"], def_g F sc__law_letters (fun A r h => by cases h <;> rfl) (by decide) (fun cdv A outer s H E hr As r h => ?_), gm, F.kp, F.bindsN fun _ _ _ _ _ _ us hl => match us, hl with | [_], _ => rfl⟩
  cases h with
  | mk ws ls h =>
    refine sg_setV 1 (vg_l (ng_lst ag_nil)) sc__law_letters.nd ?_
    refine sg_for (fa := rInts) (l := ws) (fun s : List Int => [.d (rL (ws.map rInts)), .l (s.map rInt), .non]) catStep (fun s x => [.d (rL (ws.map rInts)), .l (s.map rInt), .d (rInts x)]) [2] (ig_list (eg_name 0)) h (Le.refl _) rfl
      (fun s x => kg_name 2 sc__law_letters.nd) (fun s x s' _ e => ?_) (sg_le (Le.freeze 1 rfl rfl) (sg_ret (eg_name 1) rfl))
    unfold catStep at e
    by_cases c : s.length + x.length ≤ 1000
    · rw [if_pos c] at e; cases e
      refine sg_extend 1 rfl (eg_name 2) (by rw [List.length_map, List.length_map]; omega) (sg_nil ?_)
      rw [List.map_append]
      exact (LeS.same (.same (.non .nil))).go
    · rw [if_neg c] at e; cases e

def wordH (ls : List Int) : Option (List Int) := if ls.length ≤ 60 ∧ ls.all isLetterB = true then (match whileM (rndC ls) (fun i => some (i + 1)) 100 0 with
  | some _ => some ls
  | none => none) else none
theorem wordH_rel {ls y : List Int} (h : wordH ls = some y) : y = ls ∧ relWordI [rInts ls] (wordF ls) := by
  unfold wordH at h
  by_cases c : ls.length ≤ 60 ∧ ls.all isLetterB = true
  · rw [if_pos c] at h
    cases hw : whileM (rndC ls) (fun i => some (i + 1)) 100 0 with
    | none => rw [hw] at h; cases h
    | some i => rw [hw] at h; cases h; exact ⟨rfl, .mk ls 100 i c.1 c.2 hw⟩
  · rw [if_neg c] at h; cases h
inductive relMade (K : PySem.W.Frag) : Rel
  | mk (ws : List (List Int)) (nx : List Int) (hc : comp (fun _ => some true) wordH ws = some ws) (h : relRimsI K [rL (ws.map (rWord K))] (rimsF K ws nx)) : relMade K [rL (ws.map rInts)] (rRims K ws nx)

theorem sc__law_made : FnScope ["_law_words", "_law_word"] ["_law_words"] (defScope (top 101)) := ⟨rfl, rfl, rfl, by decide +kernel, rfl, by decide +kernel, by decide +kernel⟩
theorem c__law_made (T : Fre mg) (C1 : MakeC P w K mg base "Rims" (He.ga K "Rims") 2 (relRimsI K)) (C2 : MakeC P w K mg base "Word" (He.ga K "Word") 5 relWordI) (F : FnP K "_law_made" (top 101) f fd) (gm : mg "_law_made" = some (.ref f)) : DefC P w K mg base "_law_made" 7 (relMade K) := by
  refine ⟨f, fd, ["_law_words"], def_g F sc__law_made (fun A r h => by cases h <;> rfl) (by decide) (fun cdv A outer s H E hr As r h => ?_), gm, F.kp, F.bindsN fun _ _ _ _ _ _ us hl => match us, hl with | [_], _ => rfl⟩
  cases h with
  | mk ws nx hc h =>
    refine sg_ret (eg_make C1 (ag_cons (eg_n (rs := ws.map (rWord K)) ?_) ag_nil) h (hr.mono (by decide))) rfl
    refine ng_lc (fa := rInts) (fb := rWord K) (l := ws) [("_law_word", 1)] (fun c => [.d (rL (ws.map rInts)), .d (rInts c)]) (fun _ => some true) wordH rfl sc__law_made.nd (ig_list (eg_name 0)) hc (blkOk_by (N := ["_law_words", "_law_word"]) (sc := defScope (top 101)) (by decide +kernel))
      (fun x s H C cl fp => kg_name 1 sc__law_made.nd) (fun x k s H C cl fp e => by cases e; exact ts_nil) (fun c y s H C cl fp _ e => ?_)
    obtain ⟨rfl, hw⟩ := wordH_rel e
    exact eg_make C2 (ag_cons (eg_name 1) ag_nil) hw hr

end
end Rf

namespace Rf
open PySem PySem.Spec PyProof.Rows L2
section
variable {X : Cx} {g : List Sl} {a : Expr} {p1 pos : Pos} {i : Int}
theorem eg_intI (hm : X.mg "int" = none) (ha : EG X a g (rInt i)) (hg : Gl X "int" := by rfl) (he : starEach [a] X.env = (false, eval a X.env) :: starEach [] X.env := by rfl) : EG X (.Call (.Name "int" p1) [a] [] pos) g (rInt i) :=
  eg_bt call_int1 hm boot_int (ag_cons ha ag_nil he) (fun vs H D Q s h k => by
    cases h with | cons h1 t => cases t; cases h1; exact .inl ⟨i, rfl, k.here s rfl⟩) hg (by decide) (by decide) he
end

section
variable {P : Program} {w : World} {K : PySem.W.Frag} {mg : Str → Option Value} {base : Heap} {f : Addr} {fd : FuncData}

inductive relLNexts : Rel
  | mk (ws : List (List Int)) (ns : List Int) (h : foldM nextsStep [] ws = some ns) : relLNexts [rL (ws.map rInts)] (rInts ns)

theorem sc__law_nexts : FnScope ["_law_words", "_law_found", "_law_word", "_law_first", "_law_at"] ["_law_words"] (defScope (top 100)) := ⟨rfl, rfl, rfl, by decide +kernel, rfl, by decide +kernel, by decide +kernel⟩
theorem c__law_nexts (T : Fre mg) (F : FnP K "_law_nexts" (top 100) f fd) (gm : mg "_law_nexts" = some (.ref f)) : DefC P w K mg base "_law_nexts" 1 relLNexts := by
  refine ⟨f, fd, ["_law_words"], def_g F sc__law_nexts (fun A r h => by cases h <;> rfl) (by decide) (fun cdv A outer s H E hr As r h => ?_), gm, F.kp, F.bindsN fun _ _ _ _ _ _ us hl => match us, hl with | [_], _ => rfl⟩
  cases h with
  | mk ws ns h =>
    refine sg_setV 1 (vg_l (ng_lst ag_nil)) sc__law_nexts.nd ?_
    refine sg_for (fa := rInts) (l := ws) (fun m : List Int => [.d (rL (ws.map rInts)), .l (m.map rInt), .non, .non, .non]) nextsStep (fun m x => [.d (rL (ws.map rInts)), .l (m.map rInt), .d (rInts x), .non, .non]) [2] (ig_list (eg_name 0)) h (Le.refl _) rfl
      (fun s x => kg_name 2 sc__law_nexts.nd) (fun s x s' _ e => ?_) (sg_le (Le.freeze 1 rfl rfl) (sg_ret (eg_name 1) rfl))
    unfold nextsStep at e
    by_cases hs : 0 < x.length ∧ x.length ≤ 100 ∧ s.length ≤ 1000
    · rw [if_pos hs] at e
      cases e
      refine sg_set 3 (eg_lenO 1 T.len) sc__law_nexts.nd ?_
      rw [List.length_map]
      refine sg_extend 1 rfl (eg_n (ng_lc (fa := rInt) (fb := rInt) (l := rangeI x.length) [("_law_at", 4)] (fun i => [.d (rL (ws.map rInts)), .l (s.map rInt), .d (rInts x), .d (rInt s.length), .d (rInt i)]) (fun _ => some true) (fun i => some ((s.length : Int) + (i + 1) % (x.length : Int))) rfl sc__law_nexts.nd (ig_range T.range (by omega) (eg_lenL1 T.len (eg_name 2))) (comp_all (by rw [rangeI_len]; omega)) (blkOk_by (N := ["_law_words", "_law_found", "_law_word", "_law_first", "_law_at"]) (sc := defScope (top 100)) (by decide +kernel))
        (fun x s H C cl fp => kg_name 4 sc__law_nexts.nd) (fun x k s H C cl fp e => by cases e; exact ts_nil) (fun i y s H C cl fp _ e => by cases e; exact eg_add (eg_name 3) (eg_mod (by omega) (eg_intI T.int (eg_add (eg_name 4) eg_int)) (eg_lenL1 T.len (eg_name 2)))))) ?_ (sg_nil ?_)
      · rw [List.length_map, List.length_map, List.length_map, rangeI_len]; omega
      · rw [List.map_append]
        exact (LeS.same (.same (.non (.non (.same .nil))))).go
    · rw [if_neg hs] at e; cases e

end
end Rf

namespace Rf
open PySem PySem.Spec PyProof.Rows L2
def firstAt (ws : List (List Int)) (i : Int) : Int := ((cutL ws none (some i)).map fun w => (w.length : Int)).sum
def firstsL (ws : List (List Int)) : List Int := (rangeI ws.length).map (firstAt ws)

section
variable {P : Program} {w : World} {K : PySem.W.Frag} {mg : Str → Option Value} {base : Heap} {f : Addr} {fd : FuncData}

inductive relLF : Rel
  | mk (lo ws : List (List Int)) (ns fo : List Int) (hz : ws.length ≤ 100) (h : foldM (foldsStep ws (firstsL ws)) [] (lo.zip ns) = some fo) : relLF [rL (lo.map rInts), rL (ws.map rInts), rInts ns] (rInts fo)

theorem sc__law_folded : FnScope ["_law_long", "_law_words", "_law_numbers", "_law_firsts", "_law_found", "_law_row", "_law_number", "_law_at", "_law_word"] ["_law_long", "_law_words", "_law_numbers"] (defScope (top 103)) := ⟨rfl, rfl, rfl, by decide +kernel, rfl, by decide +kernel, by decide +kernel⟩
theorem c__law_folded (T : Fre mg) (F : FnP K "_law_folded" (top 103) f fd) (gm : mg "_law_folded" = some (.ref f)) : DefC P w K mg base "_law_folded" 1 relLF := by
  refine ⟨f, fd, ["_law_long", "_law_words", "_law_numbers"], def_g F sc__law_folded (fun A r h => by cases h <;> rfl) (by decide) (fun cdv A outer s H E hr As r h => ?_), gm, F.kp, F.bindsN fun _ _ _ _ _ _ us hl => match us, hl with | [_, _, _], _ => rfl⟩
  cases h with
  | mk lo ws ns fo hz h =>
    refine sg_parC 3 4 (s := .d (rInts (firstsL ws))) (s2 := .l []) (vg_d (eg_n (rs := (firstsL ws).map rInt) ?_)) (vg_l (ng_lst ag_nil)) rfl sc__law_folded.nd ?_
    · refine ng_lc (fa := rInt) (fb := rInt) (l := rangeI ws.length) [("_law_at", 7)] (fun i => [.d (rL (lo.map rInts)), .d (rL (ws.map rInts)), .d (rInts ns), .non, .non, .non, .non, .d (rInt i), .non]) (fun _ => some true) (fun i => some (firstAt ws i)) rfl sc__law_folded.nd (ig_range T.range (by omega) (eg_lenL1 T.len (eg_name 1))) (comp_all (by rw [rangeI_len]; omega)) (blkOk_by (N := ["_law_long", "_law_words", "_law_numbers", "_law_firsts", "_law_found", "_law_row", "_law_number", "_law_at", "_law_word"]) (sc := defScope (top 103)) (by decide +kernel))
        (fun x s H C cl fp => kg_name 7 sc__law_folded.nd) (fun x k s H C cl fp e => by cases e; exact ts_nil) (fun i y s H C cl fp _ e => ?_)
      cases e
      exact eg_sum rfl T.sum (eg_n (ng_lc (fa := rInts) (fb := rInt) (l := cutL ws none (some i)) [("_law_word", 8)] (fun w => [.d (rL (lo.map rInts)), .d (rL (ws.map rInts)), .d (rInts ns), .non, .non, .non, .non, .d (rInt i), .d (rInts w)]) (fun _ => some true) (fun w => some (w.length : Int)) rfl sc__law_folded.nd (ig_list (eg_n (ng_slL1 (eg_name 1) og_none (og_some (eg_name 7))))) (comp_all (by have := cutL_len ws none (some i); omega)) (blkOk_by (N := ["_law_long", "_law_words", "_law_numbers", "_law_firsts", "_law_found", "_law_row", "_law_number", "_law_at", "_law_word"]) (sc := relS _ (defScope (top 103))) (by decide +kernel))
        (fun x s H C cl fp => kg_name 8 sc__law_folded.nd) (fun x k s H C cl fp e => by cases e; exact ts_nil) (fun w y s H C cl fp _ e => by cases e; exact eg_lenL1 T.len (eg_name 8))))
    refine sg_for (fa := fun z : List Int × Int => rT [rInts z.1, rInt z.2]) (l := lo.zip ns) (fun f : List Int => [.d (rL (lo.map rInts)), .d (rL (ws.map rInts)), .d (rInts ns), .d (rInts (firstsL ws)), .l (f.map rInt), .non, .non, .non, .non]) (foldsStep ws (firstsL ws)) (fun f z => [.d (rL (lo.map rInts)), .d (rL (ws.map rInts)), .d (rInts ns), .d (rInts (firstsL ws)), .l (f.map rInt), .d (rInts z.1), .d (rInt z.2), .non, .non]) [5, 6] (by rw [← zipR_map rInts rInt]; exact ig_zip false false T.zip (eg_name 0) (eg_name 2)) h (Le.refl _) rfl
      (fun s x => kg_pair 5 6 rfl sc__law_folded.nd) (fun t z s' _ e => ?_) (sg_le (Le.freeze 4 rfl rfl) (sg_ret (eg_name 4) rfl))
    obtain ⟨a, wd, h1, h2, c, rfl⟩ := foldsStep_is e
    refine sg_extend 4 rfl (eg_n (ng_lc (fa := rInt) (fb := rInt) (l := rangeI z.1.length) [("_law_at", 7)] (fun i => [.d (rL (lo.map rInts)), .d (rL (ws.map rInts)), .d (rInts ns), .d (rInts (firstsL ws)), .l (t.map rInt), .d (rInts z.1), .d (rInt z.2), .d (rInt i), .non]) (fun _ => some true) (fun i => some (a + i % (wd.length : Int))) rfl sc__law_folded.nd (ig_range T.range (by omega) (eg_lenL1 T.len (eg_name 5))) (comp_all (by rw [rangeI_len]; omega)) (blkOk_by (N := ["_law_long", "_law_words", "_law_numbers", "_law_firsts", "_law_found", "_law_row", "_law_number", "_law_at", "_law_word"]) (sc := defScope (top 103)) (by decide +kernel))
      (fun x s H C cl fp => kg_name 7 sc__law_folded.nd) (fun x k s H C cl fp e => by cases e; exact ts_nil) (fun i y s H C cl fp _ e => by cases e; exact eg_add (eg_ixL (fa := rInt) (eg_name 3) (eg_name 6) h1) (eg_mod (by omega) (eg_intI T.int (eg_name 7)) (eg_lenL1 T.len (eg_ixL (fa := rInts) (l := ws) (eg_name 1) (eg_name 6) h2)))))) ?_ (sg_nil ?_)
    · rw [List.length_map, List.length_map, List.length_map, rangeI_len]; omega
    · rw [List.map_append]
      exact (LeS.same (.same (.same (.same (.same (.non (.non (.same (.same .nil))))))))).go

end
end Rf

namespace Rf
open PySem PySem.Spec PyProof.Rows L2
/-! ### expressions that change own objects; the value is one of several -/
def tX (g : List Sl) (post : Rp → List Sl → Prop) : TE := fun σ H Q => ∃ F D0 D, Ok g F D0 σ H D ∧ ∀ r g' v H' D', post r g' → Ok g' F D0 σ H' D' → Same D D' → r.p D' v → Q v H'
abbrev XG (X : Cx) (e : Expr) (g : List Sl) (post : Rp → List Sl → Prop) : Prop := PE X e (tX g post)
def tXA (g : List Sl) (post : List Rp → List Sl → Prop) : TA := fun σ H Q => ∃ F D0 D, Ok g F D0 σ H D ∧ ∀ rs g' vs H' D', post rs g' → Ok g' F D0 σ H' D' → Same D D' → Reps D' rs vs → Q vs H'
abbrev XA (X : Cx) (es : List Expr) (g : List Sl) (post : List Rp → List Sl → Prop) : Prop := PA X es (tXA g post)
/-- .. a new list of one's own -/
def tXN (g : List Sl) (post : List Rp → List Sl → Prop) : TE := fun σ H Q => ∃ F D0 D, Ok g F D0 σ H D ∧ ∀ rs g' p vs H' D', post rs g' → Ok g' F D0 σ H' D' → Same D D' → H' p = none → Reps D' rs vs → Q (.ref p) (upd H' p (.lst vs))
abbrev XN (X : Cx) (e : Expr) (g : List Sl) (post : List Rp → List Sl → Prop) : Prop := PE X e (tXN g post)
def tXT (g : List Sl) (post : Bool → List Sl → Prop) : TT := fun σ H Q => ∃ F D0 D, Ok g F D0 σ H D ∧ ∀ b g' H' D', post b g' → Ok g' F D0 σ H' D' → Same D D' → Q b H'
abbrev XT (X : Cx) (e : Expr) (g : List Sl) (post : Bool → List Sl → Prop) : Prop := PT X e (tXT g post)
section
variable {X : Cx} {g g' : List Sl} {P : Pt} {a b c e o : Expr} {es : List Expr} {rest : List Stmt} {pos p1 p2 p3 p4 : Pos} {r ra rb : Rp} {rs rs' : List Rp} {x y f : Str} {k : Bool} {i j : Int} {post post' q1 : Rp → List Sl → Prop} {q2 : Rp → Rp → List Sl → Prop} {qa : List Rp → List Sl → Prop} {q3 : Rp → List Rp → List Sl → Prop}
theorem xg_eg (h : EG X e g r) : XG X e g (fun r' g' => r' = r ∧ g' = g) := pe_to h fun σ H Q ⟨F, D0, D, ok, k⟩ => ⟨F, D0, D, ok, fun v H' D' e hv => k r g v H' D' ⟨rfl, rfl⟩ (ok.grow e) e.d hv⟩
theorem xg_to (h : XG X e g post) (m : ∀ r g', post r g' → post' r g') : XG X e g post' := pe_to h fun σ H Q ⟨F, D0, D, ok, k⟩ => ⟨F, D0, D, ok, fun r g' v H' D' p => k r g' v H' D' (m _ _ p)⟩
theorem xa_ag (h : AG X es g rs) : XA X es g (fun r' g' => r' = rs ∧ g' = g) := pa_to h fun σ H Q ⟨F, D0, D, ok, k⟩ => ⟨F, D0, D, ok, fun vs H' D' e hv => k rs g vs H' D' ⟨rfl, rfl⟩ (ok.grow e) e.d hv⟩
theorem xa_to {qa' : List Rp → List Sl → Prop} (h : XA X es g qa) (m : ∀ r g', qa r g' → qa' r g') : XA X es g qa' := pa_to h fun σ H Q ⟨F, D0, D, ok, k⟩ => ⟨F, D0, D, ok, fun r g' v H' D' p => k r g' v H' D' (m _ _ p)⟩
theorem pe_some {q2 : Rp → List Sl → Rp → List Sl → Prop} (h : ∀ r g', q1 r g' → XG X b g' (q2 r g')) : PE X b (fun σ H Q => ∃ r g', q1 r g' ∧ tX g' (q2 r g') σ H Q) := ⟨fun pins s σ H Q I ⟨r, g', h1, h2⟩ => (h r g' h1).run pins s σ H Q I h2⟩
theorem pa_some (h : ∀ r g', q1 r g' → XA X es g' (q3 r)) : PA X es (fun σ H Q => ∃ r g', q1 r g' ∧ tXA g' (q3 r) σ H Q) := ⟨fun p pins s σ H Q I ⟨r, g', h1, h2⟩ => (h r g' h1).run p pins s σ H Q I h2⟩
theorem xa_cons (h : XG X e g q1) (h2 : ∀ r g', q1 r g' → XA X es g' (q3 r)) (hs : starEach (e :: es) X.env = (false, eval e X.env) :: starEach es X.env := by rfl) : XA X (e :: es) g (fun rs g2 => ∃ r rs' g1, rs = r :: rs' ∧ q1 r g1 ∧ q3 r rs' g2) :=
  pa_to (pa_cons h (pa_some h2) hs) fun σ H Q ⟨F, D0, D, ok, k⟩ => ⟨F, D0, D, ok, fun r g1 v H1 D1 h1 ok1 d1 hv => ⟨r, g1, h1, F, D0, D1, ok1, fun rs g2 vs H2 D2 h2 ok2 d2 hvs => k (r :: rs) g2 (v :: vs) H2 D2 ⟨r, rs, g1, rfl, h1, h2⟩ ok2 (d1.trans d2) (.cons (r.mono d2 hv) hvs)⟩⟩
theorem xa_one (h : XG X e g q1) (hs : starEach (e :: []) X.env = (false, eval e X.env) :: starEach [] X.env := by rfl) : XA X [e] g (fun rs g2 => ∃ r, rs = [r] ∧ q1 r g2) :=
  xa_to (xa_cons (q3 := fun r rs' g2 => rs' = [] ∧ q1 r g2) h (fun r g' h1 => xa_to (xa_ag ag_nil) fun rs g2 ⟨e1, e2⟩ => ⟨e1, e2 ▸ h1⟩) hs) fun rs g2 ⟨r, rs', g1, e1, h1, e2, h2⟩ => ⟨r, by rw [e1, e2], h2⟩
/-- two values, then what leaves the state as it is -/
theorem x_two {R : R2} {q2 : Rp → List Sl → Rp → List Sl → Prop} (hR : ∀ r1 g1 r2 g2, q1 r1 g1 → q2 r1 g1 r2 g2 → ∃ r, post r g2 ∧ ∀ x y H D Q, Same D H → r1.p D x → r2.p D y → Give r H D Q → R x y H Q) {σ : L2.St} {H : Hp} {Q : VK} (h : tX g post σ H Q) : tOp R (tX g q1) (fun σ H Q => ∃ r g', q1 r g' ∧ tX g' (q2 r g') σ H Q) σ H Q := by
  obtain ⟨F, D0, D, ok, k⟩ := h
  refine ⟨F, D0, D, ok, fun r1 g1 x H1 D1 h1 ok1 d1 hx => ⟨r1, g1, h1, F, D0, D1, ok1, fun r2 g2 y H2 D2 h2 ok2 d2 hy => ?_⟩⟩
  obtain ⟨r, hp, hr⟩ := hR _ _ _ _ h1 h2
  exact hr x y H2 D2 Q ok2.sub (r1.mono d2 hx) hy fun v H3 D3 e3 hv => k r g2 v H3 D3 hp (ok2.grow e3) ((d1.trans d2).trans e3.d) hv
theorem xg_op {op : Operator} {R : R2} {q2 : Rp → List Sl → Rp → List Sl → Prop} (ho : OpR X (binaryOp op) R) (ha : XG X a g q1) (hb : ∀ r g', q1 r g' → XG X b g' (q2 r g')) (hR : ∀ r1 g1 r2 g2, q1 r1 g1 → q2 r1 g1 r2 g2 → ∃ r, post r g2 ∧ ∀ x y H D Q, Same D H → r1.p D x → r2.p D y → Give r H D Q → R x y H Q) : XG X (.BinOp a op b pos) g post :=
  pe_to (pe_op ho ha (pe_some hb)) fun _ _ _ q => x_two hR q
theorem xt_cmp {op : CmpOp} {R : R2} {pt : Bool → List Sl → Prop} {q2 : Rp → List Sl → Rp → List Sl → Prop} (ho : OpR X (compareOp op) R) (ha : XG X a g q1) (hb : ∀ r g', q1 r g' → XG X b g' (q2 r g')) (hm : behindInMarks op b = false) (hR : ∀ r1 g1 r2 g2, q1 r1 g1 → q2 r1 g1 r2 g2 → ∃ k, pt k g2 ∧ ∀ x y H D Q, Same D H → r1.p D x → r2.p D y → Give (rBl k) H D Q → R x y H Q) : XT X (.Compare a [op] [b] pos) g pt :=
  pt_to (pt_cmpR ho ha (pe_some hb) hm) fun σ H Q ⟨F, D0, D, ok, k⟩ => by
    refine ⟨F, D0, D, ok, fun r1 g1 x H1 D1 h1 ok1 d1 hx => ⟨r1, g1, h1, F, D0, D1, ok1, fun r2 g2 y H2 D2 h2 ok2 d2 hy => ?_⟩⟩
    obtain ⟨kb, hp, hr⟩ := hR _ _ _ _ h1 h2
    exact hr x y H2 D2 _ ok2.sub (r1.mono d2 hx) hy fun v H3 D3 e3 hv => ⟨kb, hv, k kb g2 H3 D3 hp (ok2.grow e3) ((d1.trans d2).trans e3.d)⟩
theorem xt_not {pt : Bool → List Sl → Prop} (h : XT X a g pt) : XT X (.UnaryOp .Not a pos) g (fun k g' => pt (!k) g') := pt_to (pt_not h) fun σ H Q ⟨F, D0, D, ok, k⟩ => ⟨F, D0, D, ok, fun b g' H' D' hb ok' d => k (!b) g' H' D' (by show pt (!!b) g'; rw [Bool.not_not]; exact hb) ok' d⟩
theorem xt_val {pt : Bool → List Sl → Prop} (h : XG X e g q1) (hq : ∀ r g', q1 r g' → ∃ k, r = rBl k ∧ pt k g') (he : ∀ whole, isTrue e X.env whole = (do let v ← whole; standAt e.pos; holding [v] (truthy v)) := by intro _; rfl) : XT X e g pt := pt_to (pt_val h he) fun σ H Q ⟨F, D0, D, ok, k⟩ => ⟨F, D0, D, ok, fun r g' v H' D' hr ok' d hv => by
  obtain ⟨kb, rfl, hp⟩ := hq r g' hr
  exact ⟨kb, hv, k kb g' H' D' hp ok' d⟩⟩
/-! statements -/
theorem sg_setX (n : Nat) (he : XG X e g post) (nd : X.N.Nodup) (h : ∀ r g', post r g' → SG X rest (g'.set n (.d r)) P) (hN : X.N[n]? = some x := by rfl) (hx : Loc X.env.scope x := by first | exact Or.inl rfl | exact Or.inr rfl) (hs : swapsWith e (some (.Name x p1)) pos.line X.env = pure false := by rfl)
    (hf : X.fn x = true ∨ X.env.scope.names.lookup x = some .local := by first | exact .inl rfl | exact .inr rfl) : SG X (.Assign [.Name x p1] e pos :: rest) g P :=
  sg_cons (N := fun q => ∃ r g', post r g' ∧ q = g'.set n (.d r)) (ps_to (ps_set nd hN hx he hs hf) fun E σ H ⟨F, D0, D, ok, p⟩ => ⟨F, D0, D, ok, fun r g' v H' D' h1 ok' d hv => p.nx _ _ _ D' ⟨r, g', h1, rfl⟩ (ok'.setD hv)⟩) fun q ⟨r, g', h1, e⟩ => e ▸ h r g' h1
theorem sg_setXN (n : Nat) (he : XN X e g qa) (nd : X.N.Nodup) (h : ∀ rs g', qa rs g' → SG X rest (g'.set n (.l rs)) P) (hN : X.N[n]? = some x := by rfl) (hx : Loc X.env.scope x := by first | exact Or.inl rfl | exact Or.inr rfl) (hs : swapsWith e (some (.Name x p1)) pos.line X.env = pure false := by rfl)
    (hf : X.fn x = true ∨ X.env.scope.names.lookup x = some .local := by first | exact .inl rfl | exact .inr rfl) : SG X (.Assign [.Name x p1] e pos :: rest) g P :=
  sg_cons (N := fun q => ∃ rs g', qa rs g' ∧ q = g'.set n (.l rs)) (ps_to (ps_set nd hN hx he hs hf) fun E σ H ⟨F, D0, D, ok, p⟩ => ⟨F, D0, D, ok, fun rs g' q vs H' D' h1 ok' d nn hv => p.nx _ _ _ D' ⟨rs, g', h1, rfl⟩ (ok'.setNew nn rfl hv)⟩) fun q ⟨r, g', h1, e⟩ => e ▸ h r g' h1
theorem sg_retX (he : XG X e g post) (hP : ∀ r g', post r g' → P.rx r g') : SG X (.Return (some e) pos :: rest) g P :=
  sg_cons (N := fun _ => False) (ps_to (ps_ret he) fun E σ H ⟨F, D0, D, ok, p⟩ => ⟨F, D0, D, ok, fun r g' v H' D' h1 ok' d hv => p.rx r g' v σ H' D' (hP r g' h1) ok' hv⟩) fun _ q => q.elim
theorem sg_exprX (he : XG X e g post) (h : ∀ r g', post r g' → SG X rest g' P) (hs : swapsWith e none pos.line X.env = pure false := by rfl) : SG X (.Expr e pos :: rest) g P :=
  sg_cons (N := fun q => ∃ r, post r q) (ps_to (ps_expr he hs) fun E σ H ⟨F, D0, D, ok, p⟩ => ⟨F, D0, D, ok, fun r g' v H' D' h1 ok' d hv => p.nx g' _ _ D' ⟨r, h1⟩ ok'⟩) fun q ⟨r, h1⟩ => h r q h1
theorem sg_unpX (n m : Nat) {u} (ha : XG X e g post) (hp : ∀ r g', post r g' → ∃ ra rb, r = rT [ra, rb]) (hc : X.calm = true) (nd : X.N.Nodup) (h : ∀ ra rb g', post (rT [ra, rb]) g' → SG X rest ((g'.set n (.d ra)).set m (.d rb)) P) (hN : X.N[n]? = some x := by rfl) (hN2 : X.N[m]? = some y := by rfl)
    (hx : Loc X.env.scope x := by first | exact Or.inl rfl | exact Or.inr rfl) (hy : Loc X.env.scope y := by first | exact Or.inl rfl | exact Or.inr rfl) (hf : X.fn x = true ∨ X.env.scope.names.lookup x = some .local := by first | exact .inl rfl | exact .inr rfl)
    (hf2 : X.fn y = true ∨ X.env.scope.names.lookup y = some .local := by first | exact .inl rfl | exact .inr rfl) (hw : swappedStores [.Tuple [.Name x p1, .Name y p2] u p3] e X.env = pure none := by rfl)
    (hs : swapsWithSole [.Tuple [.Name x p1, .Name y p2] u p3] e pos.line X.env = pure false := by rfl) : SG X (.Assign [.Tuple [.Name x p1, .Name y p2] u p3] e pos :: rest) g P := by
  have gT : PG X (.Tuple [.Name x p1, .Name y p2] u p3) fun v σ H Q => ∃ ra rb g', tgG (rT [ra, rb]) g' ((g'.set n (.d ra)).set m (.d rb)) [n, m] v σ H Q := ⟨fun pins s σ H v w Q I rv ⟨ra, rb, g', q⟩ => (kg_pair (g := g') (r1 := ra) (r2 := rb) n m hc nd hN hx hf hN2 hy hf2).run pins s σ H v w Q I rv q⟩
  refine sg_cons (N := fun q => ∃ ra rb g', post (rT [ra, rb]) g' ∧ q = (g'.set n (.d ra)).set m (.d rb)) (ps_to (ps_asg ha gT hs hw) fun E σ H ⟨F, D0, D, ok, p⟩ => ⟨F, D0, D, ok, fun r g' v H' D' h1 ok' d hv => ?_⟩) fun q ⟨ra, rb, g', h1, e⟩ => e ▸ h ra rb g' h1
  obtain ⟨ra, rb, rfl⟩ := hp r g' h1
  exact ⟨ra, rb, g', F, D0, D', ok', hv, fun σ' _ ok2 => p.nx _ _ _ D' ⟨ra, rb, g', h1, rfl⟩ ok2⟩
theorem sg_ifXF {A : List Stmt} {pt : Bool → List Sl → Prop} (hc : XT X c g pt) (hk : ∀ b g', pt b g' → b = false) (h : ∀ g', pt false g' → SG X rest g' P) : SG X (.If c A [] pos :: rest) g P :=
  sg_cons (N := fun q => pt false q) (ps_to (ps_if hc pss_never pss_nil) fun E σ H ⟨F, D0, D, ok, p⟩ => ⟨F, D0, D, ok, fun b g' H' D' h1 ok' d => by
    have e := hk b g' h1
    subst e
    exact iteF (p.nx g' σ H' D' h1 ok')⟩) fun q h1 => h q h1
/-! lists of one's own -/
theorem ng_xn (h : NG X e g rs) : XN X e g (fun r' g' => r' = rs ∧ g' = g) := pe_to h fun σ H Q ⟨F, D0, D, ok, k⟩ => ⟨F, D0, D, ok, fun p vs H' D' e n hv => k rs g p vs H' D' ⟨rfl, rfl⟩ (ok.grow e) e.d n hv⟩
theorem xn_lst (h : XA X es g qa) (hz : ∀ rs g', qa rs g' → rs.length ≤ 1000) : XN X (.List es pos) g qa := pe_to (pe_lst h) fun σ H Q ⟨F, D0, D, ok, k⟩ => ⟨F, D0, D, ok, fun rs g' vs H' D' h1 ok' d hvs =>
  ⟨by rw [← hvs.length]; exact Nat.le_trans (hz _ _ h1) (by decide), fun p n => k rs g' p vs H' D' h1 ok' d n hvs⟩⟩
theorem sg_appendX (n : Nat) (hg : g[n]? = some (.l rs)) (he : XG X e g post) (h : ∀ r g', post r g' → ∃ rs', g'[n]? = some (.l rs') ∧ rs'.length ≤ 100000 ∧ SG X rest (g'.set n (.l (rs' ++ [r]))) P) (hN : X.N[n]? = some x := by rfl) (hv : Vis X.env.scope x := by first | exact Or.inl rfl | exact Or.inr (Or.inl rfl) | exact Or.inr (Or.inr rfl))
    (hd : (x == ("__debug__" : Str)) = false := by decide) (hcd : (x == ("__classdict__" : Str)) = false := by decide) (hbase : attributeBase (.Name x p1) "append" X.env (eval (.Name x p1) X.env) = eval (.Name x p1) X.env := by rfl)
    (hfew : ((backTo p3 (starEach (e :: []) X.env)).all (fun x => !x.1) && (backToKw p3 (keywordEach [] X.env)).all (fun x => x.1.isSome) && decide ((e :: []).length + ([] : List Keyword).length + (if ([] : List Keyword).isEmpty then 0 else 1) < 30)) = true := by rfl)
    (hline : (p2.endLine == p3.line) = true := by rfl) (hss : starEach (e :: []) X.env = (false, eval e X.env) :: starEach [] X.env := by rfl) (hplain : (backTo p3 (starEach [] X.env)).any (·.1) = false := by rfl)
    (hs : swapsWith (.Call (.Attribute (.Name x p1) "append" p2) [e] [] p3) none p4.line X.env = pure false := by rfl) : SG X (.Expr (.Call (.Attribute (.Name x p1) "append" p2) [e] [] p3) p4 :: rest) g P :=
  sg_cons (N := fun q => ∃ r g' rs', post r g' ∧ g'[n]? = some (.l rs') ∧ q = g'.set n (.l (rs' ++ [r]))) (ps_to (ps_expr (pe_bm PySem.F.plainAttrs_list PySem.F.slot_list_append PySem.F.type_list_append mt_append (pe_var hN hv hd hcd) (pa_cons he pa_nil hss) hbase hfew hline hss hplain) hs) fun E σ H ⟨F, D0, D, ok, p⟩ => by
    obtain ⟨q, o, h1, h2, h3, h4, h5⟩ := ok.own n _ hg rfl
    cases o with
    | lst vs0 =>
      refine ⟨.ref q, h1, .inl ⟨rfl, _, SqL.of h2⟩, F, D0, D, ok, fun r g' v H1 D1 hp ok1 d1 hv => ?_⟩
      obtain ⟨rs', hg', hz, _⟩ := h r g' hp
      obtain ⟨q', o', w1, w2, w3, w4, w5⟩ := ok1.own n _ hg' rfl
      rw [h1] at w1; cases w1
      cases o' with
      | lst vs =>
        refine ⟨q, vs, v, rfl, rfl, w2, by rw [sizeLine_eq, ← Reps.length w5]; omega, ?_⟩
        exact p.nx _ _ _ D1 ⟨r, g', rs', hp, hg', rfl⟩ (ok1.change hg' rfl h1 rfl (show Sl.ho D1 (.l (rs' ++ [r])) q (.lst (vs ++ [v])) from reps_app w5 (.cons hv .nil)))
      | _ => exact w5.elim
    | _ => exact h5.elim) fun q ⟨r, g', rs', hp, hg', e⟩ => by
      obtain ⟨rs2, hg2, _, hh⟩ := h r g' hp
      rw [hg'] at hg2; cases hg2
      exact e ▸ hh
/-- xs.pop(e), xs the def's own -/
theorem xg_pop (n : Nat) (hg : g[n]? = some (.l rs)) (he : XG X e g q1) (h : ∀ r g', q1 r g' → ∃ i rs', r = rInt i ∧ g'[n]? = some (.l rs') ∧ 0 ≤ i ∧ i < rs'.length ∧ rs'.length ≤ 100000) (hN : X.N[n]? = some x := by rfl) (hv : Vis X.env.scope x := by first | exact Or.inl rfl | exact Or.inr (Or.inl rfl) | exact Or.inr (Or.inr rfl))
    (hd : (x == ("__debug__" : Str)) = false := by decide) (hcd : (x == ("__classdict__" : Str)) = false := by decide) (hbase : attributeBase (.Name x p1) "pop" X.env (eval (.Name x p1) X.env) = eval (.Name x p1) X.env := by rfl)
    (hfew : ((backTo p3 (starEach (e :: []) X.env)).all (fun x => !x.1) && (backToKw p3 (keywordEach [] X.env)).all (fun x => x.1.isSome) && decide ((e :: []).length + ([] : List Keyword).length + (if ([] : List Keyword).isEmpty then 0 else 1) < 30)) = true := by rfl)
    (hline : (p2.endLine == p3.line) = true := by rfl) (hss : starEach (e :: []) X.env = (false, eval e X.env) :: starEach [] X.env := by rfl) (hplain : (backTo p3 (starEach [] X.env)).any (·.1) = false := by rfl) :
    XG X (.Call (.Attribute (.Name x p1) "pop" p2) [e] [] p3) g (fun r g2 => ∃ k rs' g1, q1 (rInt (k : Nat)) g1 ∧ g1[n]? = some (.l rs') ∧ rs'[k]? = some r ∧ g2 = g1.set n (.l (rs'.eraseIdx k))) :=
  pe_to (pe_bm PySem.F.plainAttrs_list PySem.F.slot_list_pop PySem.F.type_list_pop mt_popAt (pe_var hN hv hd hcd) (pa_cons he pa_nil hss) hbase hfew hline hss hplain) fun σ H Q ⟨F, D0, D, ok, kk⟩ => by
    obtain ⟨q, o, h1, h2, h3, h4, h5⟩ := ok.own n _ hg rfl
    cases o with
    | lst vs0 =>
      refine ⟨.ref q, h1, .inl ⟨rfl, _, SqL.of h2⟩, F, D0, D, ok, fun r1 g1 v H1 D1 hp ok1 d1 hv => ?_⟩
      obtain ⟨i, rs', rfl, hg', i0, i1, hz⟩ := h r1 g1 hp
      obtain ⟨m, rfl⟩ : ∃ m : Nat, i = (m : Int) := ⟨i.toNat, by omega⟩
      obtain ⟨q', o', w1, w2, w3, w4, w5⟩ := ok1.own n _ hg' rfl
      rw [h1] at w1; cases w1
      have hv : v = .int (m : Int) := hv
      subst hv
      cases o' with
      | lst vs =>
        have hm : m < rs'.length := by omega
        have hr : rs'[m]? = some rs'[m] := List.getElem?_eq_getElem hm
        obtain ⟨y, hy, ry⟩ := reps_get w5 hr
        have hl := w5.length
        refine ⟨q, vs, (m : Int), m, y, rfl, rfl, w2, by omega, by omega, ?_, hy, ?_⟩
        · unfold seqIndex?
          simp only []
          split <;> first | omega | (simp; omega) | (split <;> first | omega | (simp; omega) | simp_all)
        · exact kk rs'[m] _ y _ D1 ⟨m, rs', g1, hp, hg', hr, rfl⟩ (ok1.change hg' rfl h1 rfl (show Sl.ho D1 (.l (rs'.eraseIdx m)) q (.lst (vs.eraseIdx m)) from reps_erase m w5)) d1 ry
      | _ => exact w5.elim
    | _ => exact h5.elim
/-- xs.remove(e), xs the def's own -/
theorem sg_remove (n : Nat) {ns : List Int} {t : Nat} (hg : g[n]? = some (.l (ns.map rInt))) (he : EG X e g (rInt i)) (hj : ns[t]? = some i) (hno : ∀ m : Nat, m < t → ns[m]? ≠ some i) (h : SG X rest (g.set n (.l ((ns.eraseIdx t).map rInt))) P) (hN : X.N[n]? = some x := by rfl) (hv : Vis X.env.scope x := by first | exact Or.inl rfl | exact Or.inr (Or.inl rfl) | exact Or.inr (Or.inr rfl))
    (hd : (x == ("__debug__" : Str)) = false := by decide) (hcd : (x == ("__classdict__" : Str)) = false := by decide) (hbase : attributeBase (.Name x p1) "remove" X.env (eval (.Name x p1) X.env) = eval (.Name x p1) X.env := by rfl)
    (hfew : ((backTo p3 (starEach (e :: []) X.env)).all (fun x => !x.1) && (backToKw p3 (keywordEach [] X.env)).all (fun x => x.1.isSome) && decide ((e :: []).length + ([] : List Keyword).length + (if ([] : List Keyword).isEmpty then 0 else 1) < 30)) = true := by rfl)
    (hline : (p2.endLine == p3.line) = true := by rfl) (hss : starEach (e :: []) X.env = (false, eval e X.env) :: starEach [] X.env := by rfl) (hplain : (backTo p3 (starEach [] X.env)).any (·.1) = false := by rfl)
    (hs : swapsWith (.Call (.Attribute (.Name x p1) "remove" p2) [e] [] p3) none p4.line X.env = pure false := by rfl) : SG X (.Expr (.Call (.Attribute (.Name x p1) "remove" p2) [e] [] p3) p4 :: rest) g P :=
  sg_cons (N := fun q => q = g.set n (.l ((ns.eraseIdx t).map rInt))) (ps_to (ps_expr (pe_bm PySem.F.plainAttrs_list PySem.F.slot_list_remove PySem.F.type_list_remove mt_remove (pe_var hN hv hd hcd) (pa_cons he pa_nil hss) hbase hfew hline hss hplain) hs) fun E σ H ⟨F, D0, D, ok, p⟩ => by
    obtain ⟨q, o, h1, h2, h3, h4, h5⟩ := ok.own n _ hg rfl
    cases o with
    | lst vs =>
      have ev := reps_ints h5
      subst ev
      refine ⟨.ref q, h1, .inl ⟨rfl, _, SqL.of h2⟩, F, D0, D, ok, fun v H1 D1 e1 hv => ?_⟩
      have hv : v = .int i := hv
      subst hv
      refine ⟨q, ns, i, t, rfl, rfl, e1.h _ _ h2, hj, hno, ?_⟩
      exact p.nx _ _ _ D1 rfl ((ok.grow e1).change hg rfl h1 rfl (show Sl.ho D1 (.l ((ns.eraseIdx t).map rInt)) q (.lst ((ns.eraseIdx t).map V.int)) from reps_ofI _))
    | _ => exact h5.elim) fun _ q => q ▸ h
end
end Rf

namespace Rf
open PySem PySem.Spec PyProof.Rows L2
/-! ### loops whose turns have several outcomes -/
section
variable {X : Cx} {g g' : List Sl} {P : Pt} {a b c e o : Expr} {es : List Expr} {rest : List Stmt} {pos p1 p2 p3 p4 : Pos} {r ra rb : Rp} {rs rs' : List Rp} {x y f : Str} {k : Bool} {i j : Int} {α S : Type} {fa : α → Rp} {l : List α}
theorem sg_forN (I : Nat → S → Prop) (st : S → List Sl) (tgt : S → α → List Sl) (vs : List Nat) {tg it : Expr} {body : List Stmt} (s0 : S) (hi : IG X tg it g (l.map fa)) (h0 : I 0 s0) (hl0 : Le g (st s0)) (hc : X.calm = true)
    (ht : ∀ s x, KG X tg (fa x) (st s) (tgt s x) vs) (hb : ∀ i s x, l[i]? = some x → I i s → SG X body (tgt s x) { nx := fun q => ∃ s', I (i + 1) s' ∧ Le q (st s'), ct := fun q => ∃ s', I (i + 1) s' ∧ Le q (st s'), rt := P.rt, rx := P.rx }) (h : ∀ s, I l.length s → SG X rest (st s) P)
    (hp : PassesOwn (model X.prog X.w) X.A X.env X.xe := by exact PassesOwn.never) (hs : ∀ x, foldedSetIterable it X.env x = pure x := by intro _; rfl) : SG X (.For tg it body [] pos :: rest) g P := by
  have gT : PG X tg fun v σ H Q => ∃ s x, tgG (fa x) (st s) (tgt s x) vs v σ H Q := ⟨fun pins s σ H v u Q J rv ⟨s', x, q⟩ => (ht s' x).run pins s σ H v u Q J rv q⟩
  have bT : PSs X body fun E σ H => ∃ i s x, l[i]? = some x ∧ I i s ∧ tS (tgt s x) { nx := fun q => ∃ s', I (i + 1) s' ∧ Le q (st s'), ct := fun q => ∃ s', I (i + 1) s' ∧ Le q (st s'), rt := P.rt, rx := P.rx } E σ H := ⟨fun pins s σ H E J ⟨i, s1, x, m, e, q⟩ => (hb i s1 x m e).run pins s σ H E J q⟩
  refine sg_cons (N := fun q => ∃ s, I l.length s ∧ Le q (st s)) (ps_to (ps_for hp hc hi gT bT hs) fun E σ H ⟨F, D0, D, ok, p⟩ => ?_) fun _ ⟨s, hs, q⟩ => sg_le q (h s hs)
  refine ⟨F, D0, D, ok, fun J H1 D1 e hw => ?_⟩
  obtain ⟨D2, s2, ok2⟩ := hl0 _ _ _ _ _ (ok.grow e)
  refine ⟨fun i m σ H => m = l.length - i ∧ i ≤ l.length ∧ ∃ s D, Same D1 D ∧ I i s ∧ Ok (st s) F D0 σ H D, ⟨l.length, by simp, Nat.zero_le _, s0, D2, s2, h0, ok2⟩, ?_⟩
  rintro i m σ' H' ⟨rfl, hi, s, D', sD, hI, ok'⟩
  have w := hw i H' D' sD ok'.sub
  by_cases hlt : i < l.length
  · have hx : l[i]? = some l[i] := List.getElem?_eq_getElem hlt
    obtain ⟨hgo, hy⟩ := w.1 (fa l[i]) (by rw [List.getElem?_map, hx]; rfl)
    refine .inr ⟨hgo, fun σ2 H2 => ∃ s' D2, Same D1 D2 ∧ I (i + 1) s' ∧ Ok (st s') F D0 σ2 H2 D2, fun σ2 H2 ⟨s', D2, a1, z, a2⟩ => ⟨l.length - (i + 1), by omega, rfl, hlt, s', D2, a1, z, a2⟩, fun x H2 yx => ?_⟩
    obtain ⟨D3, g3, r3⟩ := hy x H2 yx
    have ok3 := ok'.grow g3
    refine ⟨s, l[i], F, D0, D3, ok3, r3, fun σ4 _ ok4 => ?_⟩
    refine ⟨i, s, l[i], hx, hI, F, D3, D3, ok4.rebase, ⟨fun g' σ5 H5 D5 ⟨s', hs', le5⟩ ok5 => ?_, fun _ _ _ _ q _ => q.elim, fun g' σ5 H5 D5 ⟨s', hs', le5⟩ ok5 => ?_, fun r v H5 q hr => p.rt r v H5 q (Rets.unbase ok4 hr), fun r g' v σ5 H5 D5 q ok5 hv => p.rx r g' v σ5 H5 D5 q (ok4.unbase ok5) hv⟩⟩
    · obtain ⟨D6, s6, ok6⟩ := le5 _ _ _ _ _ ok5
      exact ⟨s', D6, (sD.trans g3.d).trans (ok5.d0.trans s6), hs', ok4.unbase ok6⟩
    · obtain ⟨D6, s6, ok6⟩ := le5 _ _ _ _ _ ok5
      exact ⟨s', D6, (sD.trans g3.d).trans (ok5.d0.trans s6), hs', ok4.unbase ok6⟩
  · have e1 : i = l.length := by omega
    subst e1
    exact .inl ⟨w.2 (by rw [List.length_map]), p.nx _ σ' H' D' ⟨s, hI, Le.refl _⟩ ok'⟩
theorem sg_whileN (I : S → Prop) (m : S → Nat) (st : S → List Sl) (cond : S → Bool) {body : List Stmt} (s0 : S) (h0 : I s0) (hl0 : Le g (st s0)) (hc : ∀ s, I s → BG X c (st s) (cond s))
    (hb : ∀ s, I s → cond s = true → SG X body (st s) { nx := fun q => ∃ s', I s' ∧ m s' < m s ∧ Le q (st s'), ct := fun q => ∃ s', I s' ∧ m s' < m s ∧ Le q (st s'), rt := P.rt, rx := P.rx }) (h : ∀ s, I s → cond s = false → SG X rest (st s) P)
    (hp : PassesOwn (model X.prog X.w) X.A X.env X.xe := by exact PassesOwn.never) : SG X (.While c body [] pos :: rest) g P := by
  have cT : PT X c fun σ H Q => ∃ s, I s ∧ tT (st s) (cond s) σ H Q := ⟨fun pins s σ H Q J ⟨s', e, q⟩ => (hc s' e).run pins s σ H Q J q⟩
  have bT : PSs X body fun E σ H => ∃ s, I s ∧ cond s = true ∧ tS (st s) { nx := fun q => ∃ s', I s' ∧ m s' < m s ∧ Le q (st s'), ct := fun q => ∃ s', I s' ∧ m s' < m s ∧ Le q (st s'), rt := P.rt, rx := P.rx } E σ H := ⟨fun pins s σ H E J ⟨s1, i1, e, q⟩ => (hb s1 i1 e).run pins s σ H E J q⟩
  refine sg_cons (N := fun q => ∃ s, I s ∧ cond s = false ∧ Le q (st s)) (ps_to (ps_while hp cT bT) fun E σ H ⟨F, D0, D, ok, p⟩ => ?_) fun _ ⟨s, i1, e, q⟩ => sg_le q (h s i1 e)
  obtain ⟨D2, s2, ok2⟩ := hl0 _ _ _ _ _ ok
  refine ⟨fun n σ H => ∃ s D, n = m s ∧ I s ∧ Ok (st s) F D0 σ H D, ⟨m s0, s0, D2, rfl, h0, ok2⟩, ?_⟩
  rintro n σ' H' ⟨s, D', hn, hI, ok'⟩
  refine ⟨s, hI, F, D0, D', ok', fun H3 D3 e3 => ?_⟩
  cases hk : cond s with
  | false => exact iteF (p.nx _ σ' H3 D3 ⟨s, hI, hk, Le.refl _⟩ (ok'.grow e3))
  | true =>
    have ok3 := ok'.grow e3
    refine iteT ⟨fun σ4 H4 => ∃ s' D4, m s' < m s ∧ I s' ∧ Ok (st s') F D0 σ4 H4 D4, fun σ4 H4 ⟨s', D4, z, i4, ok4⟩ => ⟨m s', by omega, s', D4, rfl, i4, ok4⟩, s, hI, hk, F, D3, D3, ok3.rebase, ⟨fun g' σ5 H5 D5 ⟨s', i5, lt5, le5⟩ ok5 => ?_, fun _ _ _ _ q _ => q.elim, fun g' σ5 H5 D5 ⟨s', i5, lt5, le5⟩ ok5 => ?_, fun r v H5 q hr => p.rt r v H5 q (Rets.unbase ok3 hr), fun r g' v σ5 H5 D5 q ok5 hv => p.rx r g' v σ5 H5 D5 q (ok3.unbase ok5) hv⟩⟩
    · obtain ⟨D6, s6, ok6⟩ := le5 _ _ _ _ _ ok5
      exact ⟨s', D6, lt5, i5, ok3.unbase ok6⟩
    · obtain ⟨D6, s6, ok6⟩ := le5 _ _ _ _ _ ok5
      exact ⟨s', D6, lt5, i5, ok3.unbase ok6⟩
end
/-! ### the jar: a list that is handed on and changed by whom it is handed to -/
def rUp (n : Nat) : Rp := ⟨fun _ v => ∃ t : Int, v = .int t ∧ 0 ≤ t ∧ t ≤ n, fun _ h => h⟩
def rPos : Rp := ⟨fun _ v => ∃ t : Int, v = .int t ∧ 0 ≤ t, fun _ h => h⟩
abbrev jarR (cs : List Int) (n : Nat) : List Rp := [rInts cs, rUp n, rPos]
abbrev jar (p : Addr) (cs : List Int) (n : Nat) : Sl := .j p (jarR cs n)
theorem Le.weakJ {g : List Sl} (i : Nat) {pj : Addr} {rs rs' : List Rp} (hg : g[i]? = some (.j pj rs)) (h : ∀ D vs, Reps D rs vs → Reps D rs' vs) : Le g (g.set i (.j pj rs')) := fun F D0 σ H D ok => by
  obtain ⟨p, o, a, b, c, d, f⟩ := ok.own i _ hg rfl
  cases o with
  | lst vs =>
    have z := ok.change (s' := .j pj rs') (o := .lst vs) hg rfl a rfl ⟨f.1, h D vs f.2⟩
    have e : upd H p (.lst vs) = H := by
      funext q
      by_cases hq : q = p
      · subst hq; rw [upd_same]; exact b.symm
      · rw [upd_ne hq]
    rw [e] at z
    exact ⟨D, Same.refl _, z⟩
  | _ => exact f.elim
theorem jar_up {D : Hp} {cs : List Int} {n m : Nat} (h : n ≤ m) {vs : List V} (q : Reps D (jarR cs n) vs) : Reps D (jarR cs m) vs := by
  cases q with
  | cons a t => cases t with
    | cons b t => obtain ⟨t0, e, h1, h2⟩ := b; exact .cons a (.cons ⟨t0, e, h1, by omega⟩ t)
/-- an own object of the def's is changed by whom it is handed to -/
theorem Ok.into {g : List Sl} {F D0 : Hp} {σ : L2.St} {H D H' D' : Hp} {i : Nat} {s s' : Sl} {p : Addr} {o' : HO} (ok : Ok g F D0 σ H D) (hg : g[i]? = some s) (hs : s.own = true) (hp : σ[i]? = some (some (.ref p))) (h1 : ∀ a o, a ≠ p → H a = some o → H' a = some o) (h2 : H' p = some o') (hs' : s'.own = true) (hho : s'.ho D' p o')
    (dd : Same D D') (dh : Same D' H') (dp : D' p = none) (nw : ∀ a, D' a ≠ none → D a ≠ none ∨ Free H a) : Ok (g.set i s') F D0 σ H' D' := by
  obtain ⟨q, o, a, b, c, d, f⟩ := ok.own i s hg hs
  rw [hp] at a; cases a
  have gr : Grow H D (upd H' p o) D' := ⟨fun a u e => by
      by_cases ha : a = p
      · subst ha; rw [upd_same, ← e, b]
      · rw [upd_ne ha]; exact h1 a u ha e, dd, fun a u e => by
      have ha : a ≠ p := fun z => by rw [z, dp] at e; cases e
      rw [upd_ne ha]; exact dh a u e, nw⟩
  have z := (ok.grow gr).change (s' := s') (o := o') hg hs hp hs' hho
  have e : upd (upd H' p o) p o' = H' := by
    funext q
    by_cases hq : q = p
    · subst hq; rw [upd_same]; exact h2.symm
    · rw [upd_ne hq, upd_ne hq]
  rw [e] at z
  exact z
/-- others' arguments, how many dips at most, what may come of it -/
abbrev RelJ := List Rp → Nat → (Rp → Prop) → Prop
def SpJ (rel : RelJ) : Sp := fun vs H Q _ => ∃ p jv cs n A k S D args, vs = .ref p :: args ∧ H p = some (.lst jv) ∧ Reps D (jarR cs n) jv ∧ rel A k S ∧ n + k ≤ 1000 ∧ Same D H ∧ D p = none ∧ Reps D A args ∧
  ∀ r v H' D' jv', S r → (∀ a o, a ≠ p → H a = some o → H' a = some o) → H' p = some (.lst jv') → Reps D' (jarR cs (n + k)) jv' → Same D D' → Same D' H' → D' p = none → (∀ a, D' a ≠ none → D a ≠ none ∨ Free H a) → r.p D' v → Q v H'
structure JarC (P : Program) (w : World) (K : PySem.W.Frag) (mg : Str → Option Value) (base : Heap) (name : Str) (k : Nat) (rel : RelJ) : Prop where
  ex : ∃ f fd ps, FnOk P w K mg base CX0 k f fd ps (SpJ rel) ∧ mg name = some (.ref f) ∧ PySem.W.keepIn K (.ref f) = true ∧ Binds K fd ps []
section
variable {X : Cx} {g g' : List Sl} {P : Pt} {a b c e o : Expr} {es : List Expr} {rest : List Stmt} {pos p1 p2 p3 p4 : Pos} {r ra rb : Rp} {rs A : List Rp} {x y f : Str} {lv k n : Nat} {rel : RelJ} {cs : List Int} {S : Rp → Prop}
/-- x(jar, ..) -/
theorem xg_jar (i : Nat) (F : JarC X.prog X.w X.K X.mg X.base x lv rel) {pj : Addr} (hg0 : g[i]? = some (jar pj cs n)) (ha : AG X es g A) (h : rel A k S) (hn : n + k ≤ 1000) (hr : Room lv X.A) (hg : Gl X x := by rfl) (hN : X.N[i]? = some y := by rfl) (hv : Vis X.env.scope y := by first | exact Or.inl rfl | exact Or.inr (Or.inl rfl) | exact Or.inr (Or.inr rfl))
    (hdb : (x == ("__debug__" : Str)) = false := by decide) (hd : (y == ("__debug__" : Str)) = false := by decide) (hcd : (y == ("__classdict__" : Str)) = false := by decide)
    (he : starEach (.Name y p2 :: es) X.env = (false, eval (.Name y p2) X.env) :: starEach es X.env := by rfl) (hpl : (backTo pos (starEach es X.env)).any (·.1) = false := by rfl) :
    XG X (.Call (.Name x p1) (.Name y p2 :: es) [] pos) g (fun r g' => S r ∧ g' = g.set i (jar pj cs (n + k))) := by
  obtain ⟨f, fd, ps, F, m, kp, b⟩ := F.ex
  refine pe_to (pe_call F hr hg m kp b .nil pass0 (pa_cons (pe_var hN hv hd hcd) ha he) hdb he hpl) fun σ H Q ⟨F, D0, D, ok, kk⟩ => ?_
  obtain ⟨p, o, h1, h2, h3, h4, h5⟩ := ok.own i _ hg0 rfl
  refine ⟨.ref p, h1, F, D0, D, ok, fun vs H' D' e hvs => ?_⟩
  have ok' := ok.grow e
  obtain ⟨p', o', w1, w2, w3, w4, w5⟩ := ok'.own i _ hg0 rfl
  rw [h1] at w1; cases w1
  cases o' with
  | lst jv =>
    obtain ⟨w5, w6⟩ := w5
    show SpJ rel (.ref p :: vs ++ []) H' Q E0
    rw [List.append_nil]
    refine ⟨p, jv, cs, n, A, k, S, D', vs, rfl, w2, w6, h, hn, e.i, w3, hvs, fun r v H2 D2 jv' hS q1 q2 q3 q4 q5 q6 q7 q8 => ?_⟩
    exact kk r _ v H2 D2 ⟨hS, rfl⟩ (ok'.into hg0 rfl h1 q1 q2 rfl ⟨w5, q3⟩ q4 q5 q6 q7) (e.d.trans q4) q8
  | _ => exact w5.elim
end
section
variable {X : Cx} {g g' : List Sl} {P : Pt} {a b c e o : Expr} {es : List Expr} {rest : List Stmt} {pos p1 p2 p3 p4 : Pos} {r ra rb : Rp} {rs A : List Rp} {x y f : Str} {i : Int} {pj : Addr}
theorem eg_ixJ (n : Nat) (hg : g[n]? = some (.j pj rs)) (hb : EG X b g (rInt i)) (h : atI rs i = some r) (hN : X.N[n]? = some x := by rfl) (hs : PlainIx b := by exact fun _ _ => rfl) (hv : Vis X.env.scope x := by first | exact Or.inl rfl | exact Or.inr (Or.inl rfl) | exact Or.inr (Or.inr rfl))
    (hd : (x == ("__debug__" : Str)) = false := by decide) (hcd : (x == ("__classdict__" : Str)) = false := by decide) : EG X (.Subscript (.Name x p1) b pos) g r := pe_to (pe_ix ix_list (pe_var hN hv hd hcd) hb hs) fun σ H Q ⟨F, D0, D, ok, k⟩ => by
  obtain ⟨p, o, h1, h2, h3, h4, h5⟩ := ok.own n _ hg rfl
  cases o with
  | lst vs =>
    refine ⟨.ref p, h1, F, D0, D, ok, fun w H1 D1 e hw => ?_⟩
    obtain ⟨v, h6, h7⟩ := reps_at h5.2 h
    exact ⟨p, vs, i, v, rfl, hw, SqL.of (e.h _ _ h2), h6, (k.later e).here e.i (r.mono e.d h7)⟩
  | _ => exact h5.elim
theorem sg_storeJ (n : Nat) {m : Nat} (hg : g[n]? = some (.j pj rs)) (he : EG X e g r) (hi : EG X b g (rInt i)) (hm : ixN rs.length i = some m) (h : SG X rest (g.set n (.j pj (rs.set m r))) P) (hq : PG X (.Subscript (.Name x p1) b p2) (gSub (tVar n) (tG g (rInt i)) L2.rSetL)) (hs : swapsWithSole [.Subscript (.Name x p1) b p2] e pos.line X.env = pure false := by rfl) (hw : swappedStores [.Subscript (.Name x p1) b p2] e X.env = pure none := by rfl) :
    SG X (.Assign [.Subscript (.Name x p1) b p2] e pos :: rest) g P :=
  sg_cons (N := fun q => q = g.set n (.j pj (rs.set m r))) (ps_to (ps_asg he hq hs hw) fun E σ H ⟨F, D0, D, ok, p⟩ => ⟨F, D0, D, ok, fun v H1 D1 e1 hv => by
    have ok1 := ok.grow e1
    obtain ⟨q, o, h1, h2, h3, h4, h5⟩ := ok1.own n _ hg rfl
    refine ⟨.ref q, h1, F, D0, D1, ok1, fun w H2 D2 e2 hw => ?_⟩
    cases o with
    | lst vs =>
      refine ⟨q, vs, i, m, rfl, hw, e2.h _ _ h2, by rw [← Reps.length h5.2]; exact hm, ?_⟩
      exact p.nx _ _ _ D2 rfl ((ok1.grow e2).change hg rfl h1 rfl (show Sl.ho D2 (.j pj (rs.set m r)) q (.lst (vs.set m v)) from ⟨h5.1, reps_set (r.mono e2.d hv) m (Reps.mono e2.d h5.2)⟩))
    | _ => exact h5.elim⟩) fun _ q => q ▸ h
/-- a list of the def's own, told by its address -/
theorem sg_asJ (n : Nat) {b : List Stmt} (hg : g[n]? = some (.l rs)) (h : ∀ pj, SG X b (g.set n (.j pj rs)) P) : SG X b g P := ⟨fun pins s σ H E I ⟨F, D0, D, ok, p⟩ => by
  obtain ⟨q, o, h1, h2, h3, h4, h5⟩ := ok.own n _ hg rfl
  cases o with
  | lst vs =>
    have z := ok.change (s' := .j q rs) (o := .lst vs) hg rfl h1 rfl ⟨rfl, h5⟩
    have e : upd H q (.lst vs) = H := by
      funext x
      by_cases hq : x = q
      · subst hq; rw [upd_same]; exact h2.symm
      · rw [upd_ne hq]
    rw [e] at z
    exact (h q).run pins s σ H E I ⟨F, D0, D, z, p⟩
  | _ => exact h5.elim⟩
end
/-! ### a def that is handed the jar -/
section
variable {P : Program} {w : World} {K : PySem.W.Frag} {mg : Str → Option Value} {base : Heap} {x qual : Str} {params : Arguments} {body : List Stmt} {scope : Scope} {f C : Addr} {fd : FuncData} {N ps : List Str} {k : Nat} {A : List Rp} {H D : Hp} {p : Addr} {vs : List V}
theorem g0_noown {j : Nat} {s : Sl} (q : (g0 N A)[j]? = some s) (o : s.own = true) : False := by
  unfold g0 at q
  by_cases hi : j < A.length
  · rw [List.getElem?_append_left (by simpa using hi), List.getElem?_map] at q
    cases e : A[j]? with
    | none => rw [e] at q; cases q
    | some r' => rw [e] at q; cases q; cases o
  · rw [List.getElem?_append_right (by simpa using hi), List.getElem?_replicate] at q
    split at q
    · cases q; cases o
    · cases q
theorem ok_startO {s : Sl} {o : HO} (hs : s.own = true) (hl : A.length + 1 ≤ N.length) (sD : Same D H) (h : Reps D A vs) (hx : H p = some o) (hD : D p = none) (hho : s.ho D p o) :
    Ok (s :: g0 (N.drop 1) A) (fun a => if a = p then none else H a) D (L2.start N (.ref p :: vs)) H D := by
  have key := ok_start (N := N.drop 1) (A := A) (vs := vs) (H := H) (D := D) (by rw [List.length_drop]; omega) sD h
  have es : L2.start N (.ref p :: vs) = some (.ref p) :: L2.start (N.drop 1) vs := by
    unfold L2.start
    rw [List.map_cons, List.cons_append, List.length_drop, List.length_cons]
    congr 3
    omega
  rw [es]
  refine ⟨sD, fun b u e => ?_, Same.refl _, fun _ q => .inl q, by rw [List.length_cons, List.length_cons, key.len], fun i r q => ?_, fun i t q o1 => ?_, fun i j t u q0 q1 q2 o1 o2 e1 e2 => ?_⟩
  · have e : (if b = p then none else H b) = some u := e
    by_cases hb : b = p
    · rw [if_pos hb] at e; cases e
    · rw [if_neg hb] at e; exact e
  · cases i with
    | zero => rw [List.getElem?_cons_zero] at q; cases q; cases hs
    | succ i => exact key.dat i r (by simpa using q)
  · cases i with
    | zero =>
      rw [List.getElem?_cons_zero] at q; cases q
      exact ⟨p, o, rfl, hx, hD, if_pos rfl, hho⟩
    | succ i => exact (g0_noown (by simpa using q) o1).elim
  · cases i with
    | succ i => exact (g0_noown (by simpa using q1) o1).elim
    | zero =>
      cases j with
      | zero => rfl
      | succ j => exact (g0_noown (by simpa using q2) o2).elim
/-- what stands at the end in the jar's place -/
def JarEnd (p : Addr) (cs : List Int) (n : Nat) (g : List Sl) : Prop := ∃ rs, g[0]? = some (.j p rs) ∧ ∀ D vs, Reps D rs vs → Reps D (jarR cs n) vs
theorem def_j {rel : RelJ} (F : FunD K x qual params body scope [] [] f fd) (S : FnScope N ps scope) (hl : ∀ A k S, rel A k S → A.length + 1 = ps.length) (hN : ps.length ≤ N.length)
    (hb : ∀ (cdv : Value) (A : Around) (outer : List Env) (s : Shared) (H : Hp) (E : XK), Room k (Bd P w K mg base N qual scope f cdv A outer s H E).A → ∀ As kk T p cs n (t0 r0 : Int), rel As kk T → n + kk ≤ 1000 → 0 ≤ t0 → t0 ≤ n → 0 ≤ r0 →
      SG (Bd P w K mg base N qual scope f cdv A outer s H E) body (.j p [rInts cs, rInt t0, rInt r0] :: g0 (N.drop 1) As) { rx := fun r g => T r ∧ JarEnd p cs (n + kk) g }) :
    FnOk P w K mg base CX0 (k + 1) f fd ps (SpJ rel) := by
  refine F.ok S (fun vs H Q E ⟨p, jv, cs, n, A, kk, T, D, args, e, _, _, h, _, _, _, hv, _⟩ => by rw [e, List.length_cons, ← hv.length]; exact hl A kk T h) fun cdv A outer s H vs Q E hr ⟨p, jv, cs, n, As, kk, T, D, args, e, hx, hj, h, hn, sD, hD, hv, kont⟩ => ?_
  subst e
  cases hj with
  | cons q1 hj => cases hj with
    | cons q2 hj => cases hj with
      | cons q3 hj =>
        cases hj
        obtain ⟨t0, rfl, h1, h2⟩ := q2
        obtain ⟨r0, rfl, h3⟩ := q3
        refine ⟨_, PSs.nox (hb cdv A outer s H E hr As kk T p cs n t0 r0 h hn h1 h2 h3), ?_⟩
        refine ⟨_, D, D, ok_startO (s := .j p [rInts cs, rInt t0, rInt r0]) rfl (by rw [hl As kk T h]; exact hN) sD hv hx hD ⟨rfl, .cons q1 (.cons rfl (.cons rfl .nil))⟩, ⟨fun _ _ _ _ q _ => q.elim, fun _ _ _ _ q _ => q.elim, fun _ _ _ _ q _ => q.elim, fun _ _ _ q _ => q.elim, fun r g' v σ' H' D' ⟨hT, rs, e, hJ⟩ ok hr => ?_⟩⟩
        obtain ⟨q, o, z1, z2, z3, z4, z5⟩ := ok.own 0 _ e rfl
        cases o with
        | lst jv' =>
          obtain ⟨hq, z5⟩ := z5
          subst hq
          refine kont r v H' D' jv' hT (fun b u nb hb => ok.fr b u ((if_neg nb).trans hb)) z2 (hJ D' jv' z5) ok.d0 ok.sub z3 (fun b hb => ?_) hr
          rcases ok.new b hb with z | z
          · exact .inl z
          · by_cases hq : b = q
            · subst hq; exact absurd z3 hb
            · refine .inr ?_
              rcases z with z | ⟨u, z, st⟩
              · have z : (if b = q then none else H b) = none := z
                rw [if_neg hq] at z; exact .inl z
              · have z : (if b = q then none else H b) = some u := z
                rw [if_neg hq] at z; exact .inr ⟨u, z, st⟩
        | _ => exact z5.elim
end
end Rf

namespace Rf
open PySem PySem.Spec PyProof.Rows L2
theorem rInt_inj {a b : Int} (h : rInt a = rInt b) : a = b := by
  have e : (rInt b).p (fun _ => none) (.int a) := h ▸ (show (rInt a).p (fun _ => none) (.int a) from rfl)
  have e : V.int a = V.int b := e
  cases e; rfl
theorem rT_inj2 {a b c d : Rp} : True := trivial
def findIx (c : Int) : List Int → Option Nat
  | [] => none
  | x :: l => if x = c then some 0 else (findIx c l).map (· + 1)
theorem findIx_is {c : Int} : ∀ {l : List Int} {t : Nat}, findIx c l = some t → l[t]? = some c ∧ ∀ m, m < t → l[m]? ≠ some c
  | [], _, h => by cases h
  | x :: l, t, h => by
    unfold findIx at h
    by_cases e : x = c
    · rw [if_pos e] at h; cases h; exact ⟨by rw [← e]; rfl, fun m hm => absurd hm (Nat.not_lt_zero m)⟩
    · rw [if_neg e] at h
      cases q : findIx c l with
      | none => rw [q] at h; cases h
      | some t' =>
        rw [q] at h; cases h
        obtain ⟨h1, h2⟩ := findIx_is q
        refine ⟨by simpa using h1, fun m hm => ?_⟩
        cases m with
        | zero => intro z; exact e (Option.some.inj z)
        | succ m => intro z; exact h2 m (Nat.lt_of_succ_lt_succ hm) (by simpa using z)
def lcN (nx ms row : List Int) : Option Int := match atI row (-1) with
  | some a => match atI ms a with
    | some b => atI nx b
    | none => none
  | none => none
theorem lcN_is {nx ms row : List Int} {c : Int} (h : lcN nx ms row = some c) : ∃ a b, atI row (-1) = some a ∧ atI ms a = some b ∧ atI nx b = some c := by
  unfold lcN at h
  cases h1 : atI row (-1) with
  | none => rw [h1] at h; cases h
  | some a =>
    rw [h1] at h
    cases h2 : atI ms a with
    | none => simp only [h2] at h; cases h
    | some b => simp only [h2] at h; exact ⟨a, b, rfl, h2, h⟩
def lcC (nx ms : List Int) (s : List Int × List Int) : Option Bool := match lcN nx ms s.2, atI s.2 0 with
  | some c, some d => some (!decide (c = d))
  | _, _ => none
def lcS (nx ms : List Int) (s : List Int × List Int) : Option (List Int × List Int) := match lcN nx ms s.2 with
  | some c => match findIx c s.1 with
    | some t => if s.2.length ≤ 1000 then some (s.1.eraseIdx t, s.2 ++ [c]) else none
    | none => none
  | none => none
theorem lcS_is {nx ms : List Int} {s s' : List Int × List Int} (h : lcS nx ms s = some s') : ∃ c t, lcN nx ms s.2 = some c ∧ findIx c s.1 = some t ∧ s.2.length ≤ 1000 ∧ s' = (s.1.eraseIdx t, s.2 ++ [c]) := by
  unfold lcS at h
  cases h1 : lcN nx ms s.2 with
  | none => rw [h1] at h; cases h
  | some c =>
    simp only [h1] at h
    cases h2 : findIx c s.1 with
    | none => simp only [h2] at h; cases h
    | some t =>
      simp only [h2] at h
      by_cases hz : s.2.length ≤ 1000
      · rw [if_pos hz] at h; cases h; exact ⟨c, t, rfl, h2, hz, rfl⟩
      · rw [if_neg hz] at h; cases h
def lcO (nx ms : List Int) (s : List Int × List (List Int)) : Option (List Int × List (List Int)) := match s.1 with
  | [] => none
  | h :: tl => match whileM (lcC nx ms) (lcS nx ms) 100 (tl, [h]) with
    | some q => if s.2.length ≤ 1000 ∧ tl.length ≤ 1000 then some (q.1, s.2 ++ [q.2]) else none
    | none => none
theorem lcO_is {nx ms : List Int} {s s' : List Int × List (List Int)} (h : lcO nx ms s = some s') : ∃ a tl q, s.1 = a :: tl ∧ whileM (lcC nx ms) (lcS nx ms) 100 (tl, [a]) = some q ∧ (s.2.length ≤ 1000 ∧ tl.length ≤ 1000) ∧ s' = (q.1, s.2 ++ [q.2]) := by
  unfold lcO at h
  cases h1 : s.1 with
  | nil => rw [h1] at h; cases h
  | cons a tl =>
    simp only [h1] at h
    cases h2 : whileM (lcC nx ms) (lcS nx ms) 100 (tl, [a]) with
    | none => simp only [h2] at h; cases h
    | some q =>
      simp only [h2] at h
      by_cases hz : s.2.length ≤ 1000 ∧ tl.length ≤ 1000
      · rw [if_pos hz] at h; cases h; exact ⟨a, tl, q, rfl, h2, hz, rfl⟩
      · rw [if_neg hz] at h; cases h
theorem atI_last (l : List Int) (c : Int) : atI (l ++ [c]) (-1) = some c := by
  unfold atI ixN
  have e : (((l ++ [c]).length : Nat) : Int) = (l.length : Int) + 1 := by rw [List.length_append]; rfl
  rw [if_neg (by omega), if_pos (by omega)]
  show (l ++ [c])[((-1 : Int) + (((l ++ [c]).length : Nat) : Int)).toNat]? = some c
  rw [e, show ((-1 : Int) + ((l.length : Int) + 1)).toNat = l.length by omega]
  simp

section
variable {P : Program} {w : World} {K : PySem.W.Frag} {mg : Str → Option Value} {base : Heap} {f : Addr} {fd : FuncData}

inductive relLC : Rel
  | mk (nx ms : List Int) (found : List (List Int)) (hz : ms.length ≤ 1000) (h : whileM (fun s : List Int × List (List Int) => some (!decide (s.1 = []))) (lcO nx ms) 100 (rangeI ms.length, []) = some ([], found)) : relLC [rInts nx, rInts ms] (rL (found.map rTI))

theorem sc__law_corners : FnScope ["_law_nexts_here", "_law_mates", "_law_left", "_law_found", "_law_row"] ["_law_nexts_here", "_law_mates"] (defScope (top 102)) := ⟨rfl, rfl, rfl, by decide +kernel, rfl, by decide +kernel, by decide +kernel⟩
theorem c__law_corners (T : Fre mg) (F : FnP K "_law_corners" (top 102) f fd) (gm : mg "_law_corners" = some (.ref f)) : DefC P w K mg base "_law_corners" 1 relLC := by
  refine ⟨f, fd, ["_law_nexts_here", "_law_mates"], def_g F sc__law_corners (fun A r h => by cases h <;> rfl) (by decide) (fun cdv A outer s H E hr As r h => ?_), gm, F.kp, F.bindsN fun _ _ _ _ _ _ us hl => match us, hl with | [_, _], _ => rfl⟩
  cases h with
  | mk nx ms found hz h =>
    refine sg_par 2 3 (s := .l ((rangeI ms.length).map rInt)) (s2 := .l []) (vg_l (ng_listRg rfl T.list T.range (by omega) (eg_lenL1 T.len (eg_name 1)))) (vg_l (ng_lst ag_nil)) rfl sc__law_corners.nd ?_
    refine sg_while (fun s : List Int × List (List Int) => [.d (rInts nx), .d (rInts ms), .l (s.1.map rInt), .l (s.2.map rTI), .non]) _ _ 100 h (Le.refl _) (fun s k e => by cases e; exact bg_neO (l := s.1) dat_int hr.units 2 rfl) (fun s s' _ e => ?_) (sg_le (Le.freeze 3 rfl rfl) (sg_ret (eg_name 3) rfl))
    obtain ⟨a, tl, q, e1, e2, e3, rfl⟩ := lcO_is e
    rw [e1]
    refine sg_setXN 4 (xn_lst (xa_one (xg_pop 2 (rs := (a :: tl).map rInt) rfl (xg_eg (r := rInt 0) eg_int) (fun r g' hp => ⟨0, (a :: tl).map rInt, hp.1, by obtain ⟨_, rfl⟩ := hp; rfl, by omega, by rw [List.length_map, List.length_cons]; omega, ?_⟩))) (fun rs g' hp => ?_)) sc__law_corners.nd (fun rs g' hp => ?_)
    · rw [List.length_map, List.length_cons]; omega
    · obtain ⟨r, rfl, _⟩ := hp
      exact Nat.le_of_ble_eq_true rfl
    obtain ⟨r, rfl, k, rs2, g2, ⟨hk, rfl⟩, h2, h3, rfl⟩ := hp
    have hk := rInt_inj hk
    have hk : k = 0 := by omega
    subst hk
    cases h2
    cases h3
    refine sg_while (g := [.d (rInts nx), .d (rInts ms), .l (tl.map rInt), .l (s.2.map rTI), .l [rInt a]]) (fun z : List Int × List Int => [.d (rInts nx), .d (rInts ms), .l (z.1.map rInt), .l (s.2.map rTI), .l (z.2.map rInt)]) _ _ 100 e2 (Le.refl _) (fun z k e => ?_) (fun z z' _ e => ?_) ?_
    · unfold lcC at e
      cases c1 : lcN nx ms z.2 with
      | none => rw [c1] at e; cases e
      | some c =>
        cases c2 : atI z.2 0 with
        | none => rw [c1, c2] at e; cases e
        | some d =>
          rw [c1, c2] at e; cases e
          obtain ⟨a, b, h1, h2, h3⟩ := lcN_is c1
          exact bg_nei (eg_ixL (fa := rInt) (l := nx) (eg_name 0) (eg_ixL (fa := rInt) (l := ms) (eg_name 1) (eg_ixO (fa := rInt) 4 rfl (eg_neg eg_int) h1) h2) h3) (eg_ixO (fa := rInt) 4 rfl eg_int c2)
    · obtain ⟨c, t, c1, c2, c3, rfl⟩ := lcS_is e
      obtain ⟨a, b, h1, h2, h3⟩ := lcN_is c1
      obtain ⟨f1, f2⟩ := findIx_is c2
      refine sg_append 4 rfl (eg_ixL (fa := rInt) (l := nx) (eg_name 0) (eg_ixL (fa := rInt) (l := ms) (eg_name 1) (eg_ixO (fa := rInt) 4 rfl (eg_neg eg_int) h1) h2) h3) (by rw [List.length_map]; omega) ?_
      refine sg_remove 2 (ns := z.1) (t := t) rfl (eg_ixO (fa := rInt) (l := z.2 ++ [c]) 4 (by rw [List.map_append]; rfl) (eg_neg eg_int) (atI_last _ _)) f1 f2 (sg_nil ?_)
      show Le _ _
      rw [List.map_append]
      exact Le.refl _
    · refine sg_append 3 rfl (eg_tupleO 4 T.tuple) (by rw [List.length_map]; omega) (sg_nil ?_)
      show Le _ _
      rw [List.map_append]
      exact (LeS.same (.same (.same (.same (.non .nil))))).go

end
end Rf

namespace Rf
open PySem PySem.Spec PyProof.Rows L2
section
variable {X : Cx} {g : List Sl} {a b : Expr} {p1 pos : Pos} {i j : Int} {k : Bool} {rs : List Rp} {q1 : Rp → List Sl → Prop}
theorem eg_intB (hm : X.mg "int" = none) (ha : EG X a g (rBl k)) (hg : Gl X "int" := by rfl) (he : starEach [a] X.env = (false, eval a X.env) :: starEach [] X.env := by rfl) : EG X (.Call (.Name "int" p1) [a] [] pos) g (rInt (if k then 1 else 0)) :=
  eg_bt call_int1 hm boot_int (ag_cons ha ag_nil he) (fun vs H D Q s h kk => by
    cases h with | cons h1 t => cases t; cases h1; exact .inr ⟨k, rfl, kk.here s rfl⟩) hg (by decide) (by decide) he
theorem eg_pow (hc : CPow i j) (ha : EG X a g (rInt i)) (hb : EG X b g (rInt j)) : EG X (.BinOp a .Pow b pos) g (rInt (i ^ j.toNat)) := eg_op op_pow ha hb fun _ _ _ _ _ s hx hy k => intsC hc s hx hy k
/-- xs[e], e of several values -/
theorem xg_ixL (ha : EG X a g (rL rs)) (hb : XG X b g q1) (h : ∀ r g', q1 r g' → ∃ i : Int, r = rInt i ∧ 0 ≤ i ∧ i < rs.length) (hs : PlainIx b := by exact fun _ _ => rfl) : XG X (.Subscript a b pos) g (fun r g' => (∃ i : Nat, rs[i]? = some r) ∧ ∃ r1, q1 r1 g') :=
  pe_to (pe_ix ix_list (xg_eg ha) (pe_some (q1 := fun r' g' => r' = rL rs ∧ g' = g) (q2 := fun _ _ => q1) fun r g' e => e.2 ▸ hb) hs) fun _ _ _ q => x_two (q1 := fun r' g' => r' = rL rs ∧ g' = g) (q2 := fun _ _ => q1) (fun r1 g1 r2 g2 e h2 => by
    obtain ⟨rfl, rfl⟩ := e
    obtain ⟨i, rfl, h3, h4⟩ := h r2 g2 h2
    obtain ⟨m, rfl⟩ : ∃ m : Nat, i = (m : Int) := ⟨i.toNat, by omega⟩
    have hm : m < rs.length := by omega
    refine ⟨rs[m], ⟨⟨m, List.getElem?_eq_getElem hm⟩, _, h2⟩, fun x y H D Q s hx hy k => ?_⟩
    obtain ⟨p, vs, rfl, z2, z3⟩ := hx
    have ha : atI rs (m : Int) = some rs[m] := by
      unfold atI ixN
      rw [if_pos (by omega), if_pos (by omega)]
      exact List.getElem?_eq_getElem hm
    obtain ⟨v, h6, h7⟩ := reps_at z3 ha
    exact ⟨p, vs, (m : Int), v, rfl, hy, SqL.of (s _ _ z2), h6, k.here s h7⟩) q
/-- t[e], t a tuple -/
theorem xg_ixTu (ha : EG X a g (rT rs)) (hb : XG X b g q1) (h : ∀ r g', q1 r g' → ∃ i : Int, r = rInt i ∧ 0 ≤ i ∧ i < rs.length) (hs : PlainIx b := by exact fun _ _ => rfl) : XG X (.Subscript a b pos) g (fun r g' => (∃ i : Nat, rs[i]? = some r) ∧ ∃ r1, q1 r1 g') :=
  pe_to (pe_ix ix_tup (xg_eg ha) (pe_some (q1 := fun r' g' => r' = rT rs ∧ g' = g) (q2 := fun _ _ => q1) fun r g' e => e.2 ▸ hb) hs) fun _ _ _ q => x_two (q1 := fun r' g' => r' = rT rs ∧ g' = g) (q2 := fun _ _ => q1) (fun r1 g1 r2 g2 e h2 => by
    obtain ⟨rfl, rfl⟩ := e
    obtain ⟨i, rfl, h3, h4⟩ := h r2 g2 h2
    obtain ⟨m, rfl⟩ : ∃ m : Nat, i = (m : Int) := ⟨i.toNat, by omega⟩
    have hm : m < rs.length := by omega
    refine ⟨rs[m], ⟨⟨m, List.getElem?_eq_getElem hm⟩, _, h2⟩, fun x y H D Q s hx hy k => ?_⟩
    obtain ⟨p, vs, rfl, z2, z3⟩ := hx
    have ha : atI rs (m : Int) = some rs[m] := by
      unfold atI ixN
      rw [if_pos (by omega), if_pos (by omega)]
      exact List.getElem?_eq_getElem hm
    obtain ⟨v, h6, h7⟩ := reps_at z3 ha
    exact ⟨p, vs, (m : Int), v, rfl, hy, SqT.of (s _ _ z2), h6, k.here s h7⟩) q
end
theorem jar_end {D : Hp} {cs : List Int} {n : Nat} {t r : Int} {vs : List V} (h1 : 0 ≤ t) (h2 : t ≤ n) (h3 : 0 ≤ r) (h : Reps D [rInts cs, rInt t, rInt r] vs) : Reps D (jarR cs n) vs := by
  cases h with
  | cons q1 h => cases h with
    | cons q2 h => cases h with
      | cons q3 h => cases h; exact .cons q1 (.cons ⟨t, q2, h1, h2⟩ (.cons ⟨r, q3, h3⟩ .nil))
theorem at_mod {cs : List Int} (h : cs ≠ []) (t : Int) : ∃ c, atI cs (t % (cs.length : Int)) = some c := by
  have hl : 0 < cs.length := List.length_pos_iff.mpr h
  have h1 := Int.emod_nonneg t (show (cs.length : Int) ≠ 0 by omega)
  have h2 := Int.emod_lt_of_pos t (show (0 : Int) < (cs.length : Int) by omega)
  obtain ⟨m, hm⟩ : ∃ m : Nat, t % (cs.length : Int) = (m : Int) := ⟨(t % (cs.length : Int)).toNat, by omega⟩
  have hm2 : m < cs.length := by omega
  refine ⟨cs[m], ?_⟩
  rw [hm]
  unfold atI ixN
  rw [if_pos (by omega), if_pos (by omega)]
  exact List.getElem?_eq_getElem hm2

section
variable {P : Program} {w : World} {K : PySem.W.Frag} {mg : Str → Option Value} {base : Heap} {f : Addr} {fd : FuncData}

inductive relDip : RelJ
  | mk (m : Int) (h : 1 ≤ m ∧ m ≤ 1000) : relDip [rInt m] 1 (fun r => ∃ i : Int, r = rInt i ∧ 0 ≤ i ∧ i < m)

theorem sc__law_dip : FnScope ["_law_jar_here", "_law_many", "_law_rest", "_law_turn", "_law_cell", "_law_mixed_here"] ["_law_jar_here", "_law_many"] (defScope (top 95)) := ⟨rfl, rfl, rfl, by decide +kernel, rfl, by decide +kernel, by decide +kernel⟩
theorem c__law_dip (T : Fre mg) (F : FnP K "_law_dip" (top 95) f fd) (gm : mg "_law_dip" = some (.ref f)) : JarC P w K mg base "_law_dip" 1 relDip := by
  refine ⟨f, fd, ["_law_jar_here", "_law_many"], def_j F sc__law_dip (fun A k S h => by cases h <;> rfl) (by decide) (fun cdv A outer s H E hr As kk T p cs n t0 r0 h hn h1 h2 h3 => ?_), gm, F.kp, F.bindsN fun _ _ _ _ _ _ us hl => match us, hl with | [_, _], _ => rfl⟩
  cases h with
  | mk m hm =>
    by_cases hr0 : 0 < r0
    · refine sg_ifT (k := decide (0 < r0)) (bg_gt (eg_ixJ 0 rfl eg_int rfl) eg_int) (by rw [decide_eq_true hr0]) ?_
      refine sg_set 2 (eg_ixJ 0 rfl eg_int rfl) sc__law_dip.nd ?_
      refine sg_storeJ 0 (m := 2) rfl (eg_fdiv (i := r0) (j := m) ⟨by omega, by omega⟩ (eg_intI T.int (eg_name 2)) (eg_name 1)) eg_int rfl ?_ (pg_sub (pv 0) eg_int set_list) rfl rfl
      refine sg_retX (xg_eg (r := rInt (r0 % m)) (eg_mod (by omega) (eg_intI T.int (eg_name 2)) (eg_name 1))) fun r g' hp => ?_
      obtain ⟨rfl, rfl⟩ := hp
      exact ⟨⟨_, rfl, Int.emod_nonneg _ (by omega), Int.emod_lt_of_pos _ (by omega)⟩, [rInts cs, rInt t0, rInt (r0 / m)], rfl, fun D vs q => jar_end h1 (by omega) (Int.ediv_nonneg (by omega) (by omega)) q⟩
    refine sg_ifF (k := decide (0 < r0)) (bg_gt (eg_ixJ 0 rfl eg_int rfl) eg_int) (by rw [decide_eq_false hr0]) ?_
    refine sg_set 3 (eg_ixJ 0 rfl eg_int rfl) sc__law_dip.nd ?_
    refine sg_storeJ 0 (m := 1) rfl (eg_add (i := t0) (j := 1) (eg_name 3) eg_int) eg_int rfl ?_ (pg_sub (pv 0) eg_int set_list) rfl rfl
    refine sg_set 4 (eg_add (i := 59441 * t0) (j := 5323) (eg_mul (i := 59441) (.inl (by decide)) eg_int (eg_name 3)) eg_int) sc__law_dip.nd ?_
    have key : ∀ c : Int, SG (Bd P w K mg base ["_law_jar_here", "_law_many", "_law_rest", "_law_turn", "_law_cell", "_law_mixed_here"] "_law_dip" (defScope (top 95)) f cdv A outer s H E) ((defBody (top 95)).drop 5) [.j p [rInts cs, rInt (t0 + 1), rInt r0], .d (rInt m), .non, .d (rInt t0), .d (rInt c), .non] { rx := fun r g => (∃ i : Int, r = rInt i ∧ 0 ≤ i ∧ i < m) ∧ JarEnd p cs (n + 1) g } := fun c => by
      by_cases hb : (decide (t0 < (cs.length : Int)) && decide ((10 : Int) ^ (18 : Int).toNat ≤ (if c < 0 then -c else c))) = true
      · refine sg_ifT (bg_w (wg_and (bg_lt (eg_name 3) (eg_lenL1 (fa := rInt) (l := cs) T.len (eg_ixJ 0 rfl eg_int rfl))) fun _ => wg_and1 (bg_ge (eg_abs T.abs (eg_name 4)) (eg_pow (i := 10) (j := 18) ⟨by decide, by decide, by decide⟩ eg_int eg_int)))) hb ?_
        have hb2 : (10 : Int) ^ (18 : Int).toNat ≤ (if c < 0 then -c else c) := of_decide_eq_true (Bool.and_eq_true_iff.mp hb).2
        refine sg_set 2 (eg_add (i := 2 * ((if c < 0 then -c else c) - (10 : Int) ^ (18 : Int).toNat)) (j := if decide (c < 0) then 1 else 0) (eg_mul (.inl (by decide)) eg_int (eg_sub (eg_abs T.abs (eg_name 4)) (eg_pow (i := 10) (j := 18) ⟨by decide, by decide, by decide⟩ eg_int eg_int))) (eg_intB T.int (eg_lt (eg_name 4) eg_int))) sc__law_dip.nd ?_
        generalize hv : 2 * ((if c < 0 then -c else c) - (10 : Int) ^ (18 : Int).toNat) + (if decide (c < 0) then 1 else 0) = v
        have hv0 : 0 ≤ v := by
          rw [← hv]
          have : (0 : Int) ≤ (if decide (c < 0) then 1 else 0) := by split <;> decide
          omega
        refine sg_storeJ 0 (m := 2) rfl (eg_fdiv (i := v) (j := m) ⟨by omega, by omega⟩ (eg_intI T.int (eg_name 2)) (eg_name 1)) eg_int rfl ?_ (pg_sub (pv 0) eg_int set_list) rfl rfl
        refine sg_retX (xg_eg (r := rInt (v % m)) (eg_mod (by omega) (eg_intI T.int (eg_name 2)) (eg_name 1))) fun r g' hp => ?_
        obtain ⟨rfl, rfl⟩ := hp
        exact ⟨⟨_, rfl, Int.emod_nonneg _ (by omega), Int.emod_lt_of_pos _ (by omega)⟩, [rInts cs, rInt (t0 + 1), rInt (v / m)], rfl, fun D vs q => jar_end (by omega) (by omega) (Int.ediv_nonneg (by omega) (by omega)) q⟩
      · refine sg_ifF (bg_w (wg_and (bg_lt (eg_name 3) (eg_lenL1 (fa := rInt) (l := cs) T.len (eg_ixJ 0 rfl eg_int rfl))) fun _ => wg_and1 (bg_ge (eg_abs T.abs (eg_name 4)) (eg_pow (i := 10) (j := 18) ⟨by decide, by decide, by decide⟩ eg_int eg_int)))) (by rw [Bool.not_eq_true] at hb; exact hb) ?_
        have b1 := Int.emod_nonneg c (show (2147483579 : Int) ≠ 0 by decide)
        have b2 := Int.emod_lt_of_pos c (show (0 : Int) < 2147483579 by decide)
        refine sg_set 5 (eg_mod (i := (c % 2147483579 + 81203 * t0 + 5323) ^ (5 : Int).toNat) (by decide) (eg_intI T.int (eg_pow (i := c % 2147483579 + 81203 * t0 + 5323) (j := 5) ⟨by decide, by decide, by omega⟩ (eg_add (eg_add (eg_mod (by decide) (eg_intI T.int (eg_name 4)) eg_int) (eg_mul (.inl (by decide)) eg_int (eg_name 3))) eg_int) eg_int)) eg_int) sc__law_dip.nd ?_
        generalize hx : (c % 2147483579 + 81203 * t0 + 5323) ^ (5 : Int).toNat % 2147483549 = x
        have x1 : 0 ≤ x := by rw [← hx]; exact Int.emod_nonneg _ (by decide)
        have x2 : x < 2147483549 := by rw [← hx]; exact Int.emod_lt_of_pos _ (by decide)
        have m1 : x * (2 * t0 + 5341) ≤ 2147483549 * 7341 := Int.mul_le_mul (by omega) (by omega) (by omega) (by decide)
        have m2 : 0 ≤ x * (2 * t0 + 5341) := Int.mul_nonneg x1 (by omega)
        have m3 : 59441 * t0 * t0 ≤ 59441000 * 1000 := Int.mul_le_mul (by omega) (by omega) (by omega) (by decide)
        have m4 : 0 ≤ 59441 * t0 * t0 := Int.mul_nonneg (by omega) h1
        generalize e1 : x * (2 * t0 + 5341) = u1 at m1 m2
        generalize e2 : 59441 * t0 * t0 = u2 at m3 m4
        refine sg_set 5 (eg_mod (i := (u1 + u2 + 81203) ^ (3 : Int).toNat) (by decide) (eg_intI T.int (eg_pow (i := u1 + u2 + 81203) (j := 3) ⟨by decide, by decide, by omega⟩ (eg_add (eg_add (by rw [← e1]; exact eg_mul (i := x) (j := 2 * t0 + 5341) (.inl ⟨by omega, by omega⟩) (eg_name 5) (eg_add (eg_mul (.inl (by decide)) eg_int (eg_name 3)) eg_int)) (by rw [← e2]; exact eg_mul (i := 59441 * t0) (j := t0) (.inr ⟨by omega, by omega⟩) (eg_mul (.inl (by decide)) eg_int (eg_name 3)) (eg_name 3))) eg_int) eg_int)) eg_int) sc__law_dip.nd ?_
        generalize (u1 + u2 + 81203) ^ (3 : Int).toNat % 2147483563 = y
        refine sg_retX (xg_eg (r := rInt (y / 64 % m)) (eg_mod (by omega) (eg_intI T.int (eg_fdiv (i := y) (j := 64) ⟨by decide, by decide⟩ (eg_name 5) eg_int)) (eg_name 1))) fun r g' hp => ?_
        obtain ⟨rfl, rfl⟩ := hp
        exact ⟨⟨_, rfl, Int.emod_nonneg _ (by omega), Int.emod_lt_of_pos _ (by omega)⟩, [rInts cs, rInt (t0 + 1), rInt r0], rfl, fun D vs q => jar_end (by omega) (by omega) h3 q⟩
    by_cases hc : cs = []
    · refine sg_ifF (k := !decide (cs = [])) (bg_ned (u := cs) (v := ([] : List Int)) (dat_L dat_int) (dat_L dat_int) hr.units (eg_ixJ 0 rfl eg_int rfl) (eg_n (ng_lst ag_nil))) (by rw [decide_eq_true hc]; rfl) ?_
      exact key _
    · obtain ⟨c, hc2⟩ := at_mod hc t0
      have hl : 0 < cs.length := List.length_pos_iff.mpr hc
      refine sg_if [.j p [rInts cs, rInt (t0 + 1), rInt r0], .d (rInt m), .non, .d (rInt t0), .d (rInt c), .non] (k := !decide (cs = [])) (bg_ned (u := cs) (v := ([] : List Int)) (dat_L dat_int) (dat_L dat_int) hr.units (eg_ixJ 0 rfl eg_int rfl) (eg_n (ng_lst ag_nil))) (fun _ => ?_) (fun z => by rw [decide_eq_false hc] at z; cases z) (key c)
      exact sg_set 4 (eg_ixL (fa := rInt) (l := cs) (eg_ixJ 0 rfl eg_int rfl) (eg_mod (by omega) (eg_intI T.int (eg_name 3)) (eg_lenL1 (fa := rInt) (l := cs) T.len (eg_ixJ 0 rfl eg_int rfl))) hc2) sc__law_dip.nd (sg_nil (Le.refl _))

inductive relPick : RelJ
  | mk (rs : List Rp) (h : 1 ≤ rs.length ∧ rs.length ≤ 1000) : relPick [rL rs] 1 (fun r => ∃ i : Nat, rs[i]? = some r)
  | tup (rs : List Rp) (h : 1 ≤ rs.length ∧ rs.length ≤ 1000) : relPick [rT rs] 1 (fun r => ∃ i : Nat, rs[i]? = some r)

theorem sc__law_pick : FnScope ["_law_jar_here", "_law_some"] ["_law_jar_here", "_law_some"] (defScope (top 96)) := ⟨rfl, rfl, rfl, by decide +kernel, rfl, by decide +kernel, by decide +kernel⟩
theorem c__law_pick (T : Fre mg) (C1 : JarC P w K mg base "_law_dip" 1 relDip) (F : FnP K "_law_pick" (top 96) f fd) (gm : mg "_law_pick" = some (.ref f)) : JarC P w K mg base "_law_pick" 2 relPick := by
  refine ⟨f, fd, ["_law_jar_here", "_law_some"], def_j F sc__law_pick (fun A k S h => by cases h <;> rfl) (by decide) (fun cdv A outer s H E hr As kk T p cs n t0 r0 h hn h1 h2 h3 => ?_), gm, F.kp, F.bindsN fun _ _ _ _ _ _ us hl => match us, hl with | [_, _], _ => rfl⟩
  cases h with
  | mk rs hz =>
    refine sg_le (Le.weakJ (rs' := jarR cs n) 0 rfl fun D vs q => jar_end h1 h2 h3 q) ?_
    refine sg_retX (xg_ixL (eg_name 1) (xg_jar 0 C1 rfl (ag_cons (eg_lenL T.len (eg_name 1)) ag_nil) (.mk _ ⟨by omega, by omega⟩) hn hr) fun r g' hp => ?_) fun r g' hp => ?_
    · obtain ⟨⟨i, rfl, h4, h5⟩, _⟩ := hp
      exact ⟨i, rfl, h4, h5⟩
    · obtain ⟨hi, r1, _, rfl⟩ := hp
      exact ⟨hi, _, rfl, fun D vs q => q⟩
  | tup rs hz =>
    refine sg_le (Le.weakJ (rs' := jarR cs n) 0 rfl fun D vs q => jar_end h1 h2 h3 q) ?_
    refine sg_retX (xg_ixTu (eg_name 1) (xg_jar 0 C1 rfl (ag_cons (eg_lenT T.len (eg_name 1)) ag_nil) (.mk _ ⟨by omega, by omega⟩) hn hr) fun r g' hp => ?_) fun r g' hp => ?_
    · obtain ⟨⟨i, rfl, h4, h5⟩, _⟩ := hp
      exact ⟨i, rfl, h4, h5⟩
    · obtain ⟨hi, r1, _, rfl⟩ := hp
      exact ⟨hi, _, rfl, fun D vs q => q⟩

end
end Rf

namespace Rf
open PySem PySem.Spec PyProof.Rows L2
/-- what comes of taking out one by one -/
def mixes {α : Type} : Nat → List α → List (List α)
  | 0, _ => [[]]
  | n + 1, l => (List.range l.length).flatMap fun k => match l[k]? with
    | some x => (mixes n (l.eraseIdx k)).map (x :: ·)
    | none => []
theorem mixes_step {α : Type} {n k : Nat} {l m : List α} {x : α} (h : l[k]? = some x) (hm : m ∈ mixes n (l.eraseIdx k)) : x :: m ∈ mixes (n + 1) l := by
  unfold mixes
  refine List.mem_flatMap.mpr ⟨k, List.mem_range.mpr (List.getElem?_eq_some_iff.mp h).1, ?_⟩
  rw [h]
  exact List.mem_map.mpr ⟨m, hm, rfl⟩
theorem erase_map {α β : Type} (f : α → β) : ∀ (l : List α) (k : Nat), (l.map f).eraseIdx k = (l.eraseIdx k).map f
  | [], _ => by simp
  | _ :: _, 0 => rfl
  | x :: l, k + 1 => by simp [erase_map f l k]
theorem flat_congr {α β : Type} {f g : α → List β} : ∀ {l : List α}, (∀ x ∈ l, f x = g x) → l.flatMap f = l.flatMap g
  | [], _ => rfl
  | x :: l, h => by
    rw [List.flatMap_cons, List.flatMap_cons, h x (List.mem_cons_self ..), flat_congr fun y hy => h y (List.mem_cons_of_mem _ hy)]
theorem map_flat {α β γ : Type} (f : β → γ) (g : α → List β) : ∀ l : List α, (l.flatMap g).map f = l.flatMap fun x => (g x).map f
  | [] => rfl
  | x :: l => by rw [List.flatMap_cons, List.flatMap_cons, List.map_append, map_flat f g l]
theorem mixes_map {α β : Type} (f : α → β) : ∀ (n : Nat) (l : List α), mixes n (l.map f) = (mixes n l).map (List.map f)
  | 0, _ => rfl
  | n + 1, l => by
    unfold mixes
    rw [map_flat, List.length_map]
    refine flat_congr fun k hk => ?_
    rw [List.getElem?_map]
    cases h : l[k]? with
    | none => rfl
    | some x =>
      show (mixes n ((l.map f).eraseIdx k)).map (f x :: ·) = ((mixes n (l.eraseIdx k)).map (x :: ·)).map (List.map f)
      rw [erase_map, mixes_map f n, List.map_map, List.map_map]
      rfl
theorem mixes_len {α : Type} : ∀ {n : Nat} {l m : List α}, m ∈ mixes n l → m.length = n
  | 0, l, m, h => by
    have h : m ∈ [[]] := h
    rw [List.mem_singleton.mp h]; rfl
  | n + 1, l, m, h => by
    unfold mixes at h
    obtain ⟨k, hk, h⟩ := List.mem_flatMap.mp h
    cases q : l[k]? with
    | none => rw [q] at h; cases h
    | some x =>
      rw [q] at h
      obtain ⟨m', hm', rfl⟩ := List.mem_map.mp h
      rw [List.length_cons, mixes_len hm']
theorem Le.of_eq {a b : List Sl} (h : a = b) : Le a b := h ▸ Le.refl a
theorem rInt_nat {i : Int} (h : 0 ≤ i) : rInt i = rInt (i.toNat : Nat) := by rw [Int.toNat_of_nonneg h]

section
variable {P : Program} {w : World} {K : PySem.W.Frag} {mg : Str → Option Value} {base : Heap} {f : Addr} {fd : FuncData}

inductive relMixed : RelJ
  | mk (rs : List Rp) (h : rs.length ≤ 500) : relMixed [rL rs] rs.length (fun r => ∃ l, l ∈ mixes rs.length rs ∧ r = rL l)
structure MixI (rs : List Rp) (i : Nat) (s : List Rp × List Rp) : Prop where
  len : s.1.length + i = rs.length
  fl : s.2.length = i
  mem : ∀ m ∈ mixes (rs.length - i) s.1, s.2 ++ m ∈ mixes rs.length rs

theorem sc__law_mixed : FnScope ["_law_jar_here", "_law_some", "_law_left", "_law_found", "_law_turn"] ["_law_jar_here", "_law_some"] (defScope (top 97)) := ⟨rfl, rfl, rfl, by decide +kernel, rfl, by decide +kernel, by decide +kernel⟩
theorem c__law_mixed (T : Fre mg) (C1 : JarC P w K mg base "_law_dip" 1 relDip) (F : FnP K "_law_mixed" (top 97) f fd) (gm : mg "_law_mixed" = some (.ref f)) : JarC P w K mg base "_law_mixed" 2 relMixed := by
  refine ⟨f, fd, ["_law_jar_here", "_law_some"], def_j F sc__law_mixed (fun A k S h => by cases h <;> rfl) (by decide) (fun cdv A outer s H E hr As kk T p cs n t0 r0 h hn h1 h2 h3 => ?_), gm, F.kp, F.bindsN fun _ _ _ _ _ _ us hl => match us, hl with | [_, _], _ => rfl⟩
  cases h with
  | mk rs hz =>
    refine sg_le (Le.weakJ (rs' := jarR cs n) 0 rfl fun D vs q => jar_end h1 h2 h3 q) ?_
    refine sg_par 2 3 (s := .l rs) (s2 := .l []) (vg_l (ng_listL T.list (eg_name 1))) (vg_l (ng_lst ag_nil)) rfl sc__law_mixed.nd ?_
    refine sg_forN (fa := rInt) (l := rangeI rs.length) (S := List Rp × List Rp × Nat) (fun i s => MixI rs i (s.1, s.2.1) ∧ s.2.2 = i) (fun s => [.j p (jarR cs (n + s.2.2)), .d (rL rs), .l s.1, .l s.2.1, .non]) (fun s i => [.j p (jarR cs (n + s.2.2)), .d (rL rs), .l s.1, .l s.2.1, .d (rInt i)]) [4] (rs, [], 0)
      (ig_range T.range (by omega) (eg_lenO 2 T.len)) ⟨⟨Nat.add_zero _, rfl, fun m hm => hm⟩, rfl⟩ (Le.refl _) rfl (fun s x => kg_name 4 sc__law_mixed.nd) (fun i s x hx ⟨hI, hi⟩ => ?_) (fun s ⟨hI, hi⟩ => ?_)
    · obtain ⟨left, found, kk⟩ := s
      obtain ⟨q1, q2, q3⟩ := hI
      have hi : kk = i := hi
      subst hi
      have hlt : kk < rs.length := by
        have := (List.getElem?_eq_some_iff.mp hx).1
        rw [rangeI_len] at this; omega
      have q1 : left.length + kk = rs.length := q1
      have q2 : found.length = kk := q2
      refine sg_appendX (rs := found) 3 rfl (xg_pop (rs := left) 2 rfl (xg_jar 0 C1 rfl (ag_cons (eg_lenO 2 T.len) ag_nil) (.mk (left.length : Int) ⟨by omega, by omega⟩) (by show n + kk + 1 ≤ 1000; omega) hr) fun r g' hp => ?_) fun r g' hp => ?_
      · obtain ⟨⟨i, rfl, h4, h5⟩, rfl⟩ := hp
        exact ⟨i, left, rfl, rfl, h4, h5, by omega⟩
      · obtain ⟨k, rs', g1, ⟨_, rfl⟩, h5, h6, rfl⟩ := hp
        cases h5
        refine ⟨found, rfl, by omega, sg_nil ⟨(left.eraseIdx k, found ++ [r], kk + 1), ⟨⟨?_, ?_, fun m hm => ?_⟩, rfl⟩, (LeS.same (.same (.same (.same (.non .nil))))).go⟩⟩
        · have hk := (List.getElem?_eq_some_iff.mp h6).1
          show (left.eraseIdx k).length + (kk + 1) = rs.length
          rw [List.length_eraseIdx, if_pos hk]; omega
        · show (found ++ [r]).length = kk + 1
          rw [List.length_append, q2]; rfl
        · have e : rs.length - kk = (rs.length - (kk + 1)) + 1 := by omega
          have z := q3 (r :: m) (by rw [e]; exact mixes_step h6 hm)
          show found ++ [r] ++ m ∈ _
          rw [List.append_assoc]; exact z
    · obtain ⟨left, found, kk⟩ := s
      obtain ⟨q1, q2, q3⟩ := hI
      have hi : kk = (rangeI rs.length).length := hi
      rw [rangeI_len] at hi
      have hi : kk = rs.length := by omega
      refine sg_le (Le.freeze 3 rfl rfl) (sg_retX (xg_eg (eg_name 3)) fun r g' hp => ?_)
      obtain ⟨rfl, rfl⟩ := hp
      refine ⟨⟨found, ?_, rfl⟩, _, rfl, fun D vs q => by rw [← hi]; exact q⟩
      have z := q3 [] (by rw [rangeI_len]; rw [show rs.length - ((rs.length : Nat) : Int).toNat = 0 by omega]; exact List.mem_singleton.mpr rfl)
      rw [List.append_nil] at z
      exact z

end
end Rf

namespace Rf
open PySem PySem.Spec PyProof.Rows L2
section
variable {X : Cx} {g : List Sl} {a b : Expr} {p1 p2 pos : Pos} {i j : Int} {k : Bool} {rs : List Rp} {q1 : Rp → List Sl → Prop}
theorem cut_all {α : Type} (l : List α) : cutL l none none = l := cut_whole ⟨rfl, rfl⟩
theorem xg_slice (ha : XG X a g q1) (h : ∀ r g', q1 r g' → ∃ rs, r = rL rs) : XG X (.Subscript a (.Slice none none none p2) pos) g q1 :=
  pe_to (pe_slice sl_list ha po_none po_none) fun σ H Q ⟨F, D0, D, ok, k⟩ => ⟨F, D0, D, ok, fun r g' v H' D' hq ok' d hv => by
    obtain ⟨rs, rfl⟩ := h r g' hq
    obtain ⟨p, vs, rfl, h2, h3⟩ := hv
    refine ⟨p, vs, rfl, SqL.of (ok'.sub _ _ h2), fun q nq => ?_⟩
    have z := reps_cut h3 none none
    rw [cut_all] at z
    have e := Grow.new (o := .lst (cutV vs none none)) ok'.sub nq
    exact k (rL rs) g' (.ref q) _ _ hq (ok'.grow e) (d.trans e.d) ⟨q, _, rfl, upd_same, Reps.mono e.d z⟩⟩
theorem xg_addI {post : Rp → List Sl → Prop} (ha : EG X a g (rInt i)) (hb : XG X b g q1) (h : ∀ r g', q1 r g' → ∃ j, r = rInt j ∧ post (rInt (i + j)) g') : XG X (.BinOp a .Add b pos) g post :=
  xg_op (q1 := fun r' g' => r' = rInt i ∧ g' = g) (q2 := fun _ _ => q1) op_add (xg_eg ha) (fun r g' e => e.2 ▸ hb) fun r1 g1 r2 g2 e h2 => by
    obtain ⟨rfl, rfl⟩ := e
    obtain ⟨j, rfl, hp⟩ := h r2 g2 h2
    exact ⟨rInt (i + j), hp, fun x y H D Q s hx hy k => int2 s hx hy k⟩
end
abbrev fr (z : List Int × Int) : Rp := rT [rInts z.1, rInt z.2]
def repW (w : List Int) (n : Nat) : List Int := (List.replicate n w).flatten
def partW (w : List Int) (k : Int) : Nat → Nat → List (List (List Int × Int))
  | 0, left => if left = 0 then [[]] else []
  | f + 1, left => if left = 0 then [[]] else (List.range left).flatMap fun s => (partW w k f (left - (s + 1))).map ((repW w (s + 1), k) :: ·)
theorem partW_zero (w : List Int) (k : Int) (f : Nat) : partW w k f 0 = [[]] := by cases f <;> rfl
theorem partW_step {w : List Int} {k : Int} {f left s : Nat} {m : List (List Int × Int)} (h : s < left) (hm : m ∈ partW w k f (left - (s + 1))) : (repW w (s + 1), k) :: m ∈ partW w k (f + 1) left := by
  unfold partW
  rw [if_neg (by omega)]
  exact List.mem_flatMap.mpr ⟨s, List.mem_range.mpr h, List.mem_map.mpr ⟨m, hm, rfl⟩⟩
def partR (r : Nat) : List (Int × List Int) → List (List (List Int × Int))
  | [] => [[]]
  | z :: rest => (partW z.2 z.1 r r).flatMap fun a => (partR r rest).map (a ++ ·)
def partOut (ws : List (List Int)) (r : Nat) : List (List (List Int × Int)) := (partR r (enumI ws)).flatMap fun rows => mixes rows.length rows

section
variable {P : Program} {w : World} {K : PySem.W.Frag} {mg : Str → Option Value} {base : Heap} {f : Addr} {fd : FuncData}

inductive relParted : RelJ
  | mk (ws : List (List Int)) (r : Nat) (hw : ∀ w ∈ ws, w.length ≤ 50) (hr : r ≤ 10 ∧ ws.length ≤ 10) : relParted [rL (ws.map rInts), rInt r] (2 * (ws.length * r)) (fun q => ∃ rows, rows ∈ partOut ws r ∧ q = rT [rL (rows.map fun z => rInts z.1), rL (rows.map fun z => rInt z.2)])
structure PartI (ws : List (List Int)) (r i : Nat) (acc : List (List Int × Int)) : Prop where
  len : acc.length ≤ i * r
  mem : ∀ b ∈ partR r ((enumI ws).drop i), acc ++ b ∈ partR r (enumI ws)
structure PartJ (ws : List (List Int)) (w : List Int) (k : Int) (r i : Nat) (s : Nat × List (List Int × Int) × Nat) : Prop where
  le : s.1 ≤ s.2.2
  lr : s.1 ≤ r
  len : s.2.1.length + s.1 ≤ (i + 1) * r
  mem : ∀ m ∈ partW w k s.2.2 s.1, ∀ b ∈ partR r ((enumI ws).drop (i + 1)), s.2.1 ++ m ++ b ∈ partR r (enumI ws)

theorem sc__law_parted : FnScope ["_law_jar_here", "_law_words", "_law_rounds", "_law_rows", "_law_number", "_law_word", "_law_left", "_law_some", "_law_row"] ["_law_jar_here", "_law_words", "_law_rounds"] (defScope (top 104)) := ⟨rfl, rfl, rfl, by decide +kernel, rfl, by decide +kernel, by decide +kernel⟩
theorem c__law_parted (T : Fre mg) (C1 : JarC P w K mg base "_law_dip" 1 relDip) (C2 : JarC P w K mg base "_law_mixed" 2 relMixed) (F : FnP K "_law_parted" (top 104) f fd) (gm : mg "_law_parted" = some (.ref f)) : JarC P w K mg base "_law_parted" 3 relParted := by
  refine ⟨f, fd, ["_law_jar_here", "_law_words", "_law_rounds"], def_j F sc__law_parted (fun A k S h => by cases h <;> rfl) (by decide) (fun cdv A outer s H E hr As kk T p cs n t0 r0 h hn h1 h2 h3 => ?_), gm, F.kp, F.bindsN fun _ _ _ _ _ _ us hl => match us, hl with | [_, _, _], _ => rfl⟩
  cases h with
  | mk ws r hw hr2 =>
    have hsz : ws.length * r ≤ 100 := Nat.le_trans (Nat.mul_le_mul hr2.2 hr2.1) (by decide)
    refine sg_le (Le.weakJ (rs' := jarR cs n) 0 rfl fun D vs q => jar_end h1 h2 h3 q) ?_
    refine sg_setV 3 (vg_l (ng_lst ag_nil)) sc__law_parted.nd ?_
    refine sg_forN (fa := fun z : Int × List Int => rT [rInt z.1, rInts z.2]) (l := enumI ws) (S := List (List Int × Int) × Nat) (fun i s => PartI ws r i s.1 ∧ s.2 = i) (fun s => [.j p (jarR cs (n + s.2 * r)), .d (rL (ws.map rInts)), .d (rInt r), .l (s.1.map fr), .non, .non, .non, .non, .non]) (fun s z => [.j p (jarR cs (n + s.2 * r)), .d (rL (ws.map rInts)), .d (rInt r), .l (s.1.map fr), .d (rInt z.1), .d (rInts z.2), .non, .non, .non]) [4, 5] ([], 0)
      (by rw [← enumR_map]; exact ig_enum false T.enumerate (eg_name 1)) ⟨⟨Nat.zero_le _, fun b hb => hb⟩, rfl⟩ (Le.of_eq (by show _ = [Sl.j p (jarR cs (n + 0 * r)), _, _, _, _, _, _, _, _]; rw [Nat.zero_mul]; rfl)) rfl (fun s z => kg_pair 4 5 rfl sc__law_parted.nd) (fun i s z hx ⟨hI, hi⟩ => ?_) (fun s ⟨hI, hi⟩ => ?_)
    · obtain ⟨acc, ii⟩ := s
      have hi : ii = i := hi
      subst hi
      have hI : PartI ws r ii acc := hI
      have hlt : ii < ws.length := by
        have := (List.getElem?_eq_some_iff.mp hx).1
        rw [enumI_len] at this; exact this
      have hzw : z.2 ∈ ws := by
        have := List.mem_of_getElem? hx
        unfold enumI at this
        obtain ⟨y, hy, rfl⟩ := List.mem_map.mp this
        exact (List.mem_zipIdx' hy).2 ▸ List.getElem_mem _
      have hwl := hw z.2 hzw
      have hb1 : (ii + 1) * r ≤ ws.length * r := Nat.mul_le_mul_right r hlt
      have hd : (enumI ws).drop ii = z :: (enumI ws).drop (ii + 1) := by
        have hl := (List.getElem?_eq_some_iff.mp hx).1
        rw [← (List.getElem?_eq_some_iff.mp hx).2]
        exact (List.getElem_cons_drop ..).symm
      have hmul : (ii + 1) * r = ii * r + r := Nat.succ_mul ii r
      refine sg_set 6 (eg_name 2) sc__law_parted.nd ?_
      refine sg_whileN (S := Nat × List (List Int × Int) × Nat) (PartJ ws z.2 z.1 r ii) (fun s => s.1) (fun s => [.j p (jarR cs (n + ii * r + (r - s.1))), .d (rL (ws.map rInts)), .d (rInt r), .l (s.2.1.map fr), .d (rInt z.1), .d (rInts z.2), .d (rInt s.1), .non, .non]) (fun s => decide ((0 : Int) < (s.1 : Int))) (r, acc, r) ⟨Nat.le_refl _, Nat.le_refl _, by show acc.length + r ≤ _; have := hI.len; omega, fun m hm b hb => ?_⟩
        (Le.of_eq (by show _ = [Sl.j p (jarR cs (n + ii * r + (r - r))), _, _, _, _, _, _, _, _]; rw [Nat.sub_self]; rfl)) (fun s _ => bg_gt (eg_name 6) eg_int) (fun s hs hc => ?_) (fun s hs hc => ?_)
      · have q := hI.mem (m ++ b) (by rw [hd]; exact List.mem_flatMap.mpr ⟨m, hm, List.mem_map.mpr ⟨b, hb, rfl⟩⟩)
        show acc ++ m ++ b ∈ _
        rw [List.append_assoc]; exact q
      · obtain ⟨left, acc2, ff⟩ := s
        obtain ⟨j1, j2, j3, j4⟩ := hs
        have j1 : left ≤ ff := j1
        have j2 : left ≤ r := j2
        have j3 : acc2.length + left ≤ (ii + 1) * r := j3
        have hc : (0 : Int) < (left : Int) := of_decide_eq_true hc
        refine sg_setX 7 (post := fun q g' => ∃ s : Nat, s < left ∧ q = rInt ((s + 1 : Nat) : Int) ∧ g' = [.j p (jarR cs (n + ii * r + (r - left) + 1)), .d (rL (ws.map rInts)), .d (rInt r), .l (acc2.map fr), .d (rInt z.1), .d (rInts z.2), .d (rInt left), .non, .non]) (xg_addI (i := 1) eg_int (xg_jar 0 C1 rfl (ag_cons (eg_name 6) ag_nil) (.mk (left : Int) ⟨by omega, by omega⟩) (by omega) (hr.mono (by decide))) fun q g' hp => ?_) sc__law_parted.nd (fun q g' hp => ?_)
        · obtain ⟨⟨j, rfl, h4, h5⟩, rfl⟩ := hp
          exact ⟨j, rfl, j.toNat, by omega, congrArg rInt (by omega), rfl⟩
        · obtain ⟨s, h4, rfl, rfl⟩ := hp
          have hz1 : z.2.length * (s + 1) ≤ 50 * 10 := Nat.mul_le_mul hwl (by omega)
          refine sg_append 3 (r := fr (repW z.2 (s + 1), z.1)) rfl (eg_tup (ag_cons (eg_n (ng_rep1 (fa := rInt) (l := z.2) (j := ((s + 1 : Nat) : Int)) (by rw [Int.toNat_natCast]; omega) ⟨by omega, by omega⟩ (eg_name 5) (eg_name 7))) (ag_cons (eg_name 4) ag_nil))) (by rw [List.length_map]; omega) ?_
          refine sg_set 6 (eg_sub (eg_name 6) (eg_name 7)) sc__law_parted.nd (sg_nil ⟨(left - (s + 1), acc2 ++ [(repW z.2 (s + 1), z.1)], ff - 1), ⟨by show left - (s + 1) ≤ ff - 1; omega, by show left - (s + 1) ≤ r; omega, ?_, fun m hm b hb => ?_⟩, by show left - (s + 1) < left; omega, ?_⟩)
          · show (acc2 ++ [_]).length + (left - (s + 1)) ≤ _
            rw [List.length_append, List.length_singleton]; omega
          · have e : ff = (ff - 1) + 1 := by omega
            have q := j4 ((repW z.2 (s + 1), z.1) :: m) (by show _ ∈ partW z.2 z.1 ff left; rw [e]; exact partW_step h4 hm) b hb
            show acc2 ++ [_] ++ m ++ b ∈ _
            rw [List.append_assoc acc2]
            exact q
          · have e1 : (left : Int) - ((s + 1 : Nat) : Int) = ((left - (s + 1) : Nat) : Int) := by omega
            show Le [.j p (jarR cs (n + ii * r + (r - left) + 1)), .d (rL (ws.map rInts)), .d (rInt r), .l (acc2.map fr ++ [fr (repW z.2 (s + 1), z.1)]), .d (rInt z.1), .d (rInts z.2), .d (rInt ((left : Int) - ((s + 1 : Nat) : Int))), .d (rInt ((s + 1 : Nat) : Int)), .non] [.j p (jarR cs (n + ii * r + (r - (left - (s + 1))))), .d (rL (ws.map rInts)), .d (rInt r), .l ((acc2 ++ [(repW z.2 (s + 1), z.1)]).map fr), .d (rInt z.1), .d (rInts z.2), .d (rInt ((left - (s + 1) : Nat) : Int)), .non, .non]
            rw [e1, List.map_append]
            exact Le.trans (Le.weakJ 0 rfl fun D vs q => jar_up (by omega) q) (LeS.same (.same (.same (.same (.same (.same (.same (.non (.same .nil))))))))).go
      · obtain ⟨left, acc2, ff⟩ := s
        obtain ⟨j1, j2, j3, j4⟩ := hs
        have hc : ¬ (0 : Int) < (left : Int) := of_decide_eq_false hc
        have h0 : left = 0 := by omega
        subst h0
        refine sg_nil ⟨(acc2, ii + 1), ⟨⟨by have j3 : acc2.length + 0 ≤ (ii + 1) * r := j3; exact j3, fun b hb => ?_⟩, rfl⟩, ?_⟩
        · have q := j4 [] (by show [] ∈ partW z.2 z.1 ff 0; rw [partW_zero]; exact List.mem_singleton.mpr rfl) b hb
          have q : acc2 ++ [] ++ b ∈ _ := q
          rw [List.append_nil] at q
          exact q
        · show Le _ [.j p (jarR cs (n + (ii + 1) * r)), .d (rL (ws.map rInts)), .d (rInt r), .l (acc2.map fr), .non, .non, .non, .non, .non]
          rw [hmul, show n + (ii * r + r) = n + ii * r + (r - 0) by omega]
          exact (LeS.same (.same (.same (.same (.non (.non (.non (.non (.same .nil))))))))).go
    · obtain ⟨acc, ii⟩ := s
      have hi : ii = (enumI ws).length := hi
      rw [enumI_len] at hi
      subst hi
      have hI : PartI ws r (enumI ws).length acc := hI
      have hl : acc.length ≤ ws.length * r := by have := hI.len; rw [enumI_len] at this; exact this
      have hmem := hI.mem [] (by rw [List.drop_length]; exact List.mem_singleton.mpr rfl)
      rw [List.append_nil] at hmem
      refine sg_le (Le.freeze 3 rfl rfl) ?_
      refine sg_setX 3 (post := fun q g' => (∃ m, m ∈ mixes acc.length acc ∧ q = rL (m.map fr)) ∧ g' = [.j p (jarR cs (n + ws.length * r + acc.length)), .d (rL (ws.map rInts)), .d (rInt r), .d (rL (acc.map fr)), .non, .non, .non, .non, .non]) (xg_to (xg_slice (xg_jar 0 C2 rfl (ag_cons (eg_name 3) ag_nil) (.mk (acc.map fr) (by rw [List.length_map]; omega)) (by show n + ws.length * r + (acc.map fr).length ≤ 1000; rw [List.length_map]; omega) hr) fun q g' hp => ?_) fun q g' hp => ?_) sc__law_parted.nd (fun q g' hp => ?_)
      · obtain ⟨⟨l, _, rfl⟩, _⟩ := hp
        exact ⟨l, rfl⟩
      · obtain ⟨⟨l, hl2, rfl⟩, rfl⟩ := hp
        rw [mixes_map, List.length_map] at hl2
        obtain ⟨m, hm, rfl⟩ := List.mem_map.mp hl2
        refine ⟨⟨m, hm, rfl⟩, ?_⟩
        rw [List.length_map]; rfl
      · obtain ⟨⟨m, hm, rfl⟩, rfl⟩ := hp
        have hml : m.length = acc.length := mixes_len hm
        refine sg_retX (xg_eg (eg_tup (ag_cons (eg_n (ng_lc (fa := fr) (fb := rInts) (l := m) [("_law_row", 8), ("_law_number", 4)] (fun z => [.j p (jarR cs (n + ws.length * r + acc.length)), .d (rL (ws.map rInts)), .d (rInt r), .d (rL (m.map fr)), .d (rInt z.2), .non, .non, .non, .d (rInts z.1)]) (fun _ => some true) (fun z => some z.1) rfl sc__law_parted.nd (ig_list (eg_name 3)) (comp_all (by omega)) (blkOk_by (N := ["_law_jar_here", "_law_words", "_law_rounds", "_law_rows", "_law_number", "_law_word", "_law_left", "_law_some", "_law_row"]) (sc := defScope (top 104)) (by decide +kernel))
            (fun x s H C cl fp => kg_pair 8 4 rfl sc__law_parted.nd) (fun x k s H C cl fp e => by cases e; exact ts_nil) (fun x y s H C cl fp _ e => by cases e; exact eg_name 8)))
          (ag_cons (eg_n (ng_lc (fa := fr) (fb := rInt) (l := m) [("_law_row", 8), ("_law_number", 4)] (fun z => [.j p (jarR cs (n + ws.length * r + acc.length)), .d (rL (ws.map rInts)), .d (rInt r), .d (rL (m.map fr)), .d (rInt z.2), .non, .non, .non, .d (rInts z.1)]) (fun _ => some true) (fun z => some z.2) rfl sc__law_parted.nd (ig_list (eg_name 3)) (comp_all (by omega)) (blkOk_by (N := ["_law_jar_here", "_law_words", "_law_rounds", "_law_rows", "_law_number", "_law_word", "_law_left", "_law_some", "_law_row"]) (sc := defScope (top 104)) (by decide +kernel))
            (fun x s H C cl fp => kg_pair 8 4 rfl sc__law_parted.nd) (fun x k s H C cl fp e => by cases e; exact ts_nil) (fun x y s H C cl fp _ e => by cases e; exact eg_name 4))) ag_nil)))) fun q g' hp => ?_
        obtain ⟨rfl, rfl⟩ := hp
        refine ⟨⟨m, List.mem_flatMap.mpr ⟨acc, hmem, hm⟩, ?_⟩, _, rfl, fun D vs q => jar_up (by omega) q⟩
        rw [List.map_map, List.map_map]; rfl

end
end Rf

namespace Rf
open PySem PySem.Spec PyProof.Rows L2
abbrev Case := List (List Int) × Nat
def lawCases : List Case := [([[1, 2, -1, -2]], 2), ([[1, 2, -1, -2]], 3), ([[1, -1]], 3), ([[1], [-1]], 2), ([[1, 2, 3, -1, -2, -3]], 2), ([[1, 1, -1, -1]], 2), ([[1, 2], [-2, -1]], 2), ([[2, 1, -2], [-1]], 2), ([[1, -2, 3, -1, 2, -3]], 2), ([[1, 2, -2, -1]], 2), ([[1, 2, -1, -2]], 1)]
abbrev cr (c : Case) : Rp := rT [rL (c.1.map rInts), rInt c.2]

section
variable {P : Program} {w : World} {K : PySem.W.Frag} {mg : Str → Option Value} {base : Heap} {f : Addr} {fd : FuncData}

inductive relCase : RelJ
  | mk : relCase [] 1 (fun q => ∃ c ∈ lawCases, q = cr c)

theorem sc__law_case : FnScope ["_law_jar_here"] ["_law_jar_here"] (defScope (top 105)) := ⟨rfl, rfl, rfl, by decide +kernel, rfl, by decide +kernel, by decide +kernel⟩
theorem c__law_case (C1 : JarC P w K mg base "_law_pick" 2 relPick) (F : FnP K "_law_case" (top 105) f fd) (gm : mg "_law_case" = some (.ref f)) : JarC P w K mg base "_law_case" 3 relCase := by
  refine ⟨f, fd, ["_law_jar_here"], def_j F sc__law_case (fun A k S h => by cases h <;> rfl) (by decide) (fun cdv A outer s H E hr As kk T p cs n t0 r0 h hn h1 h2 h3 => ?_), gm, F.kp, F.bindsN fun _ _ _ _ _ _ us hl => match us, hl with | [_], _ => rfl⟩
  cases h with
  | mk =>
    refine sg_le (Le.weakJ (rs' := jarR cs n) 0 rfl fun D vs q => jar_end h1 h2 h3 q) ?_
    refine sg_retX (xg_jar 0 C1 rfl (A := [rL (lawCases.map cr)]) (ag_cons (eg_n (ng_lst (rs := lawCases.map cr) (ag_cons (eg_tup (ag_cons (eg_n (ng_lst (ag_cons (eg_n (ng_lst (ag_cons eg_int (ag_cons eg_int (ag_cons (eg_neg eg_int) (ag_cons (eg_neg eg_int) ag_nil)))))) ag_nil))) (ag_cons eg_int ag_nil))) (ag_cons (eg_tup (ag_cons (eg_n (ng_lst (ag_cons (eg_n (ng_lst (ag_cons eg_int (ag_cons eg_int (ag_cons (eg_neg eg_int) (ag_cons (eg_neg eg_int) ag_nil)))))) ag_nil))) (ag_cons eg_int ag_nil))) (ag_cons (eg_tup (ag_cons (eg_n (ng_lst (ag_cons (eg_n (ng_lst (ag_cons eg_int (ag_cons (eg_neg eg_int) ag_nil)))) ag_nil))) (ag_cons eg_int ag_nil))) (ag_cons (eg_tup (ag_cons (eg_n (ng_lst (ag_cons (eg_n (ng_lst (ag_cons eg_int ag_nil))) (ag_cons (eg_n (ng_lst (ag_cons (eg_neg eg_int) ag_nil))) ag_nil)))) (ag_cons eg_int ag_nil))) (ag_cons (eg_tup (ag_cons (eg_n (ng_lst (ag_cons (eg_n (ng_lst (ag_cons eg_int (ag_cons eg_int (ag_cons eg_int (ag_cons (eg_neg eg_int) (ag_cons (eg_neg eg_int) (ag_cons (eg_neg eg_int) ag_nil)))))))) ag_nil))) (ag_cons eg_int ag_nil))) (ag_cons (eg_tup (ag_cons (eg_n (ng_lst (ag_cons (eg_n (ng_lst (ag_cons eg_int (ag_cons eg_int (ag_cons (eg_neg eg_int) (ag_cons (eg_neg eg_int) ag_nil)))))) ag_nil))) (ag_cons eg_int ag_nil))) (ag_cons (eg_tup (ag_cons (eg_n (ng_lst (ag_cons (eg_n (ng_lst (ag_cons eg_int (ag_cons eg_int ag_nil)))) (ag_cons (eg_n (ng_lst (ag_cons (eg_neg eg_int) (ag_cons (eg_neg eg_int) ag_nil)))) ag_nil)))) (ag_cons eg_int ag_nil))) (ag_cons (eg_tup (ag_cons (eg_n (ng_lst (ag_cons (eg_n (ng_lst (ag_cons eg_int (ag_cons eg_int (ag_cons (eg_neg eg_int) ag_nil))))) (ag_cons (eg_n (ng_lst (ag_cons (eg_neg eg_int) ag_nil))) ag_nil)))) (ag_cons eg_int ag_nil))) (ag_cons (eg_tup (ag_cons (eg_n (ng_lst (ag_cons (eg_n (ng_lst (ag_cons eg_int (ag_cons (eg_neg eg_int) (ag_cons eg_int (ag_cons (eg_neg eg_int) (ag_cons eg_int (ag_cons (eg_neg eg_int) ag_nil)))))))) ag_nil))) (ag_cons eg_int ag_nil))) (ag_cons (eg_tup (ag_cons (eg_n (ng_lst (ag_cons (eg_n (ng_lst (ag_cons eg_int (ag_cons eg_int (ag_cons (eg_neg eg_int) (ag_cons (eg_neg eg_int) ag_nil)))))) ag_nil))) (ag_cons eg_int ag_nil))) (ag_cons (eg_tup (ag_cons (eg_n (ng_lst (ag_cons (eg_n (ng_lst (ag_cons eg_int (ag_cons eg_int (ag_cons (eg_neg eg_int) (ag_cons (eg_neg eg_int) ag_nil)))))) ag_nil))) (ag_cons eg_int ag_nil))) ag_nil))))))))))) (by decide))) ag_nil) (.mk (lawCases.map cr) (by decide)) hn hr) fun q g' hp => ?_
    obtain ⟨⟨j, hj⟩, rfl⟩ := hp
    refine ⟨?_, _, rfl, fun D vs q => q⟩
    rw [List.getElem?_map] at hj
    cases e : lawCases[j]? with
    | none => rw [e] at hj; cases hj
    | some c =>
      rw [e] at hj
      cases hj
      exact ⟨c, List.mem_of_getElem? e, rfl⟩

end
end Rf

namespace Rf
open PySem PySem.Spec PyProof.Rows L2
/-! ### a def that returns a new list, which the caller then has as its own -/
abbrev RelN := List Rp → List Rp → Prop
def SpN (rel : RelN) : Sp := fun vs H Q _ => ∃ A rs D, rel A rs ∧ Same D H ∧ Reps D A vs ∧ GiveN rs H D Q
structure NewL (P : Program) (w : World) (K : PySem.W.Frag) (mg : Str → Option Value) (base : Heap) (name : Str) (k : Nat) (rel : RelN) : Prop where
  ex : ∃ f fd ps, FnOk P w K mg base CX0 k f fd ps (SpN rel) ∧ mg name = some (.ref f) ∧ PySem.W.keepIn K (.ref f) = true ∧ Binds K fd ps []
section
variable {X : Cx} {g : List Sl} {e : Expr} {es : List Expr} {p1 pos : Pos} {rs A : List Rp} {x : Str} {lv : Nat} {rel : RelN}
theorem ng_call (F : NewL X.prog X.w X.K X.mg X.base x lv rel) (ha : AG X (e :: es) g A) (h : rel A rs) (hr : Room lv X.A) (hg : Gl X x := by rfl) (hdb : (x == ("__debug__" : Str)) = false := by decide) (he : starEach (e :: es) X.env = (false, eval e X.env) :: starEach es X.env := by rfl)
    (hpl : (backTo pos (starEach es X.env)).any (·.1) = false := by rfl) : NG X (.Call (.Name x p1) (e :: es) [] pos) g rs := by
  obtain ⟨f, fd, ps, F, m, kp, b⟩ := F.ex
  refine pe_to (pe_call F hr hg m kp b .nil pass0 ha hdb he hpl) fun σ H Q ⟨F, D0, D, ok, k⟩ => ⟨F, D0, D, ok, fun vs H' D' e hvs => ?_⟩
  show SpN rel (vs ++ []) H' Q E0
  rw [List.append_nil]
  exact ⟨A, rs, D', h, e.i, hvs, fun p vs H2 D2 e2 n hv => k p vs H2 D2 (e.trans e2) n hv⟩
end
section
variable {P : Program} {w : World} {K : PySem.W.Frag} {mg : Str → Option Value} {base : Heap} {x qual : Str} {params : Arguments} {e : Expr} {pos : Pos} {scope : Scope} {f : Addr} {fd : FuncData} {N ps : List Str} {k : Nat}
theorem def_n {rel : RelN} (F : FunD K x qual params [.Return (some e) pos] scope [] [] f fd) (S : FnScope N ps scope) (hl : ∀ A r, rel A r → A.length = ps.length) (hN : ps.length ≤ N.length)
    (hb : ∀ (cdv : Value) (A : Around) (outer : List Env) (s : Shared) (H : Hp) (E : XK), Room k (Bd P w K mg base N qual scope f cdv A outer s H E).A → ∀ As rs, rel As rs → NG (Bd P w K mg base N qual scope f cdv A outer s H E) e (g0 N As) rs) :
    FnOk P w K mg base CX0 (k + 1) f fd ps (SpN rel) := by
  refine F.ok S (fun vs H Q E ⟨A, r, D, h, _, hv, _⟩ => by rw [← hv.length]; exact hl A r h) fun cdv A outer s H vs Q E hr ⟨As, rs, D, h, sD, hv, kk⟩ => ?_
  refine ⟨_, PSs.nox (pss_one (ps_ret (hb cdv A outer s H E hr As rs h))), ?_⟩
  exact ⟨H, D, D, ok_start (by rw [hl As rs h]; exact hN) sD hv, kk⟩
end

section
variable {P : Program} {w : World} {K : PySem.W.Frag} {mg : Str → Option Value} {base : Heap} {f : Addr} {fd : FuncData}

/-- a list that stands still, or one of the written part -/
def rLK (K : PySem.W.Frag) (rs : List Rp) : Rp := ⟨fun H v => ∃ a vs, v = .ref a ∧ SqL K H a vs ∧ Reps H rs vs, fun e ⟨a, vs, h1, h2, h3⟩ => ⟨a, vs, h1, h2.elim (fun z => .inl (Rf.Rd.same e z)) .inr, h3.mono e⟩⟩
section
variable {X : Cx} {g : List Sl} {a : Expr} {p2 pos : Pos} {rs : List Rp}
theorem ng_slLK {lo hi : Option Expr} {ol oh : Option Int} (ha : EG X a g (rLK X.K rs)) (hl : OG X lo g ol) (hh : OG X hi g oh) : NG X (.Subscript a (.Slice lo hi none p2) pos) g (cutL rs ol oh) := pe_to (pe_slice sl_list ha hl hh) fun σ H Q ⟨F, D0, D, ok, k⟩ => sl_read ok fun v H' D' e hv => by
  obtain ⟨p, vs, rfl, h2, h3⟩ := hv
  exact ⟨p, vs, rfl, h2.elim (fun z => .inl (Rf.Rd.same e.i z)) .inr, fun q nq => k q _ H' D' e nq (reps_cut h3 ol oh)⟩
end
inductive relJarN (K : PySem.W.Frag) : RelN
  | mk (ns : List Int) (hz : ns.length ≤ 1000) : relJarN K [rLK K (ns.map rInt)] [rInts (cutL ns none (some 60)), rInt 0, rInt 0]
theorem sc__law_jar : FnScope ["_law_script", "_law_cell"] ["_law_script"] (defScope (top 94)) := ⟨rfl, rfl, rfl, by decide +kernel, rfl, by decide +kernel, by decide +kernel⟩
theorem c__law_jar (T : Fre mg) (F : FnP K "_law_jar" (top 94) f fd) (gm : mg "_law_jar" = some (.ref f)) : NewL P w K mg base "_law_jar" 1 (relJarN K) := by
  refine ⟨f, fd, ["_law_script"], def_n F sc__law_jar (fun A r h => by cases h <;> rfl) (by decide) (fun cdv A outer s H E hr As rs h => ?_), gm, F.kp, F.bindsN fun _ _ _ _ _ _ us hl => match us, hl with | [_], _ => rfl⟩
  cases h with
  | mk ns hz =>
    refine ng_lst (ag_cons (eg_n (rs := (cutL ns none (some 60)).map rInt) (ng_lc (fa := rInt) (fb := rInt) (l := cutL ns none (some 60)) [("_law_cell", 1)] (fun i => [.d (rLK K (ns.map rInt)), .d (rInt i)]) (fun _ => some true) (fun i => some i) rfl sc__law_jar.nd (ig_list (eg_n (by rw [← cutL_map]; exact ng_slLK (eg_name 0) og_none (og_some eg_int)))) ?_ (blkOk_by (N := ["_law_script", "_law_cell"]) (sc := defScope (top 94)) (by decide +kernel))
        (fun x s H C cl fp => kg_name 1 sc__law_jar.nd) (fun x k s H C cl fp e => by cases e; exact ts_nil) (fun x y s H C cl fp _ e => by cases e; exact eg_intI T.int (eg_name 1)))) (ag_cons eg_int (ag_cons eg_int ag_nil)))
    have := comp_all (h := fun i : Int => i) (l := cutL ns none (some 60)) (by have := cutL_len ns none (some 60); omega)
    rw [List.map_id'] at this
    exact this

end
end Rf

namespace Rf
open PySem PySem.Spec PyProof.Rows L2
section
variable {P : Program} {w : World} {K : PySem.W.Frag} {mg : Str → Option Value} {base : Heap} {f : Addr} {fd : FuncData}

inductive relFix0 (K : PySem.W.Frag) : Rel
  | mk (rx : Rp) (h : relListed K [rx] (rBl false)) : relFix0 K [rx] rx
theorem notlisted {K : PySem.W.Frag} {rx : Rp} {t : Value} (h : HasTy K rx t) (h1 : PySem.W.kitOne K t (.type "list") = some false) (h2 : PySem.W.kitOne K t (.type "tuple") = some false) : relListed K [rx] (rBl false) := ⟨rx, t, _, rfl, h, kit_any2 (x := false) (y := false) h1 h2, rfl⟩
theorem rBl_inj {a b : Bool} (h : rBl a = rBl b) : a = b := by
  have e : (rBl b).p (fun _ => none) (.bl a) := h ▸ (show (rBl a).p (fun _ => none) (.bl a) from rfl)
  have e : V.bl a = V.bl b := e
  cases e; rfl

theorem sc_fixed0 : FnScope ["value", "each"] ["value"] (defScope (top 80)) := ⟨rfl, rfl, rfl, by decide +kernel, rfl, by decide +kernel, by decide +kernel⟩
theorem c_fixed0 (T : Fre mg) (F : FnP K "fixed" (top 80) f fd) (gm : mg "fixed" = some (.ref f)) : DefC P w K mg base "fixed" 1 (relFix0 K) := by
  refine ⟨f, fd, ["value"], def_g F sc_fixed0 (fun A r h => by cases h <;> rfl) (by decide) (fun cdv A outer s H E hr As r h => ?_), gm, F.kp, F.bindsN fun _ _ _ _ _ _ us hl => match us, hl with | [_], _ => rfl⟩
  cases h with
  | mk rx h =>
    obtain ⟨rx', t, b, e, h1, h2, h3⟩ := h
    cases e
    have hb := rBl_inj h3
    subst hb
    exact sg_ifF (bg_val (eg_isiLT T.isinstance (eg_name 0) (eg_tup (ag_cons (eg_ty T.list boot_list) (ag_cons (eg_ty T.tuple boot_tuple) ag_nil))) h1 h2)) rfl (sg_ret (eg_name 0) rfl)

inductive relFix1 : Rel
  | mk (tp : Bool) (ns : List Int) (hz : ns.length ≤ 1000) : relFix1 [rQi tp ns] (rTI ns)
theorem listed_int {K : PySem.W.Frag} {n : Int} : relListed K [rInt n] (rBl false) := notlisted ty_int (kit_ty (by decide +kernel)) (kit_ty (by decide +kernel))
theorem ty_Q {K : PySem.W.Frag} {tp : Bool} {rs : List Rp} : ∃ t, HasTy K (rQ tp rs) t ∧ PySem.W.kitAny K t [.type "list", .type "tuple"] = some true := by
  cases tp with
  | true => exact ⟨_, ty_T, kit_any2 (x := false) (y := true) (kit_ty (by decide +kernel)) (kit_ty (by decide +kernel))⟩
  | false => exact ⟨_, ty_L, kit_any2 (x := true) (y := false) (kit_ty (by decide +kernel)) (kit_ty (by decide +kernel))⟩

theorem sc_fixed1 : FnScope ["value", "each"] ["value"] (defScope (top 80)) := ⟨rfl, rfl, rfl, by decide +kernel, rfl, by decide +kernel, by decide +kernel⟩
theorem c_fixed1 (T : Fre mg) (C1 : DefC P w K mg base "fixed" 1 (relFix0 K)) (F : FnP K "fixed" (top 80) f fd) (gm : mg "fixed" = some (.ref f)) : DefC P w K mg base "fixed" 2 relFix1 := by
  refine ⟨f, fd, ["value"], def_g F sc_fixed1 (fun A r h => by cases h <;> rfl) (by decide) (fun cdv A outer s H E hr As r h => ?_), gm, F.kp, F.bindsN fun _ _ _ _ _ _ us hl => match us, hl with | [_], _ => rfl⟩
  cases h with
  | mk tp ns hz =>
    obtain ⟨t, h1, h2⟩ := ty_Q (K := K) (tp := tp) (rs := ns.map rInt)
    have hc : comp (fun _ => some true) (fun i : Int => some i) ns = some ns := by
      have := comp_all (h := fun i : Int => i) (l := ns) (by omega)
      rw [List.map_id'] at this
      exact this
    refine sg_ifT (bg_val (eg_isiLT T.isinstance (eg_name 0) (eg_tup (ag_cons (eg_ty T.list boot_list) (ag_cons (eg_ty T.tuple boot_tuple) ag_nil))) h1 h2)) rfl (sg_ret (eg_tupleL T.tuple (eg_n (ng_lc (fa := rInt) (fb := rInt) (l := ns) [("each", 1)] (fun i => [.d (rQi tp ns), .d (rInt i)]) (fun _ => some true) (fun i => some i) rfl sc_fixed1.nd (ig_Q (eg_name 0)) hc (blkOk_by (N := ["value", "each"]) (sc := defScope (top 80)) (by decide +kernel)) (fun x s H C cl fp => kg_name 1 sc_fixed1.nd) (fun x k s H C cl fp e => by cases e; exact ts_nil) (fun x y s H C cl fp _ e => by cases e; exact eg_call C1 (ag_cons (eg_name 1) ag_nil) (.mk _ listed_int) hr)))) rfl)

inductive relFix2 (K : PySem.W.Frag) : Rel
  | mk (rx : Rp) (tp : Bool) (ns : List Int) (h : relListed K [rx] (rBl false)) (hz : ns.length ≤ 1000) : relFix2 K [rT [rx, rQi tp ns]] (rT [rx, rTI ns])

theorem sc_fixed2 : FnScope ["value", "each"] ["value"] (defScope (top 80)) := ⟨rfl, rfl, rfl, by decide +kernel, rfl, by decide +kernel, by decide +kernel⟩
theorem c_fixed2 (T : Fre mg) (C1 : DefC P w K mg base "fixed" 1 (relFix0 K)) (C2 : DefC P w K mg base "fixed" 2 relFix1) (F : FnP K "fixed" (top 80) f fd) (gm : mg "fixed" = some (.ref f)) : DefC P w K mg base "fixed" 3 (relFix2 K) := by
  refine ⟨f, fd, ["value"], def_g F sc_fixed2 (fun A r h => by cases h <;> rfl) (by decide) (fun cdv A outer s H E hr As r h => ?_), gm, F.kp, F.bindsN fun _ _ _ _ _ _ us hl => match us, hl with | [_], _ => rfl⟩
  cases h with
  | mk rx tp ns h hz =>
    obtain ⟨t, h1, h2⟩ := ty_Q (K := K) (tp := true) (rs := [rx, rQi tp ns])
    refine sg_ifT (bg_val (eg_isiLT T.isinstance (eg_name 0) (eg_tup (ag_cons (eg_ty T.list boot_list) (ag_cons (eg_ty T.tuple boot_tuple) ag_nil))) h1 h2)) rfl (sg_ret (eg_tupleL T.tuple (eg_n (ng_lc (fa := fun b : Bool => if b then rx else rQi tp ns) (fb := fun b : Bool => if b then rx else rTI ns) (l := [true, false]) (ys := [true, false]) [("each", 1)] (fun b => [.d (rT [rx, rQi tp ns]), .d (if b then rx else rQi tp ns)]) (fun _ => some true) (fun b => some b) rfl sc_fixed2.nd (ig_tup (eg_name 0)) (by decide) (blkOk_by (N := ["value", "each"]) (sc := defScope (top 80)) (by decide +kernel)) (fun x s H C cl fp => kg_name 1 sc_fixed2.nd) (fun x k s H C cl fp e => by cases e; exact ts_nil) (fun x y s H C cl fp _ e => by cases e; cases x with | true => exact eg_call C1 (ag_cons (eg_name 1) ag_nil) (.mk _ h) (hr.mono (by decide)) | false => exact eg_call C2 (ag_cons (eg_name 1) ag_nil) (.mk tp ns hz) hr)))) rfl)

end
end Rf

namespace Rf
open PySem PySem.Spec PyProof.Rows L2
section
variable {P : Program} {w : World} {K : PySem.W.Frag} {mg : Str → Option Value} {base : Heap} {x qual : Str} {params : Arguments} {body : List Stmt} {scope : Scope} {f C : Addr} {fd : FuncData} {N ps : List Str} {k : Nat}
/-- __init__'s body by its reading -/
theorem init_body {rel : RelI} {cdv : Value} {A : Around} {outer : List Env} {s : Shared} {H : Hp} {vs : List V} {Q : VK} {E E' : XK} (hl : ∀ A r, rel A r → A.length + 1 ≤ N.length)
    (hb : ∀ As fs ax adx, rel As fs → SG (Bd P w K mg base N qual scope f cdv A outer s H E) body (.i ax adx C [] :: g0 (N.drop 1) As) { nx := fun g => g[0]? = some (.i ax adx C fs) }) (hsp : SpI C rel vs H Q E') :
    ∃ t, PSs (cxOf CX0 P w K mg base N qual scope f cdv A outer s H E) body t ∧ t { nx := fun _ H' => Q .non H', rt := Q } (L2.start N vs) H := by
  obtain ⟨ax, adx, As, fs, D, args, rfl, hx, h, sD, hD, hv, kk⟩ := hsp
  refine ⟨_, PSs.nox (hb As fs ax adx h), _, D, D, ok_startI (hl As fs h) sD hv hx hD, ⟨fun g' σ' H' D' e ok => ?_, fun _ _ _ _ q _ => q.elim, fun _ _ _ _ q _ => q.elim, fun _ _ _ q _ => q.elim, fun _ _ _ _ _ _ q => q.elim⟩⟩
  obtain ⟨q, o, h1, h2, h3, h4, h5⟩ := ok.own 0 _ e rfl
  cases o with
  | ins C' dx' ws =>
    obtain ⟨⟨rfl, rfl, rfl⟩, w4⟩ := h5
    refine kk H' D' ws (fun b u nb hb => ok.fr b u ((if_neg nb).trans hb)) h2 w4 ok.d0 ok.sub h3 fun b hb => ?_
    rcases ok.new b hb with z | z
    · exact .inl z
    · by_cases hq : b = q
      · subst hq; exact absurd h3 hb
      · refine .inr ?_
        rcases z with z | ⟨y, z, st⟩
        · have z : (if b = q then none else H b) = none := z
          rw [if_neg hq] at z; exact .inl z
        · have z : (if b = q then none else H b) = some y := z
          rw [if_neg hq] at z; exact .inr ⟨y, z, st⟩
  | _ => exact h5.elim
end

section
variable {P : Program} {w : World} {K : PySem.W.Frag} {mg : Str → Option Value} {base : Heap} {f : Addr} {fd : FuncData}

inductive relPaper0 (K : PySem.W.Frag) : RelI
  | mk (rw rx : Rp) (tp : Bool) (ns : List Int) (h : relListed K [rx] (rBl false)) (hz : ns.length ≤ 1000) : relPaper0 K [rw, rT [rx, rQi tp ns]] [("word", rw), ("parts", rT [rx, rTI ns])]
inductive relPaperI (K : PySem.W.Frag) : RelI
  | mk (rw rx : Rp) (tp : Bool) (ns : List Int) (h : relListed K [rx] (rBl false)) (hz : ns.length ≤ 1000) : relPaperI K [rw, rx, rQi tp ns] [("word", rw), ("parts", rT [rx, rTI ns])]
theorem sc_Paper_init : FnScope ["self", "word", "parts"] ["self", "word", "parts"] (defScope (inClass (top 81) 0)) := ⟨rfl, rfl, rfl, by decide +kernel, rfl, by decide +kernel, by decide +kernel⟩
theorem cxUp0 : StX.CXUp CX0 := StX.cxUp_none
theorem c_Paper_init {C : Addr} (c : Cls K C) (n1 : NoAttr K C "word") (n2 : NoAttr K C "parts") (C1 : DefC P w K mg base "fixed" 3 (relFix2 K)) (F : FunD K "__init__" "Paper.__init__" (defArgs (inClass (top 81) 0)) (defBody (inClass (top 81) 0)) (defScope (inClass (top 81) 0)) [] [] f fd) : FnR P w K mg base CX0 4 f (SpI C (relPaperI K)) := by
  obtain ⟨oc, od, dV, kV, doc, pm, an, cdv, ct, osl, rfl, lk, hcd, hd, _⟩ := F.ex
  have hd : dV = .none := hd.elim (fun z => z.2) fun z => absurd rfl z.1
  subst hd
  refine (StX.fn_star (k := 3) (N := ["self", "word", "parts"]) (ps := ["self", "word"]) (pv := "parts") (sp := SpI C (relPaper0 K)) lk hcd sc_Paper_init cxUp0 (StX.bind_star2 (B := fun l => bindArgs (PySem.W.fnOf "__init__" "Paper.__init__" (defArgs (inClass (top 81) 0)) (defBody (inClass (top 81) 0)) (defScope (inClass (top 81) 0)) .none kV doc pm an cdv ct) ⟨l, []⟩) (fun a b => rfl) (fun a b r rs => rfl)) fun A outer s H vs Q E hr hsp => ?_).imp fun vs H Q E ⟨x, dx, A, fs, D, args, e, hx, h, sD, hD, hv, kk⟩ => ?_
  · refine init_body (N := ["self", "word", "parts"]) (rel := relPaper0 K) (fun A r h => by cases h; exact Nat.le_of_ble_eq_true rfl) (fun As fs ax adx h => ?_) hsp
    cases h with
    | mk rw rx tp ns h hz =>
      refine sg_fld 0 c n1 rfl (eg_name 1) ?_
      refine sg_fld 0 c n2 rfl (eg_call C1 (ag_cons (eg_name 2) ag_nil) (.mk rx tp ns h hz) hr) (sg_nil rfl)
  · subst e
    cases h with
    | mk rw rx tp ns hl hz =>
      cases hv with
      | cons q1 hv => cases hv with
        | @cons _ v2 _ _ q2 hv => cases hv with
          | @cons _ v3 _ _ q3 hv =>
            cases hv
            refine ⟨[.ref x, _], [v2, v3], rfl, rfl, Nat.le_trans (show 2 ≤ 1000 by decide) (by decide), fun p hp => ?_⟩
            have dp : D p = none := sD.free hp
            have s1 : Same D (upd D p (.tup [v2, v3])) := same_upd dp
            have npx : p ≠ x := fun z => by rw [z, hx] at hp; cases hp
            refine ⟨x, dx, [rw, rT [rx, rQi tp ns]], _, upd D p (.tup [v2, v3]), _, rfl, by rw [upd_ne (Ne.symm npx)]; exact hx, .mk rw rx tp ns hl hz, same_upd2 sD hp, by rw [upd_ne (Ne.symm npx)]; exact hD,
              .cons (rw.mono s1 q1) (.cons ⟨p, _, rfl, upd_same, .cons (rx.mono s1 q2) (.cons ((rQi tp ns).mono s1 q3) .nil)⟩ .nil), fun H' D' ws k1 k2 k3 k4 k5 k6 k7 => ?_⟩
            refine kk H' D' ws (fun a o ha e => k1 a o ha (by rw [upd_ne (ne_of_none e hp)]; exact e)) k2 k3 (s1.trans k4) k5 k6 fun a ha => ?_
            rcases k7 a ha with z | z
            · by_cases hap : a = p
              · subst hap; exact .inr (.inl hp)
              · rw [upd_ne hap] at z; exact .inl z
            · by_cases hap : a = p
              · subst hap; exact .inr (.inl hp)
              · refine .inr ?_
                unfold Free at z ⊢
                rw [upd_ne hap] at z; exact z

end
end Rf

/-! super().__init__(..) in an own __init__; o.a, o.b = pair -/
namespace Rf
open PySem PySem.Spec PyProof.Rows L2
/-- what the written part must tell of an __init__ that says super() -/
structure SupF (P : Program) (K : PySem.W.Frag) (mg : Str → Option Value) (C cc cda f f2 : Addr) (fd : FuncData) (scope : Scope) : Prop where
  fo : ∃ oc od osl, K.lookup f = some ⟨oc, od, .func fd, osl⟩
  code : ∃ (ccl : Value) (cdd : Option Addr) (vs : Array Value) (ccs : Array (Option Value)) (file : Str) (tf : Tok), K.lookup cda = some ⟨ccl, cdd, .fields vs, ccs⟩ ∧ vs[2]? = some (.str file tf) ∧ ((P.main.file : Str) == file) = true
  cell : ∃ (cl : Value) (cld : Option Addr) (csl : Array (Option Value)), K.lookup cc = some ⟨cl, cld, .cell (some (.ref C)), csl⟩
  cls : ∃ cdD, PySem.W.clsIn K C = some cdD
  sub : PySem.W.mroIn K C (.ref C) = some true
  opq : PySem.W.nsIn K cStatics "thirdparty.any" = some none
  meth : PySem.W.ks_superIn K C C "__init__" = some (some (.ref f2))
  mty : PySem.W.typeIn K (.ref f2) = some (.type "function")
  mfn : PySem.W.fnIn K f2 = true
  glob : mg "super" = none
  top : (P.main.scope.names.lookup ("super" : Str)).isSome = false
section
variable {X : Cx} {pins : List (Addr × Obj)} {σ : L2.St} {H : Hp} {s : Shared}
theorem inv_one {p : Addr × Obj} (I : Inv X [] σ H s) (h1 : s.heap.get? p.1 = some p.2) (h2 : H p.1 = none) (h3 : p.1 ≠ X.env.locals) (h4 : p.1 ∉ X.fs) (h5 : ∀ v, p.2.data ≠ .cell v) : Inv X [p] σ H s := I.pins_of fun q hq => by
  rw [List.mem_singleton.mp hq]; exact ⟨h1, h2, h3, h4, h5⟩
theorem inv_none {p : List (Addr × Obj)} (I : Inv X p σ H s) : Inv X [] σ H s := I.pins_of fun q hq => absurd hq List.not_mem_nil
/-- super().__init__(..), in the frame whose first name holds the instance at x -/
theorem at_super {body : List Stmt} {e : Expr} {es : List Expr} {ta : TA} {Q : VK} {sp : Sp} {f f2 cc cda C x dx : Addr} {fd : FuncData} {p0 p1 p2 pos : Pos} {pl : Sem Bool} {k : Nat} {ar : Arg} {fs : List (Str × V)}
    (T : SupF X.prog X.K X.mg C cc cda f f2 fd X.env.scope) (hfu : X.env.func = some f) (hco : X.env.code = .ref cda) (hcl : X.env.cells.lookup ("__class__" : Str) = some cc)
    (hks : X.env.scope.names.lookup ("super" : Str) = some .globalImplicit) (hkc : X.env.scope.names.lookup ("__class__" : Str) = some .free) (hka : X.env.scope.names.lookup ar.arg = some .local) (hp : (fd.params.posonlyargs ++ fd.params.args).head? = some ar) (hN : X.N[0]? = some ar.arg)
    (F : FnR X.prog X.w X.K X.mg X.base CX0 k f2 sp) (hr : Room k X.A) (I : Inv X [] σ H s) (h0 : σ[0]? = some (some (.ref x))) (hx : H x = some (.ins C dx fs)) (ha : PA X (e :: es) ta) (h : ta σ H fun vs H1 => sp (.ref x :: vs) H1 Q E0)
    (he : eval (.Call (.Attribute (.Call (.Name "super" p0) [] [] p1) "__init__" p2) (e :: es) [] pos) X.env = (do
      let ov ← attributeBase (.Call (.Name "super" p0) [] [] p1) "__init__" X.env (eval (.Call (.Name "super" p0) [] [] p1) X.env)
      standAt p2.atName
      let (f, first) ← holding [ov] (getMethod ov "__init__" pl)
      callWith pos f first (backTo pos (starEach (e :: es) X.env)) [])) (hst : starEach (e :: es) X.env = (false, eval e X.env) :: starEach es X.env) (hpl : (backTo pos (starEach es X.env)).any (·.1) = false) :
    _root_.PySem.wpAt (model X.prog X.w) X.A (.func body X.env) (eval (.Call (.Attribute (.Call (.Name "super" p0) [] [] p1) "__init__" p2) (e :: es) [] pos) X.env) (EP X [] σ Q) X.xe s := by
  obtain ⟨oc, od, osl, lk⟩ := T.fo
  obtain ⟨ccl, cdd, vs, ccs, file, tf, lc, hvs, hfile⟩ := T.code
  obtain ⟨cl, cld, csl, lcell⟩ := T.cell
  obtain ⟨cd, hcd⟩ := T.cls
  have XK := I.kIn
  have hkind := I.ok.kind
  obtain ⟨oD, hD1, hD2⟩ : ∃ oD, s.heap.get? C = some oD ∧ oD.data = .cls cd := by
    unfold PySem.W.clsIn at hcd
    split at hcd
    · rename_i c d cd' sl ho
      cases hcd
      exact ⟨_, XK _ _ ho, rfl⟩
    · cases hcd
  refine PySem.ks_wpAt_MethodCall (pl := pl) ?_ he
  refine PySem.ks_wpAt_super_base hks hkc (by decide) hfu (XK _ _ lk) rfl hp hco (XK _ _ lc) rfl hvs hfile T.top ?_
  refine PySem.W.ks_loadName_global hkind hks ?_
  obtain ⟨mb, b1, b2⟩ := I.mod.blt
  refine Calls.loadGlobal_builtin (by rw [I.ok.glob]; exact I.mod.glob.keeps I.bk) T.glob (by rw [I.ok.blt]; exact b1.keeps I.bk) ((b2 "super" (by decide)).trans (by decide +kernel)) ⟨rfl, ?_⟩
  refine wpAny_loadName_free hkind hkc hcl ⟨_, XK _ _ lcell, rfl⟩ ?_
  obtain ⟨m, hns, hl⟩ := I.loc
  obtain ⟨u, ru, lu⟩ := hl 0 ar.arg (.ref x) hN h0 (Or.inl hka)
  obtain rfl : u = Value.ref x := ru
  have hm : m ar.arg = some (.ref x) := by
    rcases lu with ⟨_, z⟩ | ⟨z | z, _⟩
    · exact z
    · have z : X.env.scope.names.lookup ar.arg = some .cell := z
      rw [hka] at z; cases z
    · have z : X.env.scope.names.lookup ar.arg = some .free := z
      rw [hka] at z; cases z
  refine wpAny_loadName_local hkind hka hns hm ?_
  refine PySem.ks_wpAny_isType_cls hD1 hD2 ⟨rfl, ?_⟩
  obtain ⟨mA, O, _, _, _, _⟩ := ins_get I.hok hx
  obtain ⟨odx, IA, _⟩ := O.look
  obtain ⟨hh, g, d, t, os⟩ := s
  refine PySem.ks_wpAny_call_super hD1 hD2 IA.at_ IA.cls (fun c z => ?_) (PySem.W.looks_mroIn XK T.sub) fun h' e1 k1 => ?_
  · have q := IA.no
    unfold PySem.W.notCls at q
    rw [z] at q
    exact Bool.noConfusion q
  have I1 : Inv X [] σ H ⟨h', g, d, t, os⟩ := I.kept (t' := t) k1
  obtain ⟨of, hof, hofc⟩ : ∃ of, h'.get? f2 = some of ∧ of.cls = .type "function" := by
    have ht' : (X.K.lookup f2).map (·.cls) = some (.type "function") := T.mty
    cases z : X.K.lookup f2 with
    | none => rw [z] at ht'; cases ht'
    | some of => rw [z] at ht'; exact ⟨of, I1.kIn _ _ z, Option.some.inj ht'⟩
  have hmeth := T.meth
  unfold PySem.W.ks_superIn at hmeth
  rw [hcd] at hmeth
  refine PySem.ks_wpAny_getMethod_super e1 (PySem.W.looks_opaque I1.kIn T.opq) (l₀ := cd.mro) (fun A Q E s k q => wpAny_bind ((PySem.W.looks_clsIn I1.kIn hcd) A _ E s k (wpAny_pure q))) rfl I1.kIn hmeth hof hofc (PySem.W.ks_ne XK IA hcd) (by decide) ?_
  have k2 : ∀ b o, h'.get? b = some o → (h'.push { cls := .type "method", data := .fields #[.ref f2, .ref x] }).get? b = some o := fun b o z => Heap.get?_push_of_some _ z
  have I2 : Inv X [] σ H ⟨h'.push { cls := .type "method", data := .fields #[.ref f2, .ref x] }, g, d, t + 1, os⟩ := I1.kept (t' := t + 1) k2
  have hq : (h'.push { cls := .type "method", data := .fields #[.ref f2, .ref x] }).get? h'.objs.size = some (PySem.W.methodObj (.ref f2) (.ref x)) := Heap.get?_push_at rfl rfl
  have nL : h'.objs.size ≠ X.env.locals := fun z => by
    have q := I1.lt
    rw [← z] at q
    exact Nat.lt_irrefl _ q
  have I3 : Inv X [(h'.objs.size, PySem.W.methodObj (.ref f2) (.ref x))] σ H ⟨h'.push { cls := .type "method", data := .fields #[.ref f2, .ref x] }, g, d, t + 1, os⟩ :=
    inv_one (p := (h'.objs.size, PySem.W.methodObj (.ref f2) (.ref x))) I2 hq (I1.hok.fresh (Nat.le_refl _)) nL (I1.nofs (Nat.le_refl _)) (fun v z => by cases z)
  rw [hst]
  refine PySem.W.callWith_of (by show ((false || (backTo pos (starEach es X.env)).any (·.1)) || false) = false; rw [hpl]; rfl) (PySem.W.keeps_M (K := X.K) (q := h'.objs.size) (f := f2) (self := .ref x) T.mfn) (Calls.evalArgs_plain ?_)
  have run := ha.run pos _ _ σ H _ I3 h
  rw [hst] at run
  refine thn run fun us s3 ⟨vs3, H3, I4, r4, q4⟩ => ?_
  have pin := I4.pin (h'.objs.size, PySem.W.methodObj (.ref f2) (.ref x)) (List.mem_append_right _ (List.mem_singleton.mpr rfl))
  refine ⟨⟨pin.1, I4.kIn⟩, ?_⟩
  refine wpAny_call (PySem.W.method_call pin.1 (codeAny_mono (run_fnR (us := .ref x :: us) (vs := .ref x :: vs3) F hr pass0 I4 (.cons rfl r4) q4) fun r s' hr' => ?_))
  cases r with
  | error er => exact hr'
  | ok fl =>
    cases fl with
    | ret u =>
      obtain ⟨v, H5, I5, rv, q5⟩ := hr'
      exact ⟨v, H5, inv_none I5, rv, q5⟩
    | next => exact hr'.elim
    | brk => exact hr'.elim
    | cont => exact hr'.elim
/-! o.a, o.b = pair -/
def gAttr (K : PySem.W.Frag) (f : Str) (to : TE) : TG := fun v σ H Q => to σ H fun x H1 => ∃ a C dx fs, x = .ref a ∧ H1 a = some (.ins C dx fs) ∧ Cls K C ∧ NoAttr K C f ∧ fs.length < 1000 ∧ Q σ (upd H1 a (.ins C dx (putF f v fs)))
theorem pg_attr {o : Expr} {f : Str} {pos : Pos} {to : TE} (ho : PE X o to) : PG X (.Attribute o f pos) (gAttr X.K f to) := by
  refine ⟨fun pins s σ H v u Q I rv h => ?_⟩
  have run := ho.run pins s σ H _ I h
  refine fun Γ p hΓ => ?_
  simp only [assign_Attribute, Sem.wp_bind', Sem.wp_holding, Sem.wp_cmd_standAt, Sem.wp_release, Sem.wp_pure']
  refine Sem.wp_mono _ Γ _ (fun ov p1 s1 h1 => ?_) (fun _ _ _ z => z) _ _ (run Γ _ hΓ)
  obtain ⟨x, H1, I1, rx, a, C, dx, fs, rfl, e1, c, n, l, q⟩ := h1
  obtain rfl : ov = Value.ref a := rx
  have st : wpAny (model X.prog X.w) X.A (setAttr (.ref a) f u) (fun _ s' => ∃ σ' H', Inv X pins σ' H' s' ∧ Q σ' H') X.xe s1 := setattr_ok I1 e1 c n l rv fun s' I' => ⟨σ, _, I', q⟩
  exact st Γ _ hΓ
end
end Rf

namespace Rf
open PySem PySem.Spec PyProof.Rows L2
/-- what the written part tells of Built.__init__ -/
structure BuiltF (P : Program) (K : PySem.W.Frag) (mg : Str → Option Value) (C cc cda f f2 : Addr) (fd : FuncData) : Prop where
  eq : ∃ kV doc pm ct an, fd = PySem.W.fnX "__init__" "Built.__init__" (defArgs (inClass (top 83) 0)) (defBody (inClass (top 83) 0)) (defScope (inClass (top 83) 0)) [("__class__", cc)] .none kV doc pm an (.ref cda) ct
  cd : PySem.W.codeIn K (.ref cda) "Built.__init__" = true
  sup : SupF P K mg C cc cda f f2 fd (defScope (inClass (top 83) 0))
abbrev bNF (cc cda : Addr) : NdefX.NF := ⟨"__init__", "Built.__init__", defArgs (inClass (top 83) 0), defBody (inClass (top 83) 0), defScope (inClass (top 83) 0), [("__class__", cc)], cda⟩
section
variable {X : Cx} {g : List Sl} {P : Pt} {e : Expr} {rest : List Stmt} {pos p1 p2 p3 p4 p5 : Pos} {ra rb : Rp} {x f1 f2 : Str} {C : Addr} {fs : List (Str × Rp)}
/-- self.a, self.b = e -/
theorem sg_fld2 (n : Nat) {ax adx : Addr} {u} (cl : Cls X.K C) (n1 : NoAttr X.K C f1) (n2 : NoAttr X.K C f2) (hc : X.calm = true) (hg : g[n]? = some (.i ax adx C fs)) (he : EG X e g (rT [ra, rb])) (h : SG X rest (g.set n (.i ax adx C ((fs ++ [(f1, ra)]) ++ [(f2, rb)]))) P) (hl : fs.lookup f1 = none := by rfl) (hl2 : (fs ++ [(f1, ra)]).lookup f2 = none := by rfl) (hz : fs.length < 900 := by exact Nat.le_of_ble_eq_true rfl) (hN : X.N[n]? = some x := by rfl)
    (hv : Vis X.env.scope x := by first | exact Or.inl rfl | exact Or.inr (Or.inl rfl) | exact Or.inr (Or.inr rfl)) (hd : (x == ("__debug__" : Str)) = false := by decide) (hcd : (x == ("__classdict__" : Str)) = false := by decide)
    (hw : swappedStores [.Tuple [.Attribute (.Name x p1) f1 p2, .Attribute (.Name x p3) f2 p4] u p5] e X.env = pure none := by rfl)
    (hs : swapsWithSole [.Tuple [.Attribute (.Name x p1) f1 p2, .Attribute (.Name x p3) f2 p4] u p5] e pos.line X.env = pure false := by rfl) : SG X (.Assign [.Tuple [.Attribute (.Name x p1) f1 p2, .Attribute (.Name x p3) f2 p4] u p5] e pos :: rest) g P :=
  sg_cons (N := fun q => q = g.set n (.i ax adx C ((fs ++ [(f1, ra)]) ++ [(f2, rb)]))) (ps_to (ps_asg he (pg_tup hc (pgs_cons (pg_attr (pe_var hN hv hd hcd)) (pgs_cons (pg_attr (pe_var hN hv hd hcd)) pgs_nil)) (n := 2)) hs hw) fun E σ H ⟨F, D0, D, ok, p⟩ => ⟨F, D0, D, ok, fun v H1 D1 e1 hv => by
    have ok1 := ok.grow e1
    obtain ⟨t, vs, rfl, h2, h3⟩ := hv
    cases h3 with
    | @cons _ v1 _ _ q1 h3 => cases h3 with
      | @cons _ v2 _ _ q2 h3 =>
        cases h3
        obtain ⟨q, o, w1, w2, w3, w4, w5⟩ := ok1.own n _ hg rfl
        cases o with
        | ins C' dx' ws =>
          obtain ⟨⟨z1, z2, z3⟩, z4⟩ := w5
          subst z1 z2 z3
          refine ⟨t, [v1, v2], rfl, SqT.of (ok1.sub _ _ h2), rfl, _, _, rfl, ⟨.ref q, w1, q, _, _, ws, rfl, w2, cl, n1, by rw [← ents_len z4]; omega, ?_⟩⟩
          rw [putF_new (ents_none z4 hl)]
          have z5 : Ents D1 (fs ++ [(f1, ra)]) (ws ++ [(f1, v1)]) := ents_app z4 (.cons ⟨rfl, q1⟩ .nil)
          refine ⟨_, _, rfl, ⟨.ref q, w1, q, _, _, ws ++ [(f1, v1)], rfl, upd_same, cl, n2, by rw [← ents_len z5, List.length_append]; exact Nat.lt_of_lt_of_le (Nat.add_lt_add_right hz 1) (by decide), ?_⟩⟩
          rw [putF_new (ents_none z5 hl2)]
          have e2 : ∀ o1 o2 : HO, upd (upd H1 q o1) q o2 = upd H1 q o2 := fun o1 o2 => by
            funext y
            by_cases hy : y = q
            · subst hy; rw [upd_same, upd_same]
            · rw [upd_ne hy, upd_ne hy, upd_ne hy]
          refine ⟨rfl, ?_⟩
          rw [e2]
          exact p.nx _ _ _ D1 rfl (ok1.change hg rfl w1 rfl (show Sl.ho D1 (.i q dx' _ ((fs ++ [(f1, ra)]) ++ [(f2, rb)])) q (.ins _ dx' ((ws ++ [(f1, v1)]) ++ [(f2, v2)])) from ⟨⟨rfl, rfl, rfl⟩, ents_app z5 (.cons ⟨rfl, q2⟩ .nil)⟩))
        | _ => exact w5.elim⟩) fun _ q => q ▸ h
end

section
variable {P : Program} {w : World} {K : PySem.W.Frag} {mg : Str → Option Value} {base : Heap} {f f2 cc cda : Addr} {fd : FuncData}
abbrev fBuilt : List Str := ["word", "parts", "sewing", "words"]
abbrev builtF (rx : Rp) (ns : List Int) : List (Str × Rp) := [("word", rStr "built"), ("parts", rT [rx, rTI ns]), ("sewing", rx), ("words", rTI ns)]
inductive relBuiltI (K : PySem.W.Frag) : RelI
  | mk (rx : Rp) (tp : Bool) (ns : List Int) (h : relListed K [rx] (rBl false)) (hz : ns.length ≤ 1000) : relBuiltI K [rx, rQi tp ns] (builtF rx ns)
theorem sc_Built_init : NdefX.NScope ["self", "sewing", "words", "__class__"] ["self", "sewing", "words"] ["__class__"] (defScope (inClass (top 83) 0)) := NdefX.nscope_by (by decide +kernel)
theorem c_Built_init {C : Addr} (A : KlsA K C fBuilt) (T : BuiltF P K mg C cc cda f f2 fd) (F2 : FnR P w K mg base CX0 4 f2 (SpI C (relPaperI K))) : FnOk P w K mg base CX0 5 f fd ["self", "sewing", "words"] (SpI C (relBuiltI K)) := by
  refine ⟨fun vs H Q E ⟨x, dx, As, fs, D, args, e, _, h, _, _, hv, _⟩ => by rw [e, List.length_cons, ← hv.length]; cases h; rfl, fun A0 outer s H args us vs Q E hr e0 hb r hsp => ?_⟩
  obtain ⟨x, dx, As, fs, D, args', rfl, hx, h, sD, hD, hv, kk⟩ := hsp
  cases h with
  | mk rx tp ns hlst hz =>
    obtain ⟨oc, od, osl, lk⟩ := T.sup.fo
    obtain ⟨kV, doc, pm, ct, an, hfd⟩ := T.eq
    have KX : K.In s.heap := e0.mod.kin.keeps fun b o e => (e0.bs b o e).1
    have lim : s.heap.NoLimit := e0.mod.nolimit.keeps fun b o e => (e0.bs b o e).1
    have SC := sc_Built_init
    have cells : NdefX.CellsAt [("__class__", cc)] ["__class__"] [none] s.heap H := by
      obtain ⟨cl, cld, csl, lcell⟩ := T.sup.cell
      have at_ : ∀ y c, List.lookup y [(("__class__" : Str), cc)] = some c → y = ("__class__" : Str) ∧ c = cc := fun y c e => by
        rw [List.lookup_cons] at e
        cases q : (y == ("__class__" : Str)) with
        | true => rw [q] at e; cases e; exact ⟨eq_of_beq q, rfl⟩
        | false => rw [q] at e; cases e
      refine ⟨rfl, fun y c e => ?_, fun a b c e1 e2 => ((at_ a c e1).1).trans ((at_ b c e2).1).symm, fun i y e => ?_⟩
      · obtain ⟨_, rfl⟩ := at_ y c e
        exact ⟨(e0.bs _ _ (e0.mod.kin _ _ lcell)).2, _, ⟨_, KX _ _ lcell, rfl⟩⟩
      · cases i with
        | zero => cases e; exact ⟨cc, rfl, fun v z => by cases z⟩
        | succ i => cases e
    have hl : (V.ref x :: args').length = ["self", "sewing", "words"].length := by rw [List.length_cons, ← hv.length]; rfl
    have hfd2 := hfd
    subst hfd
    refine codeAny_call_function hr.depth (KX _ _ lk) rfl SC.co SC.gen rfl (PySem.W.codeRec_of KX T.cd) (hb _ _ _ _ ?_)
    refine wpAny_newFunctionEnv SC.nocell (fun y hy => SC.par y.1 (List.of_mem_zip hy).1) (fun h₁ hns hsb => ⟨lim.fresh _ hsb, ?_⟩) SC.kind
    have kp : ∀ b o, s.heap.get? b = some o → h₁.get? b = some o := fun b o e => hsb.extBut b o (Nat.ne_of_lt (Heap.lt_size e)) (Heap.get?_push_of_some _ e)
    have I : Inv (NdefX.ncx CX0 P w K mg base ["self", "sewing", "words", "__class__"] (bNF cc cda) f A0 outer s H E) [] (NdefX.startF ["self", "sewing", "words", "__class__"] (V.ref x :: args') [none]) H { s with heap := h₁, toks := s.toks + ((["self", "sewing", "words"] : List Str).zip us).length } := NdefX.inv_startN SC hr.hd e0 hl r cells hns kp
    have est : NdefX.startF ["self", "sewing", "words", "__class__"] (V.ref x :: args') [none] = L2.start ["self", "sewing", "words", "__class__"] (V.ref x :: args') := by
      have hla : args'.length = 2 := by rw [← hv.length]; rfl
      match args', hla with
      | [a, b], _ => rfl
    rw [est] at I
    show codeAny _ _ (.func (bNF cc cda).body (NdefX.envF (bNF cc cda) f s.heap.objs.size)) _ _
    refine PySem.ks_codeAny_funcAt ?_
    have ok0 := ok_startI (N := ["self", "sewing", "words", "__class__"]) (A := [rx, rQi tp ns]) (vs := args') (C := C) (x := x) (dx := dx) (by exact Nat.le_of_ble_eq_true rfl) sD hv hx hD
    have hr1 : Room 4 (NdefX.ncx CX0 P w K mg base ["self", "sewing", "words", "__class__"] (bNF cc cda) f A0 outer s H E).A := hr.deeper _
    have N1 := A.n "word" (by decide)
    have hx1 : ∀ {H1 D1 : Hp}, Grow H D H1 D1 → H1 x = some (.ins C dx []) ∧ D1 x = none := fun {H1 D1} e1 => by
      obtain ⟨q, o, a1, a2, a3, _⟩ := (ok0.grow e1).own 0 _ rfl rfl
      cases a1
      exact ⟨e1.h _ _ hx, a3⟩
    have fin : ∀ {σ' : L2.St} {H' : Hp} {v : V} {u : Value} {s' : Shared}, Inv (NdefX.ncx CX0 P w K mg base ["self", "sewing", "words", "__class__"] (bNF cc cda) f A0 outer s H E) [] σ' H' s' → L2.RelV v u → Q v H' → CE outer P w H s Q u s' :=
      fun {σ' H' v u s'} J rv q => ⟨v, H', J.os, J.bare, J.base, J.hok, rv, q⟩
    refine PySem.ks_wpAt_execs_cons (PySem.ks_wpAt_Expr_any (PySem.ks_wpAt_mono (at_super (X := NdefX.ncx CX0 P w K mg base ["self", "sewing", "words", "__class__"] (bNF cc cda) f A0 outer s H E) (ar := ((defArgs (inClass (top 83) 0)).args.headD ⟨"", none, ⟨0,0,0,0⟩⟩)) (k := 4)
      (Q := fun v H2 => ∃ D2, Ok [.i x dx C [("word", rStr "built"), ("parts", rT [rx, rTI ns])], .d rx, .d (rQi tp ns), .non] (fun a => if a = x then none else H a) D (L2.start ["self", "sewing", "words", "__class__"] (V.ref x :: args')) H2 D2)
      T.sup rfl rfl rfl rfl rfl rfl rfl rfl F2 hr1 I rfl hx (ag_cons (g := [.i x dx C [], .d rx, .d (rQi tp ns), .non]) eg_str (ag_cons (eg_name 1) (ag_cons (eg_name 2) ag_nil)))
      ⟨_, D, D, ok0, fun vs2 H1 D1 e1 hvs => ⟨x, dx, _, _, D1, vs2, rfl, (hx1 e1).1, .mk (rStr "built") rx tp ns hlst hz, e1.i, (hx1 e1).2, hvs, fun H2 D2 ws k1 k2 k3 k4 k5 k6 k7 => ⟨D2, (ok0.grow e1).into (i := 0) rfl rfl rfl k1 k2 rfl ⟨⟨rfl, rfl, rfl⟩, k3⟩ k4 k5 k6 k7⟩⟩⟩ rfl rfl rfl) (fun v s' hq => ?_) fun _ _ z => z))
    obtain ⟨v', H2, I2, rv, D2, ok2⟩ := hq
    have body2 : SG (NdefX.ncx CX0 P w K mg base ["self", "sewing", "words", "__class__"] (bNF cc cda) f A0 outer s H E) ((defBody (inClass (top 83) 0)).drop 1) [.i x dx C [("word", rStr "built"), ("parts", rT [rx, rTI ns])], .d rx, .d (rQi tp ns), .non] { nx := fun g => g[0]? = some (.i x dx C (builtF rx ns)) } :=
      sg_fld2 0 A.c.cl (A.n "sewing" (by decide)) (A.n "words" (by decide)) rfl rfl (eg_fldO 0 A.c.cl (A.n "parts" (by decide))) (sg_nil rfl)
    refine _root_.PySem.wpAt_of_wpAny (wpAny_mono (body2.run [] s' _ H2 { nx := fun _ H' => Q .non H', rt := Q } I2 ⟨_, D, D2, ok2, ⟨fun g' σ' H' D' e ok => ?_, fun _ _ _ _ q _ => q.elim, fun _ _ _ _ q _ => q.elim, fun _ _ _ q _ => q.elim, fun _ _ _ _ _ _ q => q.elim⟩⟩) (fun fl s2 hs => ?_) fun _ _ z => z)
    · obtain ⟨q, o, h1, h2, h3, h4, h5⟩ := ok.own 0 _ e rfl
      cases o with
      | ins C' dx' ws =>
        obtain ⟨⟨rfl, rfl, rfl⟩, w4⟩ := h5
        refine kk H' D' ws (fun b u nb hb => ok.fr b u ((if_neg nb).trans hb)) h2 w4 ok.d0 ok.sub h3 fun b hb => ?_
        rcases ok.new b hb with z | z
        · exact .inl z
        · by_cases hq : b = q
          · subst hq; exact absurd h3 hb
          · refine .inr ?_
            rcases z with z | ⟨y, z, st⟩
            · have z : (if b = q then none else H b) = none := z
              rw [if_neg hq] at z; exact .inl z
            · have z : (if b = q then none else H b) = some y := z
              rw [if_neg hq] at z; exact .inr ⟨y, z, st⟩
      | _ => exact h5.elim
    · cases fl with
      | ret u =>
        obtain ⟨v, σ', H', J, rv, q⟩ := hs
        exact fin J rv q
      | next =>
        obtain ⟨σ', H', J, q⟩ := hs
        exact fin (v := V.non) (u := Value.none) J rfl q
      | brk =>
        obtain ⟨_, _, _, q⟩ := hs
        exact False.elim q
      | cont =>
        obtain ⟨_, _, _, q⟩ := hs
        exact False.elim q
end

end Rf

/-! ==, != of instances with an __eq__ of their own; None == such an instance -/
namespace Rf
open PySem PySem.Spec PyProof.Rows L2
section
variable {M : Model} {prog : Program} {w : World} {A : Around} {E : Value → Shared → Prop} {s : Shared} {K : PySem.W.Frag} {x y C f : Addr} {ox : Obj} {od : Option Obj}
theorem bound_objNe {args : List Value} {Q : Option Value → Shared → Prop} (XK : K.In s.heap) (I : PySem.W.InstAt s.heap x ox C od) (hs : PySem.W.findIn K (.ref C) "__ne__" = some (some (.builtin "object.__ne__")))
    (h : wpAny M A (call (.builtin "object.__ne__") (.ref x :: args)) (fun v => Q (some v)) E s) : wpAny M A (callSpecialIfBound? (.ref x) "__ne__" args) Q E s := by
  simp only [callSpecialIfBound?, bindSpecialIfBound?]
  refine wpAny_holding (wpAny_bind (wpAny_bind (wpAny_bind (I.type.here ((PySem.W.looks_findIn XK hs).here ?_)))))
  refine wpAny_bind (wpAny_askSetting (wpAny_ite ?_))
  have last : wpAny M A (call (.builtin "object.__ne__") ([.ref x] ++ args) >>= fun v => pure (some v)) Q E s := wpAny_bind (wpAny_mono h (fun v s' h' => wpAny_pure h') fun _ _ h' => h')
  split
  · exact wpAny_bind (wpAny_of_eq (PySem.F.cmp_object.ne.bind _) (wpAny_pure (by exact last)))
  · exact wpAny_tryCatch (wpAny_bind (wpAny_of_eq (PySem.F.cmp_object.ne.bind _) (wpAny_pure (by exact last))))
theorem entry_objNe {Q : Fin → Shared → Prop} (XK : K.In s.heap) (I : PySem.W.InstAt s.heap x ox C od) (he : PySem.W.findIn K (.ref C) "__eq__" = some (some (.ref f))) (hf : PySem.W.isFn K (.ref f) = true) (hu : A.units < cLine)
    (hcall : wpAny (model prog w) A (call (.ref f) [.ref x, .ref y]) (fun v s' => ∃ b, v = .bool b ∧ Q (.done (.ret (.bool (!b)))) s') E s) :
    wpAny (model prog w) A (Builtin.«object.__ne__» ⟨[.ref x, .ref y], []⟩) Q E s := by
  unfold Builtin.«object.__ne__»
  repeat (first
    | with_reducible refine wpAny_cRoomFor hu ?_
    | (refine wpAny_bind (m := callSpecialIfBound? (.ref x) (Str.ofString "__eq__") [.ref y])
        (PySem.W.ifBound_K XK I he hf (wpAny_mono hcall (fun r s' hr => by
          obtain ⟨b, rfl, hq⟩ := hr
          repeat (first | exact hq | exact wpAny_pure hq | exact wpAny_truthy_bool hq | (refine wpAny_bind (m := truthy (.bool _)) (wpAny_truthy_bool ?_)) | wp_step)) fun _ _ e => e)))
    | wp_step)
theorem rc_neOwn {oy : Obj} {Q : Value → Shared → Prop} (XK : K.In s.heap) (I : PySem.W.InstAt s.heap x ox C od) (hy : s.heap.get? y = some oy) (hyc : oy.cls = .ref C) (he : PySem.W.findIn K (.ref C) "__eq__" = some (some (.ref f))) (hf : PySem.W.isFn K (.ref f) = true) (hn : PySem.W.findIn K (.ref C) "__ne__" = some (some (.builtin "object.__ne__")))
    (hm : PySem.W.mroIn K C (.type "object") = some true) (hu : A.units < cLine) (hu1 : A.in1.units < cLine)
    (hcall : wpAny (model prog w) A.in1 (call (.ref f) [.ref x, .ref y]) (fun v s' => ∃ b, v = .bool b ∧ Q (.bool (!b)) s') E s) : wpAny (model prog w) A (richCompare .NotEq (.ref x) (.ref y)) Q E s := by
  have one : wpAny (model prog w) A (tryCompare (.ref x) "__ne__" (.ref y)) (fun r s' => ∃ b, r = some (.bool (!b)) ∧ Q (.bool (!b)) s') E s := by
    unfold tryCompare
    refine wpAny_bind (bound_objNe XK I hn (wpAny_call (codeAny_call_builtin PySem.F.cmp_object.ne.plain PySem.F.cmpEntry_ne (PySem.W.check_slot PySem.F.cmpKind_ne PySem.F.cmpSplit_ne (I.type.andThen (PySem.W.looks_mroIn XK hm)) (PySem.F.cmpArgs_ne _ _)
      (entry_objNe (A := A.in1) XK I he hf hu1 (wpAny_mono hcall (fun v s' ⟨b, e, q⟩ => ⟨b, e, ?_⟩) fun _ _ z => z))))))
    first
      | exact wpAny_pure ⟨b, rfl, q⟩
      | exact wpAny_pure (wpAny_pure ⟨b, rfl, q⟩)
  unfold richCompare
  simp only [oneThing_ref]
  refine wpAny_holding (wpAny_bind (wpAny_cRoomFor hu ?_))
  rw [cmpInfo_NotEq]
  dsimp only
  refine wpAny_bind (I.type.here ?_)
  refine wpAny_bind (wpAny_typeOf_ref hy ?_)
  rw [hyc]
  rw [show (Value.ref C != Value.ref C) = false from by simp]
  simp only [Bool.false_eq_true, if_false]
  refine wpAny_bind (wpAny_pure ?_)
  simp only [Bool.false_eq_true, if_false]
  refine wpAny_bind (wpAny_mono one (fun r s' z => ?_) fun _ _ e => e)
  obtain ⟨b, rfl, q⟩ := z
  exact wpAny_pure q
theorem rc_nonEq {Q : Value → Shared → Prop} (XK : K.In s.heap) (I : PySem.W.InstAt s.heap x ox C od) (he : PySem.W.findIn K (.ref C) "__eq__" = some (some (.ref f))) (hf : PySem.W.isFn K (.ref f) = true) (hsub : PySem.W.subIn K (.ref C) (.type "NoneType") = some false) (hu : A.units < cLine)
    (hcall : wpAny (model prog w) A (call (.ref f) [.ref x, .none]) (fun v s' => ∃ b, v = .bool b ∧ Q (.bool b) s') E s) : wpAny (model prog w) A (richCompare .Eq .none (.ref x)) Q E s := by
  have one : wpAny (model prog w) A (tryCompare .none "__eq__" (.ref x)) (fun r s' => r = none ∧ s' = s) E s :=
    wpAny_tryCompare_declines (show s.TypeIs .none "NoneType" from rfl) PySem.F.slot_NoneType_eq (call_gives PySem.F.slot_NoneType_eq rfl PySem.F.entry_NoneType_eq (PySem.F.args_NoneType_eq_2 _ _) (SeqAt.NoneType___eq___none_ref_0 x) ⟨rfl, rfl, rfl⟩)
  have two : wpAny (model prog w) A (tryCompare (.ref x) "__eq__" .none) (fun r s' => ∃ b, r = some (.bool b) ∧ Q (.bool b) s') E s := by
    unfold tryCompare
    refine wpAny_bind (PySem.W.ifBound_K XK I he hf (wpAny_mono hcall (fun v s' ⟨b, e, q⟩ => ?_) fun _ _ z => z))
    subst e
    exact wpAny_pure ⟨b, rfl, q⟩
  simp only [richCompare, cmpInfo_Eq]
  refine wpAny_holding (wpAny_bind (wpAny_cRoomFor hu ?_))
  first
    | rw [show oneThing? .Eq .none (.ref x) = none from rfl]
    | skip
  simp only []
  refine wpAny_bind (wpAny_typeOf (show s.TypeIs .none "NoneType" from rfl) ?_)
  refine wpAny_bind (I.type.here ?_)
  split
  · refine wpAny_bind ((PySem.W.looks_subIn XK hsub).here ?_)
    simp only [Bool.false_eq_true, if_false, Bool.not_false, if_true]
    refine wpAny_bind (m := tryCompare .none _ (.ref x)) (wpAny_mono one (fun r s1 z => ?_) fun _ _ e => e)
    obtain ⟨z1, z2⟩ := z
    subst z1 z2
    refine wpAny_bind (m := tryCompare (.ref x) _ .none) (wpAny_mono two (fun r s2 z => ?_) fun _ _ e => e)
    obtain ⟨b, rfl, q⟩ := z
    exact wpAny_pure q
  · rename_i q
    exact absurd (by simp) q
end
/-! the readings -/
section
variable {X : Cx} {C f : Addr} {fd : FuncData} {ps : List Str} {sp : Sp} {k : Nat}
def rEqOwn (C : Addr) (sp : Sp) (g : Bool → Bool) : R2 := fun x y H Q => ∃ a b dx dy fs gs, x = .ref a ∧ y = .ref b ∧ H a = some (.ins C dx fs) ∧ H b = some (.ins C dy gs) ∧ sp [x, y] H (fun v H' => ∃ k, v = .bl k ∧ Q (.bl (g k)) H') E0
theorem op_eqOwn (F : FnOk X.prog X.w X.K X.mg X.base CX0 k f fd ps sp) (hr : Room k X.A) (hb : Binds X.K fd ps []) (M : Meth X.K C "__eq__" f) : OpR X (compareOp .Eq) (rEqOwn C sp id) := by
  intro pins s σ H x y v u Q I rx ry h
  obtain ⟨a, b, dx, dy, fs, gs, rfl, rfl, ha, hb', hsp⟩ := h
  cases rx
  cases ry
  obtain ⟨mA, J, _⟩ := ins_get I.hok ha
  obtain ⟨mB, J', _⟩ := ins_get I.hok hb'
  obtain ⟨od, J, _⟩ := J.look
  obtain ⟨od', J', _⟩ := J'.look
  obtain ⟨m, hF⟩ := I.fr
  show wpAny (model X.prog X.w) X.A (richCompare .Eq (.ref a) (.ref b)) (EP X pins σ Q) X.xe s
  refine PySem.W.cmp_K (op := .Eq) (tb := .ref C) hr.units0 hF I.ok.mod.kin J J'.type (by simp [PySem.W.notFirst]) M.at_ M.fn ?_
  refine wpAny_mono (run_fn (vs := [.ref a, .ref b]) (us := [.ref a, .ref b]) (dvs := []) F hr hb .nil pass0 I (.cons rfl (.cons rfl .nil)) hsp) (fun r s' hq => ?_) fun _ _ z => z
  obtain ⟨z, H', I', rz, kb, e, q⟩ := hq
  subst e
  cases rz
  exact ⟨.bl kb, H', I', rfl, q⟩
theorem op_neOwn (F : FnOk X.prog X.w X.K X.mg X.base CX0 k f fd ps sp) (hr : Room (k + 1) X.A) (hb : Binds X.K fd ps []) (M : Meth X.K C "__eq__" f) (hn : PySem.W.findIn X.K (.ref C) "__ne__" = some (some (.builtin "object.__ne__"))) (hm : PySem.W.mroIn X.K C (.type "object") = some true) :
    OpR X (compareOp .NotEq) (rEqOwn C sp not) := by
  intro pins s σ H x y v u Q I rx ry h
  obtain ⟨a, b, dx, dy, fs, gs, rfl, rfl, ha, hb', hsp⟩ := h
  cases rx
  cases ry
  obtain ⟨mA, J, _⟩ := ins_get I.hok ha
  obtain ⟨mB, J', _⟩ := ins_get I.hok hb'
  obtain ⟨od, J, _⟩ := J.look
  obtain ⟨od', J', _⟩ := J'.look
  show wpAny (model X.prog X.w) X.A (richCompare .NotEq (.ref a) (.ref b)) (EP X pins σ Q) X.xe s
  refine rc_neOwn I.kIn J J'.at_ J'.cls M.at_ M.fn hn hm hr.units0 hr.in1.units0 (run_in1 (vs := [V.ref a, V.ref b]) F hr hb I (.cons rfl (.cons rfl .nil)) hsp fun v u H' s' I' ru ⟨kb, e, q⟩ => ?_)
  subst e
  cases ru
  exact ⟨kb, rfl, .bl (!kb), H', I', rfl, q⟩
def rNonEq (C : Addr) (sp : Sp) : R2 := fun x y H Q => ∃ b dy gs, x = .non ∧ y = .ref b ∧ H b = some (.ins C dy gs) ∧ sp [y, .non] H (fun v H' => ∃ k, v = .bl k ∧ Q (.bl k) H') E0
theorem op_nonEq (F : FnOk X.prog X.w X.K X.mg X.base CX0 k f fd ps sp) (hr : Room k X.A) (hb : Binds X.K fd ps []) (M : Meth X.K C "__eq__" f) (hsub : PySem.W.subIn X.K (.ref C) (.type "NoneType") = some false) : OpR X (compareOp .Eq) (rNonEq C sp) := by
  intro pins s σ H x y v u Q I rx ry h
  obtain ⟨b, dy, gs, rfl, rfl, hb', hsp⟩ := h
  cases rx
  cases ry
  obtain ⟨mB, J', _⟩ := ins_get I.hok hb'
  obtain ⟨od', J', _⟩ := J'.look
  show wpAny (model X.prog X.w) X.A (richCompare .Eq .none (.ref b)) (EP X pins σ Q) X.xe s
  refine rc_nonEq I.kIn J' M.at_ M.fn hsub hr.units0 (wpAny_mono (run_fn (vs := [.ref b, .non]) (us := [.ref b, .none]) (dvs := []) F hr hb .nil pass0 I (.cons rfl (.cons rfl .nil)) hsp) (fun r s' hq => ?_) fun _ _ z => z)
  obtain ⟨z, H', I', rz, kb, e, q⟩ := hq
  subst e
  cases rz
  exact ⟨kb, rfl, .bl kb, H', I', rfl, q⟩
end
section
variable {X : Cx} {g : List Sl} {a b : Expr} {pos : Pos} {C : Addr} {fs gs : List (Str × Rp)} {rel : Rel} {k : Nat} {kb : Bool}
theorem own_read {gg : Bool → Bool} {x y : V} {H D : Hp} {Q : VK} (h : rel [Rf.rI C fs, Rf.rI C gs] (rBl kb)) (s : Same D H) (hx : (Rf.rI C fs).p D x) (hy : (Rf.rI C gs).p D y) (kk : Give (rBl (gg kb)) H D Q) : rEqOwn C (SpR rel) gg x y H Q := by
  have hx' := hx
  have hy' := hy
  obtain ⟨p, dx, ws, rfl, h1, h2⟩ := hx
  obtain ⟨q, dy, vs, rfl, h3, h4⟩ := hy
  exact ⟨p, q, dx, dy, ws, vs, rfl, rfl, s _ _ h1, s _ _ h3, [_, _], _, D, h, s, .cons hx' (.cons hy' .nil), fun v H' D' e hv => ⟨kb, hv, kk (.bl (gg kb)) H' D' e rfl⟩⟩
theorem eg_eqOwnB (F : MethC X.prog X.w X.K X.mg X.base C "__eq__" k rel) (h : rel [Rf.rI C fs, Rf.rI C gs] (rBl kb)) (hr : Room k X.A) (ha : EG X a g (Rf.rI C fs)) (hb : EG X b g (Rf.rI C gs)) : EG X (.Compare a [.Eq] [b] pos) g (rBl kb) := by
  obtain ⟨f, fd, ps, F, M, bb⟩ := F.ex
  exact eg_cmp (op_eqOwn F hr bb M) ha hb (nomark _) fun x y H D Q s hx hy kk => own_read (gg := id) h s hx hy kk
theorem bg_neOwn (F : MethC X.prog X.w X.K X.mg X.base C "__eq__" k rel) (hn : PySem.W.findIn X.K (.ref C) "__ne__" = some (some (.builtin "object.__ne__"))) (hm : PySem.W.mroIn X.K C (.type "object") = some true) (h : rel [Rf.rI C fs, Rf.rI C gs] (rBl kb)) (hr : Room (k + 1) X.A) (ha : EG X a g (Rf.rI C fs)) (hb : EG X b g (Rf.rI C gs)) : BG X (.Compare a [.NotEq] [b] pos) g (!kb) := by
  obtain ⟨f, fd, ps, F, M, bb⟩ := F.ex
  exact bg_cmp (op_neOwn F hr bb M hn hm) ha hb (nomark _) fun x y H D Q s hx hy kk => own_read (gg := not) h s hx hy kk
theorem eg_nonEq (F : MethC X.prog X.w X.K X.mg X.base C "__eq__" k rel) (hsub : PySem.W.subIn X.K (.ref C) (.type "NoneType") = some false) (h : rel [Rf.rI C gs, rNon] (rBl kb)) (hr : Room k X.A) (ha : EG X a g rNon) (hb : EG X b g (Rf.rI C gs)) : EG X (.Compare a [.Eq] [b] pos) g (rBl kb) := by
  obtain ⟨f, fd, ps, F, M, bb⟩ := F.ex
  refine eg_cmp (op_nonEq F hr bb M hsub) ha hb (nomark _) fun x y H D Q s hx hy kk => ?_
  have hy' := hy
  obtain ⟨q, dy, vs, rfl, h3, h4⟩ := hy
  exact ⟨q, dy, vs, hx, rfl, s _ _ h3, [_, _], _, D, h, s, .cons hy' (.cons rfl .nil), fun v H' D' e hv => ⟨kb, hv, kk (.bl kb) H' D' e rfl⟩⟩
end
end Rf

namespace Rf
open PySem PySem.Spec PyProof.Rows L2
/-! ### calls with keywords only -/
theorem reps_rev {D : Hp} : ∀ {rs : List Rp} {vs : List V}, Reps D rs vs → Reps D rs.reverse vs.reverse
  | _, _, .nil => .nil
  | _, _, .cons a t => by
    rw [List.reverse_cons, List.reverse_cons]
    exact reps_app (reps_rev t) (.cons a .nil)
theorem vals_rev : ∀ {vs : List V} {us : List Value}, Vals vs us → Vals vs.reverse us.reverse
  | _, _, .nil => .nil
  | _, _, .cons a t => by
    rw [List.reverse_cons, List.reverse_cons]
    exact (vals_rev t).append (.cons a .nil)
/-- the keywords tell the parameters from the last to the first -/
structure DefK (P : Program) (w : World) (K : PySem.W.Frag) (mg : Str → Option Value) (base : Heap) (name : Str) (k : Nat) (rel : Rel) (ks : List Str) : Prop where
  ex : ∃ f fd ps, FnOk P w K mg base CX0 k f fd ps (SpR rel) ∧ mg name = some (.ref f) ∧ PySem.W.keepIn K (.ref f) = true ∧ KBn K fd ps 0 ks (fun us ws => us ++ ws.reverse) (fun vs zs => vs ++ zs.reverse)
structure MakeK (P : Program) (w : World) (K : PySem.W.Frag) (mg : Str → Option Value) (base : Heap) (name : Str) (C : Addr) (k : Nat) (rel : RelI) (ks : List Str) : Prop where
  ex : ∃ f fd ps, FnOk P w K mg base CX0 k f fd ps (SpI C rel) ∧ mg name = some (.ref C) ∧ Mk K C f ∧ KBn K fd ps 1 ks (fun us ws => us ++ ws.reverse) (fun vs zs => vs ++ zs.reverse)
theorem kbn_of {K : PySem.W.Frag} {fd : FuncData} {ps ks : List Str} {n : Nat} (h : ∀ us ws : List Value, us.length = n → ws.length = ks.length → bindArgs fd ⟨us, ks.zip ws⟩ = pure (ps.zip (us ++ ws.reverse))) : KBn K fd ps n ks (fun us ws => us ++ ws.reverse) (fun vs zs => vs ++ zs.reverse) :=
  ⟨fun s us ws _ l1 l2 => .of_eq (h us ws l1 l2), fun r1 r2 => r1.append (vals_rev r2)⟩
section
variable {X : Cx} {g : List Sl} {e : Expr} {kws : List Keyword} {p1 pos kpos : Pos} {r : Rp} {rs A : List Rp} {x : Str} {lv : Nat} {rel : Rel} {reli : RelI} {ks : List Str} {C : Addr} {fs : List (Str × Rp)} {nm : Option Str}
theorem kk_nil : PK X [] (tA g []) := ⟨fun pos pins s σ H Q I h => pk_nil.run pos pins s σ H Q I (let ⟨F, D0, D, ok, k⟩ := h; k [] H D (Grow.refl ok.sub) .nil)⟩
theorem kk_cons (he : EG X e g r) (hr : PK X kws (tA g rs)) : PK X (⟨nm, e, kpos⟩ :: kws) (tA g (r :: rs)) :=
  ⟨fun pos pins s σ H Q I h => (pk_cons he hr).run pos pins s σ H Q I (let ⟨F, D0, D, ok, k⟩ := h; ⟨F, D0, D, ok, fun v H1 D1 e1 hv => ⟨F, D0, D1, ok.grow e1, fun vs H2 D2 e2 hvs => k (v :: vs) H2 D2 (e1.trans e2) (.cons (r.mono e2.d hv) hvs)⟩⟩)⟩
theorem eg_callK (F : DefK X.prog X.w X.K X.mg X.base x lv rel ks) (ha : PK X kws (tA g A)) (h : rel A.reverse r) (hr : Room lv X.A) (hlen : A.length = ks.length := by rfl) (hg : Gl X x := by rfl) (hdb : (x == ("__debug__" : Str)) = false := by decide) (hall : (backToKw pos (keywordEach kws X.env)).all (·.1.isSome) = true := by rfl)
    (hks : (backToKw pos (keywordEach kws X.env)).filterMap (·.1) = ks := by rfl) (hpl : ((backTo pos (starEach [] X.env)).any (·.1) || (backToKw pos (keywordEach kws X.env)).any (·.1.isNone)) = false := by rfl) : EG X (.Call (.Name x p1) [] kws pos) g r := by
  obtain ⟨f, fd, ps, F, m, kp, b⟩ := F.ex
  refine ⟨fun pins s σ H Q I ⟨F1, D0, D, ok, kk⟩ => ?_⟩
  refine wpAny_Call_Name_kw (ld_glob I hg m ?_ hdb)
  refine PySem.W.callWith_KW0 (h₀ := X.base) I.ok.mod.kin kp hall ?_ hpl
  refine thn (ha.run pos pins s σ H (fun vs H' => vs.length = ks.length ∧ SpR rel vs.reverse H' Q E0) I ⟨F1, D0, D, ok, fun vs H' D' e hvs => ⟨by rw [← hvs.length]; exact hlen, A.reverse, r, D', h, e.i, reps_rev hvs, kk.later e⟩⟩) fun ws s2 ⟨zs, H2, I2, rz, l2, q2⟩ => ⟨I2.kIn, ?_⟩
  rw [hks]
  exact run_fnN (us := []) (vs := []) (n := 0) F hr b pass0 I2 .nil rz rfl l2 q2
theorem eg_makeK (F : MakeK X.prog X.w X.K X.mg X.base x C lv reli ks) (ha : PK X kws (tA g A)) (h : reli A.reverse fs) (hr : Room (lv + 1) X.A) (hlen : A.length = ks.length := by rfl) (hg : Gl X x := by rfl) (hdb : (x == ("__debug__" : Str)) = false := by decide) (hall : (backToKw pos (keywordEach kws X.env)).all (·.1.isSome) = true := by rfl)
    (hks : (backToKw pos (keywordEach kws X.env)).filterMap (·.1) = ks := by rfl) (hpl : ((backTo pos (starEach [] X.env)).any (·.1) || (backToKw pos (keywordEach kws X.env)).any (·.1.isNone)) = false := by rfl) : EG X (.Call (.Name x p1) [] kws pos) g (Rf.rI C fs) := by
  obtain ⟨f, fd, ps, F, m, M, b⟩ := F.ex
  refine pe_to (pe_makeK0 M F hr hg m b pass0 ha hall hks hdb hpl) fun σ H Q ⟨F, D0, D, ok, k⟩ => ⟨F, D0, D, ok, fun vs H1 D1 e1 hvs => ⟨rfl, by rw [← hvs.length]; exact hlen, fun z dx nz ndx ne => ?_⟩⟩
  have s1 : Same H1 (upd (upd H1 dx (.own z)) z (.ins C dx [])) := (same_upd ndx).trans (same_upd (by rw [upd_ne (Ne.symm ne)]; exact nz))
  refine ⟨z, dx, A.reverse, fs, D1, vs.reverse, rfl, upd_same, h, e1.i.trans s1, e1.i.free nz, reps_rev hvs, fun H2 D2 ws h1 h2 h3 h4 h5 h6 h7 => ⟨rfl, ?_⟩⟩
  refine k (.ref z) H2 (upd D2 z (.ins C dx ws)) ⟨fun q u hq => ?_, fun q u hq => ?_, fun q u hq => ?_, fun q hq => ?_⟩ ⟨z, dx, ws, rfl, upd_same, h3.mono (same_upd h6)⟩
  · have hq1 := e1.h _ _ hq
    exact h1 q u (ne_of_none hq1 nz) (s1 _ _ hq1)
  · rw [upd_ne (ne_of_none (h4 _ _ (e1.d _ _ hq)) h6)]; exact h4 _ _ (e1.d _ _ hq)
  · by_cases hz : q = z
    · subst hz; rw [upd_same] at hq; cases hq; exact h2
    · rw [upd_ne hz] at hq; exact h5 _ _ hq
  · by_cases hz : q = z
    · subst hz; exact .inr (.inl (e1.h.free nz))
    · rw [upd_ne hz] at hq
      rcases h7 q hq with w | w
      · exact e1.f q w
      · exact .inr ((w.back s1).back e1.h)
end

section
variable {P : Program} {w : World} {K : PySem.W.Frag} {mg : Str → Option Value} {base : Heap} {f f2 cc cda : Addr} {fd : FuncData}
abbrev rBuilt (K : PySem.W.Frag) (S : SewD) (ns : List Int) : Rp := Rf.rI (He.ga K "Built") (builtF (rSew K S) ns)
abbrev KBuilt (K : PySem.W.Frag) : Prop := KlsA K (He.ga K "Built") fBuilt
theorem built_make {C : Addr} (A : KlsA K C fBuilt) (T : BuiltF P K mg C cc cda f f2 fd) (F2 : FnR P w K mg base CX0 4 f2 (SpI C (relPaperI K))) (gm : mg "Built" = some (.ref C)) (mk : Mk K C f) : MakeC P w K mg base "Built" C 5 (relBuiltI K) := by
  obtain ⟨kV, doc, pm, ct, an, hfd⟩ := T.eq
  refine ⟨f, fd, _, c_Built_init A T F2, gm, mk, ?_⟩
  subst hfd
  exact Binds.all fun us hl => match us, hl with | [_, _, _], _ => rfl
theorem built_makeK {C : Addr} (A : KlsA K C fBuilt) (T : BuiltF P K mg C cc cda f f2 fd) (F2 : FnR P w K mg base CX0 4 f2 (SpI C (relPaperI K))) (gm : mg "Built" = some (.ref C)) (mk : Mk K C f) : MakeK P w K mg base "Built" C 5 (relBuiltI K) ["words", "sewing"] := by
  obtain ⟨kV, doc, pm, ct, an, hfd⟩ := T.eq
  refine ⟨f, fd, _, c_Built_init A T F2, gm, mk, ?_⟩
  subst hfd
  exact kbn_of fun us ws l1 l2 => match us, ws, l1, l2 with | [_], [_, _], _, _ => rfl
end

section
variable {P : Program} {w : World} {K : PySem.W.Frag} {mg : Str → Option Value} {base : Heap} {f : Addr} {fd : FuncData}

inductive relBEqN (K : PySem.W.Frag) : Rel
  | mk (B : BagD) : relBEqN K [rBag K B, rNon] (rBl false)
theorem c_Bag_eqN (T : Fre mg) (B : KBag K) (gB : mg "Bag" = some (.ref (He.ga K "Bag"))) (hkit : PySem.W.kitOne K (.type "NoneType") (.ref (He.ga K "Bag")) = some false) (F : FnM K "__eq__" "Bag.__eq__" (inClass (top 76) 1) f fd) (gm : Meth K (He.ga K "Bag") "__eq__" f) : MethC P w K mg base (He.ga K "Bag") "__eq__" 1 (relBEqN K) := by
  refine ⟨f, fd, ["self", "other"], def_g F sc_Bag_eq (fun A r h => by cases h <;> rfl) (by decide) (fun cdv A outer s H E hr As r h => ?_), gm, F.bindsN fun _ _ _ _ _ _ us hl => match us, hl with | [_, _], _ => rfl⟩
  cases h with
  | mk B1 => exact sg_ret (eg_eq (r1 := rBl (false && true)) rfl (eg_and (k1 := false) (k2 := true) (eg_isi T.isinstance (eg_name 1) (eg_glob (v := .ref (He.ga K "Bag")) gB rfl) ty_non (.own _) hkit) fun q => nomatch q)) rfl

inductive relSB (K : PySem.W.Frag) : Rel
  | mk (B B2 : BagD) (S : SewD) (ns : List Int) (hz : ns.length ≤ 1000) (hw : (decide (ns.length = S.ws.length) && ns.all fun n => withinB n (some 0) (some (B.ws.length - 1))) = true) (h : relFB K [rSew K S, rRims K B.ws B.nx, rTI ns] (rBag K B2)) (e1 : B2.ws = B.ws) (e2 : B2.nx = B.nx) : relSB K [rBag K B, rBuilt K S ns] (rBl (decide (B2.gs = B.gs)))
  | no (B : BagD) (S : SewD) (ns : List Int) (hz : ns.length ≤ 1000) (hw : (decide (ns.length = S.ws.length) && ns.all fun n => withinB n (some 0) (some (B.ws.length - 1))) = true) (h : relFB K [rSew K S, rRims K B.ws B.nx, rTI ns] rNon) : relSB K [rBag K B, rBuilt K S ns] (rBl false)

theorem sc_shows_built : FnScope ["bag", "value"] ["bag", "value"] (defScope (top 92)) := ⟨rfl, rfl, rfl, by decide +kernel, rfl, by decide +kernel, by decide +kernel⟩
theorem fn_shows_built (T : Fre mg) (B : KBag K) (U : KBuilt K) (W : KSew K) (gU : mg "Built" = some (.ref (He.ga K "Built"))) (gS : mg "Sewing" = some (.ref (He.ga K "Sewing"))) (hsub : PySem.W.subIn K (.ref (He.ga K "Bag")) (.type "NoneType") = some false) (C1 : DefC P w K mg base "need_bag" 1 (relNeedB K)) (C2 : DefC P w K mg base "are_words" 3 (relWords K)) (C3 : DefC P w K mg base "folded_bag" 8 (relFB K)) (C4 : MethC P w K mg base (He.ga K "Bag") "__eq__" 4 (relBEq K)) (C5 : MethC P w K mg base (He.ga K "Bag") "__eq__" 1 (relBEqN K)) (F : FnP K "shows_built" (top 92) f fd) : FnOk P w K mg base CX0 9 f fd ["bag", "value"] (SpR (relSB K)) := by
  refine def_g F sc_shows_built (fun A r h => by cases h <;> rfl) (by decide) (fun cdv A outer s H E hr As r h => ?_)
  cases h with
  | mk B1 B2 S ns hz hw h e1 e2 =>
    refine sg_expr (eg_call C1 (ag_cons (eg_name 0) (ag_cons eg_str ag_nil)) (.mk _ _) (hr.mono (by decide))) ?_
    refine sg_ifF (k := false || false) (bg_w (wg_or (bg_not (k := true) (bg_val (eg_isi T.isinstance (eg_name 1) (eg_glob (v := .ref (He.ga K "Built")) gU rfl) (ty_I U.c) (.own _) U.kit))) fun _ => wg_or1 (bg_not (k := true) (bg_val (eg_isi T.isinstance (eg_fld U.c.cl (U.n _ (by decide)) (eg_name 1)) (eg_glob (v := .ref (He.ga K "Sewing")) gS rfl) (ty_I W.c) (.own _) W.kit))))) rfl ?_
    refine sg_ifF (k := false) (bg_not (k := true) (bg_val (eg_eq (congrArg rBl hw) (eg_call C2 (ag_cons (eg_fld U.c.cl (U.n _ (by decide)) (eg_name 1)) (ag_cons (eg_fld B.c.cl (B.n _ (by decide)) (eg_name 0)) (ag_cons (eg_fld U.c.cl (U.n _ (by decide)) (eg_name 1)) ag_nil))) (words_ints (tp := true) hz) (hr.mono (by decide)))))) rfl ?_
    exact sg_ret (eg_eqOwnB C4 (.mk B2 B1 e1 e2) (hr.mono (by decide)) (eg_call C3 (ag_cons (eg_fld U.c.cl (U.n _ (by decide)) (eg_name 1)) (ag_cons (eg_fld B.c.cl (B.n _ (by decide)) (eg_name 0)) (ag_cons (eg_fld U.c.cl (U.n _ (by decide)) (eg_name 1)) ag_nil))) h hr) (eg_name 0)) rfl
  | no B1 S ns hz hw h =>
    refine sg_expr (eg_call C1 (ag_cons (eg_name 0) (ag_cons eg_str ag_nil)) (.mk _ _) (hr.mono (by decide))) ?_
    refine sg_ifF (k := false || false) (bg_w (wg_or (bg_not (k := true) (bg_val (eg_isi T.isinstance (eg_name 1) (eg_glob (v := .ref (He.ga K "Built")) gU rfl) (ty_I U.c) (.own _) U.kit))) fun _ => wg_or1 (bg_not (k := true) (bg_val (eg_isi T.isinstance (eg_fld U.c.cl (U.n _ (by decide)) (eg_name 1)) (eg_glob (v := .ref (He.ga K "Sewing")) gS rfl) (ty_I W.c) (.own _) W.kit))))) rfl ?_
    refine sg_ifF (k := false) (bg_not (k := true) (bg_val (eg_eq (congrArg rBl hw) (eg_call C2 (ag_cons (eg_fld U.c.cl (U.n _ (by decide)) (eg_name 1)) (ag_cons (eg_fld B.c.cl (B.n _ (by decide)) (eg_name 0)) (ag_cons (eg_fld U.c.cl (U.n _ (by decide)) (eg_name 1)) ag_nil))) (words_ints (tp := true) hz) (hr.mono (by decide)))))) rfl ?_
    exact sg_ret (eg_nonEq C5 hsub (.mk B1) (hr.mono (by decide)) (eg_call C3 (ag_cons (eg_fld U.c.cl (U.n _ (by decide)) (eg_name 1)) (ag_cons (eg_fld B.c.cl (B.n _ (by decide)) (eg_name 0)) (ag_cons (eg_fld U.c.cl (U.n _ (by decide)) (eg_name 1)) ag_nil))) h hr) (eg_name 0)) rfl
theorem c_shows_built (T : Fre mg) (B : KBag K) (U : KBuilt K) (W : KSew K) (gU : mg "Built" = some (.ref (He.ga K "Built"))) (gS : mg "Sewing" = some (.ref (He.ga K "Sewing"))) (hsub : PySem.W.subIn K (.ref (He.ga K "Bag")) (.type "NoneType") = some false) (C1 : DefC P w K mg base "need_bag" 1 (relNeedB K)) (C2 : DefC P w K mg base "are_words" 3 (relWords K)) (C3 : DefC P w K mg base "folded_bag" 8 (relFB K)) (C4 : MethC P w K mg base (He.ga K "Bag") "__eq__" 4 (relBEq K)) (C5 : MethC P w K mg base (He.ga K "Bag") "__eq__" 1 (relBEqN K)) (F : FnP K "shows_built" (top 92) f fd) (gm : mg "shows_built" = some (.ref f)) : DefC P w K mg base "shows_built" 9 (relSB K) :=
  ⟨f, fd, ["bag", "value"], fn_shows_built T B U W gU gS hsub C1 C2 C3 C4 C5 F, gm, F.kp, F.bindsN fun _ _ _ _ _ _ us hl => match us, hl with | [_, _], _ => rfl⟩

theorem k_shows_built {lv : Nat} {rel : Rel} (F : FnP K "shows_built" (top 92) f fd) (gm : mg "shows_built" = some (.ref f)) (Fn : FnOk P w K mg base CX0 lv f fd ["bag", "value"] (SpR rel)) : DefK P w K mg base "shows_built" lv rel ["value", "bag"] := by
  refine ⟨f, fd, _, Fn, gm, F.kp, ?_⟩
  obtain ⟨oc, od, dV, kV, doc, pm, an, cdv, ct, osl, rfl, lk, hcd, hd, _⟩ := F.ex
  have hd : dV = .none := hd.elim (fun z => z.2) fun z => absurd rfl z.1
  subst hd
  exact kbn_of fun us ws l1 l2 => match us, ws, l1, l2 with | [], [_, _], _, _ => rfl
theorem k_bag_of_rounds {lv : Nat} {rel : Rel} (F : FnP K "bag_of_rounds" (top 90) f fd) (gm : mg "bag_of_rounds" = some (.ref f)) (Fn : FnOk P w K mg base CX0 lv f fd ["sewing", "rims", "words"] (SpR rel)) : DefK P w K mg base "bag_of_rounds" lv rel ["words", "rims", "sewing"] := by
  refine ⟨f, fd, _, Fn, gm, F.kp, ?_⟩
  obtain ⟨oc, od, dV, kV, doc, pm, an, cdv, ct, osl, rfl, lk, hcd, hd, _⟩ := F.ex
  have hd : dV = .none := hd.elim (fun z => z.2) fun z => absurd rfl z.1
  subst hd
  exact kbn_of fun us ws l1 l2 => match us, ws, l1, l2 with | [], [_, _, _], _, _ => rfl

end
end Rf

namespace Rf
open PySem PySem.Spec PyProof.Rows L2
section
variable {P : Program} {w : World} {K : PySem.W.Frag} {mg : Str → Option Value} {base : Heap} {f : Addr} {fd : FuncData}

inductive relSR (K : PySem.W.Frag) : Rel
  | mk (S : SewD) (ws lo : List (List Int)) (nx ns nl fo l1 l2 : List Int) (cs : List (List Int)) (vs : WS) (Bd B O : BagD) (hz : lo.length ≤ 1000 ∧ ns.length ≤ 1000) (h1 : relLNexts [rL (lo.map rInts)] (rInts nl)) (h2 : relLF [rL (lo.map rInts), rL (ws.map rInts), rInts ns] (rInts fo)) (h3 : relLC [rInts nl, rInts S.ms] (rL (cs.map rTI)))
    (hv : comp (fun _ => some true) (cornH fo) cs = some vs) (hD : relBagI K [rRims K ws nx, rWS vs] (bagF K Bd)) (hB : relBR K [rSew K S, rRims K ws nx, rInts ns] (rBag K B)) (hB2 : relBR K [rSew K S, rRims K ws nx, rTI ns] (rBag K B)) (h4 : relLL [rL (lo.map rInts)] (rInts l1)) (h5 : relLL [rL (ws.map rInts)] (rInts l2)) (hl2 : 0 < l2.length ∧ l2.length < 1000)
    (e1 : B.ws = Bd.ws) (e2 : B.nx = Bd.nx) (e3 : B.gs = Bd.gs) (e4 : B.copies = (l1.length : Int) / (l2.length : Int)) (e5 : B.cost = S.cost) (e6 : B.many = cs.length) (hS : relSB K [rBag K B, rBuilt K S ns] (rBl true)) (hO : relSB K [rBag K O, rBuilt K S ns] (rBl (decide (O.gs = B.gs)))) (o1 : O.ws = B.ws) (o2 : O.nx = B.nx) (hls : cs.length ≤ 1000) :
      relSR K [rRims K ws nx, rL (ws.map rInts), rL (lo.map rInts), rInts ns, rSew K S, rBag K O] (rBl true)
theorem listed_I {K : PySem.W.Frag} {C : Addr} {fs : List (Str × Rp)} (c : ClsT K C) (h1 : PySem.W.kitOne K (.ref C) (.type "list") = some false) (h2 : PySem.W.kitOne K (.ref C) (.type "tuple") = some false) : relListed K [Rf.rI C fs] (rBl false) := notlisted (ty_I c) h1 h2

theorem sc__law_sewing_right : FnScope ["_law_rims_here", "_law_words", "_law_long", "_law_numbers", "_law_sewing", "_law_other", "_law_nexts_here", "_law_folds", "_law_corners_here", "_law_due", "_law_bag", "_law_copies", "_law_corner", "_law_place"] ["_law_rims_here", "_law_words", "_law_long", "_law_numbers", "_law_sewing", "_law_other"] (defScope (top 106)) := ⟨rfl, rfl, rfl, by decide +kernel, rfl, by decide +kernel, by decide +kernel⟩
theorem fn__law_sewing_right (T : Fre mg) (R : KRims K) (W : KSew K) (B : KBag K) (hne : PySem.W.findIn K (.ref (He.ga K "Bag")) "__ne__" = some (some (.builtin "object.__ne__"))) (hmo : PySem.W.mroIn K (He.ga K "Bag") (.type "object") = some true) (hL : PySem.W.kitOne K (.ref (He.ga K "Sewing")) (.type "list") = some false) (hT : PySem.W.kitOne K (.ref (He.ga K "Sewing")) (.type "tuple") = some false) (C1 : DefC P w K mg base "_law_nexts" 1 relLNexts) (C2 : DefC P w K mg base "_law_folded" 1 relLF) (C3 : DefC P w K mg base "_law_corners" 1 relLC) (C4 : MakeC P w K mg base "Bag" (He.ga K "Bag") 6 (relBagI K)) (C5 : DefK P w K mg base "bag_of_rounds" 9 (relBR K) ["words", "rims", "sewing"]) (C6 : DefC P w K mg base "bag_of_rounds" 9 (relBR K)) (C7 : DefC P w K mg base "_law_letters" 1 relLL) (C8 : MethC P w K mg base (He.ga K "Bag") "__eq__" 4 (relBEq K)) (C9 : DefC P w K mg base "shows_built" 9 (relSB K)) (C10 : DefK P w K mg base "shows_built" 9 (relSB K) ["value", "bag"]) (C11 : MakeC P w K mg base "Built" (He.ga K "Built") 5 (relBuiltI K)) (C12 : MakeK P w K mg base "Built" (He.ga K "Built") 5 (relBuiltI K) ["words", "sewing"]) (F : FnP K "_law_sewing_right" (top 106) f fd) : FnOk P w K mg base CX0 10 f fd ["_law_rims_here", "_law_words", "_law_long", "_law_numbers", "_law_sewing", "_law_other"] (SpR (relSR K)) := by
  refine def_g F sc__law_sewing_right (fun A r h => by cases h <;> rfl) (by decide) (fun cdv A outer s H E hr As r h => ?_)
  cases h with
  | mk S ws lo nx ns nl fo l1 l2 cs vs Bd B1 O hz h1 h2 h3 hv hD hB hB2 h4 h5 hl2 e1 e2 e3 e4 e5 e6 hS hO o1 o2 hls =>
    have hlst : relListed K [rSew K S] (rBl false) := listed_I W.c hL hT
    refine sg_set 6 (eg_call C1 (ag_cons (eg_name 2) ag_nil) h1 (hr.mono (by decide))) sc__law_sewing_right.nd ?_
    refine sg_parC 7 8 (s := .d (rInts fo)) (s2 := .d (rL (cs.map rTI))) (vg_d (eg_call C2 (ag_cons (eg_name 2) (ag_cons (eg_name 1) (ag_cons (eg_name 3) ag_nil))) h2 (hr.mono (by decide)))) (vg_d (eg_call C3 (ag_cons (eg_name 6) (ag_cons (eg_n (ng_listT T.list (eg_fld W.c.cl (W.n _ (by decide)) (eg_name 4)))) ag_nil)) h3 (hr.mono (by decide)))) rfl sc__law_sewing_right.nd ?_
    refine sg_set 9 (eg_make C4 (ag_cons (eg_name 0) (ag_cons (eg_n (rs := vs.map rWk) ?_) ag_nil)) hD (hr.mono (by decide))) sc__law_sewing_right.nd ?_
    · refine (ng_lc (fa := rTI) (fb := rWk) (l := cs) [("_law_corner", 12)] (fun c => [.d (rRims K ws nx), .d (rL (ws.map rInts)), .d (rL (lo.map rInts)), .d (rInts ns), .d (rSew K S), .d (rBag K O), .d (rInts nl), .d (rInts fo), .d (rL (cs.map rTI)), .non, .non, .non, .d (rTI c), .non]) (fun _ => some true) (cornH fo) rfl sc__law_sewing_right.nd (ig_list (eg_name 8)) hv (blkOk_by (N := ["_law_rims_here", "_law_words", "_law_long", "_law_numbers", "_law_sewing", "_law_other", "_law_nexts_here", "_law_folds", "_law_corners_here", "_law_due", "_law_bag", "_law_copies", "_law_corner", "_law_place"]) (sc := defScope (top 106)) (by decide +kernel))
        (fun x s H C cl fp => kg_name 12 sc__law_sewing_right.nd) (fun x k s H C cl fp e => by cases e; exact ts_nil) (fun c y s H C cl fp _ e => ?_))
      unfold cornH at e
      cases hc : comp (fun _ => some true) (atI fo) c with
      | none => rw [hc] at e; cases e
      | some ys =>
        rw [hc] at e; cases e
        exact eg_tup (ag_cons (eg_n (ng_lc (fa := rInt) (fb := rInt) (l := c) [("_law_place", 13)] (fun p => [.d (rRims K ws nx), .d (rL (ws.map rInts)), .d (rL (lo.map rInts)), .d (rInts ns), .d (rSew K S), .d (rBag K O), .d (rInts nl), .d (rInts fo), .d (rL (cs.map rTI)), .non, .non, .non, .d (rTI c), .d (rInt p)]) (fun _ => some true) (atI fo) rfl sc__law_sewing_right.nd (ig_tup (eg_name 12)) hc (blkOk_by (N := ["_law_rims_here", "_law_words", "_law_long", "_law_numbers", "_law_sewing", "_law_other", "_law_nexts_here", "_law_folds", "_law_corners_here", "_law_due", "_law_bag", "_law_copies", "_law_corner", "_law_place"]) (sc := relS _ (defScope (top 106))) (by decide +kernel))
          (fun x s H C cl fp => kg_name 13 sc__law_sewing_right.nd) (fun x k s H C cl fp e => by cases e; exact ts_nil) (fun p y s H C cl fp _ e => eg_ixL (fa := rInt) (eg_name 7) (eg_name 13) e))) (ag_cons eg_int ag_nil))
    refine sg_set 10 (eg_callK C5 (kk_cons (eg_name 3) (kk_cons (eg_name 0) (kk_cons (eg_name 4) kk_nil))) hB hr) sc__law_sewing_right.nd ?_
    refine sg_set 11 (eg_fdiv (i := (l1.length : Int)) (j := (l2.length : Int)) ⟨by omega, by omega⟩ (eg_lenL1 T.len (eg_call C7 (ag_cons (eg_name 2) ag_nil) h4 (hr.mono (by decide)))) (eg_lenL1 T.len (eg_call C7 (ag_cons (eg_name 1) ag_nil) h5 (hr.mono (by decide))))) sc__law_sewing_right.nd ?_
    have eqB : relBEq K [rBag K B1, rBag K Bd] (rBl true) := by
      have z := relBEq.mk (K := K) B1 Bd e1 e2
      rw [decide_eq_true e3] at z
      exact z
    refine sg_ifF (k := (!true || (!decide (B1.copies = (l1.length : Int) / (l2.length : Int)) || (!decide (B1.cost = S.cost) || (!decide (B1.many = (cs.length : Int)) || !true))))) (bg_w (wg_or (bg_neOwn C8 hne hmo eqB (hr.mono (by decide)) (eg_name 10) (eg_name 9)) fun _ => wg_or (bg_nei (eg_fld B.c.cl (B.n _ (by decide)) (eg_name 10)) (eg_name 11)) fun _ => wg_or (bg_nei (eg_fld B.c.cl (B.n _ (by decide)) (eg_name 10)) (eg_fld W.c.cl (W.n _ (by decide)) (eg_name 4))) fun _ => wg_or (bg_nei (eg_fld B.c.cl (B.n _ (by decide)) (eg_name 10)) (eg_lenL1 T.len (eg_name 8))) fun _ =>
      wg_or1 (bg_neOwn C8 hne hmo eqB (hr.mono (by decide)) (eg_call C6 (ag_cons (eg_name 4) (ag_cons (eg_name 0) (ag_cons (eg_tupleL T.tuple (eg_name 3)) ag_nil))) hB2 hr) (eg_name 9)))) (by rw [decide_eq_true e4, decide_eq_true e5, decide_eq_true e6]; rfl) ?_
    refine sg_ifF (k := (!decide (true = true) || !decide (true = true))) (bg_w (wg_or (bg_notB (k1 := true) (k2 := true) (eg_call C9 (ag_cons (eg_name 10) (ag_cons (eg_make C11 (ag_cons (eg_name 4) (ag_cons (eg_name 3) ag_nil)) (.mk (rSew K S) false ns hlst hz.2) (hr.mono (by decide))) ag_nil)) hS hr) eg_bl) fun _ => wg_or1 (bg_notB (k1 := true) (k2 := true) (eg_callK C10 (kk_cons (eg_makeK C12 (kk_cons (eg_name 3) (kk_cons (eg_name 4) kk_nil)) (.mk (rSew K S) false ns hlst hz.2) (hr.mono (by decide))) (kk_cons (eg_name 10) kk_nil)) hS hr) eg_bl))) rfl ?_
    refine sg_ret (eg_eq (r1 := rBl (decide (V.bl (decide (O.gs = B1.gs)) = V.bl (decide (O.gs = B1.gs))))) (by rw [decide_eq_true rfl]) (eg_eqs (eg_call C9 (ag_cons (eg_name 5) (ag_cons (eg_make C11 (ag_cons (eg_name 4) (ag_cons (eg_name 3) ag_nil)) (.mk (rSew K S) false ns hlst hz.2) (hr.mono (by decide))) ag_nil)) hO hr) (eg_eqOwnB C8 (.mk O B1 o1 o2) (hr.mono (by decide)) (eg_name 5) (eg_name 10)))) rfl
theorem c__law_sewing_right (T : Fre mg) (R : KRims K) (W : KSew K) (B : KBag K) (hne : PySem.W.findIn K (.ref (He.ga K "Bag")) "__ne__" = some (some (.builtin "object.__ne__"))) (hmo : PySem.W.mroIn K (He.ga K "Bag") (.type "object") = some true) (hL : PySem.W.kitOne K (.ref (He.ga K "Sewing")) (.type "list") = some false) (hT : PySem.W.kitOne K (.ref (He.ga K "Sewing")) (.type "tuple") = some false) (C1 : DefC P w K mg base "_law_nexts" 1 relLNexts) (C2 : DefC P w K mg base "_law_folded" 1 relLF) (C3 : DefC P w K mg base "_law_corners" 1 relLC) (C4 : MakeC P w K mg base "Bag" (He.ga K "Bag") 6 (relBagI K)) (C5 : DefK P w K mg base "bag_of_rounds" 9 (relBR K) ["words", "rims", "sewing"]) (C6 : DefC P w K mg base "bag_of_rounds" 9 (relBR K)) (C7 : DefC P w K mg base "_law_letters" 1 relLL) (C8 : MethC P w K mg base (He.ga K "Bag") "__eq__" 4 (relBEq K)) (C9 : DefC P w K mg base "shows_built" 9 (relSB K)) (C10 : DefK P w K mg base "shows_built" 9 (relSB K) ["value", "bag"]) (C11 : MakeC P w K mg base "Built" (He.ga K "Built") 5 (relBuiltI K)) (C12 : MakeK P w K mg base "Built" (He.ga K "Built") 5 (relBuiltI K) ["words", "sewing"]) (F : FnP K "_law_sewing_right" (top 106) f fd) (gm : mg "_law_sewing_right" = some (.ref f)) : DefC P w K mg base "_law_sewing_right" 10 (relSR K) :=
  ⟨f, fd, ["_law_rims_here", "_law_words", "_law_long", "_law_numbers", "_law_sewing", "_law_other"], fn__law_sewing_right T R W B hne hmo hL hT C1 C2 C3 C4 C5 C6 C7 C8 C9 C10 C11 C12 F, gm, F.kp, F.bindsN fun _ _ _ _ _ _ us hl => match us, hl with | [_, _, _, _, _, _], _ => rfl⟩

end
end Rf

namespace Rf
open PySem PySem.Spec PyProof.Rows L2
def rSn (n : Nat) : Rp := ⟨fun _ v => ∃ z : Str, v = .str z ∧ z.length ≤ n, fun _ h => h⟩
theorem reps_sn {D : Hp} {n : Nat} : ∀ {k : Nat} {vs : List V}, Reps D (List.replicate k (rSn n)) vs → ∃ zs : List Str, vs = zs.map V.str ∧ zs.length = k ∧ (zs.map (·.length)).sum ≤ k * n
  | 0, _, .nil => ⟨[], rfl, rfl, Nat.zero_le _⟩
  | k + 1, _, .cons ⟨z, h, hz⟩ t => by
    obtain ⟨zs, e, h1, h2⟩ := reps_sn t
    refine ⟨z :: zs, by rw [h, e]; rfl, by rw [List.length_cons, h1], ?_⟩
    show z.length + (zs.map (·.length)).sum ≤ _
    rw [Nat.succ_mul]; omega
theorem join_len (y : Str) : ∀ zs : List Str, (Str.join y zs).length ≤ (zs.map (·.length)).sum + zs.length * y.length
  | [] => Nat.zero_le _
  | [z] => by show z.length ≤ z.length + 0 + _; omega
  | z :: z2 :: r => by
    have ih := join_len y (z2 :: r)
    show (z ++ y ++ Str.join y (z2 :: r)).length ≤ z.length + ((z2 :: r).map (·.length)).sum + ((z2 :: r).length + 1) * y.length
    rw [TL.len_tl, TL.tl_append, TL.tl_append, List.length_append, List.length_append, ← TL.len_tl, ← TL.len_tl, ← TL.len_tl, Nat.succ_mul, List.map_cons, List.sum_cons] at *
    omega
section
variable {X : Cx} {g : List Sl} {a b e o : Expr} {p1 p2 pos : Pos} {C : Addr} {fs : List (Str × Rp)} {rel : Rel} {k n m : Nat} {r : Rp}
theorem run_in2 {pins : List (Addr × Obj)} {σ : L2.St} {H : Hp} {s : Shared} {f : Addr} {fd : FuncData} {ps : List Str} {sp : Sp} {vs : List V} {us : List Value} {Q : VK} {Q' : Value → Shared → Prop}
    (F : FnOk X.prog X.w X.K X.mg X.base CX0 k f fd ps sp) (hr : Room (k + 2) X.A) (hb : Binds X.K fd ps []) (I : Inv X pins σ H s) (r : Vals vs us) (h : sp vs H Q E0) (fin : ∀ v u H' s', Inv X pins σ H' s' → RelV v u → Q v H' → Q' u s') :
    wpAny (model X.prog X.w) X.A.in1.in1 (call (.ref f) us) Q' X.xe s := by
  have hl : (us ++ []).length = ps.length := by rw [List.append_nil, ← r.length]; exact F.len _ _ _ _ h
  refine wpAny_call (codeAny_mono (F.run X.A.in1.in1 X.stack s H ⟨us, []⟩ us vs Q E0 hr.in1.in1 I.env0.in1.in1 (by have q := hb s us I.kIn hl; rw [List.append_nil] at q; exact q) r h) fun r s' hq => ?_)
  cases r with
  | error e => exact (hq : False).elim
  | ok fl =>
    cases fl with
    | ret u =>
      obtain ⟨v, H', I', rv', q⟩ := I.after hq
      exact fin v u H' s' I' rv' q
    | next => exact False.elim hq
    | brk => exact False.elim hq
    | cont => exact False.elim hq
def rStrOwn (C : Addr) (sp : Sp) : List V → Hp → VK → Prop := fun xs H Q => ∃ a dx fs, xs = [.ref a] ∧ H a = some (.ins C dx fs) ∧ sp [.ref a] H (fun v H' => ∃ z : Str, v = .str z ∧ Q (.str z) H') E0
theorem cr_strOwn {f : Addr} {fd : FuncData} {ps : List Str} {sp : Sp} (F : FnOk X.prog X.w X.K X.mg X.base CX0 k f fd ps sp) (hr : Room (k + 2) X.A) (hb : Binds X.K fd ps []) (M : Meth X.K C "__str__" f) : CallR X (.type "str") (rStrOwn C sp) := by
  intro pins s σ H vs us Q I r h
  obtain ⟨a, dx, fs, rfl, ha, hsp⟩ := h
  rw [Vals.ref1 r]
  obtain ⟨mA, J, _⟩ := ins_get I.hok ha
  obtain ⟨od, J, _⟩ := J.look
  refine PySem.W.kso_call hr.in1.in1.units0 I.kIn J M.at_ M.fn (run_in2 (vs := [V.ref a]) F hr hb I (.cons rfl .nil) hsp fun v u H' s' I' ru ⟨z, e, q⟩ => ?_)
  subst e
  obtain ⟨t, rfl⟩ := ru
  exact ⟨.str z, H', I', ⟨_, rfl⟩, q⟩
theorem eg_strOwn (F : MethC X.prog X.w X.K X.mg X.base C "__str__" k rel) (hr : Room (k + 2) X.A) (h : rel [Rf.rI C fs] (rSn n)) (hm : X.mg "str" = none) (ha : EG X a g (Rf.rI C fs)) (hg : Gl X "str" := by rfl) (he : starEach [a] X.env = (false, eval a X.env) :: starEach [] X.env := by rfl) :
    EG X (.Call (.Name "str" p1) [a] [] pos) g (rSn n) := by
  obtain ⟨f, fd, ps, F, M, b⟩ := F.ex
  refine pe_to (pe_callTy (cr_strOwn F hr b M) hg hm PySem.Pv.boot_str (ag_cons ha ag_nil he) (by decide) (by decide) he (by rfl)) fun σ H Q ⟨F, D0, D, ok, k⟩ => ⟨F, D0, D, ok, fun vs H1 D1 e1 hvs => ?_⟩
  cases hvs with
  | cons h1 t =>
    cases t
    obtain ⟨q, dx, ws, rfl, h2, h3⟩ := h1
    refine ⟨q, dx, ws, rfl, e1.i _ _ h2, [Rf.rI C fs], rSn n, D1, h, e1.i, .cons ⟨q, dx, ws, rfl, h2, h3⟩ .nil, fun v H2 D2 e2 hv => ?_⟩
    obtain ⟨z, rfl, hz⟩ := hv
    exact ⟨z, rfl, (k.later (e1.trans e2)).here e2.i ⟨z, rfl, hz⟩⟩
/-- sep.join([..]) of short texts -/
theorem eg_join {sep : Str} {u} (hl : EG X a g (rL (List.replicate k (rSn n)))) (hz : k * n + k * sep.length ≤ 16777216) (hbase : attributeBase (.Constant (.str sep) u p2) "join" X.env (eval (.Constant (.str sep) u p2) X.env) = eval (.Constant (.str sep) u p2) X.env := by rfl)
    (hfew : ((backTo pos (starEach (a :: []) X.env)).all (fun x => !x.1) && (backToKw pos (keywordEach [] X.env)).all (fun x => x.1.isSome) && decide ((a :: []).length + ([] : List Keyword).length + (if ([] : List Keyword).isEmpty then 0 else 1) < 30)) = true := by rfl)
    (hline : (p1.endLine == pos.line) = true := by rfl) (hss : starEach (a :: []) X.env = (false, eval a X.env) :: starEach [] X.env := by rfl) (hplain : (backTo pos (starEach [] X.env)).any (·.1) = false := by rfl) :
    EG X (.Call (.Attribute (.Constant (.str sep) u p2) "join" p1) [a] [] pos) g (rSn (k * n + k * sep.length)) :=
  pe_to (pe_bm PySem.F.plainAttrs_str PySem.F.slot_str_join PySem.F.type_str_join mt_join (eg_c (g := g) pe_str) (pa_cons hl pa_nil hss) hbase hfew hline hss hplain) fun σ H Q ⟨F, D0, D, ok, kk⟩ => ⟨F, D0, D, ok, fun v H1 D1 e1 hv => by
    have hv : v = .str sep := hv
    subst hv
    refine ⟨rfl, F, D0, D1, ok.grow e1, fun w H2 D2 e2 hw => ?_⟩
    obtain ⟨p, vs, rfl, h1, h2⟩ := hw
    obtain ⟨zs, rfl, hl2, hs⟩ := reps_sn h2
    refine ⟨sep, p, zs, rfl, rfl, .inl (SqL.of (e2.i _ _ h1)), by rw [hl2]; omega, (kk.later (e1.trans e2)).here e2.i ⟨_, rfl, ?_⟩⟩
    have := join_len sep zs
    rw [hl2] at this
    rw [show Txt.join sep zs = Str.join sep zs from eq_of_beq (join_plain_closes sep zs)]
    omega⟩
end

section
variable {P : Program} {w : World} {K : PySem.W.Frag} {mg : Str → Option Value} {base : Heap} {f : Addr} {fd : FuncData}

inductive relTL : Rel
  | mk (l : Int) (h : isLetterB l = true) : relTL [rInt l] (rSn 2)
theorem small_at {z : Str} (hz : z.length = 26) {i : Int} (h : 0 ≤ i ∧ i < 26) : ∃ n, atI z.cps.toList i = some n := by
  have e : z.cps.toList.length = 26 := by rw [← hz]; simp [Str.length]
  obtain ⟨m, rfl⟩ : ∃ m : Nat, i = (m : Int) := ⟨i.toNat, by omega⟩
  have hm : m < z.cps.toList.length := by omega
  refine ⟨z.cps.toList[m], ?_⟩
  unfold atI ixN
  rw [if_pos (by omega), if_pos (by omega)]
  exact List.getElem?_eq_getElem hm
theorem letter_is {l : Int} (h : isLetterB l = true) : l ≠ 0 ∧ -26 ≤ l ∧ l ≤ 26 := by
  unfold isLetterB withinB at h
  simp at h
  omega

theorem sc_text_of_letter : FnScope ["letter"] ["letter"] (defScope (top 30)) := ⟨rfl, rfl, rfl, by decide +kernel, rfl, by decide +kernel, by decide +kernel⟩
theorem c_text_of_letter (hS : ∃ z t, mg "SMALL" = some (.str z t) ∧ z.length = 26) (F : FnP K "text_of_letter" (top 30) f fd) (gm : mg "text_of_letter" = some (.ref f)) : DefC P w K mg base "text_of_letter" 1 relTL := by
  refine ⟨f, fd, ["letter"], def_g F sc_text_of_letter (fun A r h => by cases h <;> rfl) (by decide) (fun cdv A outer s H E hr As r h => ?_), gm, F.kp, F.bindsN fun _ _ _ _ _ _ us hl => match us, hl with | [_], _ => rfl⟩
  cases h with
  | mk l hl =>
    obtain ⟨z, t, gS, hz⟩ := hS
    obtain ⟨h0, h1, h2⟩ := letter_is hl
    refine sg_ret (eg_if (k := decide (0 < l)) (bg_gt (eg_name 0) eg_int) (fun q => ?_) fun q => ?_) rfl
    · have q := of_decide_eq_true q
      obtain ⟨n, hn⟩ := small_at hz (i := l - 1) ⟨by omega, by omega⟩
      exact eg_weak (eg_ixS (eg_glob (v := .str z) gS ⟨t, rfl⟩) (eg_sub (eg_name 0) eg_int) (by omega) hn) fun D v hv => ⟨_, hv, by show (1 : Nat) ≤ 2; decide⟩
    · have q := of_decide_eq_false q
      obtain ⟨n, hn⟩ := small_at hz (i := -l - 1) ⟨by omega, by omega⟩
      refine eg_op op_add_str (eg_ixS (eg_glob (v := .str z) gS ⟨t, rfl⟩) (eg_sub (eg_neg (eg_name 0)) eg_int) (by omega) hn) eg_str fun x y H D Q s hx hy k => ?_
      have hx : x = .str ⟨#[n]⟩ := hx
      have hy : y = .str "'" := hy
      subst hx hy
      exact ⟨_, _, rfl, rfl, Nat.le_trans (show 2 ≤ 1000 by decide) (by decide), k.here s ⟨_, rfl, by rw [TL.len_tl, TL.tl_append, List.length_append]; exact Nat.le_of_ble_eq_true rfl⟩⟩

inductive relWStr (K : PySem.W.Frag) : Rel
  | mk (ls : List Int) (h : ls.all isLetterB = true) (hz : ls.length ≤ 100 ∧ ls ≠ []) : relWStr K [rWord K ls] (rSn 1000)
theorem rep_map {α : Type} (r : Rp) (l : List α) : (l.map fun _ => r) = List.replicate l.length r := by
  induction l with
  | nil => rfl
  | cons x l ih => rw [List.map_cons, ih]; rfl

theorem sc_Word_str : FnScope ["self", "letter"] ["self"] (defScope (inClass (top 41) 12)) := ⟨rfl, rfl, rfl, by decide +kernel, rfl, by decide +kernel, by decide +kernel⟩
theorem c_Word_str (W : KWord K) (C1 : DefC P w K mg base "text_of_letter" 1 relTL) (F : FnM K "__str__" "Word.__str__" (inClass (top 41) 12) f fd) (gm : Meth K (He.ga K "Word") "__str__" f) : MethC P w K mg base (He.ga K "Word") "__str__" 2 (relWStr K) := by
  refine ⟨f, fd, ["self"], def_g F sc_Word_str (fun A r h => by cases h <;> rfl) (by decide) (fun cdv A outer s H E hr As r h => ?_), gm, F.bindsN fun _ _ _ _ _ _ us hl => match us, hl with | [_], _ => rfl⟩
  cases h with
  | mk ls h hz =>
    refine sg_ifF (k := decide ((ls.length : Int) = 0)) (bg_eqi (eg_fld W.c.cl (W.n _ (by decide)) (eg_name 0)) eg_int) (by have := List.length_pos_iff.mpr hz.2; exact decide_eq_false (by omega)) ?_
    refine sg_ret (eg_weak (eg_join (k := ls.length) (n := 2) (eg_n (rs := List.replicate ls.length (rSn 2)) ?_) ?_) fun D v hv => ?_) rfl
    · rw [← rep_map]
      refine (ng_lc (fa := rInt) (fb := fun _ : Int => rSn 2) (l := ls) (ys := ls) [("letter", 1)] (fun l => [.d (rWord K ls), .d (rInt l)]) (fun _ => some true) (fun l => if isLetterB l = true then some l else none) rfl sc_Word_str.nd (ig_tup (eg_fld W.c.cl (W.n _ (by decide)) (eg_name 0))) ?_ (blkOk_by (N := ["self", "letter"]) (sc := defScope (inClass (top 41) 12)) (by decide +kernel))
        (fun x s H C cl fp => kg_name 1 sc_Word_str.nd) (fun x k s H C cl fp e => by cases e; exact ts_nil) (fun x y s H C cl fp _ e => ?_))
      · have key : ∀ l : List Int, l.all isLetterB = true → compG (fun _ => some true) (fun l => if isLetterB l = true then some l else none) l = some l := fun l => by
          induction l with
          | nil => exact fun _ => rfl
          | cons x l ih =>
            intro q
            rw [List.all_cons, Bool.and_eq_true] at q
            unfold compG
            simp only [q.1, ih q.2, if_true]
        unfold comp
        rw [if_pos (by omega)]
        exact key ls h
      · by_cases q : isLetterB x = true
        · rw [if_pos q] at e; cases e
          exact eg_call C1 (ag_cons (eg_name 1) ag_nil) (.mk _ q) hr
        · rw [if_neg q] at e; cases e
    · show ls.length * 2 + ls.length * 1 ≤ _; omega
    · obtain ⟨z, e, hl⟩ := hv
      exact ⟨z, e, Nat.le_trans hl (by show ls.length * 2 + ls.length * 1 ≤ _; omega)⟩

inductive relRStr (K : PySem.W.Frag) : Rel
  | mk (ws : List (List Int)) (nx : List Int) (h : ws.all (fun ls => ls.all isLetterB && decide (ls.length ≤ 100) && !decide (ls = [])) = true) (hz : ws.length ≤ 10) : relRStr K [rRims K ws nx] (rSn 20000)

theorem sc_Rims_str : FnScope ["self", "word"] ["self"] (defScope (inClass (top 52) 5)) := ⟨rfl, rfl, rfl, by decide +kernel, rfl, by decide +kernel, by decide +kernel⟩
theorem c_Rims_str (T : Fre mg) (R : KRims K) (C1 : MethC P w K mg base (He.ga K "Word") "__str__" 2 (relWStr K)) (F : FnM K "__str__" "Rims.__str__" (inClass (top 52) 5) f fd) (gm : Meth K (He.ga K "Rims") "__str__" f) : MethC P w K mg base (He.ga K "Rims") "__str__" 5 (relRStr K) := by
  refine ⟨f, fd, ["self"], def_g F sc_Rims_str (fun A r h => by cases h <;> rfl) (by decide) (fun cdv A outer s H E hr As r h => ?_), gm, F.bindsN fun _ _ _ _ _ _ us hl => match us, hl with | [_], _ => rfl⟩
  cases h with
  | mk ws nx h hz =>
    refine sg_ret (eg_weak (eg_join (k := ws.length) (n := 1000) (eg_n (rs := List.replicate ws.length (rSn 1000)) ?_) ?_) fun D v hv => ?_) rfl
    · rw [← rep_map]
      refine (ng_lc (fa := rWord K) (fb := fun _ : List Int => rSn 1000) (l := ws) (ys := ws) [("word", 1)] (fun l => [.d (rRims K ws nx), .d (rWord K l)]) (fun _ => some true) (fun ls => if (ls.all isLetterB && decide (ls.length ≤ 100) && !decide (ls = [])) = true then some ls else none) rfl sc_Rims_str.nd (ig_tup (eg_fld R.c.cl (R.n _ (by decide)) (eg_name 0))) ?_ (blkOk_by (N := ["self", "word"]) (sc := defScope (inClass (top 52) 5)) (by decide +kernel))
        (fun x s H C cl fp => kg_name 1 sc_Rims_str.nd) (fun x k s H C cl fp e => by cases e; exact ts_nil) (fun x y s H C cl fp _ e => ?_))
      · have key : ∀ l : List (List Int), l.all (fun ls => ls.all isLetterB && decide (ls.length ≤ 100) && !decide (ls = [])) = true → compG (fun _ => some true) (fun ls => if (ls.all isLetterB && decide (ls.length ≤ 100) && !decide (ls = [])) = true then some ls else none) l = some l := fun l => by
          induction l with
          | nil => exact fun _ => rfl
          | cons x l ih =>
            intro q
            rw [List.all_cons, Bool.and_eq_true] at q
            unfold compG
            simp only [q.1, ih q.2, if_true]
        unfold comp
        rw [if_pos (by omega)]
        exact key ws h
      · by_cases q : (x.all isLetterB && decide (x.length ≤ 100) && !decide (x = [])) = true
        · rw [if_pos q] at e; cases e
          rw [Bool.and_eq_true, Bool.and_eq_true, decide_eq_true_eq] at q
          exact eg_strOwn C1 hr (.mk _ q.1.1 ⟨q.1.2, by simpa using q.2⟩) T.str (eg_name 1)
        · rw [if_neg q] at e; cases e
    · show ws.length * 1000 + ws.length * 3 ≤ _; omega
    · obtain ⟨z, e, hl⟩ := hv
      exact ⟨z, e, Nat.le_trans hl (by show ws.length * 1000 + ws.length * 3 ≤ _; omega)⟩

end
end Rf

/-! [.. for a, b in xs if ..] while an exception is handled -/
namespace Rf
open PySem PySem.Spec PyProof.Rows L2 HotX L2H
section
variable {prog : Program} {w : World} {A : Around} {E : Value → Shared → Prop} {s : Shared}
theorem list_end_hot {it l x1 : Addr} {i : Nat} {items : Array Value} {Q : Option Value → Shared → Prop} (hot : HotAt A x1 s.heap) (hit : s.heap.IsListIter it l i) (hl : s.heap.IsList l items) (hx : items[i]? = none) (hne : x1 ≠ it)
    (hQ : ∀ h', Heap.ExtBut it s.heap h' → Q none { s with heap := h' }) : wpAny (model prog w) A (pyNext (.ref it)) Q E s := by
  obtain ⟨oi, hoi, hci, hdi⟩ := id hit
  obtain ⟨ol, hol, _, nl, hdl⟩ := hl
  obtain ⟨hh, o1, vs1, h1, d1, c1⟩ := hot
  unfold pyNext
  refine wpAny_bind (wpAny_attempt (wpAny_callSpecial?_slot (name := Str.ofString "__next__") hit.typeIs slot_listiter_next
    (wpAny_call_entry slot_listiter_next hit.typeIs entry_listiter_next ?_ (args_listiter_next _))))
  show wpAny _ _ (field (.ref it) 0 >>= _) _ _ s
  refine wpAny_bind (wpAny_field hoi hdi (x := .ref l) rfl ?_)
  show wpAny _ _ (if (Value.ref l == Value.none) = true then _ else _) _ _ s
  rw [if_neg (show ¬ ((Value.ref l == Value.none) = true) from Bool.false_ne_true)]
  show wpAny _ _ (field (.ref it) 1 >>= _) _ _ s
  refine wpAny_bind (wpAny_field hoi hdi (x := .int i 0) rfl ?_)
  show wpAny _ _ (seqItems? (.ref l) >>= _) _ _ s
  refine wpAny_bind (wpAny_seqItems hol hdl ?_)
  simp only [Int.toNat_natCast, hx]
  refine wpAny_bind (wpAny_rule (wpAny_bind (wpAny_setField hoi hdi (by simp) ?_)))
  show wpAny _ _ (newExc (.type "StopIteration") [] >>= _) _ _ _
  refine wpAny_bind ?_
  simp only [newExc, newTuple]
  refine wpAny_bind (wpAny_newObj_type ?_ (by size_fits))
  refine wpAny_bind (m := firstArgMember _ _) (wpAny_of_eq (a := Value.none) (by first | rfl | (simp only [firstArgMember]; rfl)) ?_)
  refine wpAny_newObj_type ?_ (by size_fits)
  refine raiseNew_hot (x1 := x1) ⟨hh, o1, vs1, Heap.get?_push_of_some _ (Heap.get?_push_of_some _ (((Heap.SameBut.update ..).2 x1 hne).trans h1)), d1, c1⟩ (Nat.ne_of_lt (Heap.lt_size (Heap.get?_push_of_some _ (((Heap.SameBut.update ..).2 x1 hne).trans h1)))) (Heap.get?_push_size _ rfl) rfl (by first | (simp; done) | (simp; omega) | (simp only [Array.size_append]; simp; omega)) ?_
  refine wpAny_bind (wpAny_isInstance (T := "StopIteration") (b := true) ⟨_, Heap.get?_update_self _ (Heap.get?_push_size _ rfl) rfl, rfl⟩ isSubtype_stop ?_)
  refine wpAny_pure (hQ _ fun b o hb e => ?_)
  refine (Heap.get?_update_other _ _ ?_).trans (Heap.get?_push_of_some _ (Heap.get?_push_of_some _ (((Heap.SameBut.update ..).2 b hb).trans e)))
  exact Nat.ne_of_gt (Heap.lt_size (Heap.get?_push_of_some _ (((Heap.SameBut.update ..).2 b hb).trans e)))
theorem tup_end_hot {it l x1 : Addr} {i : Nat} {items : Array Value} {Q : Option Value → Shared → Prop} (hot : HotAt A x1 s.heap) (hit : IsTupIter s.heap it l i) (hl : IsTup s.heap l items) (hx : items[i]? = none) (hne : x1 ≠ it)
    (hQ : ∀ h', Heap.ExtBut it s.heap h' → Q none { s with heap := h' }) : wpAny (model prog w) A (pyNext (.ref it)) Q E s := by
  obtain ⟨oi, hoi, hci, hdi⟩ := id hit
  obtain ⟨ol, hol, _, nl, hdl⟩ := hl
  obtain ⟨hh, o1, vs1, h1, d1, c1⟩ := hot
  unfold pyNext
  refine wpAny_bind (wpAny_attempt (wpAny_callSpecial?_slot (name := Str.ofString "__next__") hit.typeIs slot_tupleiter_next
    (wpAny_call_entry slot_tupleiter_next hit.typeIs entry_tupleiter_next ?_ (args_tupleiter_next _))))
  show wpAny _ _ (field (.ref it) 0 >>= _) _ _ s
  refine wpAny_bind (wpAny_field hoi hdi (x := .ref l) rfl ?_)
  show wpAny _ _ (if (Value.ref l == Value.none) = true then _ else _) _ _ s
  rw [if_neg (show ¬ ((Value.ref l == Value.none) = true) from Bool.false_ne_true)]
  show wpAny _ _ (field (.ref it) 1 >>= _) _ _ s
  refine wpAny_bind (wpAny_field hoi hdi (x := .int i 0) rfl ?_)
  show wpAny _ _ (seqItems? (.ref l) >>= _) _ _ s
  refine wpAny_bind (wpAny_seqItems hol hdl ?_)
  simp only [Int.toNat_natCast, hx]
  refine wpAny_bind (wpAny_rule (wpAny_bind (wpAny_setField hoi hdi (by simp) ?_)))
  show wpAny _ _ (newExc (.type "StopIteration") [] >>= _) _ _ _
  refine wpAny_bind ?_
  simp only [newExc, newTuple]
  refine wpAny_bind (wpAny_newObj_type ?_ (by size_fits))
  refine wpAny_bind (m := firstArgMember _ _) (wpAny_of_eq (a := Value.none) (by first | rfl | (simp only [firstArgMember]; rfl)) ?_)
  refine wpAny_newObj_type ?_ (by size_fits)
  refine raiseNew_hot (x1 := x1) ⟨hh, o1, vs1, Heap.get?_push_of_some _ (Heap.get?_push_of_some _ (((Heap.SameBut.update ..).2 x1 hne).trans h1)), d1, c1⟩ (Nat.ne_of_lt (Heap.lt_size (Heap.get?_push_of_some _ (((Heap.SameBut.update ..).2 x1 hne).trans h1)))) (Heap.get?_push_size _ rfl) rfl (by first | (simp; done) | (simp; omega) | (simp only [Array.size_append]; simp; omega)) ?_
  refine wpAny_bind (wpAny_isInstance (T := "StopIteration") (b := true) ⟨_, Heap.get?_update_self _ (Heap.get?_push_size _ rfl) rfl, rfl⟩ isSubtype_stop ?_)
  refine wpAny_pure (hQ _ fun b o hb e => ?_)
  refine (Heap.get?_update_other _ _ ?_).trans (Heap.get?_push_of_some _ (Heap.get?_push_of_some _ (((Heap.SameBut.update ..).2 b hb).trans e)))
  exact Nat.ne_of_gt (Heap.lt_size (Heap.get?_push_of_some _ (((Heap.SameBut.update ..).2 b hb).trans e)))
theorem unpackItems_hot {t x1 : Addr} {items : Array Value} {Q : List Value → Shared → Prop} (hot : HotAt A x1 s.heap) (ht : IsTup s.heap t items)
    (hQ : ∀ h', Heap.ExtBut s.heap.objs.size s.heap h' → Q items.toList { s with heap := h' }) : wpAny (model prog w) A (unpackItems (.ref t) items.size none) Q E s := by
  have hlt : t ≠ s.heap.objs.size := by obtain ⟨o, ho, _⟩ := ht; exact Nat.ne_of_lt (Heap.lt_size ho)
  obtain ⟨hh, o1, vs1, h1, d1, c1⟩ := hot
  have hx1 : x1 ≠ s.heap.objs.size := Nat.ne_of_lt (Heap.lt_size h1)
  unfold unpackItems
  refine wpAny_bind ?_
  · unfold notIterableAtAll
    refine wpAny_bind (wpAny_specialOf ht.typeIs slot_tuple_iter.lookup ?_)
    refine wpAny_pure ?_
    simp only [Bool.false_eq_true, if_false]
    refine wpAny_bind (wpAny_holding (iter_tuple ht ?_))
    refine wpAny_bind (wpAny_holding (draw_tuple hlt items.size 0 _ _ ⟨_, Heap.get?_push_size _ rfl, rfl, rfl⟩ (ht.push _) (by omega) fun h₁ hit₁ hs₁ => ?_))
    have hall : List.take items.size (List.drop 0 items.toList) = items.toList := by
      rw [List.drop_zero]; exact List.take_of_length_le (by simp)
    rw [hall]
    rw [if_neg (by simp)]
    have ht₁ : IsTup h₁ t items := (ht.push _).extBut hs₁.extBut hlt
    refine wpAny_bind (wpAny_holding (tup_end_hot (x1 := x1) ⟨hh, o1, vs1, (hs₁.2 x1 hx1).trans (Heap.get?_push_of_some _ h1), d1, c1⟩ hit₁ ht₁ (by simp) hx1 fun h₂ he₂ => ?_))
    simp only [Option.isSome_none, Bool.false_eq_true, if_false]
    refine wpAny_pure (hQ h₂ fun b o hb e => he₂ b o hb (hs₁.extBut b o hb (Heap.get?_push_of_some _ e)))
theorem assign_tup_hot {env : Env} {elts : List Expr} {kk} {pos : Pos} {t x1 : Addr} {items : Array Value} {Q : Unit → Shared → Prop} (hot : HotAt A x1 s.heap) (ht : IsTup s.heap t items)
    (hn : (assignEach elts env).length = items.size) (hstar : (assignEach elts env).findIdx? (·.1) = none)
    (h : ∀ h', Heap.ExtBut s.heap.objs.size s.heap h' → wpAny (model prog w) A (assignInOrder ((assignEach elts env).map (·.2)) items.toList) Q E { s with heap := h' }) :
    wpAny (model prog w) A (assign (.Tuple elts kk pos) env (.ref t)) Q E s := by
  rw [assign_Tuple]
  refine wpAny_bind (wpAny_standAt ?_)
  unfold unpack
  rw [hn, hstar]
  exact wpAny_bind (wpAny_holding (unpackItems_hot hot ht h))
end
section
variable {X : Cx} {pos : Pos}
theorem pg_tupH {es : List Expr} {k : Nat} {t : TGs} {n : Nat} (hc : HotC X) (h : PGs X es t)
    (hn : (assignEach es X.env).length = n := by rfl) (hst : (assignEach es X.env).findIdx? (·.1) = none := by rfl) : PG X (.Tuple es k pos) (gTup X.K n t) := by
  refine ⟨fun pins s σ H v u Q I r hw => ?_⟩
  obtain ⟨a, xs, e1, hq, hl, hw⟩ := hw
  subst e1
  cases r
  obtain ⟨its, rv, ht, hz⟩ := I.tuple hq
  obtain ⟨x1, hot⟩ := hc.at I
  refine assign_tup_hot hot ht (by simp [hn, ← hl, rv.length]) hst fun h' hx => ?_
  exact h.run pins _ σ H xs _ Q (I.kept (t' := s.toks) fun b o e => hx b o (Nat.ne_of_lt (Heap.lt_size e)) e) (by simpa using rv) hw
end
theorem turn_listH {P : Program} {w : World} {K : PySem.W.Frag} {tg : Expr} (a it : Addr) : TurnH P w K tg (Itl K a) [it] it (fun i h => h.IsListIter it a i) where
  mem := (turn_list (P := P) (w := w) (K := K) (tg := tg) a it).mem
  obj := (turn_list (P := P) (w := w) (K := K) (tg := tg) a it).obj
  keep := (turn_list (P := P) (w := w) (K := K) (tg := tg) a it).keep
  item := by
    intro X hP hw hK hc i pins s σ H E I hf st hg
    subst hP hw hK
    obtain ⟨xs, x, hq, hx⟩ := hg
    obtain ⟨its, rv, p, hz⟩ := I.list hq
    obtain ⟨u, hu, ru⟩ := rv.get hx
    obtain ⟨g0, g1, g2, g3, g4, g5⟩ := hf it (by simp)
    refine wpAny_pyNext_list_item st p.isList (x := u) (by simpa using hu) fun h' st' sb => ?_
    have J : Inv X pins σ H { s with heap := h' } := I.turned (t' := s.toks) (fun b o hb e => (sb.2 b hb).trans e) g0 g1 g3 g4 g5
    obtain ⟨o, e, c, d⟩ := id st'
    exact ⟨u, rfl, go_of (s := { s with heap := h' }) e c d (by decide) ⟨x, H, J, ru, ⟨rfl, fun ys hy => by rw [J.list_inj hy hq]; exact hx⟩, st', fun b hb => (hf b hb).1⟩⟩
  done := by
    intro X hP hw hK hc i pins s σ H E I hf st hg
    subst hP hw hK
    obtain ⟨xs, hq, hx⟩ := hg
    obtain ⟨its, rv, p, hz⟩ := I.list hq
    obtain ⟨g0, g1, g2, g3, g4, g5⟩ := hf it (by simp)
    have hl := rv.length
    obtain ⟨pp, ⟨hh, vs1, d1, c1⟩, hpn⟩ := hc
    have P1 := I.pin pp (List.mem_append_left _ hpn)
    exact list_end_hot (x1 := pp.1) ⟨hh, pp.2, vs1, P1.1, d1, c1⟩ st p.isList (by simp; omega) (g5 pp (List.mem_append_left _ hpn)) fun h' eb => ⟨rfl, I.turned (t' := s.toks) (fun b o hb e => eb b o hb e) g0 g1 g3 g4 g5⟩
  self := (turn_list (P := P) (w := w) (K := K) (tg := tg) a it).self
section
variable {X : Cx} {tg : Expr}
theorem pi_listH {l : Expr} {tl : TE} (hl : PE X l tl) : PIH X tg l (iList X.K tl) := by
  refine ⟨fun pins s σ H R I h => ?_⟩
  refine thn (hl.run pins s σ H _ I h) fun v s1 ⟨x, H1, I1, r1, q1⟩ => ?_
  obtain ⟨a, e, ⟨xs, hq⟩, q⟩ := q1
  subst e
  cases r1
  obtain ⟨its, rv, p, hz⟩ := I1.list hq
  refine wpAny_pyIter_list p.isList ?_
  refine ⟨s1.heap.objs.size, [s1.heap.objs.size], _, _, H1, rfl, I1.kept (t' := s1.toks) fun b o e => Heap.get?_push_of_some _ e, turn_listH a _, ⟨_, Heap.get?_push_size _ rfl, rfl, rfl⟩, fun b hb => ?_, q⟩
  have e : b = s1.heap.objs.size := by simpa using hb
  subst e
  exact I1.fpOk (Nat.le_refl _) (I1.hok.fresh (Nat.le_refl _))
end
end Rf

/-! name = [.. for .. in xs if ..] while an exception is handled -/
namespace Rf
open PySem PySem.Spec PyProof.Rows L2 HotX L2H
/-- a block's context that bears the handled exception -/
abbrev BlkH (X : Cx) (p : Addr × Obj) (s : Shared) (H : Hp) (scope : Scope) (cenv : Env) (fp : List Addr) : Cx := { X.blk s H scope cenv fp with pn := [p] }
section
variable {X : Cx} {pins : List (Addr × Obj)} {σ : L2.St} {H : Hp} {s : Shared}
theorem inv_toH {p : Addr × Obj} {s0 : Shared} {H0 : Hp} {scope : Scope} {cenv : Env} {fp : List Addr} (J : Inv (X.blk s0 H0 scope cenv fp) (p :: pins) σ H s) : Inv (BlkH X p s0 H0 scope cenv fp) pins σ H s :=
  ⟨⟨J.ok.mod, J.ok.kind, J.ok.glob, J.ok.blt, J.ok.above, J.ok.inj, J.ok.has, J.ok.cab, J.ok.hd, J.ok.frames, J.ok.stk, J.ok.exf, J.ok.bs, J.ok.bsz, J.ok.noex, J.ok.exfs, J.ok.funs, J.ok.frf⟩, J.os, J.bare, J.base, J.loc, J.cell, J.free, J.freeC, fun q hq => J.pin q hq, J.hok, J.len⟩
theorem inv_ofH {p : Addr × Obj} {s0 : Shared} {H0 : Hp} {scope : Scope} {cenv : Env} {fp : List Addr} (J : Inv (BlkH X p s0 H0 scope cenv fp) pins σ H s) : Inv (X.blk s0 H0 scope cenv fp) (p :: pins) σ H s :=
  ⟨⟨J.ok.mod, J.ok.kind, J.ok.glob, J.ok.blt, J.ok.above, J.ok.inj, J.ok.has, J.ok.cab, J.ok.hd, J.ok.frames, J.ok.stk, J.ok.exf, J.ok.bs, J.ok.bsz, J.ok.noex, J.ok.exfs, J.ok.funs, J.ok.frf⟩, J.os, J.bare, J.base, J.loc, J.cell, J.free, J.freeC, fun q hq => J.pin q hq, J.hok, J.len⟩
theorem pin_one {p : Addr × Obj} (I : Inv X [] σ H s) (q1 : s.heap.get? p.1 = some p.2) (q2 : H p.1 = none) (q3 : p.1 ≠ X.env.locals) (q4 : p.1 ∉ X.fs) (q5 : ∀ v, p.2.data ≠ .cell v) : Inv X [p] σ H s := I.pins_of fun q hq => by
  rw [List.mem_singleton.mp hq]; exact ⟨q1, q2, q3, q4, q5⟩
theorem lc_coreH {Q : VK} {elt tg iter : Expr} {ifs : List Expr} {scope : Scope} {own : List (Str × Nat)} {pos pos' : Pos} {wi : TI} {g : TG} {tt : TT} {te : TE} {use : Option (Value → Sem Unit)} {Qf : Value → Shared → Prop} {p : Addr × Obj}
    (h1 : Hot1 X.A p) (hpn : p ∈ X.pn) (hN : X.N.Nodup) (I : Inv X pins σ H s) (hi : PIH X tg iter wi) (ok : BlkOk X.N X.env.scope scope own)
    (hg : ∀ (s : Shared) (H : Hp) (C : Addr) (cl : List (Str × Addr)) (fp : List Addr), PG (BlkH X p s H scope (compEnvC scope cl C X.env) fp) tg g) (ht : ∀ (s : Shared) (H : Hp) (C : Addr) (cl : List (Str × Addr)) (fp : List Addr), PTs (BlkH X p s H scope (compEnvC scope cl C X.env) fp) ifs tt)
    (he : ∀ (s : Shared) (H : Hp) (C : Addr) (cl : List (Str × Addr)) (fp : List Addr), PE (BlkH X p s H scope (compEnvC scope cl C X.env) fp) elt te) (hs : ∀ x, foldedSetIterable iter X.env x = pure x)
    (h : tLc wi g tt te (own.map (·.2)) σ H Q)
    (hRR : ∀ D C s' m H', Inv X pins σ H' s' → Q (.ref D) H' → s'.heap.Ns C m → FpOk X pins H' C → compPost (model X.prog X.w) X.A X.xe use Qf (.ref D) C (.ok .next) s') :
    wpAny (model X.prog X.w) X.A (comprehension (.ListComp elt [⟨tg, iter, ifs, 0⟩] scope pos) scope X.env pos' (newList []) false (eval iter X.env) use) Qf X.xe s := by
  have capt : ∀ y ∈ scope.names, y.2 = .free → ∃ c, X.env.cells.lookup y.1 = some c := fun y hy e => by
    rcases ok.free y hy e with k | k
    · exact I.ok.has _ (.inl k)
    · exact I.ok.has _ (.inr k)
  refine wpAny_comprehension_free (use := use) rfl hs (closure_ok capt) ok.kind (fun y hy e => by rw [ok.uniq y hy, e])
    (thn (hi.run pins s σ H _ I h) fun xv s1 hx => thn hx fun itv s2 h2 => ?_)
  obtain ⟨it, fp, tn, J, H2, e, I2, T, st2, f2, q⟩ := h2
  subst e
  refine wpAny_newObj_type (newEnv_comp ?_) (by show 0 ≤ sizeLine; decide)
  generalize hD : s2.heap.objs.size = D
  have hDn : H2 D = none := I2.hok.fresh (Nat.le_of_eq hD)
  obtain ⟨W, ⟨m0, w0⟩, turn⟩ := q D hDn
  generalize hs3 : ({ s2 with heap := s2.heap.push { cls := .type "list", data := .seq ([] : List Value).toArray } } : Shared) = s3
  have I3 : Inv X pins σ (upd H2 D (.lst [])) s3 := by
    rw [← hs3]
    refine I2.laid (t' := s2.toks) (fun b o z => Heap.get?_push_of_some _ z) (Nat.le_of_eq hD) ⟨Nat.zero_le _, [], 0, .nil, ?_⟩
    rw [← hD]
    exact Heap.get?_push_size _ rfl
  have h3 : s3.heap = s2.heap.push { cls := .type "list", data := .seq ([] : List Value).toArray } := by rw [← hs3]
  have younger : ∀ b ∈ fp, b < s2.heap.objs.size := fun b hb => by
    obtain ⟨o, z, _⟩ := T.obj _ _ st2 b hb
    exact Heap.lt_size z
  have f3 : ∀ b ∈ fp, FpOk X pins (upd H2 D (.lst [])) b ∧ b < s3.heap.objs.size := fun b hb => by
    have hlt := younger b hb
    refine ⟨⟨?_, (f2 b hb).2⟩, by rw [h3, Heap.size_push]; exact Nat.lt_succ_of_lt hlt⟩
    rw [upd_ne (by rw [← hD]; exact Nat.ne_of_lt hlt)]
    exact (f2 b hb).1
  have st3 : tn 0 s3.heap := T.keep _ _ _ st2 fun b _ o z => by rw [h3]; exact Heap.get?_push_of_some _ z
  have I4 := block_start I3 ok hN f3
  have pg := hg s3 (upd H2 D (.lst [])) s3.heap.objs.size (cellsFrom (s3.heap.objs.size + 1) scope.names (cloFrom X.env.cells scope.names [])) fp
  have pt := ht s3 (upd H2 D (.lst [])) s3.heap.objs.size (cellsFrom (s3.heap.objs.size + 1) scope.names (cloFrom X.env.cells scope.names [])) fp
  have pe := he s3 (upd H2 D (.lst [])) s3.heap.objs.size (cellsFrom (s3.heap.objs.size + 1) scope.names (cloFrom X.env.cells scope.names [])) fp
  show codeAny _ _ (.compStart (.ListComp elt [⟨tg, iter, ifs, 0⟩] scope pos) 0 (.ref it) (.ref D) (compEnvC scope (cellsFrom (s3.heap.objs.size + 1) scope.names (cloFrom X.env.cells scope.names [])) s3.heap.objs.size X.env)) (compPost (model X.prog X.w) X.A X.xe use Qf (.ref D) s3.heap.objs.size) { s3 with heap := pushCells (s3.heap.push { cls := .type "dict", data := .dict #[] }) scope.names }
  have nfp : ∀ b ∈ fp, (upd H2 D (.lst [])) b = none := fun b hb => (f3 b hb).1.1
  have pp := I3.pin p (List.mem_append_left _ hpn)
  have kp4 : ∀ b o, s3.heap.get? b = some o → (pushCells (s3.heap.push { cls := .type "dict", data := .dict #[] }) scope.names).get? b = some o := fun b o z => pushCells_keeps _ _ _ _ (Heap.get?_push_of_some _ z)
  have nst : p.1 ∉ frs X.stack := fun z => (List.mem_cons.mp (I3.stkSub p.1 z)).elim pp.2.2.1 pp.2.2.2.1
  have nlc : p.1 ≠ s3.heap.objs.size := Nat.ne_of_lt (Heap.lt_size pp.1)
  have I4p := inv_toH (p := p) (pins := []) (pin_one I4 (p := p) (kp4 _ _ pp.1) pp.2.1 nlc nst pp.2.2.2.2)
  have npf : ∀ b ∈ fp, p.1 ≠ b := fun b hb => (f3 b hb).1.2.2.2.2.2 p (List.mem_append_left _ hpn)
  generalize hce : compEnvC scope (cellsFrom (s3.heap.objs.size + 1) scope.names (cloFrom X.env.cells scope.names [])) s3.heap.objs.size X.env = ce at I4p pg pt pe ⊢
  have cL : ce.locals = s3.heap.objs.size := by subst hce; rfl
  generalize hH3 : upd H2 D (.lst []) = H3 at I3 I4p pg pt pe w0 nfp f3
  generalize hs4 : ({ s3 with heap := pushCells (s3.heap.push { cls := .type "dict", data := .dict #[] }) scope.names } : Shared) = s4 at I4p ⊢
  have st4 : tn 0 s4.heap := T.keep _ _ _ st3 fun b _ o z => by rw [← hs4]; exact pushCells_keeps _ _ _ _ (Heap.get?_push_of_some _ z)
  have hot : HotC (BlkH X p s3 H3 scope ce fp) := ⟨p, h1, List.mem_cons_self ..⟩
  have stat : ∀ {σ' : L2.St} {H' : Hp} {s' : Shared}, Inv (BlkH X p s3 H3 scope ce fp) [] σ' H' s' → (∀ b ∈ fp, H' b = none) → ∀ b ∈ fp, FpOk (BlkH X p s3 H3 scope ce fp) [] H' b := fun {σ' H' s'} I' hn b hb =>
    ⟨hn b hb, (I'.ok.exf b hb).1, I'.ok.exfs b hb, .inl hb, fun x c z => (I'.ok.exf b hb).2 x c z, fun q hq => by
      have hq : q ∈ [p] ++ [] := hq
      rw [List.append_nil] at hq
      rw [List.mem_singleton.mp hq]
      exact npf b hb⟩
  have loop : codeAny (model X.prog X.w) X.A (.compLoop (.ListComp elt [⟨tg, iter, ifs, 0⟩] scope pos) 0 (.ref it) (.ref D) ce) (compPost (model X.prog X.w) X.A X.xe use Qf (.ref D) s3.heap.objs.size) s4 := by
    refine compLoop_any (fun n s' => ∃ i H', Inv (BlkH X p s3 H3 scope ce fp) [] (wipe σ (own.map (·.2))) H' s' ∧ tn i s'.heap ∧ (∀ b ∈ fp, H' b = none) ∧ W i n H') ?_ m0 ⟨0, H3, I4p, st4, nfp, w0⟩
    rintro n s5 ⟨i, H5, I5, st5, n5, w5⟩
    rcases turn i n H5 w5 with ⟨stop, qq⟩ | ⟨go, Nx, hNx, step⟩
    · have td := T.done (BlkH X p s3 H3 scope ce fp) rfl rfl rfl hot i [] s5 _ H5 (fun _ _ => False) I5 (stat I5 n5) st5 stop
      refine thnF td fun r s6 ⟨hr, I6⟩ => ?_
      subst hr
      have I7 : Inv X pins σ H5 s6 := I3.call' (ch := fp) I6.os I6.base I6.hok I6.bare fun b hb => ⟨(f3 b hb).1.2.2.2.1, (f3 b hb).1.2.1, (f3 b hb).1.2.2.2.2.1, (f3 b hb).1.2.2.2.2.2⟩
      have nC : H5 s3.heap.objs.size = none := by
        have z : H5 ce.locals = none := I6.free
        rw [cL] at z
        exact z
      obtain ⟨m, hn, _⟩ := I6.loc
      have hn : s6.heap.Ns ce.locals m := hn
      rw [cL] at hn
      exact hRR D s3.heap.objs.size s6 m H5 I7 qq hn (I3.fpOk (Nat.le_refl _) nC)
    · have ti := T.item (BlkH X p s3 H3 scope ce fp) rfl rfl rfl hot i [] s5 _ H5 (fun _ _ => False) I5 (stat I5 n5) st5 go
      refine thnF ti fun r s6 ⟨u, hr, h6⟩ => ?_
      subst hr
      refine thnF h6 fun _ s7 ⟨x, H7, I7, r7, y7, st7, n7⟩ => ?_
      have I7' := I7.pinned (stat I7 n7) (T.obj _ _ st7)
      refine thnF (pg.run _ s7 _ H7 x u _ I7' r7 (step x H7 y7)) fun _ s8 ⟨σ8, H8, I8, hw8, q8⟩ => ?_
      refine thnF (pt.run _ s8 σ8 H8 _ I8 q8) fun b s9 ⟨H9, I9, q9⟩ => ?_
      have fin : ∀ {s' : Shared} {H' : Hp}, Inv (BlkH X p s3 H3 scope ce fp) ([] ++ pinsAt fp s7.heap) σ8 H' s' → Nx H' → ∃ m, m < n ∧ ∃ i H', Inv (BlkH X p s3 H3 scope ce fp) [] (wipe σ (own.map (·.2))) H' s' ∧ tn i s'.heap ∧ (∀ b ∈ fp, H' b = none) ∧ W i m H' := fun {s' H'} I' nx => by
        obtain ⟨m', hm, w'⟩ := hNx H' nx
        have pin' : ∀ b ∈ fp, ∀ o, s7.heap.get? b = some o → s'.heap.get? b = some o ∧ H' b = none := fun b hb o z =>
          let q := I'.pin (b, o) (List.mem_append_right _ (List.mem_append_right _ (mem_pinsAt hb z)))
          ⟨q.1, q.2.1⟩
        have hl : (wipe σ (own.map (·.2))).length = σ8.length := by rw [← hw8, wipe_length]
        refine ⟨m', hm, i + 1, H', (I'.unpinned (pins := [])).weak hl (fun j v z => ?_), T.keep _ _ _ st7 fun b hb o z => (pin' b hb o z).1, fun b hb => ?_, w'⟩
        · rw [← hw8] at z
          exact (wipe_some z).1
        · obtain ⟨o, z, _⟩ := T.obj _ _ st7 b hb
          exact (pin' b hb o z).2
      cases b with
      | false =>
        simp only [Bool.false_eq_true, if_false] at q9 ⊢
        exact fin I9 q9
      | true =>
        simp only [if_true] at q9 ⊢
        refine thnF (pe.run _ s9 σ8 H9 _ I9 q9) fun z s10 ⟨yv, H10, I10, r10, acc, hD10, hz10, nx⟩ => ?_
        exact app_ok (X := BlkH X p s3 H3 scope ce fp) I10 hD10 hz10 r10 fun s11 I11 => fin I11 nx
  exact codeAny_compStart_list loop (T.self X.A 0 _ _ _ st4 loop)
theorem ps_setLcH {i : Nat} {y : Str} {py : Pos} {elt tg iter : Expr} {ifs : List Expr} {scope : Scope} {own : List (Str × Nat)} {pos spos : Pos} {wi : TI} {g : TG} {tt : TT} {te : TE} {p : Addr × Obj} (h1 : Hot1 X.A p) (hpn : p ∈ X.pn) (hN : X.N.Nodup) (hy : X.N[i]? = some y) (hyl : X.env.scope.names.lookup y = some .local)
    (hsw : swapsWith (.ListComp elt [⟨tg, iter, ifs, 0⟩] scope pos) (some (.Name y py)) spos.line X.env = pure true) (hi : PIH X tg iter wi) (ok : BlkOk X.N X.env.scope scope own)
    (hg : ∀ (s : Shared) (H : Hp) (C : Addr) (cl : List (Str × Addr)) (fp : List Addr), PG (BlkH X p s H scope (compEnvC scope cl C X.env) fp) tg g) (ht : ∀ (s : Shared) (H : Hp) (C : Addr) (cl : List (Str × Addr)) (fp : List Addr), PTs (BlkH X p s H scope (compEnvC scope cl C X.env) fp) ifs tt)
    (he : ∀ (s : Shared) (H : Hp) (C : Addr) (cl : List (Str × Addr)) (fp : List Addr), PE (BlkH X p s H scope (compEnvC scope cl C X.env) fp) elt te) (hs : ∀ x, foldedSetIterable iter X.env x = pure x := by intro _; rfl) :
    PS X (.Assign [.Name y py] (.ListComp elt [⟨tg, iter, ifs, 0⟩] scope pos) spos) (tAsg (tLc wi g tt te (own.map (·.2))) (gName i)) := by
  refine ⟨fun pins s σ H D I h => ?_⟩
  rw [exec_Assign_Name_used _ _ _ _ hsw]
  refine wpAny_bind (wpAny_standAt (wpAny_bind ?_))
  show wpAny _ X.A (do let _ ← comprehension (.ListComp elt [⟨tg, iter, ifs, 0⟩] scope pos) scope X.env (firstIterPos [⟨tg, iter, ifs, 0⟩] pos) (newList []) false (eval iter X.env) (some (assign (.Name y py) X.env))) _ _ s
  have h : tLc wi g tt te (own.map (·.2)) σ H (fun x H1 => gName i x σ H1 D.nx) := h
  refine wpAny_bind (thn (lc_coreH (Qf := fun _ s' => SP X pins D .next s') h1 hpn hN I hi ok hg ht he hs h fun L C s' m H' I' q hn f => ?_) fun _ s' hq => wpAny_pure (wpAny_pure hq))
  show wpAny _ _ (assign (.Name y py) X.env (.ref L)) _ _ _
  refine wpAny_assign_Name (store_ok2 (v := V.ref L) I' hN hy (.inl hyl) rfl (fun s2 I2 ⟨a, sb, ha⟩ => ?_) (.inr hyl))
  obtain ⟨f0, f1, f2, f3, f4, f5⟩ := f
  have haC : C ≠ a := by
    rcases ha with z | z
    · rw [z]; exact f1
    · exact fun e => f4 y a z e.symm
  refine ⟨m, hn.sameBut sb haC, fun h3 sb3 => ?_⟩
  exact ⟨_, H', I2.turned (t' := s2.toks) (fun b o hb e => (sb3.2 b hb).trans e) f0 f1 f3 f4 f5, q⟩
end
section
variable {X : Cx} {g : List Sl} {P : Pt} {rest : List Stmt} {pos p1 p2 : Pos} {α β : Type} {fa : α → Rp} {fb : β → Rp} {l : List α}
/-- a pair as a target -/
theorem kg_pairH (n m : Nat) {x y : Str} {u} {q1 q2 : Pos} {r1 r2 : Rp} (hc : HotC X) (nd : X.N.Nodup) (hN : X.N[n]? = some x := by rfl) (hx : Loc X.env.scope x := by first | exact Or.inl rfl | exact Or.inr rfl) (hf : X.fn x = true ∨ X.env.scope.names.lookup x = some .local := by first | exact .inl rfl | exact .inr rfl)
    (hN2 : X.N[m]? = some y := by rfl) (hx2 : Loc X.env.scope y := by first | exact Or.inl rfl | exact Or.inr rfl) (hf2 : X.fn y = true ∨ X.env.scope.names.lookup y = some .local := by first | exact .inl rfl | exact .inr rfl) :
    KG X (.Tuple [.Name x q1, .Name y q2] u pos) (rT [r1, r2]) g ((g.set n (.d r1)).set m (.d r2)) [n, m] := pg_to (pg_tupH hc (pgs_cons (pg_name nd hN hx hf) (pgs_cons (pg_name nd hN2 hx2 hf2) pgs_nil)) (n := 2)) fun v σ H R ⟨F, D0, D, ok, h, k⟩ => by
  obtain ⟨p, vs, rfl, h2, h3⟩ := h
  cases h3 with
  | cons w1 t =>
    cases t with
    | cons w2 t =>
      cases t
      refine ⟨p, _, rfl, SqT.of (ok.sub _ _ h2), rfl, _, _, rfl, _, _, rfl, rfl, ?_⟩
      refine k _ ⟨by rw [List.length_set, List.length_set], fun i hi => ?_⟩ ((ok.setD w1).setD w2)
      rw [List.getElem?_set_ne (fun e => hi (by simp [e])), List.getElem?_set_ne (fun e => hi (by simp [e]))]
theorem sg_setLcH (n : Nat) {it elt tg : Expr} {ifs : List Expr} {scope : Scope} {y : Str} {p : Addr × Obj} (own : List (Str × Nat)) (tgt : α → List Sl) (cm : α → Option Bool) (hm : α → Option β) {ys : List β} (h1 : Hot1 X.A p) (hpn : p ∈ X.pn) (nd : X.N.Nodup) (hi : EG X it g (rL (l.map fa))) (hy : comp cm hm l = some ys) (ok : BlkOk X.N X.env.scope scope own)
    (ht : ∀ x s H cenv fp C cl, cenv = compEnvC scope cl C X.env → KG (BlkH X p s H scope cenv fp) tg (fa x) (wipeG g (own.map (·.2))) (tgt x) (own.map (·.2)))
    (hf : ∀ x k s H cenv fp C cl, cenv = compEnvC scope cl C X.env → cm x = some k → TsG (BlkH X p s H scope cenv fp) ifs (tgt x) k)
    (he : ∀ x y s H cenv fp C cl, cenv = compEnvC scope cl C X.env → cm x = some true → hm x = some y → EG (BlkH X p s H scope cenv fp) elt (tgt x) (fb y)) (h : SG X rest (g.set n (.l (ys.map fb))) P) (hN : X.N[n]? = some y := by rfl) (hyl : X.env.scope.names.lookup y = some .local := by rfl)
    (hsw : swapsWith (.ListComp elt [⟨tg, it, ifs, 0⟩] scope p1) (some (.Name y p2)) pos.line X.env = pure true := by exact sw_true rfl rfl rfl (by decide +kernel)) (hs : ∀ x, foldedSetIterable it X.env x = pure x := by intro _; rfl) : SG X (.Assign [.Name y p2] (.ListComp elt [⟨tg, it, ifs, 0⟩] scope p1) pos :: rest) g P := by
  refine sg_cons (N := fun q => q = g.set n (.l (ys.map fb))) (ps_to (ps_setLcH h1 hpn nd hN hyl hsw (pi_listH hi) ok (g := fun v σ H Q => ∃ x, tgG (fa x) (wipeG g (own.map (·.2))) (tgt x) (own.map (·.2)) v σ H Q) (tt := fun σ H Q => ∃ x k, cm x = some k ∧ tT (tgt x) k σ H Q) (te := fun σ H Q => ∃ x y, cm x = some true ∧ hm x = some y ∧ tG (tgt x) (fb y) σ H Q)
    (fun s H C cl fp => ⟨fun pins s' σ H' v u Q I rv ⟨x, q⟩ => (ht x s H _ fp C cl rfl).run pins s' σ H' v u Q I rv q⟩)
    (fun s H C cl fp => ⟨fun pins s' σ H' Q I ⟨x, k, e, q⟩ => (hf x k s H _ fp C cl rfl e).run pins s' σ H' Q I q⟩)
    (fun s H C cl fp => ⟨fun pins s' σ H' Q I ⟨x, y, e1, e2, q⟩ => (he x y s H _ fp C cl rfl e1 e2).run pins s' σ H' Q I q⟩) hs) fun E σ H ⟨F, D0, D, ok', p'⟩ => ?_) fun _ q => q ▸ h
  refine lc_read (own := own) (Q := fun x H1 => gName n x σ H1 E.nx) tgt cm hm ok' (fun q vs H' D' e nn hv => p'.nx _ _ _ D' rfl ((ok'.grow e).setNew nn rfl hv)) hy fun R hR => ⟨F, D0, D, ok', fun v H' D' e hv => ?_⟩
  obtain ⟨q, vs, rfl, w2, w3⟩ := hv
  exact ⟨q, rfl, ⟨vs, SqL.of (e.i _ _ w2)⟩, hR _ H' D' e (walks_list w2 w3)⟩
end
end Rf

/-! the caught error, which bears a text in its dict -/
namespace Rf
open PySem PySem.Spec PyProof.Rows L2 HotX L2H
/-- the error at a, its dict at dd: its part is the text p -/
def rErr (a dd : Addr) (p : Str) : Rp := ⟨fun H v => v = .ref a ∧ H dd = some (.xd [("part", .str p)]), fun e h => ⟨h.1, e _ _ h.2⟩⟩
structure ErrC (K : PySem.W.Frag) (C : Addr) : Prop where
  e : ExcC K C
  f : XfC K C
  no : PySem.W.findIn K (.ref C) "part" = some none
section
variable {X : Cx} {a dd C : Addr} {oe : Obj} {pn : List (Addr × Obj)}
def rIsED (K : PySem.W.Frag) (C a dd : Addr) : List V → Hp → VK → Prop := fun xs H Q => ∃ (c : V) (cv : Value) (b : Bool) (p : Str), xs = [.ref a, c] ∧ H dd = some (.xd [("part", .str p)]) ∧ (∀ u, RelV c u → u = cv) ∧ PySem.W.kitOne K (.ref C) cv = some b ∧ Q (.bl b) H
theorem call_isED (c : ErrC X.K C) (hz : Zc (.ref C) (some dd) oe) (hf : ∃ vs, oe.data = .fields vs) : CallR (X.suite a ((a, oe) :: pn)) (.builtin "isinstance") (rIsED X.K C a dd) := by
  intro pins s σ H xs us Q I r h
  obtain ⟨cc, cv, b, p, rfl, hdd, hcv, e, q⟩ := h
  cases r with
  | cons rx rr =>
    cases rr with
    | cons rt rr =>
      cases rr
      cases rx
      have ec := hcv _ rt
      subst ec
      obtain ⟨hget, _⟩ := I.pin (a, oe) (List.mem_append.mpr (.inl List.mem_cons_self))
      obtain ⟨vs, hv⟩ := hf
      have hx : ObjOk X.prog X.w H s.heap dd (.xd [("part", .str p)]) := I.hok dd _ hdd
      obtain ⟨mA, hns, hr⟩ := hx
      obtain ⟨od, ho, hl⟩ := lookIn_ns hns
      have J : PySem.W.InstAt s.heap a oe C (some od) := ⟨hget, hz.1, by unfold PySem.W.notCls; rw [hv] <;> rfl, by rw [hz.2]; exact ho⟩
      have hcl : (PySem.W.clsIn X.K C).isSome = true := by
        obtain ⟨cdD, hcD, _⟩ := PySem.W.any_some c.e.hd
        rw [hcD]; rfl
      exact PySem.W.kia_one (PySem.W.kitx_exc hcl c.e.hg c.e.hk c.e.hs c.e.ha c.e.hn c.e.ht c.e.hm) I.kIn J e (fun z => nomatch z) fun tk => ⟨.bl b, H, I.kept (t' := tk) fun _ _ z => z, rfl, q⟩
end
section
variable {X : Cx} {a dd C C2 : Addr} {oe : Obj} {pn : List (Addr × Obj)} {g : List Sl} {e b : Expr} {p1 pos : Pos} {p : Str} {k : Bool}
/-- isinstance(error, X) -/
theorem eg_isED (c : ErrC X.K C) (hz : Zc (.ref C) (some dd) oe) (hf : ∃ vs, oe.data = .fields vs) (hm : X.mg "isinstance" = none) (ha : EG (X.suite a ((a, oe) :: pn)) e g (rErr a dd p)) (hb : EG (X.suite a ((a, oe) :: pn)) b g (rv (.ref C2))) (hk : PySem.W.kitOne X.K (.ref C) (.ref C2) = some k) (hg : Gl X "isinstance" := by rfl)
    (he : starEach [e, b] X.env = (false, eval e X.env) :: starEach [b] X.env := by rfl) (he2 : starEach [b] X.env = (false, eval b X.env) :: starEach [] X.env := by rfl) : EG (X.suite a ((a, oe) :: pn)) (.Call (.Name "isinstance" p1) [e, b] [] pos) g (rBl k) :=
  eg_bi (call_isED c hz hf) hm boot_isinstance (ag_cons ha (ag_cons hb ag_nil he2) he) (fun vs H D Q s h kk => by
    cases h with
    | cons h1 h => cases h with
      | cons h2 h =>
        cases h
        obtain ⟨rfl, h3⟩ := h1
        have h2 : _ = V.ref C2 := h2
        subst h2
        exact ⟨.ref C2, .ref C2, k, p, rfl, s _ _ h3, fun u r => r, hk, kk.here s rfl⟩) hg (by decide) (by decide) he (by show (backTo pos (starEach [b] X.env)).any (·.1) = false; rw [he2]; rfl)
/-- error.part -/
theorem eg_part (c : ErrC X.K C) (hz : Zc (.ref C) (some dd) oe) (hf : ∃ vs, oe.data = .fields vs) (ha : EG (X.suite a ((a, oe) :: pn)) e g (rErr a dd p)) (hb : attributeBase e "part" X.env (eval e X.env) = eval e X.env := by rfl) : EG (X.suite a ((a, oe) :: pn)) (.Attribute e "part" pos) g (rStr p) :=
  pe_to (pe_xf (cls := .ref C) (d := some dd) c.f c.no hz hf ha hb) fun σ H Q ⟨F, D0, D, ok, kk⟩ => ⟨F, D0, D, ok, fun v H1 D1 e1 hv => ⟨hv.1, rfl, dd, _, .str p, rfl, e1.i _ _ hv.2, rfl, (kk.later e1).here e1.i rfl⟩⟩
end
end Rf

/-! defs that raise an own error with a text as its part -/
namespace Rf
open PySem PySem.Spec PyProof.Rows L2
/-! ### the error is made -/
/-- self.part = part -/
def spErr (C : Addr) : Sp := fun vs H Q _ => ∃ a y, vs = [.ref a, y] ∧ H a = some (exo a C none) ∧ ∀ dx, H dx = none → dx ≠ a → Q .non (upd (upd H dx (exd dx [("part", y)])) a (exo a C (some dx)))
theorem err_init {P : Program} {w : World} {K : PySem.W.Frag} {mg : Str → Option Value} {base : Heap} {qual : Str} {pa : Arguments} {scope : Scope} {f C : Addr} {fd : FuncData} {p1 p2 p3 p4 : Pos} (F : FunD K "__init__" qual pa [.Assign [.Attribute (.Name "self" p1) "part" p2] (.Name "part" p3) p4] scope [] [] f fd) (S : FnScope ["self", "part"] ["self", "part"] scope)
    (T : OexC K C) (hno : PySem.W.findIn K (.ref C) "part" = some none) : FnOk P w K mg base CX0 1 f fd ["self", "part"] (spErr C) := by
  refine F.ok S (fun vs H Q E ⟨a, y, e, _⟩ => by rw [e]; rfl) fun cdv A outer s H vs Q E hr ⟨a, y, e, ha, kk⟩ => ?_
  subst e
  have vS : Vis scope "self" := (S.par "self" (List.mem_cons_self ..)).elim .inl fun z => .inr (.inl z)
  have vP : Vis scope "part" := (S.par "part" (List.mem_cons_of_mem _ (List.mem_cons_self ..))).elim .inl fun z => .inr (.inl z)
  refine ⟨_, pss_one (ps_ost (X := cxOf CX0 P w K mg base ["self", "part"] qual scope f cdv A outer s H E) (pe_var (i := 0) rfl vS (by decide) (by decide)) (pe_var (i := 1) rfl vP (by decide) (by decide))), ?_⟩
  exact ⟨y, rfl, .ref a, rfl, a, C, rfl, T, hno, .inl ⟨ha, fun dx h1 h2 => kk dx h1 h2⟩⟩
/-- C(e, ..) where nothing is handled -/
theorem make_err {X : Cx} {CX : CXT} {x : Str} {e : Expr} {es : List Expr} {ta : TA} {p pos : Pos} {C fI : Addr} {k : Nat} {fd : FuncData} {ps : List Str} {sp : Sp} (T : OexC X.K C) (iC : PySem.W.findIn X.K (.ref C) "__init__" = some (some (.ref fI))) (tI : PySem.W.typeIn X.K (.ref fI) = some (.type "function"))
    (F1 : FnOk X.prog X.w X.K X.mg X.base CX k fI fd ps sp) (hr : Room (k + 1) X.A) (hb : Binds X.K fd ps []) (hx : Passes CX X (fun _ _ _ => False)) (hg : Gl X x) (hm : X.mg x = some (.ref C)) (ha : PA X (e :: es) ta)
    (hdb : (x == ("__debug__" : Str)) = false := by decide) (he : starEach (e :: es) X.env = (false, eval e X.env) :: starEach es X.env := by rfl) (hpl : (backTo pos (starEach es X.env)).any (·.1) = false := by rfl) :
    L2N.PMk X (.Call (.Name x p) (e :: es) [] pos) (tMkO C sp [] ta) := by
  intro pins s σ H Q I h
  obtain ⟨nm, q, N, bs, bm, sn, sub, ab, col, dd, k0, k1, k2, k3, k5, hC, hbm⟩ := T.cls
  refine wpAny_Call_Name_kw (ld_glob I hg hm ?_ hdb)
  refine PySem.W.callWith_K (h₀ := X.base) I.ok.mod.kin T.kC (thn (ha.run pos pins s σ H _ I h) fun us s1 ⟨vs, H1, I1, r1, hz, q1⟩ => ⟨I1.kIn, ?_⟩) he hpl
  show wpAny _ _ (call (.ref C) us) _ _ _
  obtain ⟨hp, g, dr, tk, os⟩ := s1
  have hsz : hp.objs.size ≤ hp.objs.size + 1 := Nat.le_succ _
  have hq := q1 (hp.objs.size + 1) (I1.hok.fresh hsz)
  rw [List.append_nil] at hq
  have kk : ∀ b o, hp.get? b = some o → ((hp.push (PySem.W.kdv_tup us)).push (PySem.HandSPX.excO C hp.objs.size)).get? b = some o := fun b o z => Heap.get?_push_of_some _ (Heap.get?_push_of_some _ z)
  have hget : ((hp.push (PySem.W.kdv_tup us)).push (PySem.HandSPX.excO C hp.objs.size)).get? (hp.objs.size + 1) = some (PySem.HandSPX.excO C hp.objs.size) := by heap_get
  have I2 : Inv X pins σ (upd H1 (hp.objs.size + 1) (exo (hp.objs.size + 1) C none)) ⟨(hp.push (PySem.W.kdv_tup us)).push (PySem.HandSPX.excO C hp.objs.size), g, dr, tk, os⟩ :=
    I1.laid (t' := tk) (a := hp.objs.size + 1) (o := exo (hp.objs.size + 1) C none) (h' := (hp.push (PySem.W.kdv_tup us)).push (PySem.HandSPX.excO C hp.objs.size)) kk hsz (exo_ok hget)
  have r2 : Vals (V.ref (hp.objs.size + 1) :: vs) (Value.ref (hp.objs.size + 1) :: us) := .cons rfl r1
  have hl : (Value.ref (hp.objs.size + 1) :: us ++ []).length = ps.length := by
    have z := r2.length
    rw [F1.len _ _ _ _ hq] at z
    rw [List.append_nil]
    exact z.symm
  have hus : us.length ≤ sizeLine := by
    rw [← Paired.length r1, sizeLine_eq]
    omega
  have b2 := hb _ (Value.ref (hp.objs.size + 1) :: us) I2.kIn hl
  rw [List.append_nil] at b2
  refine wpAny_call (PySem.HandSPX.call_own F.excBase_ValueError (fun Y => PySem.HandSPX.refsVE_contains Y bm hbm) (I1.kIn _ _ hC) (PySem.W.looks_findIn I1.kIn iC) (fun self => PySem.W.bind_fn I1.kIn self tI) hus
    (codeAny_mono (F1.run _ X.stack _ _ ⟨Value.ref (hp.objs.size + 1) :: us, []⟩ (Value.ref (hp.objs.size + 1) :: us) _ _ (fun _ _ _ => False) (hr.make C us []) (I2.env0.make C us []) b2 r2 hq) fun r s' hq' => ?_))
  cases r with
  | error er => exact hx pins σ _ _ er s' I2 hq'
  | ok fl =>
    cases fl with
    | ret u =>
      obtain ⟨v, H2, os2, bare2, un2, hok2, rv, ev, d, fs, ea, ed, hd1, q2⟩ := hq'
      subst ev
      obtain ⟨h2, g2, d2, t2, os'⟩ := s'
      obtain ⟨t0, G, J, kG, ge, hoe, na⟩ := mk_end0 (d2 := d2) (t2 := t2) I1 hsz kk un2 hok2 os2 bare2 ea ed hd1
      refine ⟨rv, hp.objs.size + 1, _, _, ⟨G, g2, d2, t2, os'⟩, _, .ref C, some d, rfl, J, kG, ge, hoe, ⟨rfl, rfl, fun vs hv => ?_⟩, rfl, rfl, na, rfl, bare2, raises_own T.exC T.tyC, q2⟩
      cases hv
      rfl
    | next => exact False.elim hq'
    | brk => exact False.elim hq'
    | cont => exact False.elim hq'
/-! ### bodies that raise -/
/-- what the written part tells of such a class -/
structure ErrF (P : Program) (w : World) (K : PySem.W.Frag) (mg : Str → Option Value) (base : Heap) (x : Str) (C : Addr) : Prop where
  t : OexC K C
  m : mg x = some (.ref C)
  i : ∃ fI fd, PySem.W.findIn K (.ref C) "__init__" = some (some (.ref fI)) ∧ PySem.W.typeIn K (.ref fI) = some (.type "function") ∧ FnOk P w K mg base CX0 1 fI fd ["self", "part"] (spErr C) ∧ Binds K fd ["self", "part"] []
def tRd (g : List Sl) (C : Addr) (p : Str) (Ex : XK) : TS := fun _ σ H => ∃ F D0 D, Ok g F D0 σ H D ∧ ∀ H' d, Same F H' → H' d = some (.xd [("part", .str p)]) → Ex (.ref C) (some d) H'
def tRe (g : List Sl) (C : Addr) (p : Str) (Ex : XK) : TE := fun σ H _ => ∃ F D0 D, Ok g F D0 σ H D ∧ ∀ H' d, Same F H' → H' d = some (.xd [("part", .str p)]) → Ex (.ref C) (some d) H'
/-- arguments, which error, its part -/
abbrev RelE := List Rp → Addr → Str → Prop
def SpX (rel : RelE) : Sp := fun vs H _ E => ∃ A C p D, rel A C p ∧ Same D H ∧ Reps D A vs ∧ ∀ H' d, Same H H' → H' d = some (.xd [("part", .str p)]) → E (.ref C) (some d) H'
structure RaiC (P : Program) (w : World) (K : PySem.W.Frag) (mg : Str → Option Value) (base : Heap) (name : Str) (k : Nat) (rel : RelE) : Prop where
  ex : ∃ f fd ps, FnOk P w K mg base (L2N.CX P w) k f fd ps (SpX rel) ∧ mg name = some (.ref f) ∧ PySem.W.keepIn K (.ref f) = true ∧ Binds K fd ps []
section
variable {X : Cx} {g : List Sl} {C : Addr} {p x : Str} {Ex : XK} {c e : Expr} {es : List Expr} {A rest : List Stmt} {pos p1 p2 p3 : Pos} {k : Bool} {As : List Rp} {lv : Nat} {rel : RelE}
theorem rg_cons {st : Stmt} {N : List Sl → Prop} (h : S1 X st g { nx := N }) (h2 : ∀ g', N g' → PSs X rest (tRd g' C p Ex)) : PSs X (st :: rest) (tRd g C p Ex) := by
  have u : PSs X rest fun E σ H => ∃ g', N g' ∧ tRd g' C p Ex E σ H := ⟨fun pins s σ H E I ⟨g', n, q⟩ => (h2 g' n).run pins s σ H E I q⟩
  refine pss_to (pss_cons h u) fun E σ H ⟨F, D0, D, ok, q⟩ => ?_
  exact ⟨F, D0, D, ok, ⟨fun g' σ' H' D' n ok' => ⟨g', n, F, D0, D', ok', q⟩, fun _ _ _ _ z => z.elim, fun _ _ _ _ z => z.elim, fun _ _ _ z => z.elim, fun _ _ _ _ _ _ z => z.elim⟩⟩
theorem rg_ifF {B : List Stmt} (hc : BG X c g k) (hk : k = false) (h : PSs X rest (tRd g C p Ex)) : PSs X (.If c B [] pos :: rest) (tRd g C p Ex) :=
  rg_cons (N := fun q => q = g) (s1_if hc (fun q => by rw [hk] at q; cases q) fun _ => sg_nil rfl) fun _ q => q ▸ h
theorem rg_ifT {B : List Stmt} (hc : BG X c g k) (hk : k = true) (h : PSs X B (tRd g C p Ex)) : PSs X (.If c B [] pos :: rest) (tRd g C p Ex) := by
  subst hk
  refine pss_to (pss_cons (ps_if hc h pss_never) pss_never) fun E σ H ⟨F, D0, D, ok, q⟩ => ?_
  exact ⟨F, D0, D, ok, fun H' D' e => iteT ⟨F, D0, D', ok.grow e, q⟩⟩
theorem rg_expr (he : PE X e (tRe g C p Ex)) (hs : swapsWith e none pos.line X.env = pure false := by rfl) : PSs X (.Expr e pos :: rest) (tRd g C p Ex) :=
  pss_to (pss_cons (ps_expr he hs) pss_never) fun E σ H q => q
theorem rg_raise {u} (hc : X.calm = true) (tk : L2N.Takes X fun cls d _ H => Ex cls d H) (F : ErrF X.prog X.w X.K X.mg X.base x C) (hr : Room 2 X.A) (hg : Gl X x := by rfl) (hdb : (x == ("__debug__" : Str)) = false := by decide) (hst : starEach [.Constant (.str p) u p2] X.env = (false, eval (.Constant (.str p) u p2) X.env) :: starEach [] X.env := by rfl) : PSs X [.Raise (some (.Call (.Name x p1) [.Constant (.str p) u p2] [] p3)) none pos] (tRd g C p Ex) := by
  obtain ⟨fI, fd, i1, i2, i3, i4⟩ := F.i
  refine pss_to (pss_one (L2N.ps_raise hc tk (make_err F.t i1 i2 i3 hr i4 pass0 hg F.m (ag_cons (g := g) eg_str ag_nil hst) hdb hst))) fun E σ H ⟨F1, D0, D, ok, q⟩ => ⟨F1, D0, D, ok, fun vs H1 D1 e1 hvs => ?_⟩
  cases hvs with
  | cons h1 t =>
    cases t
    have h1 : _ = V.str p := h1
    subst h1
    refine ⟨show (1 : Nat) ≤ 1000 by decide, fun a na => ⟨a, .str p, rfl, upd_same, fun dx ndx ne => ⟨rfl, dx, [("part", .str p)], upd_same, by rw [upd_ne ne, upd_same], by rw [upd_ne ne] at ndx; exact ndx, ?_⟩⟩⟩
    have ndx' : H1 dx = none := by rw [upd_ne ne] at ndx; exact ndx
    refine q _ dx (fun b o hb => ?_) upd_same
    have hb1 := (ok.grow e1).fr b o hb
    have b1 : b ≠ a := ne_of_none hb1 na
    have b2 : b ≠ dx := ne_of_none hb1 ndx'
    rw [upd_ne b2, del_ne b1, upd_ne b1, upd_ne b2, upd_ne b1]
    exact hb1
theorem pe_rai (F : RaiC X.prog X.w X.K X.mg X.base x lv rel) (hx : Passes (L2N.CX X.prog X.w) X Ex) (ha : AG X (e :: es) g As) (h : rel As C p) (hr : Room lv X.A) (hg : Gl X x := by rfl) (hdb : (x == ("__debug__" : Str)) = false := by decide) (he : starEach (e :: es) X.env = (false, eval e X.env) :: starEach es X.env := by rfl)
    (hpl : (backTo pos (starEach es X.env)).any (·.1) = false := by rfl) : PE X (.Call (.Name x p1) (e :: es) [] pos) (tRe g C p Ex) := by
  obtain ⟨f, fd, ps, F, m, kp, b⟩ := F.ex
  refine pe_to (pe_call F hr hg m kp b .nil hx ha hdb he hpl) fun σ H Q ⟨F, D0, D, ok, q⟩ => ⟨F, D0, D, ok, fun vs H' D' e1 hvs => ?_⟩
  show SpX rel (vs ++ []) H' Q Ex
  rw [List.append_nil]
  exact ⟨As, C, p, D', h, e1.i, hvs, fun H2 d s2 hd => q H2 d ((ok.grow e1).fr.trans s2) hd⟩
end
section
variable {P : Program} {w : World} {K : PySem.W.Frag} {mg : Str → Option Value} {base : Heap} {x qual : Str} {params : Arguments} {body : List Stmt} {scope : Scope} {f : Addr} {fd : FuncData} {N ps : List Str} {k : Nat} {rel : RelE}
/-- the context of a body that raises -/
abbrev Bx (P : Program) (w : World) (K : PySem.W.Frag) (mg : Str → Option Value) (base : Heap) (N : List Str) (qual : Str) (scope : Scope) (f : Addr) (cdv : Value) (A : Around) (outer : List Env) (s : Shared) (H : Hp) (E : XK) : Cx := cxOf (L2N.CX P w) P w K mg base N qual scope f cdv A outer s H E
theorem def_x (F : FunD K x qual params body scope [] [] f fd) (S : FnScope N ps scope) (hl : ∀ A C p, rel A C p → A.length = ps.length) (hN : ps.length ≤ N.length)
    (hb : ∀ (cdv : Value) (A : Around) (outer : List Env) (s : Shared) (H : Hp) (E : XK), Room k (Bx P w K mg base N qual scope f cdv A outer s H E).A → L2N.Takes (Bx P w K mg base N qual scope f cdv A outer s H E) (fun cls d _ H => E cls d H) → ∀ As C p, rel As C p → PSs (Bx P w K mg base N qual scope f cdv A outer s H E) body (tRd (g0 N As) C p E)) :
    FnOk P w K mg base (L2N.CX P w) (k + 1) f fd ps (SpX rel) := by
  refine F.ok S (fun vs H Q E ⟨A, C, p, D, h, _, hv, _⟩ => by rw [← hv.length]; exact hl A C p h) fun cdv A outer s H vs Q E hr ⟨As, C, p, D, h, sD, hv, kk⟩ => ?_
  refine ⟨_, hb cdv A outer s H E hr (L2N.takes_of rfl rfl rfl rfl) As C p h, ?_⟩
  exact ⟨H, D, D, ok_start (by rw [hl As C p h]; exact hN) sD hv, fun H' d s2 hd => kk H' d s2 hd⟩
end
end Rf

namespace Rf
open PySem PySem.Spec PyProof.Rows L2
section
variable {P : Program} {w : World} {K : PySem.W.Frag} {mg : Str → Option Value} {base : Heap} {f : Addr} {fd : FuncData}

inductive relNR (K : PySem.W.Frag) : RelE
  | mk (rx : Rp) (t : Value) (h : HasTy K rx t) (hk : PySem.W.kitOne K t (.ref (He.ga K "Rims")) = some false) : relNR K [rx] (He.ga K "BadRims") "rims"

theorem sc_need_rims_x : FnScope ["value"] ["value"] (defScope (top 46)) := ⟨rfl, rfl, rfl, by decide +kernel, rfl, by decide +kernel, by decide +kernel⟩
theorem c_need_rims_x (T : Fre mg) (gR : mg "Rims" = some (.ref (He.ga K "Rims"))) (EF : ErrF P w K mg base "BadRims" (He.ga K "BadRims")) (F : FnP K "need_rims" (top 46) f fd) (gm : mg "need_rims" = some (.ref f)) : RaiC P w K mg base "need_rims" 3 (relNR K) := by
  refine ⟨f, fd, ["value"], def_x F sc_need_rims_x (fun A C p h => by cases h <;> rfl) (by decide) (fun cdv A outer s H E hr tk As C p h => ?_), gm, F.kp, F.bindsN fun _ _ _ _ _ _ us hl => match us, hl with | [_], _ => rfl⟩
  cases h with
  | mk rx t ht hk => exact rg_ifT (bg_not (k := false) (bg_val (eg_isi T.isinstance (eg_name 0) (eg_glob (v := .ref (He.ga K "Rims")) gR rfl) ht (.own _) hk))) rfl (rg_raise rfl tk EF hr)

inductive relBX (K : PySem.W.Frag) : RelE
  | sew (rx ry rz : Rp) (t : Value) (h : HasTy K rx t) (hk : PySem.W.kitOne K t (.ref (He.ga K "Sewing")) = some false) : relBX K [rx, ry, rz] (He.ga K "BadSewing") "sewing"
  | rims (S : SewD) (ry rz : Rp) (t : Value) (h : HasTy K ry t) (hk : PySem.W.kitOne K t (.ref (He.ga K "Rims")) = some false) : relBX K [rSew K S, ry, rz] (He.ga K "BadRims") "rims"
  | num (S : SewD) (ws : List (List Int)) (nx : List Int) (rz : Rp) (h : relWords K [rSew K S, rRims K ws nx, rz] (rBl false)) : relBX K [rSew K S, rRims K ws nx, rz] (He.ga K "BadNumber") "words"
  | mis (S : SewD) (ws : List (List Int)) (nx : List Int) (tp : Bool) (ns : List Int) (hz : ns.length ≤ 1000) (hw : (decide (ns.length = S.ws.length) && ns.all fun n => withinB n (some 0) (some (ws.length - 1))) = true) (h : relFB K [rSew K S, rRims K ws nx, rQi tp ns] rNon) : relBX K [rSew K S, rRims K ws nx, rQi tp ns] (He.ga K "Misfit") "rounds"

theorem sc_bag_of_rounds_x : FnScope ["sewing", "rims", "words", "found"] ["sewing", "rims", "words"] (defScope (top 90)) := ⟨rfl, rfl, rfl, by decide +kernel, rfl, by decide +kernel, by decide +kernel⟩
theorem c_bag_of_rounds_x (T : Fre mg) (R : KRims K) (W : KSew K) (gS : mg "Sewing" = some (.ref (He.ga K "Sewing"))) (E1 : ErrF P w K mg base "BadSewing" (He.ga K "BadSewing")) (E2 : ErrF P w K mg base "BadNumber" (He.ga K "BadNumber")) (E3 : ErrF P w K mg base "Misfit" (He.ga K "Misfit")) (C0 : RaiC P w K mg base "need_rims" 3 (relNR K)) (C1 : DefC P w K mg base "need_rims" 1 (relNeedR K)) (C2 : DefC P w K mg base "are_words" 3 (relWords K)) (C3 : DefC P w K mg base "folded_bag" 8 (relFB K)) (F : FnP K "bag_of_rounds" (top 90) f fd) (gm : mg "bag_of_rounds" = some (.ref f)) : RaiC P w K mg base "bag_of_rounds" 9 (relBX K) := by
  refine ⟨f, fd, ["sewing", "rims", "words"], def_x F sc_bag_of_rounds_x (fun A C p h => by cases h <;> rfl) (by decide) (fun cdv A outer s H E hr tk As C p h => ?_), gm, F.kp, F.bindsN fun _ _ _ _ _ _ us hl => match us, hl with | [_, _, _], _ => rfl⟩
  cases h with
  | sew rx ry rz t ht hk => exact rg_ifT (bg_not (k := false) (bg_val (eg_isi T.isinstance (eg_name 0) (eg_glob (v := .ref (He.ga K "Sewing")) gS rfl) ht (.own _) hk))) rfl (rg_raise rfl tk E1 (hr.mono (by decide)))
  | rims S ry rz t ht hk =>
    refine rg_ifF (k := false) (bg_not (k := true) (bg_val (eg_isi T.isinstance (eg_name 0) (eg_glob (v := .ref (He.ga K "Sewing")) gS rfl) (ty_I W.c) (.own _) W.kit))) rfl ?_
    exact rg_expr (pe_rai C0 (L2N.passes_call tk fun _ _ _ _ z => z) (ag_cons (eg_name 1) ag_nil) (.mk _ t ht hk) (hr.mono (by decide)))
  | num S ws nx rz h =>
    refine rg_ifF (k := false) (bg_not (k := true) (bg_val (eg_isi T.isinstance (eg_name 0) (eg_glob (v := .ref (He.ga K "Sewing")) gS rfl) (ty_I W.c) (.own _) W.kit))) rfl ?_
    refine rg_cons (N := fun q => q = [.d (rSew K S), .d (rRims K ws nx), .d rz, .non]) (s1_expr (eg_call C1 (ag_cons (eg_name 1) ag_nil) (.mk _) (hr.mono (by decide))) rfl) fun _ q => q ▸ ?_
    exact rg_ifT (bg_not (k := false) (bg_val (eg_call C2 (ag_cons (eg_name 0) (ag_cons (eg_name 1) (ag_cons (eg_name 2) ag_nil))) h (hr.mono (by decide))))) rfl (rg_raise rfl tk E2 (hr.mono (by decide)))
  | mis S ws nx tp ns hz hw h =>
    refine rg_ifF (k := false) (bg_not (k := true) (bg_val (eg_isi T.isinstance (eg_name 0) (eg_glob (v := .ref (He.ga K "Sewing")) gS rfl) (ty_I W.c) (.own _) W.kit))) rfl ?_
    refine rg_cons (N := fun q => q = [.d (rSew K S), .d (rRims K ws nx), .d (rQi tp ns), .non]) (s1_expr (eg_call C1 (ag_cons (eg_name 1) ag_nil) (.mk _) (hr.mono (by decide))) rfl) fun _ q => q ▸ ?_
    refine rg_ifF (k := false) (bg_not (k := true) (bg_val (eg_eq (congrArg rBl hw) (eg_call C2 (ag_cons (eg_name 0) (ag_cons (eg_name 1) (ag_cons (eg_name 2) ag_nil))) (words_ints hz) (hr.mono (by decide)))))) rfl ?_
    refine rg_cons (N := fun q => q = [.d (rSew K S), .d (rRims K ws nx), .d (rQi tp ns), .d rNon]) (s1_set 3 (eg_call C3 (ag_cons (eg_name 0) (ag_cons (eg_name 1) (ag_cons (eg_name 2) ag_nil))) h hr) rfl sc_bag_of_rounds_x.nd) fun _ q => q ▸ ?_
    exact rg_ifT (k := true) (bg_isN (eg_name 3) nonR_v) rfl (rg_raise rfl tk E3 (hr.mono (by decide)))

end
end Rf

/-! a lambda handed to a def that catches what it raises (errors whose context is None) -/
namespace Rf
open PySem PySem.Spec PyProof.Rows L2 LamX
section
variable {X : Cx} {pins : List (Addr × Obj)} {σ : L2.St} {H HZ : Hp} {s s1 : Shared}
/-- how the table stands behind the making: as it was, or with one code object more -/
def Grown (H H1 : Hp) (P c' : Addr) (q : Str) (ps ps' : Array Value) : Prop :=
  (H1 = H ∧ ps' = ps ∧ ∃ pos, codeAmong pos ps.toList = some (.ref c')) ∨ (H c' = none ∧ H1 = upd (upd H P (.tbl ps')) c' (CodeO c' q) ∧ TriplesOk ps'.toList ∧ ∀ (pos : Pos) (cv : Value), codeAmong pos ps'.toList = some cv → codeAmong pos ps.toList = some cv ∨ cv = .ref c')
theorem lam_makeN {c P : Addr} {ps : Array Value} {params : Arguments} {body : Expr} {scope : Scope} {pos : Pos} {E : Value → Shared → Prop} {Q : Value → Shared → Prop} (I : Inv X pins σ H s) (TB : TabB X.base X.mg c P) (hcode : X.env.code = .ref c)
    (hP : H P = some (.tbl ps)) (ht : TriplesOk ps.toList) (ha : ∀ (pos : Pos) (cv : Value), codeAmong pos ps.toList = some cv → ∃ c, cv = .ref c ∧ H c = some (CodeO c (X.env.qual ++ "<lambda>"))) (hdef : defaultsOf params X.env = ([], [])) (hfree : ∀ y ∈ scope.names, y.2 = .free → ∃ c, X.env.cells.lookup y.1 = some c)
    (h : ∀ (f c' : Addr) (pm ctv : Value) (H1 : Hp) (ps' : Array Value) (s' : Shared), Inv X pins σ H1 s' → Grown H H1 P c' (X.env.qual ++ "<lambda>") ps ps' →
      s'.heap.get? f = some (PySem.W.kla_obj "<lambda>" (X.env.qual ++ "<lambda>") params body scope (cloFrom X.env.cells scope.names []) pm c' ctv) → H1 f = none → f ∉ frs X.stack → H1 c' = some (CodeO c' (X.env.qual ++ "<lambda>")) → Q (.ref f) s') :
    wpAny (model X.prog X.w) X.A (eval (.Lambda params body scope pos) X.env) Q E s := by
  refine PySem.W.kla_eval hdef ?_
  have bP : s.heap.BuiltinsAt X.mg P := TB.bm.keeps I.bk
  have hP' : s.heap.get? P = some { cls := .none, data := .fields ps } := I.hok P _ hP
  have nofr : ∀ f, s.heap.objs.size ≤ f → f ∉ frs X.stack := fun f hf z => by
    rcases List.mem_cons.mp (I.stkSub _ z) with e | e
    · have h1 := I.lt
      rw [← e] at h1
      exact Nat.lt_irrefl _ (Nat.lt_of_lt_of_le h1 hf)
    · exact I.nofs hf e
  cases hc : codeAmong pos ps.toList with
  | none =>
    refine PySem.W.kla_makeFunction (mg := X.mg) (c := c) (P := P) (ps := ps) (closure_ok hfree) I.ok.glob (I.mod.glob.keeps I.bk) hcode (TB.code.keeps I.bk) hP' ht hc TB.gP bP fun c' ctv h' tk hx hge hlt hrec htb => ?_
    obtain ⟨c2, oc, vs, t, e2, hoc, hd, hv⟩ := hrec
    cases e2
    have hsz : s.heap.objs.size ≤ h'.objs.size := Nat.le_trans hge (Nat.le_of_lt hlt)
    have nC : H c' = none := I.hok.fresh hge
    have I1 := inv_table (t' := tk) (more := #[rawInt pos.line, rawInt pos.col, .ref c']) (h' := h'.push (PySem.W.kla_obj "<lambda>" (X.env.qual ++ "<lambda>") params body scope (cloFrom X.env.cells scope.names []) ((X.mg "__name__").getD .none) c' ctv)) I hP
      (fun b o hb z => Heap.get?_push_of_some _ (hx b o hb z)) (Heap.get?_push_of_some _ htb) hge ⟨oc, vs, t, Heap.get?_push_of_some _ hoc, hd, hv⟩
    have eL : (ps ++ #[rawInt pos.line, rawInt pos.col, .ref c']).toList = ps.toList ++ [rawInt pos.line, rawInt pos.col, .ref c'] := by simp
    refine h h'.objs.size c' ((X.mg "__name__").getD .none) ctv _ _ _ I1 (.inr ⟨nC, rfl, by rw [eL]; exact PySem.TriplesOk_snoc _ _ _ _ ht, fun p' cv hcv => by rw [eL] at hcv; exact among_app _ ht hcv⟩) (Heap.get?_push_size _ rfl) ?_ (nofr _ hsz) upd_same
    have n1 : h'.objs.size ≠ c' := Nat.ne_of_gt hlt
    have n2 : h'.objs.size ≠ P := Nat.ne_of_gt (Nat.lt_of_lt_of_le (Heap.lt_size hP') hsz)
    rw [upd_ne n1, upd_ne n2]
    exact I.hok.fresh hsz
  | some cv =>
    obtain ⟨c', e, hco⟩ := ha pos cv hc
    subst e
    refine PySem.W.kla_makeFunctionHit (mg := X.mg) (c := c) (P := P) (ps := ps) (closure_ok hfree) I.ok.glob (I.mod.glob.keeps I.bk) hcode (TB.code.keeps I.bk) hP' ht hc bP fun ctv h' tk hx hsz => ?_
    have I1 : Inv X pins σ H { s with heap := h'.push (PySem.W.kla_obj "<lambda>" (X.env.qual ++ "<lambda>") params body scope (cloFrom X.env.cells scope.names []) ((X.mg "__name__").getD .none) c' ctv), toks := tk } := I.kept fun b o z => Heap.get?_push_of_some _ (hx b o z)
    exact h h'.objs.size c' ((X.mg "__name__").getD .none) ctv H ps _ I1 (.inl ⟨rfl, rfl, pos, hc⟩) (Heap.get?_push_size _ rfl) (I.hok.fresh hsz) (nofr _ hsz) hco
/-- the lambda's body, what it lets out told with the context None -/
abbrev lamCxN (X : Cx) (A : Around) (outer : List Env) (s : Shared) (H : Hp) (E : XK) (scope : Scope) (f c' : Addr) : Cx := { lamCx X A outer s H E scope f c' with
  xe := fun e s' => wpAny (model X.prog X.w) (A.deeper (lamEnv X scope s.heap.objs.size f c')) (leaving (lamEnv X scope s.heap.objs.size f c') e) (fun _ s'' => L2N.CX X.prog X.w outer H s E e s'') (fun e' s'' => L2N.CX X.prog X.w outer H s E e' s'') s' }
theorem inv_xe {Y : Cx} {xe : Value → Shared → Prop} (J : Inv Y pins σ H s) : Inv { Y with xe := xe } pins σ H s :=
  ⟨⟨J.ok.mod, J.ok.kind, J.ok.glob, J.ok.blt, J.ok.above, J.ok.inj, J.ok.has, J.ok.cab, J.ok.hd, J.ok.frames, J.ok.stk, J.ok.exf, J.ok.bs, J.ok.bsz, J.ok.noex, J.ok.exfs, J.ok.funs, J.ok.frf⟩, J.os, J.bare, J.base, J.loc, J.cell, J.free, J.freeC, fun q hq => J.pin q hq, J.hok, J.len⟩
theorem act_lam {CXg : CXT} {Eg : XK} {Ng : List Str} {qg : Str} {sg : Scope} {g f c' : Addr} {cdg pm ctv : Value} {params : Arguments} {body : Expr} {scope : Scope} {k i : Nat} {a : Str} {pn : List (Addr × Obj)} {xe : Value → Shared → Prop} {W : WX} {E : XK} {tb : TE} {p1 p2 : Pos}
    (I : Inv X pins σ H s) (L : LamS X.env.scope scope) (hf : s.heap.get? f = some (PySem.W.kla_obj "<lambda>" (X.env.qual ++ "<lambda>") params body scope (cloFrom X.env.cells scope.names []) pm c' ctv)) (hfn : H f = none) (hfr : f ∉ frs X.stack)
    (hbind : bindArgs (PySem.W.kla_fn "<lambda>" (X.env.qual ++ "<lambda>") params body scope (cloFrom X.env.cells scope.names []) pm (.ref c') ctv) ⟨[], []⟩ = pure [])
    (tk : L2N.Takes ((cxOf CXg X.prog X.w X.K X.mg X.base Ng qg sg g cdg X.A X.stack s H Eg).tr pn xe) W) (hW : ∀ cls d σ' H', E cls d H' → W cls d σ' H') (hr : Room (k + 1) (X.A.deeper (envOfC qg sg s.heap.objs.size g cdg)))
    (hbody : ∀ (A : Around) (outer : List Env) (s : Shared) (H : Hp), Room k (A.deeper (lamEnv X scope s.heap.objs.size f c')) → L2N.Takes (lamCxN X A outer s H E scope f c') (fun cls d _ H => E cls d H) → PE (lamCxN X A outer s H E scope f c') body tb)
    (hN : Ng[i]? = some a) (hv : Vis sg a) (hd : (a == ("__debug__" : Str)) = false := by decide) (hcd : (a == ("__classdict__" : Str)) = false := by decide) :
    PE ((cxOf CXg X.prog X.w X.K X.mg X.base Ng qg sg g cdg X.A X.stack s H Eg).tr pn xe) (.Call (.Name a p1) [] [] p2)
      (fun σZ HZ Q => σZ[i]? = some (some (.ref f)) ∧ HZ c' = some (CodeO c' (X.env.qual ++ "<lambda>")) ∧ tb σ HZ Q) := by
  refine ⟨fun pinsZ sZ σZ HZ Q IZ h => ?_⟩
  obtain ⟨hs, hc, ht⟩ := h
  refine wpAny_Call_Name_kw (thn ((pe_var (pos := p1) (i := i) hN hv hd hcd).run pinsZ sZ σZ HZ (fun v H1 => v = .ref f ∧ H1 = HZ) IZ ⟨.ref f, hs, rfl, rfl⟩) fun u s1 ⟨v, H1, I1, r1, q1⟩ => ?_)
  obtain ⟨ev, eH⟩ := q1
  subst ev
  rw [eH] at I1
  obtain rfl : u = Value.ref f := r1
  have of1 : s1.heap.get? f = some (PySem.W.kla_obj "<lambda>" (X.env.qual ++ "<lambda>") params body scope (cloFrom X.env.cells scope.names []) pm c' ctv) := I1.base.keep f _ hf hfn hfr (fun z => nomatch (show f ∈ ([] : List Addr) from z))
  refine PySem.W.callWith_F0 ⟨_, _, _, _, of1⟩ ?_
  have un : Un (frs X.stack) [] H HZ s.heap s1.heap := I1.base
  obtain ⟨⟨oc, vs, t, hoc, hdc, hvc⟩, _, _⟩ := I1.hok c' _ hc
  have rc : codeAny (model X.prog X.w) (X.A.deeper (envOfC qg sg s.heap.objs.size g cdg)) (.call (.ref f) ⟨[], []⟩) (CR (L2N.CX X.prog X.w) (envOfC qg sg s.heap.objs.size g cdg :: X.stack) X.prog X.w HZ s1 Q E) s1 := by
    refine PySem.W.kla_callFunE hr.depth of1 rfl L.co L.gen rfl ⟨c', oc, vs, t, rfl, hoc, hdc, hvc⟩ ?_
    rw [hbind]
    refine wpAny_pure (wpAny_newFunctionEnv (fun y hy => (L.own y hy).2) (fun y hy => absurd hy (by simp)) (fun h₁ hns hsb => ⟨I1.nolimit.fresh _ hsb, ?_⟩) L.kind)
    show codeAny _ _ (.expr body (lamEnv X scope s1.heap.objs.size f c')) _ _
    have kp : ∀ b o, s1.heap.get? b = some o → h₁.get? b = some o := fun b o z => hsb.extBut b o (Nat.ne_of_lt (Heap.lt_size z)) (Heap.get?_push_of_some _ z)
    have J0 : Inv (lamCx X (X.A.deeper (envOfC qg sg s.heap.objs.size g cdg)) (envOfC qg sg s.heap.objs.size g cdg :: X.stack) s1 HZ E scope f c') [] σ HZ { s1 with heap := h₁, toks := s1.toks + ([] : List (Str × Value)).length } :=
      lam_start2 I L I1.env0 hr.hd un hns kp
    have J : Inv (lamCxN X (X.A.deeper (envOfC qg sg s.heap.objs.size g cdg)) (envOfC qg sg s.heap.objs.size g cdg :: X.stack) s1 HZ E scope f c') [] σ HZ { s1 with heap := h₁, toks := s1.toks + ([] : List (Str × Value)).length } := inv_xe J0
    refine PySem.W.kla_codeExpr (wpAny_mono ((hbody _ _ s1 HZ (hr.deeper _) (L2N.takes_of rfl rfl rfl rfl)).run [] _ _ HZ Q J ht) (fun v s' hq => ?_) fun e s' hq => hq)
    obtain ⟨w', H', J', rv, q⟩ := hq
    exact ⟨w', H', J'.os, J'.bare, J'.base, J'.hok, rv, q⟩
  have hx : Passes (L2N.CX X.prog X.w) ((cxOf CXg X.prog X.w X.K X.mg X.base Ng qg sg g cdg X.A X.stack s H Eg).tr pn xe) E := L2N.passes_call tk hW
  refine wpAny_call (codeAny_mono rc fun r s' hq => ?_)
  cases r with
  | error e => exact hx pinsZ σZ HZ s1 e s' I1 hq
  | ok fl =>
    cases fl with
    | ret u => exact I1.after hq
    | next => exact False.elim hq
    | brk => exact False.elim hq
    | cont => exact False.elim hq
end
/-- the def that calls what it got -/
def GivesN (X : Cx) (Ng : List Str) (x : Str) (sg : Scope) (g : Addr) (cdg : Value) (bg : List Stmt) (a : Str) (q : Str) (TT : (XK → Hp → VK → Prop) → Hp → VK → Prop) : Prop :=
  ∀ (f c' : Addr) (s : Shared) (H : Hp) (Q : VK) (tl : XK → Hp → VK → Prop), Room 3 (X.A.deeper (envOfC x sg s.heap.objs.size g cdg)) →
    (∀ (W : WX) (pn : List (Addr × Obj)) (xe : Value → Shared → Prop) (E : XK) (p1 p2 : Pos), L2N.Takes ((cxOf CX0 X.prog X.w X.K X.mg X.base Ng x sg g cdg X.A X.stack s H E0).tr pn xe) W → (∀ cls d σ' H', E cls d H' → W cls d σ' H') →
      PE ((cxOf CX0 X.prog X.w X.K X.mg X.base Ng x sg g cdg X.A X.stack s H E0).tr pn xe) (.Call (.Name a p1) [] [] p2) (fun σZ HZ Q => σZ[0]? = some (some (.ref f)) ∧ HZ c' = some (CodeO c' q) ∧ tl E HZ Q)) →
    H c' = some (CodeO c' q) → TT tl H Q →
    ∃ t, PSs (cxOf CX0 X.prog X.w X.K X.mg X.base Ng x sg g cdg X.A X.stack s H E0).nox bg t ∧ t { nx := fun _ H' => Q .non H', rt := Q } (L2.start Ng [.ref f]) H
def tLamN (P : Addr) (q : Str) (TT : (XK → Hp → VK → Prop) → Hp → VK → Prop) (t : XK → TE) : TE := fun σ H Q => ∃ ps, H P = some (.tbl ps) ∧ TriplesOk ps.toList ∧ (∀ (pos : Pos) (cv : Value), codeAmong pos ps.toList = some cv → ∃ c, cv = .ref c ∧ H c = some (CodeO c q)) ∧
  ∀ c' H1 ps', Grown H H1 P c' q ps ps' → TT (fun E H' Q' => t E σ H' Q') H1 Q
section
variable {X : Cx}
theorem pe_lamN {TT : (XK → Hp → VK → Prop) → Hp → VK → Prop} {x a : Str} {g c P : Addr} {k : Nat} {pg : Arguments} {bg : List Stmt} {sg : Scope} {dV kV doc pm cdv ct oc : Value} {an od : Option Addr} {osl : Array (Option Value)} {Ng : List Str}
    {params : Arguments} {body : Expr} {scope : Scope} {t : XK → TE} {p lpos pos : Pos} (hg : Gl X x) (hm : X.mg x = some (.ref g)) (hk : PySem.W.keepIn X.K (.ref g) = true)
    (lk : X.K.lookup g = some ⟨oc, od, .func (PySem.W.fnOf x x pg bg sg dV kV doc pm an cdv ct), osl⟩) (hcg : PySem.W.codeIn X.K cdv x = true) (hb : L2.Binds X.K (PySem.W.fnOf x x pg bg sg dV kV doc pm an cdv ct) [a] []) (Sg : FnScope Ng [a] sg) (hNg : Ng[0]? = some a) (hva : Vis sg a)
    (hG : GivesN X Ng x sg g cdv bg a (X.env.qual ++ "<lambda>") TT)
    (TB : TabB X.base X.mg c P) (hcode : X.env.code = .ref c) (hr : Room (k + 2) X.A) (h3 : 2 ≤ k) (L : LamS X.env.scope scope) (hdef : defaultsOf params X.env = ([], []))
    (hbind : ∀ (q : Str) (cl : List (Str × Addr)) (pm cv ctv : Value), bindArgs (PySem.W.kla_fn "<lambda>" q params body scope cl pm cv ctv) ⟨[], []⟩ = pure [])
    (hbody : ∀ (A : Around) (outer : List Env) (s : Shared) (H : Hp) (E : XK) (f c' : Addr), Room k (A.deeper (lamEnv X scope s.heap.objs.size f c')) → L2N.Takes (lamCxN X A outer s H E scope f c') (fun cls d _ H => E cls d H) → PE (lamCxN X A outer s H E scope f c') body (t E))
    (hdb : (x == ("__debug__" : Str)) = false := by decide) (hd : (a == ("__debug__" : Str)) = false := by decide) (hcd : (a == ("__classdict__" : Str)) = false := by decide) :
    PE X (.Call (.Name x p) [.Lambda params body scope lpos] [] pos) (tLamN P (X.env.qual ++ "<lambda>") TT t) := by
  refine ⟨fun pins s σ H Q I h => ?_⟩
  obtain ⟨ps, hP, ht, ha, h⟩ := h
  refine wpAny_Call_Name_kw (ld_glob I hg hm ?_ hdb)
  refine PySem.W.callWith_K I.ok.mod.kin hk ?_ (by rfl) (by rfl)
  show wpAny _ _ (spliced ((false, eval (.Lambda params body scope lpos) X.env) :: backTo pos (starEach [] X.env))) _ _ s
  refine Calls.spliced_cons (lam_makeN I TB hcode hP ht ha hdef (L.has I.ok) fun f c' pm' ctv H1 ps' s' I1 gr hf hfn hfr hco => ?_)
  refine Calls.spliced_nil ⟨I1.kIn, ?_⟩
  have rc : codeAny (model X.prog X.w) X.A (.call (.ref g) ⟨[.ref f], []⟩) (CR CX0 X.stack X.prog X.w H1 s' Q E0) s' := by
    refine run_ofS (N := Ng) (ps := [a]) (us := [.ref f]) (vs := [.ref f]) lk hcg Sg hr I1.env0 (hb s' [.ref f] I1.kIn rfl) (.cons rfl .nil) rfl fun hr' => ?_
    obtain ⟨t', ht', hq'⟩ := hG f c' s' H1 Q (fun E H' Q' => t E σ H' Q') (hr'.mono (by omega)) (fun W pn xe E p1 p2 tk hW => act_lam (i := 0) I1 L hf hfn hfr (hbind _ _ _ _ _) tk hW hr' (fun A outer s H hr2 tk2 => hbody A outer s H E f c' hr2 tk2) hNg hva hd hcd) hco (h c' H1 ps' gr)
    exact ⟨t', ht'.nox, hq'⟩
  refine wpAny_call (codeAny_mono rc fun r s2 hq => ?_)
  cases r with
  | error e => exact (show False from hq).elim
  | ok fl =>
    cases fl with
    | ret u => exact I1.after hq
    | next => exact False.elim hq
    | brk => exact False.elim hq
    | cont => exact False.elim hq
end
end Rf

namespace Rf
open PySem PySem.Spec PyProof.Rows L2 HotX L2H
/-- which of the four -/
inductive Kd | sewing | rims | number | misfit
deriving DecidableEq
def Kd.w : Kd → OkS
  | .sewing => ⟨"sewing", by decide +kernel⟩
  | .rims => ⟨"rims", by decide +kernel⟩
  | .number => ⟨"number", by decide +kernel⟩
  | .misfit => ⟨"misfit", by decide +kernel⟩
structure HeardC (K : PySem.W.Frag) (C : Addr) (k : Kd) : Prop where
  c : ErrC K C
  h : PySem.W.exmOne K (.ref C) (.ref (He.ga K "HandleError")) = some true
  a1 : PySem.W.kitOne K (.ref C) (.ref (He.ga K "BadSewing")) = some (decide (k = .sewing))
  a2 : PySem.W.kitOne K (.ref C) (.ref (He.ga K "BadRims")) = some (decide (k = .rims))
  a3 : PySem.W.kitOne K (.ref C) (.ref (He.ga K "BadNumber")) = some (decide (k = .number))
  a4 : PySem.W.kitOne K (.ref C) (.ref (He.ga K "Misfit")) = some (decide (k = .misfit))
structure HearG (K : PySem.W.Frag) (mg : Str → Option Value) : Prop where
  i : mg "isinstance" = none
  h : mg "HandleError" = some (.ref (He.ga K "HandleError"))
  a1 : mg "BadSewing" = some (.ref (He.ga K "BadSewing"))
  a2 : mg "BadRims" = some (.ref (He.ga K "BadRims"))
  a3 : mg "BadNumber" = some (.ref (He.ga K "BadNumber"))
  a4 : mg "Misfit" = some (.ref (He.ga K "Misfit"))
abbrev Ngh : List Str := ["_law_ask", "_law_heard_here", "error", "_law_kinds", "_law_words", "_law_word", "_law_is_so"]
/-- the context in which an error is heard: what is told of it, and then -/
def HeE (K : PySem.W.Frag) (H0 : Hp) (Q : VK) : XK := fun cls d H' => ∃ C k part dd, HeardC K C k ∧ cls = .ref C ∧ d = some dd ∧ H' dd = some (.xd [("part", .str part)]) ∧ ∀ p H'', Same H' H'' → H'' p = some (.tup [.str k.w.1, .str part]) → Free H' p → Q (.ref p) H''
def TTh (K : PySem.W.Frag) (tl : XK → Hp → VK → Prop) (H : Hp) (Q : VK) : Prop := tl (HeE K H Q) H (fun _ _ => False)
theorem sc_heard : FnScope Ngh ["_law_ask"] (defScope (top 107)) := ⟨rfl, rfl, rfl, by decide +kernel, rfl, by decide +kernel, by decide +kernel⟩
abbrev kz (k : Kd) : List (OkS × Bool) := [(Kd.sewing.w, decide (k = .sewing)), (Kd.rims.w, decide (k = .rims)), (Kd.number.w, decide (k = .number))]
abbrev kz4 (k : Kd) : List (OkS × Bool) := [(Kd.misfit.w, decide (k = .misfit))]
abbrev fkz : OkS × Bool → Rp := fun z => rT [rStr z.1.1, rBl z.2]
abbrev tsH (k : Kd) (part : Str) : List Sl := [.non, .d (rT [rStr k.w.1, rStr part]), .non, .non, .non, .non, .non]
def tHs (K : PySem.W.Frag) (a : Addr) (cls : Value) (d : Option Addr) : TS := fun D σ H => ∃ (C : Addr) (k : Kd) (part : Str) (dd : Addr) (σ0 : L2.St), HeardC K C k ∧ cls = .ref C ∧ d = some dd ∧ σ = σ0.set 2 (some (.ref a)) ∧ H dd = some (.xd [("part", .str part)]) ∧
  ∀ p H'' σ'', σ''.length = 7 → σ''[1]? = some (some (.ref p)) → Same H H'' → H'' p = some (.tup [.str k.w.1, .str part]) → Free H p → D.nx σ'' H''
theorem pe_noret {X : Cx} {e : Expr} {t : TE} (h : PE X e t) : PE X e (fun σ H _ => t σ H fun _ _ => False) := ⟨fun pins s σ H Q I q => thn (h.run pins s σ H _ I q) fun v s' ⟨_, _, _, _, z⟩ => z.elim⟩
theorem heard_gives {X : Cx} {x : Str} {g : Addr} {cdg : Value} {q : Str} (G : HearG X.K X.mg) : GivesN X Ngh x (defScope (top 107)) g cdg (defBody (top 107)) "_law_ask" q (TTh X.K) := by
  intro f c' s H Q tl hr act hco htl
  refine ⟨_, pss_cons (ps_set (i := 1) sc_heard.nd rfl (.inl rfl) pe_non) (pss_cons (L2N.ps_try_as (i := 2) (c := .ref (He.ga X.K "HandleError")) (ts := tHs X.K) (Wout := fun _ _ _ _ => False) (tb := fun W D σ H' => ∃ E : XK, (∀ cls d σ' H'', E cls d H'' → W cls d σ' H'') ∧ σ[0]? = some (some (.ref f)) ∧ H' c' = some (LamX.CodeO c' q) ∧ tl E H' (fun _ _ => False)) rfl rfl sc_heard.nd rfl rfl ⟨rfl, by decide, .inl G.h⟩ ?_ ?_ ?_) (pss_one (ps_ret (pe_var (i := 1) rfl (.inl rfl) (by decide) (by decide))))), ?_⟩
  · rintro u s' ⟨_, _, _, _, _, _, _, _, _, _, _, _, _, _, _, _, z⟩
    exact z
  · intro W pn xe tk po
    exact ⟨fun pins s' σ H' D I ⟨E, hW, h1, h2, h3⟩ => (pss_one (ps_expr (pe_noret (act W pn xe E _ _ tk hW)))).run pins s' σ H' D I ⟨h1, h2, h3⟩⟩
  · intro a oe cls d pn hz hf
    refine ⟨fun pins s' σ H' D I h => ?_⟩
    obtain ⟨C, k, part, dd, σ0, hC, rfl, rfl, rfl, hdd, kk⟩ := h
    have hl : (σ0.set 2 (some (.ref a))).length = 7 := I.len
    have h1 : Hot1 (((cxOf CX0 X.prog X.w X.K X.mg X.base Ngh x (defScope (top 107)) g cdg X.A X.stack s H E0).nox).suite a ((a, oe) :: pn)).A (a, oe) := ⟨rfl, hf.elim fun vs e => ⟨vs, e, hz.2.2 vs e⟩⟩
    refine (?_ : SG (((cxOf CX0 X.prog X.w X.K X.mg X.base Ngh x (defScope (top 107)) g cdg X.A X.stack s H E0).nox).suite a ((a, oe) :: pn)) _ [.non, .non, .d (rErr a dd part), .non, .non, .non, .non] { nx := fun q => Le q (tsH k part) }).run pins s' _ H' D I ?_
    · refine sg_set 1 (eg_tup (ag_cons eg_str (ag_cons eg_str ag_nil))) sc_heard.nd ?_
      refine sg_setN 3 (rs := (kz k).map fkz) (ng_lst (ag_cons (eg_tup (ag_cons eg_str (ag_cons (eg_isED hC.c hz.zc hf G.i (eg_name 2) (eg_glob (v := .ref (He.ga X.K "BadSewing")) G.a1 rfl) hC.a1) ag_nil))) (ag_cons (eg_tup (ag_cons eg_str (ag_cons (eg_isED hC.c hz.zc hf G.i (eg_name 2) (eg_glob (v := .ref (He.ga X.K "BadRims")) G.a2 rfl) hC.a2) ag_nil))) (ag_cons (eg_tup (ag_cons eg_str (ag_cons (eg_isED hC.c hz.zc hf G.i (eg_name 2) (eg_glob (v := .ref (He.ga X.K "BadNumber")) G.a3 rfl) hC.a3) ag_nil))) ag_nil)))) sc_heard.nd ?_
      refine sg_le (Le.freeze 3 rfl rfl) ?_
      refine sg_setLcH (p := (a, oe)) (fa := fkz) (fb := fun z : OkS => rStr z.1) (l := kz k ++ kz4 k) (ys := [k.w]) 4 [("_law_word", 5), ("_law_is_so", 6)] (fun z => [.non, .d (rT [rStr "other", rStr ""]), .d (rErr a dd part), .d (rL ((kz k).map fkz)), .non, .d (rStr z.1.1), .d (rBl z.2)]) (fun z => some z.2) (fun z => some z.1) h1 (List.mem_cons_self ..) sc_heard.nd ?_ ?_ (blkOk_by (N := Ngh) (sc := defScope (top 107)) (by decide +kernel)) ?_ ?_ ?_ ?_
      · exact eg_n (ng_cat1 (fa := fkz) (l := kz k) (l' := kz4 k) (Nat.le_of_ble_eq_true rfl) (eg_name 3) (eg_n (ng_lst (ag_cons (eg_tup (ag_cons eg_str (ag_cons (eg_isED hC.c hz.zc hf G.i (eg_name 2) (eg_glob (v := .ref (He.ga X.K "Misfit")) G.a4 rfl) hC.a4) ag_nil))) ag_nil))))
      · cases k <;> rfl
      · intro z s H cenv fp C cl e
        subst e
        exact kg_pairH 5 6 ⟨(a, oe), h1, List.mem_cons_self ..⟩ sc_heard.nd
      · intro z kb s H cenv fp C cl e hk
        subst e
        cases hk
        exact ts_one (bg_val (eg_name 6))
      · intro z y s H cenv fp C cl e hk hy
        subst e
        cases hy
        exact eg_name 5
      · refine sg_if (k := !decide ([k.w] = [])) (tsH k part) (bg_neO (l := [k.w]) dat_str hr.units 4 rfl) (fun _ => ?_) (fun e => absurd (show true = false from e) (by decide)) (sg_nil (Le.refl _))
        refine sg_set 1 (eg_tup (ag_cons (eg_ixO (fa := fun z : OkS => rStr z.1) (l := [k.w]) 4 rfl eg_int rfl) (ag_cons (eg_part hC.c hz.zc hf (eg_name 2)) ag_nil))) sc_heard.nd (sg_nil ?_)
        exact ((Le.forget 2).trans (Le.forget 3)).trans (Le.forget 4)
    · refine ⟨H', fun y => if y = dd then some (.xd [("part", .str part)]) else none, fun y => if y = dd then some (.xd [("part", .str part)]) else none, ?_, ⟨fun g' σ' H2 D' le ok => ?_, fun _ _ _ _ z _ => z.elim, fun _ _ _ _ z _ => z.elim, fun _ _ _ z => z.elim, fun _ _ _ _ _ _ z => z.elim⟩⟩
      · refine ⟨fun y u e => ?_, Same.refl _, Same.refl _, fun _ z => .inl z, hl, fun i r e => ?_, fun i t e o => ?_, fun i j t u p e1 e2 o1 o2 => ?_⟩
        · by_cases hy : y = dd
          · subst hy; rw [if_pos rfl] at e; cases e; exact hdd
          · rw [if_neg hy] at e; cases e
        · match i, e with
          | 2, e => cases e; exact ⟨.ref a, by rw [List.getElem?_set_self (by rw [List.length_set] at hl; omega)], rfl, if_pos rfl⟩
          | 0, e => cases e
          | 1, e => cases e
          | 3, e => cases e
          | 4, e => cases e
          | 5, e => cases e
          | 6, e => cases e
          | n + 7, e => cases e
        · match i, e with
          | 0, e => cases e; cases o
          | 1, e => cases e; cases o
          | 2, e => cases e; cases o
          | 3, e => cases e; cases o
          | 4, e => cases e; cases o
          | 5, e => cases e; cases o
          | 6, e => cases e; cases o
          | n + 7, e => cases e
        · match i, e1 with
          | 0, e => cases e; cases o1
          | 1, e => cases e; cases o1
          | 2, e => cases e; cases o1
          | 3, e => cases e; cases o1
          | 4, e => cases e; cases o1
          | 5, e => cases e; cases o1
          | 6, e => cases e; cases o1
          | n + 7, e => cases e
      · obtain ⟨D3, s3, ok3⟩ := le _ _ _ _ _ ok
        obtain ⟨v, hv, p, vs, rfl, hp, hvs⟩ := ok3.dat 1 _ rfl
        cases hvs with
        | cons v1 t => cases t with
          | cons v2 t =>
            cases t
            obtain rfl := v1
            obtain rfl := v2
            refine kk p H2 σ' ok3.len hv ok3.fr (ok3.sub _ _ hp) ?_
            rcases ok3.new p (by rw [hp]; simp) with z | z
            · have z : (if p = dd then some (HO.xd [("part", V.str part)]) else none) ≠ none := z
              by_cases hy : p = dd
              · subst hy
                have w := ok3.d0 p (.xd [("part", .str part)]) (if_pos rfl)
                rw [hp] at w; cases w
              · rw [if_neg hy] at z; exact absurd rfl z
            · exact z
  · refine ⟨HeE X.K H Q, fun cls d σ' H' ⟨C, k, part, dd, hC, e1, e2, e3, kk⟩ => ⟨true, by rw [e1]; exact hC.h, fun _ a na => ⟨C, k, part, dd, σ', hC, e1, e2, rfl, e3, fun p H'' σ'' hl h1 s1 hp fr => ?_⟩, nofun⟩, rfl, hco, htl⟩
    refine ⟨.ref p, ?_, kk p H'' s1 hp fr⟩
    rw [List.getElem?_set_ne (by decide)]
    exact h1
end Rf

/-! a lambda that is heard; the table of code objects as a ghost name's own -/
namespace Rf
open PySem PySem.Spec PyProof.Rows L2 LamX
/-! ### raising, the state told -/
def tRx (g : List Sl) (post : List Sl → Prop) (C : Addr) (p : Str) (Ex : XK) : TE := fun σ H _ => ∃ F D0 D, Ok g F D0 σ H D ∧ ∀ g' H2 D2 H' d, post g' → Ok g' F D0 σ H2 D2 → Same D D2 → Same H2 H' → H' d = some (.xd [("part", .str p)]) → Ex (.ref C) (some d) H'
section
variable {X : Cx} {g : List Sl} {C : Addr} {p x : Str} {Ex : XK} {e : Expr} {es : List Expr} {pos p1 : Pos} {lv : Nat} {rel : RelE} {qa : List Rp → List Sl → Prop} {post : List Sl → Prop}
theorem pe_raiX (F : RaiC X.prog X.w X.K X.mg X.base x lv rel) (hx : Passes (L2N.CX X.prog X.w) X Ex) (ha : XA X (e :: es) g qa) (h : ∀ As g', qa As g' → rel As C p ∧ post g') (hr : Room lv X.A) (hg : Gl X x := by rfl) (hdb : (x == ("__debug__" : Str)) = false := by decide) (he : starEach (e :: es) X.env = (false, eval e X.env) :: starEach es X.env := by rfl)
    (hpl : (backTo pos (starEach es X.env)).any (·.1) = false := by rfl) : PE X (.Call (.Name x p1) (e :: es) [] pos) (tRx g post C p Ex) := by
  obtain ⟨f, fd, ps, F, m, kp, b⟩ := F.ex
  refine pe_to (pe_call F hr hg m kp b .nil hx ha hdb he hpl) fun σ H Q ⟨F, D0, D, ok, q⟩ => ⟨F, D0, D, ok, fun As g' vs H' D' hqa ok' dd hvs => ?_⟩
  show SpX rel (vs ++ []) H' Q Ex
  rw [List.append_nil]
  obtain ⟨hrel, hpost⟩ := h As g' hqa
  exact ⟨As, C, p, D', hrel, ok'.sub, hvs, fun H2 d s2 hd => q g' H' D' H2 d hpost ok' dd s2 hd⟩
end
/-! ### heard -/
section
variable {g : List Sl} {F D0 : Hp} {σ : L2.St} {H D : Hp}
/-- the table has one more -/
theorem Ok.table {i : Nat} {P c' : Addr} {q : Str} {ps ps' : Array Value} {H1 : Hp} (ok : Ok g F D0 σ H D) (hg : g[i]? = some (.b P q)) (hP : H P = some (.tbl ps)) (gr : Grown H H1 P c' q ps ps') : ∃ D1, Same D D1 ∧ Ok g F D0 σ H1 D1 := by
  rcases gr with ⟨rfl, _, _⟩ | ⟨nc, rfl, ht, hc⟩
  · exact ⟨D, Same.refl _, ok⟩
  · obtain ⟨p, o, a, b, c, d, f⟩ := ok.own i _ hg rfl
    cases o with
    | tbl qs =>
      obtain ⟨rfl, t1, t2⟩ := f
      rw [b] at hP; cases hP
      have ne : p ≠ c' := ne_of_none b nc
      have ok1 := ok.grow (Grow.new (o := CodeO c' q) ok.sub nc)
      have ok2 := ok1.change (s' := .b p q) (o := .tbl ps') hg rfl a rfl ⟨rfl, ht, fun pos cv hcv => by
        rcases hc pos cv hcv with z | z
        · obtain ⟨c0, e1, e2⟩ := t2 pos cv z
          exact ⟨c0, e1, same_upd (ok.sub.free nc) _ _ e2⟩
        · exact ⟨c', z, upd_same⟩⟩
      rw [set_self' hg] at ok2
      have e : upd (upd H c' (CodeO c' q)) p (.tbl ps') = upd (upd H p (.tbl ps')) c' (CodeO c' q) := by
        funext y
        by_cases h1 : y = p
        · subst h1; rw [upd_same, upd_ne ne, upd_same]
        · by_cases h2 : y = c'
          · subst h2; rw [upd_ne h1, upd_same, upd_same]
          · rw [upd_ne h1, upd_ne h2, upd_ne h2, upd_ne h1]
      rw [e] at ok2
      exact ⟨_, same_upd (ok.sub.free nc), ok2⟩
    | _ => exact f.elim
end
/-- x(lambda: body), the body raises -/
theorem xg_heard {X : Cx} {g : List Sl} {post : List Sl → Prop} {part : Str} {C : Addr} {kd : Kd} {x a : Str} {gf c P : Addr} {k gi : Nat} {pg : Arguments} {bg : List Stmt} {sg : Scope} {dV kV doc pm cdv ct oc : Value} {an od : Option Addr} {osl : Array (Option Value)} {Ng : List Str}
    {params : Arguments} {body : Expr} {scope : Scope} {p lpos pos : Pos} (hg : Gl X x) (hm : X.mg x = some (.ref gf)) (hk : PySem.W.keepIn X.K (.ref gf) = true)
    (lk : X.K.lookup gf = some ⟨oc, od, .func (PySem.W.fnOf x x pg bg sg dV kV doc pm an cdv ct), osl⟩) (hcg : PySem.W.codeIn X.K cdv x = true) (hb : L2.Binds X.K (PySem.W.fnOf x x pg bg sg dV kV doc pm an cdv ct) [a] []) (Sg : FnScope Ng [a] sg) (hNg : Ng[0]? = some a) (hva : Vis sg a)
    (hG : GivesN X Ng x sg gf cdv bg a (X.env.qual ++ "<lambda>") (TTh X.K)) (hC : HeardC X.K C kd)
    (TB : TabB X.base X.mg c P) (hcode : X.env.code = .ref c) (hr : Room (k + 2) X.A) (h3 : 2 ≤ k) (L : LamS X.env.scope scope) (hgi : g[gi]? = some (.b P (X.env.qual ++ "<lambda>"))) (hdef : defaultsOf params X.env = ([], []))
    (hbind : ∀ (q : Str) (cl : List (Str × Addr)) (pm cv ctv : Value), bindArgs (PySem.W.kla_fn "<lambda>" q params body scope cl pm cv ctv) ⟨[], []⟩ = pure [])
    (hbody : ∀ (A : Around) (outer : List Env) (s : Shared) (H : Hp) (E : XK) (f c' : Addr), Room k (lamCxN X A outer s H E scope f c').A → L2N.Takes (lamCxN X A outer s H E scope f c') (fun cls d _ H => E cls d H) → PE (lamCxN X A outer s H E scope f c') body (tRx g post C part E))
    (hdb : (x == ("__debug__" : Str)) = false := by decide) (hd : (a == ("__debug__" : Str)) = false := by decide) (hcd : (a == ("__classdict__" : Str)) = false := by decide) :
    XG X (.Call (.Name x p) [.Lambda params body scope lpos] [] pos) g (fun r g' => r = rT [rStr kd.w.1, rStr part] ∧ post g') := by
  refine pe_to (pe_lamN hg hm hk lk hcg hb Sg hNg hva hG TB hcode hr h3 L hdef hbind (fun A outer s H E f c' hr' tk => hbody A outer s H E f c' hr' tk) hdb hd hcd) fun σ H Q ⟨F, D0, D, ok, kk⟩ => ?_
  obtain ⟨p0, o, a1, b1, c1, d1, f1⟩ := ok.own gi _ hgi rfl
  cases o with
  | tbl ps =>
    obtain ⟨rfl, t1, t2⟩ := f1
    refine ⟨ps, b1, t1, fun pos cv hcv => let ⟨c0, e1, e2⟩ := t2 pos cv hcv; ⟨c0, e1, ok.sub _ _ e2⟩, fun c' H1 ps' gr => ?_⟩
    obtain ⟨D1, s1, ok1⟩ := ok.table hgi b1 gr
    refine ⟨F, D0, D1, ok1, fun g' H2 D2 H' d hp ok2 s2 s3 hd => ⟨C, kd, part, d, hC, rfl, rfl, hd, fun y H'' s4 hy fr => ?_⟩⟩
    have s5 : Same H2 H'' := s3.trans s4
    have frH : Free H2 y := fr.back s3
    have eqv : ∀ u, D2 y = some u → u = HO.tup [.str kd.w.1, .str part] := fun u e => by
      have z := s5 _ _ (ok2.sub _ _ e)
      rw [hy] at z; exact (Option.some.inj z).symm
    have gr2 : Grow H2 D2 H'' (upd D2 y (.tup [.str kd.w.1, .str part])) := by
      refine ⟨s5, fun b u e => ?_, fun b u e => ?_, fun b hb => ?_⟩
      · by_cases hb : b = y
        · subst hb; rw [upd_same, eqv u e]
        · rw [upd_ne hb]; exact e
      · by_cases hb : b = y
        · subst hb; rw [upd_same] at e; cases e; exact hy
        · rw [upd_ne hb] at e; exact s5 _ _ (ok2.sub _ _ e)
      · by_cases hy2 : b = y
        · subst hy2; exact .inr frH
        · rw [upd_ne hy2] at hb; exact .inl hb
    exact kk _ g' (.ref y) H'' _ ⟨rfl, hp⟩ (ok2.grow gr2) ((s1.trans s2).trans gr2.d) ⟨y, _, rfl, upd_same, .cons rfl (.cons rfl .nil)⟩
  | _ => exact f1.elim
end Rf

/-! defs that are handed the jar and change the table -/
namespace Rf
open PySem PySem.Spec PyProof.Rows L2 LamX
section
variable {X : Cx} {pins : List (Addr × Obj)} {σ : L2.St} {H : Hp} {s : Shared}
/-- a name that no one sees may be said to hold anything -/
theorem inv_ghost (I : Inv X pins σ H s) (k : Nat) (v : Option V) (hv : ∀ x, X.N[k]? = some x → ¬ Vis X.env.scope x) : Inv X pins (σ.set k v) H s :=
  ⟨I.ok, I.os, I.bare, I.base, I.loc.elim fun m ⟨hn, hl⟩ => ⟨m, hn, fun i x w e1 e2 e3 => by
    by_cases hi : k = i
    · subst hi; exact absurd e3 (hv x e1)
    · rw [List.getElem?_set_ne hi] at e2; exact hl i x w e1 e2 e3⟩, I.cell, I.free, I.freeC, I.pin, I.hok, by rw [List.length_set]; exact I.len⟩
theorem pss_ghost {b : List Stmt} {t : TS} (k : Nat) (v : Option V) (hv : ∀ x, X.N[k]? = some x → ¬ Vis X.env.scope x) (h : PSs X b t) : PSs X b (fun D σ H => t D (σ.set k v) H) := ⟨fun pins s σ H D I q => h.run pins s _ H D (inv_ghost I k v hv) q⟩
end
def visB (sc : Scope) (x : Str) : Bool := decide (sc.names.lookup x = some .local) || decide (sc.names.lookup x = some .cell) || decide (sc.names.lookup x = some .free)
theorem novis {sc : Scope} {x : Str} (h : visB sc x = false) : ¬ Vis sc x := by
  unfold visB at h
  simp only [Bool.or_eq_false_iff, decide_eq_false_iff_not] at h
  rintro (z | z | z)
  · exact h.1.1 z
  · exact h.1.2 z
  · exact h.2 z
section
variable {g : List Sl} {F D0 : Hp} {σ : L2.St} {H D H' D' : Hp} {i j : Nat} {s s' s2 : Sl} {p P : Addr} {o o' : HO}
/-- one more own object -/
theorem Ok.gain (ok : Ok g F D0 σ H D) (hs : s.own = true) (hP : H P = some o) (hD : D P = none) (hho : s.ho D P o) (hn : ∀ (j : Nat) (t : Sl), g[j]? = some t → t.own = true → σ[j]? ≠ some (some (V.ref P))) : Ok (g.set i s) (fun a => if a = P then none else F a) D0 (σ.set i (some (.ref P))) H D where
  sub := ok.sub
  fr := fun b u e => by
    have e : (if b = P then none else F b) = some u := e
    by_cases hb : b = P
    · rw [if_pos hb] at e; cases e
    · rw [if_neg hb] at e; exact ok.fr b u e
  d0 := ok.d0
  new := fun a h => by
    rcases ok.new a h with z | z
    · exact .inl z
    · by_cases hb : a = P
      · exact .inr (.inl (if_pos hb))
      · refine .inr ?_
        rcases z with z | ⟨u, z, st⟩
        · exact .inl ((if_neg hb).trans z)
        · exact .inr ⟨u, (if_neg hb).trans z, st⟩
  len := by rw [List.length_set, List.length_set]; exact ok.len
  dat := fun j r' q => by
    rcases get_set q with ⟨e, z⟩ | ⟨e, z⟩
    · rw [← z] at hs; cases hs
    · rw [List.getElem?_set_ne e]; exact ok.dat j r' z
  own := fun j s' q o' => by
    rcases get_set q with ⟨e, z⟩ | ⟨e, z⟩
    · subst e
      cases z
      exact ⟨P, o, by rw [List.getElem?_set_self (by rw [ok.len]; exact set_len q)], hP, hD, if_pos rfl, hho⟩
    · rw [List.getElem?_set_ne e]
      obtain ⟨p', u, a, b, c, d, f⟩ := ok.own j s' z o'
      exact ⟨p', u, a, b, c, by show (if p' = P then none else F p') = none; split; · rfl
                                · exact d, f⟩
  apart := fun j k s1 t1 p' q1 q2 o1 o2 e1 e2 => by
    rcases get_set q1 with ⟨e, z⟩ | ⟨e, z⟩
    · rcases get_set q2 with ⟨e', z'⟩ | ⟨e', z'⟩
      · exact e.symm.trans e'
      · subst e
        rw [List.getElem?_set_self (by rw [ok.len]; exact set_len q1)] at e1
        rw [List.getElem?_set_ne e'] at e2
        cases e1
        exact absurd e2 (hn k _ z' o2)
    · rcases get_set q2 with ⟨e', z'⟩ | ⟨e', z'⟩
      · subst e'
        rw [List.getElem?_set_self (by rw [ok.len]; exact set_len q2)] at e2
        rw [List.getElem?_set_ne e] at e1
        cases e2
        exact absurd e1 (hn j _ z o1)
      · rw [List.getElem?_set_ne e] at e1; rw [List.getElem?_set_ne e'] at e2
        exact ok.apart j k s1 t1 p' z z' o1 o2 e1 e2
/-- two own objects are changed by whom they are handed to -/
theorem Ok.into2 {oP' : HO} (ok : Ok g F D0 σ H D) (hg : g[i]? = some s) (hs : s.own = true) (hp : σ[i]? = some (some (.ref p))) (hg2 : g[j]? = some s2) (hs2 : s2.own = true) (hp2 : σ[j]? = some (some (.ref P))) (hij : i ≠ j) (h1 : ∀ a o, a ≠ p → a ≠ P → H a = some o → H' a = some o) (h2 : H' p = some o') (h3 : H' P = some oP') (hs' : s'.own = true) (hho : s'.ho D' p o') (hho2 : s2.ho D' P oP')
    (dd : Same D D') (dh : Same D' H') (dp : D' p = none) (dP : D' P = none) (nw : ∀ a, D' a ≠ none → D a ≠ none ∨ Free H a) : Ok (g.set i s') F D0 σ H' D' := by
  obtain ⟨q, o, a, b, c, d, f⟩ := ok.own i s hg hs
  rw [hp] at a; cases a
  obtain ⟨q2, oP, a2, b2, c2, d2, f2⟩ := ok.own j s2 hg2 hs2
  rw [hp2] at a2; cases a2
  have ne : p ≠ P := fun z => hij (ok.apart i j s s2 p hg hg2 hs hs2 hp (by rw [z]; exact hp2))
  have gr : Grow H D (upd (upd H' p o) P oP) D' := ⟨fun a u e => by
      by_cases hP : a = P
      · subst hP; rw [upd_same, ← e, b2]
      · rw [upd_ne hP]
        by_cases ha : a = p
        · subst ha; rw [upd_same, ← e, b]
        · rw [upd_ne ha]; exact h1 a u ha hP e, dd, fun a u e => by
      have ha : a ≠ p := fun z => by rw [z, dp] at e; cases e
      have hP : a ≠ P := fun z => by rw [z, dP] at e; cases e
      rw [upd_ne hP, upd_ne ha]; exact dh a u e, nw⟩
  have z1 := (ok.grow gr).change (s' := s2) (o := oP') hg2 hs2 hp2 hs2 hho2
  rw [set_self' hg2] at z1
  have z := z1.change (s' := s') (o := o') hg hs hp hs' hho
  have e : upd (upd (upd (upd H' p o) P oP) P oP') p o' = H' := by
    funext q
    by_cases hq : q = p
    · subst hq; rw [upd_same]; exact h2.symm
    · rw [upd_ne hq]
      by_cases hP : q = P
      · subst hP; rw [upd_same]; exact h3.symm
      · rw [upd_ne hP, upd_ne hP, upd_ne hq]
  rw [e] at z
  exact z
end
def SpJB (P : Addr) (q : Str) (rel : RelJ) : Sp := fun vs H Q _ => ∃ p jv cs n A k S D args ps, vs = .ref p :: args ∧ H p = some (.lst jv) ∧ Reps D (jarR cs n) jv ∧ rel A k S ∧ n + k ≤ 1000 ∧ Same D H ∧ D p = none ∧ Reps D A args ∧ (H P = some (.tbl ps) ∧ TabD D q ps ∧ D P = none) ∧
  ∀ r v H' D' jv' ps', S r → (∀ a o, a ≠ p → a ≠ P → H a = some o → H' a = some o) → H' p = some (.lst jv') → Reps D' (jarR cs (n + k)) jv' → Same D D' → Same D' H' → D' p = none → (∀ a, D' a ≠ none → D a ≠ none ∨ Free H a) → (H' P = some (.tbl ps') ∧ TabD D' q ps' ∧ D' P = none) → r.p D' v → Q v H'
structure JarB (P0 : Program) (w : World) (K : PySem.W.Frag) (mg : Str → Option Value) (base : Heap) (name : Str) (k : Nat) (P : Addr) (q : Str) (rel : RelJ) : Prop where
  ex : ∃ f fd ps, FnOk P0 w K mg base CX0 k f fd ps (SpJB P q rel) ∧ mg name = some (.ref f) ∧ PySem.W.keepIn K (.ref f) = true ∧ Binds K fd ps []
section
variable {X : Cx} {g : List Sl} {es : List Expr} {pos p1 p2 : Pos} {A : List Rp} {x y q : Str} {lv k n : Nat} {rel : RelJ} {cs : List Int} {S : Rp → Prop} {P : Addr}
/-- x(jar, ..), which changes the table too -/
theorem xg_jarB (i j : Nat) (F : JarB X.prog X.w X.K X.mg X.base x lv P q rel) {pj : Addr} (hg0 : g[i]? = some (jar pj cs n)) (hgP : g[j]? = some (.b P q)) (hij : i ≠ j) (ha : AG X es g A) (h : rel A k S) (hn : n + k ≤ 1000) (hr : Room lv X.A) (hg : Gl X x := by rfl) (hN : X.N[i]? = some y := by rfl) (hv : Vis X.env.scope y := by first | exact Or.inl rfl | exact Or.inr (Or.inl rfl) | exact Or.inr (Or.inr rfl))
    (hdb : (x == ("__debug__" : Str)) = false := by decide) (hd : (y == ("__debug__" : Str)) = false := by decide) (hcd : (y == ("__classdict__" : Str)) = false := by decide)
    (he : starEach (.Name y p2 :: es) X.env = (false, eval (.Name y p2) X.env) :: starEach es X.env := by rfl) (hpl : (backTo pos (starEach es X.env)).any (·.1) = false := by rfl) :
    XG X (.Call (.Name x p1) (.Name y p2 :: es) [] pos) g (fun r g' => S r ∧ g' = g.set i (jar pj cs (n + k))) := by
  obtain ⟨f, fd, ps, F, m, kp, b⟩ := F.ex
  refine pe_to (pe_call F hr hg m kp b .nil pass0 (pa_cons (pe_var hN hv hd hcd) ha he) hdb he hpl) fun σ H Q ⟨F, D0, D, ok, kk⟩ => ?_
  obtain ⟨p, o, h1, h2, h3, h4, h5⟩ := ok.own i _ hg0 rfl
  obtain ⟨p', o', t1, t2, t3, t4, t5⟩ := ok.own j _ hgP rfl
  refine ⟨.ref p, h1, F, D0, D, ok, fun vs H' D' e hvs => ?_⟩
  have ok' := ok.grow e
  obtain ⟨p', o', w1, w2, w3, w4, w5⟩ := ok'.own i _ hg0 rfl
  rw [h1] at w1; cases w1
  obtain ⟨p', oP, u1, u2, u3, u4, u5⟩ := ok'.own j _ hgP rfl
  rw [t1] at u1; cases u1
  cases o' with
  | lst jv =>
    cases oP with
    | tbl qs =>
      obtain ⟨w5, w6⟩ := w5
      obtain ⟨rfl, u6⟩ := u5
      show SpJB p' q rel (.ref p :: vs ++ []) H' Q E0
      rw [List.append_nil]
      refine ⟨p, jv, cs, n, A, k, S, D', vs, qs, rfl, w2, w6, h, hn, e.i, w3, hvs, ⟨u2, u6, u3⟩, fun r v H2 D2 jv' ps' hS q1 q2 q3 q4 q5 q6 q7 q9 q8 => ?_⟩
      exact kk r _ v H2 D2 ⟨hS, rfl⟩ (ok'.into2 (s2 := .b p' q) hg0 rfl h1 hgP rfl t1 hij q1 q2 q9.1 rfl ⟨w5, q3⟩ ⟨rfl, q9.2.1⟩ q4 q5 q6 q9.2.2 q7) (e.d.trans q4) q8
    | _ => exact u5.elim
  | _ => exact w5.elim
end
section
variable {P0 : Program} {w : World} {K : PySem.W.Frag} {mg : Str → Option Value} {base : Heap} {x qual : Str} {params : Arguments} {body : List Stmt} {scope : Scope} {f C : Addr} {fd : FuncData} {N ps : List Str} {k : Nat} {A : List Rp} {H D : Hp} {p P : Addr} {vs : List V} {q : Str}
/-- the rule for a def, its code told -/
theorem okC {CX : CXT} {sp : Sp} {dvs : List V} {kws : List (Str × V)} {c : Value} (F : FunD K x qual params body scope dvs kws f fd) (hc : fd.code = c) (S : FnScope N ps scope) (len : ∀ vs H Q E, sp vs H Q E → vs.length = ps.length)
    (hbody : ∀ (A : Around) (outer : List Env) (s : Shared) (H : Hp) (vs : List V) (Q : VK) (E : XK), Room k (A.deeper (envOfC qual scope s.heap.objs.size f c)) → sp vs H Q E →
      ∃ t, PSs (cxOf CX P0 w K mg base N qual scope f c A outer s H E) body t ∧ t { nx := fun _ H' => Q .non H', rt := Q } (L2.start N vs) H) : FnOk P0 w K mg base CX (k + 1) f fd ps sp := by
  obtain ⟨oc, od, dV, kV, doc, pm, an, cdv, ct, osl, e, lk, hcd, _, _⟩ := F.ex
  subst e
  obtain rfl : cdv = c := hc
  exact fn_of lk hcd S len hbody
theorem def_jb {rel : RelJ} {cd : Value} (gi : Nat) (hcd : fd.code = cd) (F : FunD K x qual params body scope [] [] f fd) (S : FnScope N ps scope) (hl : ∀ A k S, rel A k S → A.length + 1 = ps.length) (hN : ps.length ≤ N.length) (hg1 : ps.length ≤ gi) (hgv : ∀ x, N[gi]? = some x → visB scope x = false)
    (hb : ∀ (A : Around) (outer : List Env) (s : Shared) (H : Hp) (E : XK), Room k (Bd P0 w K mg base N qual scope f cd A outer s H E).A → ∀ As kk T p cs n (t0 r0 : Int), rel As kk T → n + kk ≤ 1000 → 0 ≤ t0 → t0 ≤ n → 0 ≤ r0 →
      SG (Bd P0 w K mg base N qual scope f cd A outer s H E) body ((.j p [rInts cs, rInt t0, rInt r0] :: g0 (N.drop 1) As).set gi (.b P q)) { rx := fun r g => T r ∧ JarEnd p cs (n + kk) g ∧ g[gi]? = some (.b P q) }) :
    FnOk P0 w K mg base CX0 (k + 1) f fd ps (SpJB P q rel) := by
  refine okC F hcd S (fun vs H Q E ⟨p, jv, cs, n, A, kk, T, D, args, qs, e, _, _, h, _, _, _, hv, _⟩ => by rw [e, List.length_cons, ← hv.length]; exact hl A kk T h) fun A outer s H vs Q E hr ⟨p, jv, cs, n, As, kk, T, D, args, qs, e, hx, hj, h, hn, sD, hD, hv, ⟨hP, hT, hDP⟩, kont⟩ => ?_
  subst e
  have ne : p ≠ P := fun z => by rw [z, hP] at hx; cases hx
  cases hj with
  | cons q1 hj => cases hj with
    | cons q2 hj => cases hj with
      | cons q3 hj =>
        cases hj
        obtain ⟨t0, rfl, h1, h2⟩ := q2
        obtain ⟨r0, rfl, h3⟩ := q3
        refine ⟨_, pss_ghost gi (some (.ref P)) (fun x hx => novis (hgv x hx)) (PSs.nox (hb A outer s H E hr As kk T p cs n t0 r0 h hn h1 h2 h3)), ?_⟩
        have ok0 := ok_startO (A := As) (N := N) (vs := args) (s := .j p [rInts cs, rInt t0, rInt r0]) (H := H) (D := D) (p := p) rfl (by rw [hl As kk T h]; exact hN) sD hv hx hD ⟨rfl, .cons q1 (.cons rfl (.cons rfl .nil))⟩
        have ok1 := ok0.gain (i := gi) (s := .b P q) (P := P) rfl hP hDP ⟨rfl, hT⟩ (fun j t e1 e2 e3 => by
          cases j with
          | zero =>
            have z : (L2.start N (.ref p :: args))[0]? = some (some (V.ref p)) := rfl
            rw [z] at e3; cases e3; exact ne rfl
          | succ j => exact g0_noown (by simpa using e1) e2)
        refine ⟨_, D, D, ok1, ⟨fun _ _ _ _ q _ => q.elim, fun _ _ _ _ q _ => q.elim, fun _ _ _ _ q _ => q.elim, fun _ _ _ q _ => q.elim, fun r g v σ' H' D' ⟨hT, ⟨rs, e, hJ⟩, eP⟩ ok hr => ?_⟩⟩
        obtain ⟨y, o, z1, z2, z3, z4, z5⟩ := ok.own 0 _ e rfl
        obtain ⟨yP, oP, w1, w2, w3, w4, w5⟩ := ok.own gi _ eP rfl
        cases o with
        | lst jv' =>
          cases oP with
          | tbl ps' =>
            obtain ⟨hq, z5⟩ := z5
            subst hq
            obtain ⟨hq, w5⟩ := w5
            subst hq
            refine kont r v H' D' jv' ps' hT (fun b u nb nP hb => ok.fr b u ((if_neg nP).trans ((if_neg nb).trans hb))) z2 (hJ D' jv' z5) ok.d0 ok.sub z3 (fun b hnb => ?_) ⟨w2, w5, w3⟩ hr
            rcases ok.new b hnb with z | z
            · exact .inl z
            · by_cases h1 : b = yP
              · subst h1; exact absurd w3 hnb
              · by_cases h2 : b = y
                · subst h2; exact absurd z3 hnb
                · refine .inr ?_
                  rcases z with z | ⟨u, z, st⟩
                  · have z : (if b = yP then none else (if b = y then none else H b)) = none := z
                    rw [if_neg h1, if_neg h2] at z; exact .inl z
                  · have z : (if b = yP then none else (if b = y then none else H b)) = some u := z
                    rw [if_neg h1, if_neg h2] at z; exact .inr ⟨u, z, st⟩
          | _ => exact w5.elim
        | _ => exact z5.elim
/-- a def of its own that makes a jar, the table handed in -/
theorem ok_ghost {As : List Rp} {N : List Str} {vs : List V} {H D : Hp} {P : Addr} {qs : Array Value} (gi : Nat) (hN : As.length ≤ N.length) (sD : Same D H) (h : Reps D As vs) (hP : H P = some (.tbl qs)) (hD : D P = none) (hT : TabD D q qs) : Ok ((g0 N As).set gi (.b P q)) (fun a => if a = P then none else H a) D ((L2.start N vs).set gi (some (.ref P))) H D :=
  (ok_start hN sD h).gain rfl hP hD ⟨rfl, hT⟩ fun j t e1 e2 _ => g0_noown e1 e2
end
section
variable {X : Cx} {g : List Sl} {es : List Expr} {pos : Pos} {qa : List Rp → List Sl → Prop}
/-- a tuple -/
theorem xg_tup {u} (h : XA X es g qa) (hz : ∀ rs g', qa rs g' → rs.length ≤ 1000) : XG X (.Tuple es u pos) g (fun r g' => ∃ rs, r = rT rs ∧ qa rs g') := pe_to (pe_tup h) fun σ H Q ⟨F, D0, D, ok, k⟩ => ⟨F, D0, D, ok, fun rs g' vs H' D' h1 ok' d hvs =>
  ⟨by rw [← hvs.length]; exact Nat.le_trans (hz _ _ h1) (by decide), fun p n => k (rT rs) g' (.ref p) _ (upd D' p (.tup vs)) ⟨rs, rfl, h1⟩ (ok'.grow (Grow.new ok'.sub n)) (d.trans (same_upd (ok'.sub.free n))) ⟨p, vs, rfl, upd_same, Reps.mono (same_upd (ok'.sub.free n)) hvs⟩⟩⟩
/-- an empty dict -/
def rD0 : Rp := ⟨fun H v => ∃ a, v = .ref a ∧ H a = some (.dK []), fun e ⟨a, h1, h2⟩ => ⟨a, h1, e _ _ h2⟩⟩
theorem eg_d0 : EG X (.Dict [] [] pos) g rD0 := pe_to pe_dnewK fun σ H Q ⟨F, D0, D, ok, k⟩ p n => k (.ref p) _ (upd D p (.dK [])) (Grow.new ok.sub n) ⟨p, rfl, upd_same⟩
theorem ty_D0 {K : PySem.W.Frag} : HasTy K rD0 (.type "dict") := fun H v ⟨a, e, h⟩ => by rw [e]; exact .base (.dK h)
theorem ty_Sn {K : PySem.W.Frag} {n : Nat} : HasTy K (rSn n) (.type "str") := fun H v h => by
  obtain ⟨z, e, _⟩ := h
  rw [e]; exact .base (.str z)
end
end Rf
namespace Rf
open PySem PySem.Spec PyProof.Rows L2 LamX
section
variable {X : Cx} {g : List Sl} {P : Pt} {e : Expr} {rest : List Stmt} {pos p1 p2 p3 : Pos} {x y : Str} {post : Rp → List Sl → Prop} {post2 : Rp → Rp → List Sl → Prop}
/-- x, y = e, what e gives told in two -/
theorem sg_unpY (n m : Nat) {u} (ha : XG X e g post) (hp : ∀ r g', post r g' → ∃ ra rb, r = rT [ra, rb] ∧ post2 ra rb g') (hc : X.calm = true) (nd : X.N.Nodup) (h : ∀ ra rb g', post2 ra rb g' → SG X rest ((g'.set n (.d ra)).set m (.d rb)) P) (hN : X.N[n]? = some x := by rfl) (hN2 : X.N[m]? = some y := by rfl)
    (hx : Loc X.env.scope x := by first | exact Or.inl rfl | exact Or.inr rfl) (hy : Loc X.env.scope y := by first | exact Or.inl rfl | exact Or.inr rfl) (hf : X.fn x = true ∨ X.env.scope.names.lookup x = some .local := by first | exact .inl rfl | exact .inr rfl)
    (hf2 : X.fn y = true ∨ X.env.scope.names.lookup y = some .local := by first | exact .inl rfl | exact .inr rfl) (hw : swappedStores [.Tuple [.Name x p1, .Name y p2] u p3] e X.env = pure none := by rfl)
    (hs : swapsWithSole [.Tuple [.Name x p1, .Name y p2] u p3] e pos.line X.env = pure false := by rfl) : SG X (.Assign [.Tuple [.Name x p1, .Name y p2] u p3] e pos :: rest) g P := by
  have gT : PG X (.Tuple [.Name x p1, .Name y p2] u p3) fun v σ H Q => ∃ ra rb g', tgG (rT [ra, rb]) g' ((g'.set n (.d ra)).set m (.d rb)) [n, m] v σ H Q := ⟨fun pins s σ H v w Q I rv ⟨ra, rb, g', q⟩ => (kg_pair (g := g') (r1 := ra) (r2 := rb) n m hc nd hN hx hf hN2 hy hf2).run pins s σ H v w Q I rv q⟩
  refine sg_cons (N := fun q => ∃ ra rb g', post2 ra rb g' ∧ q = (g'.set n (.d ra)).set m (.d rb)) (ps_to (ps_asg ha gT hs hw) fun E σ H ⟨F, D0, D, ok, p⟩ => ⟨F, D0, D, ok, fun r g' v H' D' h1 ok' d hv => ?_⟩) fun q ⟨ra, rb, g', h1, e⟩ => e ▸ h ra rb g' h1
  obtain ⟨ra, rb, rfl, h2⟩ := hp r g' h1
  exact ⟨ra, rb, g', F, D0, D', ok', hv, fun σ' _ ok2 => p.nx _ _ _ D' ⟨ra, rb, g', h2, rfl⟩ ok2⟩
end
end Rf

/-! not in, by value -/
namespace Rf
open PySem PySem.Spec PyProof.Rows L2
section
variable {X : Cx} {g : List Sl} {a b : Expr} {pos : Pos} {γ : Type} [DecidableEq γ] {p : Pd γ} {fc : γ → Rp} {u : γ} {l : List γ}
theorem any_eqv (p : Pd γ) (u : γ) : ∀ l : List γ, ((l.map p.d).any fun z => PyData.eqv z (p.d u)) = l.any fun z => decide (z = u)
  | [] => rfl
  | z :: l => by rw [List.map_cons, List.any_cons, List.any_cons, p.eqv, any_eqv p u l]
theorem bg_notinD (h1 : DatF fc p) (hu : X.A.units + 65 < cLine) (ha : EG X a g (fc u)) (hb : EG X b g (rL (l.map fc))) (hd : p.dep ≤ 64 := by decide) (hd2 : (pdL p).dep ≤ 64 := by decide) (hm : behindInMarks .NotIn b = false := by rfl) : BG X (.Compare a [.NotIn] [b] pos) g (!(l.any fun z => decide (z = u))) :=
  bg_cmp (op_notInD hu) ha hb hm fun x y H D Q s hx hy k => ⟨p.d u, l.map p.d, h1 u _ H x ((fc u).mono s hx), dat_L h1 l _ H y (Rp.mono (rL (l.map fc)) s hy), pd_shaped p hd u, pd_shaped (pdL p) hd2 l, by rw [any_eqv]; exact k.here s rfl⟩
end
end Rf

namespace Rf
open PySem PySem.Spec PyProof.Rows L2 LamX
abbrev Nr : List Str := ["_law_jar_here", "_law_words", "_law_sewing", "_law_numbers", "_law_bad", "_law_heard_here", "_law_rims_here", "_law_odd", "_law_value", "_law_turned", "_law_far", "_law_one", "_law_two", "_law_three", "_law_word", "_law_number", "#"]
theorem sc_refused : FnScope Nr ["_law_jar_here", "_law_words", "_law_sewing", "_law_numbers"] (defScope (top 108)) := ⟨rfl, rfl, rfl, by decide +kernel, rfl, by decide +kernel, by decide +kernel⟩
abbrev qRef : Str := (envOfC "_law_refused_right" (defScope (top 108)) 0 0 .none).qual ++ "<lambda>"
/-- a lambda without parameters, heard -/
theorem xg_hd {X : Cx} {g : List Sl} {post : List Sl → Prop} {part : Str} {C gf c P : Addr} {kd : Kd} {fdh : FuncData} {body : Expr} {scope : Scope} {p lpos pos : Pos} (F : FnP X.K "_law_heard" (top 107) gf fdh) (gm : X.mg "_law_heard" = some (.ref gf)) (G : HearG X.K X.mg) (hC : HeardC X.K C kd)
    (TB : TabB X.base X.mg c P) (hcode : X.env.code = .ref c) (hr : Room 11 X.A) (L : LamS X.env.scope scope) (hgi : g[16]? = some (.b P (X.env.qual ++ "<lambda>")))
    (hbody : ∀ (A : Around) (outer : List Env) (s : Shared) (H : Hp) (E : XK) (f c' : Addr), Room 9 (lamCxN X A outer s H E scope f c').A → L2N.Takes (lamCxN X A outer s H E scope f c') (fun cls d _ H => E cls d H) → PE (lamCxN X A outer s H E scope f c') body (tRx g post C part E))
    (hg : Gl X "_law_heard" := by rfl) (hdef : defaultsOf ⟨[], [], none, [], [], none, []⟩ X.env = ([], []) := by rfl) :
    XG X (.Call (.Name "_law_heard" p) [.Lambda ⟨[], [], none, [], [], none, []⟩ body scope lpos] [] pos) g (fun r g' => r = rT [rStr kd.w.1, rStr part] ∧ post g') := by
  have b := F.bindsN (ps := ["_law_ask"]) fun _ _ _ _ _ _ us hl => match us, hl with | [_], _ => rfl
  obtain ⟨oc, od, dV, kV, doc, pm, an, cdv, ct, osl, e, lk, hcd, _, _⟩ := F.ex
  subst e
  exact xg_heard hg gm F.kp lk hcd b sc_heard rfl (.inl rfl) (heard_gives G) hC TB hcode hr (by decide) L hgi hdef (fun q cl pm cv ctv => rfl) hbody
def badI (m k : Nat) (l : List Int) : Bool := decide (l.length = m) && l.all fun n => withinB n (some 0) (some (k - 1))
def badW (m k : Nat) (l : List Wv) : Bool := decide (l.length = m) && l.all (Wv.ok (k - 1))
abbrev bad1 (ns : List Int) : List Int := ns ++ [0]
abbrev bad2 (ns : List Int) : List Int := cutL ns (some 1) none
abbrev bad3 (ns : List Int) : List Wv := (List.replicate (ns.length : Int).toNat [Wv.b true]).flatten
abbrev bad4 (ns : List Int) : List Int := [-1] ++ cutL ns (some 1) none
abbrev bad5 (ns : List Int) (k : Nat) : List Int := [(k : Int)] ++ cutL ns (some 1) none
abbrev bad6 (ns : List Int) : List Wv := (List.replicate (ns.length : Int).toNat [Wv.non]).flatten
abbrev badR (ns : List Int) (k : Nat) : List Rp := [rNon, rInt 5, rStr "0", rD0, rInts (bad1 ns), rInts (bad2 ns), rL ((bad3 ns).map Wv.rp), rInts (bad4 ns), rInts (bad5 ns k), rL ((bad6 ns).map Wv.rp)]
abbrev turnH (w : List Int) : List Int := cutL w (some 1) none ++ cutL w none (some 1)
abbrev farH (w : List Int) : List Int := [26] ++ w ++ [-26]
def turnM (w : List Int) : Option (List Int) := if w.length ≤ 60 then some (turnH w) else none
def farM (w : List Int) : Option (List Int) := if w.length ≤ 60 then wordH (farH w) else none
def trn (ws : List (List Int)) : List (List Int) := (ws.map turnH).filter fun w => !(ws.any fun z => decide (z = w))
abbrev relFBn (K : PySem.W.Frag) (S : SewD) (ws : List (List Int)) (nx ns : List Int) : Prop := ns.length ≤ 1000 ∧ badI S.ws.length ws.length ns = true ∧ relFB K [rSew K S, rRims K ws nx, rInts ns] rNon
/-- what the words, the sewing and the numbers are to be -/
structure RefH (K : PySem.W.Frag) (ws : List (List Int)) (S : SewD) (ns nx fnx tnx : List Int) : Prop where
  nz : ns.length ≤ 100
  wz : ws.length ≤ 10
  tc : comp (fun _ => some true) turnM ws = some (ws.map turnH)
  made : relMade K [rL (ws.map rInts)] (rRims K ws nx)
  str : relRStr K [rRims K ws nx] (rSn 20000)
  b1 : badI S.ws.length ws.length (bad1 ns) = false
  b2 : badI S.ws.length ws.length (bad2 ns) = false
  b3 : badW S.ws.length ws.length (bad3 ns) = false
  b4 : badI S.ws.length ws.length (bad4 ns) = false
  b5 : badI S.ws.length ws.length (bad5 ns ws.length) = false
  b6 : badW S.ws.length ws.length (bad6 ns) = false
  farW : comp (fun _ => some true) farM ws = some (ws.map farH)
  farR : relRimsI K [rL ((ws.map farH).map (rWord K))] (rimsF K (ws.map farH) fnx)
  far : relFBn K S (ws.map farH) fnx ns
  turn : trn ws ≠ [] → relMade K [rL ((ws.map turnH).map rInts)] (rRims K (ws.map turnH) tnx) ∧ relFBn K S (ws.map turnH) tnx ns
  swap : ∀ a b, ws = [a, b] → a ≠ b → relFBn K S ws nx (ns.map fun n => 1 - n)
abbrev onw : List (List Int) := [[5, -5], [5, -5]]
abbrev thw : List (List Int) := [[5, -5, 5, -5], [6, -6]]
abbrev thv : List (List Int) := [[5, -5], [6, -6]]
/-- .. the ones that are always made -/
structure FixH (K : PySem.W.Frag) (S1 S3 : SewD) (onx vnx : List Int) (B1 B2 : BagD) : Prop where
  e1 : S1.ws = onw
  r1 : relRimsI K [rL (onw.map (rWord K))] (rimsF K onw S1.nx)
  s1 : relSewI K [rRims K onw S1.nx, rInts [1, 0, 3, 2]] (sewF K S1)
  f1 : relFBn K S1 onw S1.nx [0, 0]
  g1 : relBR K [rSew K S1, rRims K onw S1.nx, rInts [1, 0]] (rBag K B1)
  c1 : B1.copies = 1
  g2 : relBR K [rSew K S1, rRims K onw S1.nx, rInts [0, 1]] (rBag K B2)
  sb : relSB K [rBag K B2, rBuilt K S1 [0, 0]] (rBl false)
  r3 : relRimsI K [rL (thw.map (rWord K))] (rimsF K thw S3.nx)
  s3 : relSewI K [rRims K thw S3.nx, rInts [1, 0, 3, 2, 5, 4]] (sewF K S3)
  r4 : relRimsI K [rL (thv.map (rWord K))] (rimsF K thv vnx)
  f3 : relFBn K S3 thv vnx [0, 1]
inductive relRef (K : PySem.W.Frag) : RelJ
  | mk (ws : List (List Int)) (S S1 S3 : SewD) (ns nx fnx tnx onx vnx : List Int) (B1 B2 : BagD) (R : RefH K ws S ns nx fnx tnx) (Z : FixH K S1 S3 onx vnx B1 B2) : relRef K [rL (ws.map rInts), rSew K S, rInts ns] 2 (fun r => r = rBl true)
/-- what isinstance says of odd things -/
structure OddF (K : PySem.W.Frag) : Prop where
  s0 : PySem.W.kitOne K (.type "NoneType") (.ref (He.ga K "Sewing")) = some false
  s1 : PySem.W.kitOne K (.type "int") (.ref (He.ga K "Sewing")) = some false
  s2 : PySem.W.kitOne K (.ref (He.ga K "Rims")) (.ref (He.ga K "Sewing")) = some false
  s3 : PySem.W.kitOne K (.type "list") (.ref (He.ga K "Sewing")) = some false
  s4 : PySem.W.kitOne K (.type "bool") (.ref (He.ga K "Sewing")) = some false
  s5 : PySem.W.kitOne K (.type "str") (.ref (He.ga K "Sewing")) = some false
  r0 : PySem.W.kitOne K (.type "NoneType") (.ref (He.ga K "Rims")) = some false
  r1 : PySem.W.kitOne K (.type "list") (.ref (He.ga K "Rims")) = some false
  r2 : PySem.W.kitOne K (.type "str") (.ref (He.ga K "Rims")) = some false
  r3 : PySem.W.kitOne K (.ref (He.ga K "Sewing")) (.ref (He.ga K "Rims")) = some false
  l0 : PySem.W.kitOne K (.type "NoneType") (.type "list") = some false
  l1 : PySem.W.kitOne K (.type "NoneType") (.type "tuple") = some false
  l2 : PySem.W.kitOne K (.type "int") (.type "list") = some false
  l3 : PySem.W.kitOne K (.type "int") (.type "tuple") = some false
  l4 : PySem.W.kitOne K (.type "str") (.type "list") = some false
  l5 : PySem.W.kitOne K (.type "str") (.type "tuple") = some false
  l6 : PySem.W.kitOne K (.type "dict") (.type "list") = some false
  l7 : PySem.W.kitOne K (.type "dict") (.type "tuple") = some false
theorem bad_words {K : PySem.W.Frag} {ws : List (List Int)} {S : SewD} {ns nx fnx tnx : List Int} (O : OddF K) (R : RefH K ws S ns nx fnx tnx) : ∀ r ∈ badR ns ws.length, relWords K [rSew K S, rRims K ws nx, r] (rBl false) := by
  have hn := R.nz
  have cz : (cutL ns (some 1) none).length ≤ ns.length := cutL_len ns (some 1) none
  intro r hr
  simp only [badR, List.mem_cons, List.not_mem_nil, or_false] at hr
  rcases hr with rfl | rfl | rfl | rfl | rfl | rfl | rfl | rfl | rfl | rfl
  · exact .no S ws nx _ (notlisted ty_non O.l0 O.l1)
  · exact .no S ws nx _ (notlisted ty_int O.l2 O.l3)
  · exact .no S ws nx _ (notlisted ty_str O.l4 O.l5)
  · exact .no S ws nx _ (notlisted ty_D0 O.l6 O.l7)
  · have z := words_ints (K := K) (S := S) (ws := ws) (nx := nx) (tp := false) (ns := bad1 ns) (by rw [List.length_append]; simp; omega)
    rw [show (decide ((bad1 ns).length = S.ws.length) && (bad1 ns).all fun n => withinB n (some 0) (some (ws.length - 1))) = false from R.b1] at z
    exact z
  · have z := words_ints (K := K) (S := S) (ws := ws) (nx := nx) (tp := false) (ns := bad2 ns) (by show (cutL ns (some 1) none).length ≤ 1000; omega)
    rw [show (decide ((bad2 ns).length = S.ws.length) && (bad2 ns).all fun n => withinB n (some 0) (some (ws.length - 1))) = false from R.b2] at z
    exact z
  · have z := relWords.mk (K := K) S ws nx false (bad3 ns) (by simp; omega)
    rw [show (decide ((bad3 ns).length = S.ws.length) && (bad3 ns).all (Wv.ok (ws.length - 1))) = false from R.b3] at z
    exact z
  · have z := words_ints (K := K) (S := S) (ws := ws) (nx := nx) (tp := false) (ns := bad4 ns) (by rw [List.length_append]; show 1 + _ ≤ 1000; omega)
    rw [show (decide ((bad4 ns).length = S.ws.length) && (bad4 ns).all fun n => withinB n (some 0) (some (ws.length - 1))) = false from R.b4] at z
    exact z
  · have z := words_ints (K := K) (S := S) (ws := ws) (nx := nx) (tp := false) (ns := bad5 ns ws.length) (by rw [List.length_append]; show 1 + _ ≤ 1000; omega)
    rw [show (decide ((bad5 ns ws.length).length = S.ws.length) && (bad5 ns ws.length).all fun n => withinB n (some 0) (some (ws.length - 1))) = false from R.b5] at z
    exact z
  · have z := relWords.mk (K := K) S ws nx false (bad6 ns) (by simp; omega)
    rw [show (decide ((bad6 ns).length = S.ws.length) && (bad6 ns).all (Wv.ok (ws.length - 1))) = false from R.b6] at z
    exact z

abbrev fpp : OkS × OkS → Rp := fun z => rT [rStr z.1.1, rStr z.2.1]
abbrev wS : OkS := ⟨"sewing", by decide +kernel⟩
abbrev wR : OkS := ⟨"rims", by decide +kernel⟩
abbrev wW : OkS := ⟨"words", by decide +kernel⟩
abbrev wT : OkS := ⟨"rounds", by decide +kernel⟩
abbrev slR (K : PySem.W.Frag) (p P : Addr) (cs : List Int) (n : Nat) (ws : List (List Int)) (S : SewD) (ns : List Int) (bad hd rims odd val tur far one two thr : Sl) : List Sl := [jar p cs n, .d (rL (ws.map rInts)), .d (rSew K S), .d (rInts ns), bad, hd, rims, odd, val, tur, far, one, two, thr, .non, .non, .b P qRef]
section
variable {P0 : Program} {w : World} {K : PySem.W.Frag} {mg : Str → Option Value} {base : Heap} {f gf c P : Addr} {fd fdh : FuncData}
/-- x, y = made, one of the odd ones; the bad words -/
theorem ref1 {A : Around} {outer : List Env} {s : Shared} {H : Hp} {E : XK} {PP : Pt} (T : Fre mg) (W : KSew K) (R : KRims K) (C1 : DefC P0 w K mg base "_law_made" 7 (relMade K)) (C2 : JarC P0 w K mg base "_law_pick" 2 relPick)
    (hr : Room 11 (Bd P0 w K mg base Nr "_law_refused_right" (defScope (top 108)) f (.ref c) A outer s H E).A) {ws : List (List Int)} {S : SewD} {ns nx fnx tnx : List Int} {p : Addr} {cs : List Int} {n : Nat} (hR : RefH K ws S ns nx fnx tnx) (hn : n + 1 ≤ 1000)
    (h : ∀ r ∈ [rNon, rInt 5, rRims K S.ws S.nx, rInts S.ms, rBl true, rStr "0"], SG (Bd P0 w K mg base Nr "_law_refused_right" (defScope (top 108)) f (.ref c) A outer s H E) ((defBody (top 108)).drop 2) (slR K p P cs (n + 1) ws S ns (.l (badR ns ws.length)) .non (.d (rRims K ws nx)) (.d r) .non .non .non .non .non .non) PP) :
    SG (Bd P0 w K mg base Nr "_law_refused_right" (defScope (top 108)) f (.ref c) A outer s H E) (defBody (top 108)) (slR K p P cs n ws S ns .non .non .non .non .non .non .non .non .non .non) PP := by
  have cz := cutL_len ns (some 1) none
  have hz := hR.nz
  have wz := hR.wz
  refine sg_unpY 6 7 (post2 := fun ra rb g' => ra = rRims K ws nx ∧ rb ∈ [rNon, rInt 5, rRims K S.ws S.nx, rInts S.ms, rBl true, rStr "0"] ∧ g' = slR K p P cs (n + 1) ws S ns .non .non .non .non .non .non .non .non .non .non)
    (xg_tup (xa_cons (xg_eg (eg_call C1 (ag_cons (eg_name 1) ag_nil) hR.made (hr.mono (by decide)))) (q3 := fun r rs g2 => ∃ r2, rs = [r2] ∧ r2 ∈ [rNon, rInt 5, rRims K S.ws S.nx, rInts S.ms, rBl true, rStr "0"] ∧ g2 = slR K p P cs (n + 1) ws S ns .non .non .non .non .non .non .non .non .non .non) fun r g' h' => ?_) (fun rs g' h' => ?_)) (fun r g' h' => ?_) rfl sc_refused.nd (fun ra rb g' h' => ?_)
  · obtain ⟨_, rfl⟩ := h'
    refine xa_to (xa_one (xg_jar 0 C2 rfl (A := [rL [rNon, rInt 5, rRims K S.ws S.nx, rInts S.ms, rBl true, rStr "0"]]) (ag_cons (eg_n (ng_lst (ag_cons eg_non (ag_cons eg_int (ag_cons (eg_fld W.c.cl (W.n _ (by decide)) (eg_name 2)) (ag_cons (eg_n (ng_listT T.list (eg_fld W.c.cl (W.n _ (by decide)) (eg_name 2)))) (ag_cons eg_bl (ag_cons eg_str ag_nil)))))))) ag_nil) (relPick.mk [rNon, rInt 5, rRims K S.ws S.nx, rInts S.ms, rBl true, rStr "0"] ⟨Nat.le_of_ble_eq_true rfl, Nat.le_of_ble_eq_true rfl⟩) hn (hr.mono (by decide)))) fun rs g' h' => by
      obtain ⟨r2, e1, ⟨i, hi⟩, e2⟩ := h'
      exact ⟨r2, e1, List.mem_of_getElem? hi, e2⟩
  · obtain ⟨r1, rs', g1, rfl, _, r2, rfl, _⟩ := h'
    exact Nat.le_of_ble_eq_true rfl
  · obtain ⟨rs, rfl, r1, rs', g1, rfl, ⟨rfl, _⟩, r2, rfl, hm, e2⟩ := h'
    exact ⟨_, r2, rfl, rfl, hm, e2⟩
  · obtain ⟨rfl, hm, rfl⟩ := h'
    refine sg_setN 4 (rs := badR ns ws.length) (ng_lst (ag_cons eg_non (ag_cons eg_int (ag_cons eg_str (ag_cons eg_d0 (ag_cons (eg_n ?_) (ag_cons (eg_n ?_) (ag_cons (eg_n ?_) (ag_cons (eg_n ?_) (ag_cons (eg_n ?_) (ag_cons (eg_n ?_) ag_nil))))))))))) sc_refused.nd (h _ hm)
    · exact ng_cat1 (fa := rInt) (l := ns) (l' := [0]) (by show ns.length + 1 ≤ 100000; omega) (eg_name 3) (eg_n (ng_lst (ag_cons eg_int ag_nil)))
    · exact ng_slL1 (fa := rInt) (eg_name 3) (og_some eg_int) og_none
    · exact ng_rep1 (fa := Wv.rp) (l := [Wv.b true]) (by show 1 * _ ≤ 100000; omega) (by omega) (eg_n (ng_lst (ag_cons eg_bl ag_nil))) (eg_lenL1 (fa := rInt) T.len (eg_name 3))
    · exact ng_cat1 (fa := rInt) (l := [-1]) (l' := cutL ns (some 1) none) (by show 1 + _ ≤ 100000; omega) (eg_n (ng_lst (ag_cons (eg_neg eg_int) ag_nil))) (eg_n (ng_slL1 (fa := rInt) (eg_name 3) (og_some eg_int) og_none))
    · exact ng_cat1 (fa := rInt) (l := [(ws.length : Int)]) (l' := cutL ns (some 1) none) (by show 1 + _ ≤ 100000; omega) (eg_n (ng_lst (ag_cons (eg_lenL1 (fa := rInts) T.len (eg_name 1)) ag_nil))) (eg_n (ng_slL1 (fa := rInt) (eg_name 3) (og_some eg_int) og_none))
    · exact ng_rep1 (fa := Wv.rp) (l := [Wv.non]) (by show 1 * _ ≤ 100000; omega) (by omega) (eg_n (ng_lst (ag_cons eg_non ag_nil))) (eg_lenL1 (fa := rInt) T.len (eg_name 3))

abbrev odds (K : PySem.W.Frag) (S : SewD) : List Rp := [rNon, rInt 5, rRims K S.ws S.nx, rInts S.ms, rBl true, rStr "0"]
theorem odd_ty (O : OddF K) (R : KRims K) {S : SewD} : ∀ r ∈ odds K S, ∃ t, HasTy K r t ∧ PySem.W.kitOne K t (.ref (He.ga K "Sewing")) = some false := by
  intro r hr
  simp only [odds, List.mem_cons, List.not_mem_nil, or_false] at hr
  rcases hr with rfl | rfl | rfl | rfl | rfl | rfl
  · exact ⟨_, ty_non, O.s0⟩
  · exact ⟨_, ty_int, O.s1⟩
  · exact ⟨_, ty_I R.c, O.s2⟩
  · exact ⟨_, ty_L, O.s3⟩
  · exact ⟨_, ty_bl, O.s4⟩
  · exact ⟨_, ty_str, O.s5⟩
theorem odd_rims (O : OddF K) (W : KSew K) {S : SewD} {ws : List (List Int)} {m : Nat} : ∀ r ∈ [rNon, rL (ws.map rInts), rSn m, rSew K S], ∃ t, HasTy K r t ∧ PySem.W.kitOne K t (.ref (He.ga K "Rims")) = some false := by
  intro r hr
  simp only [List.mem_cons, List.not_mem_nil, or_false] at hr
  rcases hr with rfl | rfl | rfl | rfl
  · exact ⟨_, ty_non, O.r0⟩
  · exact ⟨_, ty_L, O.r1⟩
  · exact ⟨_, ty_Sn, O.r2⟩
  · exact ⟨_, ty_I W.c, O.r3⟩
/-- the first two are heard -/
theorem ref2 {A : Around} {outer : List Env} {s : Shared} {H : Hp} {E : XK} {PP : Pt} (T : Fre mg) (W : KSew K) (R : KRims K) (O : OddF K) (C2 : JarC P0 w K mg base "_law_pick" 2 relPick) (C3 : RaiC P0 w K mg base "bag_of_rounds" 9 (relBX K)) (C4 : MethC P0 w K mg base (He.ga K "Rims") "__str__" 5 (relRStr K))
    (Fh : FnP K "_law_heard" (top 107) gf fdh) (gmh : mg "_law_heard" = some (.ref gf)) (G : HearG K mg) (TB : TabB base mg c P) (H1 : HeardC K (He.ga K "BadSewing") .sewing) (H2 : HeardC K (He.ga K "BadRims") .rims)
    (hr : Room 11 (Bd P0 w K mg base Nr "_law_refused_right" (defScope (top 108)) f (.ref c) A outer s H E).A) {ws : List (List Int)} {S : SewD} {ns nx fnx tnx : List Int} {p : Addr} {cs : List Int} {n : Nat} (hR : RefH K ws S ns nx fnx tnx) (hn : n + 1 ≤ 1000) {r : Rp} (hm : r ∈ odds K S) {bad : Sl}
    (h : SG (Bd P0 w K mg base Nr "_law_refused_right" (defScope (top 108)) f (.ref c) A outer s H E) ((defBody (top 108)).drop 5) (slR K p P cs (n + 1) ws S ns bad (.d (rL ([(wS, wS), (wR, wR)].map fpp))) (.d (rRims K ws nx)) (.d r) .non .non .non .non .non .non) PP) :
    SG (Bd P0 w K mg base Nr "_law_refused_right" (defScope (top 108)) f (.ref c) A outer s H E) ((defBody (top 108)).drop 2) (slR K p P cs n ws S ns bad .non (.d (rRims K ws nx)) (.d r) .non .non .non .non .non .non) PP := by
  obtain ⟨t, ht, hk⟩ := odd_ty O R r hm
  refine sg_setXN 5 (xn_lst (xa_one (xg_hd (part := "sewing") (post := fun g' => g' = slR K p P cs n ws S ns bad .non (.d (rRims K ws nx)) (.d r) .non .non .non .non .non .non) Fh gmh G H1 TB rfl hr (lamS_by (sc := defScope (top 108)) (by decide +kernel)) rfl fun A2 o2 s2 h2 E2 f2 c2 hr2 tk => ?_)) fun rs g' h' => ?_) sc_refused.nd fun rs g' h' => ?_
  · exact pe_raiX C3 (L2N.passes_call tk fun _ _ _ _ z => z) (xa_ag (ag_cons (eg_name 7) (ag_cons eg_non (ag_cons eg_non ag_nil)))) (fun As g' e => by
      obtain ⟨rfl, rfl⟩ := e
      exact ⟨.sew r rNon rNon t ht hk, rfl⟩) hr2
  · obtain ⟨r1, rfl, _⟩ := h'
    exact Nat.le_of_ble_eq_true rfl
  · obtain ⟨r1, rfl, rfl, rfl⟩ := h'
    refine sg_appendX 5 rfl (xg_hd (part := "rims") (post := fun g' => g' = slR K p P cs (n + 1) ws S ns bad (.l [rT [rStr Kd.sewing.w.1, rStr "sewing"]]) (.d (rRims K ws nx)) (.d r) .non .non .non .non .non .non) Fh gmh G H2 TB rfl hr (lamS_by (sc := defScope (top 108)) (by decide +kernel)) rfl fun A2 o2 s2 h2 E2 f2 c2 hr2 tk => ?_) fun r2 g' h' => ?_
    · refine pe_raiX C3 (L2N.passes_call tk fun _ _ _ _ z => z) (xa_cons (xg_eg (eg_name 2)) (q3 := fun _ rs g2 => ∃ r2, rs = [r2, rNon] ∧ r2 ∈ [rNon, rL (ws.map rInts), rSn 20000, rSew K S] ∧ g2 = slR K p P cs (n + 1) ws S ns bad (.l [rT [rStr Kd.sewing.w.1, rStr "sewing"]]) (.d (rRims K ws nx)) (.d r) .non .non .non .non .non .non) fun r3 g3 h3 => ?_) (fun As g' e => ?_) hr2
      · obtain ⟨_, rfl⟩ := h3
        refine xa_to (xa_cons (q3 := fun _ rs g2 => rs = [rNon] ∧ g2 = slR K p P cs (n + 1) ws S ns bad (.l [rT [rStr Kd.sewing.w.1, rStr "sewing"]]) (.d (rRims K ws nx)) (.d r) .non .non .non .non .non .non) (xg_jar 0 C2 rfl (A := [rL [rNon, rL (ws.map rInts), rSn 20000, rSew K S]]) (ag_cons (eg_n (ng_lst (ag_cons eg_non (ag_cons (eg_name 1) (ag_cons (eg_strOwn C4 (hr2.mono (by decide)) hR.str T.str (eg_name 6)) (ag_cons (eg_name 2) ag_nil)))))) ag_nil) (relPick.mk [rNon, rL (ws.map rInts), rSn 20000, rSew K S] ⟨Nat.le_of_ble_eq_true rfl, Nat.le_of_ble_eq_true rfl⟩) hn (hr2.mono (by decide))) fun r4 g4 h4 => ?_) fun rs g4 h4 => ?_
        · obtain ⟨_, rfl⟩ := h4
          exact xa_ag (ag_cons eg_non ag_nil)
        · obtain ⟨r4, rs', g5, rfl, ⟨⟨i, hi⟩, rfl⟩, rfl, rfl⟩ := h4
          exact ⟨r4, rfl, List.mem_of_getElem? hi, rfl⟩
      · obtain ⟨r3, rs', g1, rfl, ⟨rfl, rfl⟩, r4, rfl, hm4, rfl⟩ := e
        obtain ⟨t4, ht4, hk4⟩ := odd_rims O W r4 hm4
        exact ⟨.rims S r4 rNon t4 ht4 hk4, rfl⟩
    · obtain ⟨rfl, rfl⟩ := h'
      refine ⟨[rT [rStr Kd.sewing.w.1, rStr "sewing"]], rfl, Nat.le_of_ble_eq_true rfl, ?_⟩
      refine sg_le (Le.freeze 5 rfl rfl) ?_
      exact sg_ifF (k := !decide ([(wS, wS), (wR, wR)] = [(wS, wS), (wR, wR)])) (bg_ned (dat_L (dat_P dat_str dat_str)) (dat_L (dat_P dat_str dat_str)) hr.units (eg_name 5) (eg_n (ng_lst (ag_cons (eg_tup (ag_cons eg_str (ag_cons eg_str ag_nil))) (ag_cons (eg_tup (ag_cons eg_str (ag_cons eg_str ag_nil))) ag_nil))))) (by rw [decide_eq_true rfl]; rfl) h
end
end Rf

namespace Rf
open PySem PySem.Spec PyProof.Rows L2 LamX
section
variable {P0 : Program} {w : World} {K : PySem.W.Frag} {mg : Str → Option Value} {base : Heap} {f gf c P : Addr} {fd fdh : FuncData}
/-- the bad numbers -/
theorem ref3 {A : Around} {outer : List Env} {s : Shared} {H : Hp} {E : XK} {PP : Pt} (O : OddF K) (C3 : RaiC P0 w K mg base "bag_of_rounds" 9 (relBX K))
    (Fh : FnP K "_law_heard" (top 107) gf fdh) (gmh : mg "_law_heard" = some (.ref gf)) (G : HearG K mg) (TB : TabB base mg c P) (H3 : HeardC K (He.ga K "BadNumber") .number)
    (hr : Room 11 (Bd P0 w K mg base Nr "_law_refused_right" (defScope (top 108)) f (.ref c) A outer s H E).A) {ws : List (List Int)} {S : SewD} {ns nx fnx tnx : List Int} {p : Addr} {cs : List Int} {n : Nat} (hR : RefH K ws S ns nx fnx tnx) {odd hd : Sl}
    (h : SG (Bd P0 w K mg base Nr "_law_refused_right" (defScope (top 108)) f (.ref c) A outer s H E) ((defBody (top 108)).drop 6) (slR K p P cs n ws S ns (.d (rL (badR ns ws.length))) hd (.d (rRims K ws nx)) odd .non .non .non .non .non .non) PP) :
    SG (Bd P0 w K mg base Nr "_law_refused_right" (defScope (top 108)) f (.ref c) A outer s H E) ((defBody (top 108)).drop 5) (slR K p P cs n ws S ns (.l (badR ns ws.length)) hd (.d (rRims K ws nx)) odd .non .non .non .non .non .non) PP := by
  refine sg_le (Le.freeze 4 rfl rfl) ?_
  refine sg_for (S := Unit) (fa := fun r : Rp => r) (l := badR ns ws.length) (fun _ => slR K p P cs n ws S ns (.d (rL (badR ns ws.length))) hd (.d (rRims K ws nx)) odd .non .non .non .non .non .non) (fun _ _ => some ()) (fun _ x => slR K p P cs n ws S ns (.d (rL (badR ns ws.length))) hd (.d (rRims K ws nx)) odd (.d x) .non .non .non .non .non) [8] (s0 := ()) (s1 := ()) ?_ rfl (Le.refl _) rfl (fun _ x => kg_name 8 sc_refused.nd) (fun _ x _ hx _ => ?_) h
  · rw [List.map_id']
    exact ig_list (eg_name 4)
  · have hz := bad_words O hR x hx
    have one : (!decide (((Kd.number.w, wW) : OkS × OkS) = (Kd.number.w, wW))) = false := by rw [decide_eq_true rfl]; rfl
    refine sg_ifXF (pt := fun k g' => k = false ∧ g' = slR K p P cs n ws S ns (.d (rL (badR ns ws.length))) hd (.d (rRims K ws nx)) odd (.d x) .non .non .non .non .non) (xt_cmp (q2 := fun _ g1 r' g' => r' = fpp (Kd.number.w, wW) ∧ g' = g1) (op_neD hr.units) (xg_hd (part := "words") (post := fun g' => g' = slR K p P cs n ws S ns (.d (rL (badR ns ws.length))) hd (.d (rRims K ws nx)) odd (.d x) .non .non .non .non .non) Fh gmh G H3 TB rfl hr (lamS_by (sc := defScope (top 108)) (by decide +kernel)) rfl fun A2 o2 s2 h2 E2 f2 c2 hr2 tk => ?_) (fun r1 g1 h1 => ?_) (nomark _) (fun r1 g1 r2 g2 h1 h2 => ?_)) (fun b g' h' => h'.1) (fun g' h' => ?_)
    · exact pe_raiX C3 (L2N.passes_call tk fun _ _ _ _ z => z) (xa_ag (ag_cons (eg_name 2) (ag_cons (eg_name 6) (ag_cons (eg_name 8) ag_nil)))) (fun As g' e => by
        obtain ⟨rfl, rfl⟩ := e
        exact ⟨.num S ws nx x hz, rfl⟩) hr2
    · obtain ⟨rfl, rfl⟩ := h1
      exact xg_eg (eg_tup (ag_cons eg_str (ag_cons eg_str ag_nil)))
    · obtain ⟨rfl, rfl⟩ := h1
      obtain ⟨rfl, rfl⟩ := h2
      exact ⟨false, ⟨rfl, rfl⟩, fun x y H D Q sD hx hy k => ned (u := ((Kd.number.w, wW) : OkS × OkS)) (v := (Kd.number.w, wW)) (dat_P dat_str dat_str) (dat_P dat_str dat_str) (by decide) sD hx hy (by rw [one]; exact k)⟩
    · obtain ⟨_, rfl⟩ := h'
      exact sg_nil (Le.forget 8)

def mf : OkS × OkS := (Kd.misfit.w, wT)
abbrev hdm (m : Nat) : Sl := .l ((List.replicate m mf).map fpp)
theorem hdm_app {m : Nat} {r : Rp} (h : r = fpp mf) : (List.replicate m mf).map fpp ++ [r] = (List.replicate (m + 1) mf).map fpp := by
  rw [List.replicate_succ', List.map_append, h]; rfl
abbrev noA : Arguments := ⟨[], [], none, [], [], none, []⟩
/-- one more misfit is heard -/
theorem sg_mis {A : Around} {outer : List Env} {s : Shared} {H : Hp} {E : XK} {PP : Pt} {g : List Sl} {m : Nat} {body : Expr} {scope : Scope} {rest : List Stmt} {p1 p2 p3 p4 q1 q2 lpos : Pos} (Fh : FnP K "_law_heard" (top 107) gf fdh) (gmh : mg "_law_heard" = some (.ref gf)) (G : HearG K mg) (TB : TabB base mg c P) (H4 : HeardC K (He.ga K "Misfit") .misfit)
    (hr : Room 11 (Bd P0 w K mg base Nr "_law_refused_right" (defScope (top 108)) f (.ref c) A outer s H E).A) (h5 : g[5]? = some (hdm m)) (hm : m ≤ 1000) (h16 : g[16]? = some (.b P qRef)) (L : LamS (defScope (top 108)) scope)
    (hb : ∀ (A2 : Around) (o2 : List Env) (s2 : Shared) (h2 : Hp) (E2 : XK) (f2 c2 : Addr), Room 9 (lamCxN (Bd P0 w K mg base Nr "_law_refused_right" (defScope (top 108)) f (.ref c) A outer s H E) A2 o2 s2 h2 E2 scope f2 c2).A → L2N.Takes (lamCxN (Bd P0 w K mg base Nr "_law_refused_right" (defScope (top 108)) f (.ref c) A outer s H E) A2 o2 s2 h2 E2 scope f2 c2) (fun cls d _ H => E2 cls d H) → PE (lamCxN (Bd P0 w K mg base Nr "_law_refused_right" (defScope (top 108)) f (.ref c) A outer s H E) A2 o2 s2 h2 E2 scope f2 c2) body (tRx g (fun g' => g' = g) (He.ga K "Misfit") "rounds" E2))
    (h : SG (Bd P0 w K mg base Nr "_law_refused_right" (defScope (top 108)) f (.ref c) A outer s H E) rest (g.set 5 (hdm (m + 1))) PP) (hline : (p2.endLine == p3.line) = true := by rfl) :
    SG (Bd P0 w K mg base Nr "_law_refused_right" (defScope (top 108)) f (.ref c) A outer s H E) (.Expr (.Call (.Attribute (.Name "_law_heard_here" p1) "append" p2) [.Call (.Name "_law_heard" q1) [.Lambda noA body scope lpos] [] q2] [] p3) p4 :: rest) g PP := by
  refine sg_appendX 5 h5 (xg_hd (part := "rounds") (post := fun g' => g' = g) Fh gmh G H4 TB rfl hr L h16 hb) (fun r2 g' h' => ?_) rfl (.inl rfl) (by decide) (by decide) rfl rfl hline
  obtain ⟨rfl, rfl⟩ := h'
  refine ⟨_, h5, by rw [List.length_map, List.length_replicate]; omega, ?_⟩
  have z := hdm_app (m := m) (r := rT [rStr Kd.misfit.w.1, rStr "rounds"]) rfl
  rw [z]
  exact h

/-- turned and far ones -/
theorem ref4 {A : Around} {outer : List Env} {s : Shared} {H : Hp} {E : XK} {PP : Pt} (C3 : RaiC P0 w K mg base "bag_of_rounds" 9 (relBX K)) (C5 : MakeC P0 w K mg base "Rims" (He.ga K "Rims") 2 (relRimsI K)) (C6 : MakeC P0 w K mg base "Word" (He.ga K "Word") 5 relWordI)
    (Fh : FnP K "_law_heard" (top 107) gf fdh) (gmh : mg "_law_heard" = some (.ref gf)) (G : HearG K mg) (TB : TabB base mg c P) (H4 : HeardC K (He.ga K "Misfit") .misfit)
    (hr : Room 11 (Bd P0 w K mg base Nr "_law_refused_right" (defScope (top 108)) f (.ref c) A outer s H E).A) {ws : List (List Int)} {S : SewD} {ns nx fnx tnx : List Int} {p : Addr} {cs : List Int} {n : Nat} (hR : RefH K ws S ns nx fnx tnx) {bad odd hd : Sl}
    (h : SG (Bd P0 w K mg base Nr "_law_refused_right" (defScope (top 108)) f (.ref c) A outer s H E) ((defBody (top 108)).drop 9) (slR K p P cs n ws S ns bad (hdm 1) (.d (rRims K ws nx)) odd .non (.d (rL ((ws.map turnH).map rInts))) (.d (rRims K (ws.map farH) fnx)) .non .non .non) PP) :
    SG (Bd P0 w K mg base Nr "_law_refused_right" (defScope (top 108)) f (.ref c) A outer s H E) ((defBody (top 108)).drop 6) (slR K p P cs n ws S ns bad hd (.d (rRims K ws nx)) odd .non .non .non .non .non .non) PP := by
  obtain ⟨f1, f2, f3⟩ := hR.far
  refine sg_set 9 (eg_n (ng_lc (fa := rInts) (fb := rInts) (l := ws) [("_law_word", 14)] (fun x => (slR K p P cs n ws S ns bad hd (.d (rRims K ws nx)) odd .non .non .non .non .non .non).set 14 (.d (rInts x))) (fun _ => some true) turnM rfl sc_refused.nd (ig_list (eg_name 1)) hR.tc (blkOk_by (N := Nr) (sc := defScope (top 108)) (by decide +kernel))
      (fun x s H C cl fp => kg_name 14 sc_refused.nd) (fun x k s H C cl fp e => by cases e; exact ts_nil) (fun x y s H C cl fp _ e => ?_))) sc_refused.nd ?_
  · unfold turnM at e
    by_cases hx : x.length ≤ 60
    · rw [if_pos hx] at e
      cases e
      have c1 := cutL_len x (some 1) none
      have c2 := cutL_len x none (some 1)
      exact eg_n (ng_cat1 (fa := rInt) (by omega) (eg_n (ng_slL1 (fa := rInt) (eg_name 14) (og_some eg_int) og_none)) (eg_n (ng_slL1 (fa := rInt) (eg_name 14) og_none (og_some eg_int))))
    · rw [if_neg hx] at e; cases e
  · refine sg_set 10 (eg_make C5 (ag_cons (eg_n (ng_lc (fa := rInts) (fb := rWord K) (l := ws) [("_law_word", 14)] (fun x => (slR K p P cs n ws S ns bad hd (.d (rRims K ws nx)) odd .non (.d (rL ((ws.map turnH).map rInts))) .non .non .non .non).set 14 (.d (rInts x))) (fun _ => some true) farM rfl sc_refused.nd (ig_list (eg_name 1)) hR.farW (blkOk_by (N := Nr) (sc := defScope (top 108)) (by decide +kernel))
      (fun x s H C cl fp => kg_name 14 sc_refused.nd) (fun x k s H C cl fp e => by cases e; exact ts_nil) (fun x y s H C cl fp _ e => ?_))) ag_nil) hR.farR (hr.mono (by decide))) sc_refused.nd ?_
    · unfold farM at e
      by_cases hx : x.length ≤ 60
      · rw [if_pos hx] at e
        obtain ⟨rfl, hw⟩ := wordH_rel e
        exact eg_make C6 (ag_cons (eg_n (ng_cat1 (fa := rInt) (l := [26] ++ x) (l' := [-26]) (by rw [List.length_append]; show 1 + _ + 1 ≤ 100000; omega) (eg_n (ng_cat1 (fa := rInt) (l := [26]) (l' := x) (by show 1 + _ ≤ 100000; omega) (eg_n (ng_lst (ag_cons eg_int ag_nil))) (eg_name 14))) (eg_n (ng_lst (ag_cons (eg_neg eg_int) ag_nil))))) ag_nil) hw (hr.mono (by decide))
      · rw [if_neg hx] at e; cases e
    · refine sg_setXN 5 (xn_lst (xa_one (xg_hd (part := "rounds") (post := fun g' => g' = slR K p P cs n ws S ns bad hd (.d (rRims K ws nx)) odd .non (.d (rL ((ws.map turnH).map rInts))) (.d (rRims K (ws.map farH) fnx)) .non .non .non) Fh gmh G H4 TB rfl hr (lamS_by (sc := defScope (top 108)) (by decide +kernel)) rfl fun A2 o2 s2 h2 E2 f2' c2 hr2 tk => ?_)) fun rs g' h' => ?_) sc_refused.nd fun rs g' h' => ?_
      · exact pe_raiX C3 (L2N.passes_call tk fun _ _ _ _ z => z) (xa_ag (ag_cons (eg_name 2) (ag_cons (eg_name 10) (ag_cons (eg_name 3) ag_nil)))) (fun As g' e => by
          obtain ⟨rfl, rfl⟩ := e
          exact ⟨.mis S (ws.map farH) fnx false ns f1 f2 f3, rfl⟩) hr2
      · obtain ⟨r1, rfl, _⟩ := h'
        exact Nat.le_of_ble_eq_true rfl
      · obtain ⟨r1, rfl, rfl, rfl⟩ := h'
        exact h
end
end Rf

namespace Rf
open PySem PySem.Spec PyProof.Rows L2 LamX
def lamScOf (s : Stmt) : Scope := match s with
  | .If _ [.Expr (.Call _ [.Call _ [.Lambda _ _ sc _] _ _] _ _) _] _ _ => sc
  | _ => defScope s
section
variable {P0 : Program} {w : World} {K : PySem.W.Frag} {mg : Str → Option Value} {base : Heap} {f gf c P : Addr} {fd fdh : FuncData}
/-- turned ones that are not among the words -/
theorem ref5 {A : Around} {outer : List Env} {s : Shared} {H : Hp} {E : XK} {PP : Pt} (C1 : DefC P0 w K mg base "_law_made" 7 (relMade K)) (C3 : RaiC P0 w K mg base "bag_of_rounds" 9 (relBX K))
    (Fh : FnP K "_law_heard" (top 107) gf fdh) (gmh : mg "_law_heard" = some (.ref gf)) (G : HearG K mg) (TB : TabB base mg c P) (H4 : HeardC K (He.ga K "Misfit") .misfit)
    (hr : Room 11 (Bd P0 w K mg base Nr "_law_refused_right" (defScope (top 108)) f (.ref c) A outer s H E).A) {ws : List (List Int)} {S : SewD} {ns nx fnx tnx : List Int} {p : Addr} {cs : List Int} {n : Nat} (hR : RefH K ws S ns nx fnx tnx) {bad odd far : Sl}
    (h : ∀ m, m ≤ 2 → SG (Bd P0 w K mg base Nr "_law_refused_right" (defScope (top 108)) f (.ref c) A outer s H E) ((defBody (top 108)).drop 10) (slR K p P cs n ws S ns bad (hdm m) (.d (rRims K ws nx)) odd .non (.d (rL ((ws.map turnH).map rInts))) far .non .non .non) PP) :
    SG (Bd P0 w K mg base Nr "_law_refused_right" (defScope (top 108)) f (.ref c) A outer s H E) ((defBody (top 108)).drop 9) (slR K p P cs n ws S ns bad (hdm 1) (.d (rRims K ws nx)) odd .non (.d (rL ((ws.map turnH).map rInts))) far .non .non .non) PP := by
  have hu : (Bd P0 w K mg base Nr "_law_refused_right" (defScope (top 108)) f (.ref c) A outer s H E).A.units + 65 < cLine := by have := hr.un; omega
  have hy : comp (fun w => some (!(ws.any fun z => decide (z = w)))) (fun w => some w) (ws.map turnH) = some (trn ws) := by
    have z := comp_filter (p := fun w => !(ws.any fun z => decide (z = w))) (f := fun w : List Int => w) (l := ws.map turnH) (by rw [List.length_map]; have := hR.wz; omega)
    rw [List.map_id'] at z
    exact z
  by_cases ht : trn ws = []
  · refine sg_ifF (k := !decide (trn ws = [])) (bg_ned (u := trn ws) (v := ([] : List (List Int))) (dat_L (dat_L dat_int)) (dat_L (dat_L dat_int)) hr.units (eg_n (ng_lc (fa := rInts) (fb := rInts) (l := ws.map turnH) [("_law_word", 14)] (fun x => (slR K p P cs n ws S ns bad (hdm 1) (.d (rRims K ws nx)) odd .non (.d (rL ((ws.map turnH).map rInts))) far .non .non .non).set 14 (.d (rInts x))) (fun w => some (!(ws.any fun z => decide (z = w)))) (fun w => some w) rfl sc_refused.nd (ig_list (eg_name 9)) hy (blkOk_by (N := Nr) (sc := defScope (top 108)) (by decide +kernel))
      (fun x s H C cl fp => kg_name 14 sc_refused.nd) (fun x k s H C cl fp e => by cases e; exact ts_one (bg_notinD (fc := rInts) (dat_L dat_int) hu (eg_name 14) (eg_name 1))) (fun x y s H C cl fp _ e => by cases e; exact eg_name 14))) (eg_n (ng_lst ag_nil))) (by rw [decide_eq_true ht]; rfl) (h 1 (by decide))
  · obtain ⟨hm, f1, f2, f3⟩ := hR.turn ht
    refine sg_if (k := !decide (trn ws = [])) (slR K p P cs n ws S ns bad (hdm 2) (.d (rRims K ws nx)) odd .non (.d (rL ((ws.map turnH).map rInts))) far .non .non .non) (bg_ned (u := trn ws) (v := ([] : List (List Int))) (dat_L (dat_L dat_int)) (dat_L (dat_L dat_int)) hr.units (eg_n (ng_lc (fa := rInts) (fb := rInts) (l := ws.map turnH) [("_law_word", 14)] (fun x => (slR K p P cs n ws S ns bad (hdm 1) (.d (rRims K ws nx)) odd .non (.d (rL ((ws.map turnH).map rInts))) far .non .non .non).set 14 (.d (rInts x))) (fun w => some (!(ws.any fun z => decide (z = w)))) (fun w => some w) rfl sc_refused.nd (ig_list (eg_name 9)) hy (blkOk_by (N := Nr) (sc := defScope (top 108)) (by decide +kernel))
      (fun x s H C cl fp => kg_name 14 sc_refused.nd) (fun x k s H C cl fp e => by cases e; exact ts_one (bg_notinD (fc := rInts) (dat_L dat_int) hu (eg_name 14) (eg_name 1))) (fun x y s H C cl fp _ e => by cases e; exact eg_name 14))) (eg_n (ng_lst ag_nil))) (fun _ => ?_) (fun e => by rw [decide_eq_false ht] at e; cases e) (h 2 (by decide))
    refine sg_mis (m := 1) Fh gmh G TB H4 hr rfl (by decide) rfl (lamS_by (sc := defScope (top 108)) (by decide +kernel)) (fun A2 o2 s2 h2 E2 f2' c2 hr2 tk => ?_) (sg_nil (Le.refl _))
    exact pe_raiX C3 (L2N.passes_call tk fun _ _ _ _ z => z) (xa_ag (ag_cons (eg_name 2) (ag_cons (eg_call C1 (ag_cons (eg_name 9) ag_nil) hm (hr2.mono (by decide))) (ag_cons (eg_name 3) ag_nil)))) (fun As g' e => by
      obtain ⟨rfl, rfl⟩ := e
      exact ⟨.mis S (ws.map turnH) tnx false ns f1 f2 f3, rfl⟩) hr2
/-- two words that are not equal, the numbers swapped -/
theorem ref6 {A : Around} {outer : List Env} {s : Shared} {H : Hp} {E : XK} {PP : Pt} (T : Fre mg) (C3 : RaiC P0 w K mg base "bag_of_rounds" 9 (relBX K))
    (Fh : FnP K "_law_heard" (top 107) gf fdh) (gmh : mg "_law_heard" = some (.ref gf)) (G : HearG K mg) (TB : TabB base mg c P) (H4 : HeardC K (He.ga K "Misfit") .misfit)
    (hr : Room 11 (Bd P0 w K mg base Nr "_law_refused_right" (defScope (top 108)) f (.ref c) A outer s H E).A) {ws : List (List Int)} {S : SewD} {ns nx fnx tnx : List Int} {p : Addr} {cs : List Int} {n m : Nat} (hR : RefH K ws S ns nx fnx tnx) (hm : m ≤ 2) {bad odd tur far : Sl}
    (h : ∀ m, m ≤ 3 → SG (Bd P0 w K mg base Nr "_law_refused_right" (defScope (top 108)) f (.ref c) A outer s H E) ((defBody (top 108)).drop 11) (slR K p P cs n ws S ns bad (hdm m) (.d (rRims K ws nx)) odd .non tur far .non .non .non) PP) :
    SG (Bd P0 w K mg base Nr "_law_refused_right" (defScope (top 108)) f (.ref c) A outer s H E) ((defBody (top 108)).drop 10) (slR K p P cs n ws S ns bad (hdm m) (.d (rRims K ws nx)) odd .non tur far .non .non .non) PP := by
  by_cases hl : ws.length = 2
  · obtain ⟨a, b, rfl⟩ : ∃ a b, ws = [a, b] := match ws, hl with | [a, b], _ => ⟨a, b, rfl⟩
    by_cases hab : a = b
    · refine sg_ifF (k := decide ((([a, b] : List (List Int)).length : Int) = 2) && !decide (a = b)) (bg_w (wg_and (bg_eqi (eg_lenL1 (fa := rInts) (l := [a, b]) T.len (eg_name 1)) eg_int) fun _ => wg_and1 (bg_ned (u := a) (v := b) (dat_L dat_int) (dat_L dat_int) hr.units (eg_ixL (fa := rInts) (l := [a, b]) (eg_name 1) eg_int rfl) (eg_ixL (fa := rInts) (l := [a, b]) (eg_name 1) eg_int rfl)))) (by rw [decide_eq_true hab, Bool.not_true, Bool.and_false]) (h m (by omega))
    · obtain ⟨f1, f2, f3⟩ := hR.swap a b rfl hab
      refine sg_if (k := decide ((([a, b] : List (List Int)).length : Int) = 2) && !decide (a = b)) (slR K p P cs n [a, b] S ns bad (hdm (m + 1)) (.d (rRims K [a, b] nx)) odd .non tur far .non .non .non) (bg_w (wg_and (bg_eqi (eg_lenL1 (fa := rInts) (l := [a, b]) T.len (eg_name 1)) eg_int) fun _ => wg_and1 (bg_ned (u := a) (v := b) (dat_L dat_int) (dat_L dat_int) hr.units (eg_ixL (fa := rInts) (l := [a, b]) (eg_name 1) eg_int rfl) (eg_ixL (fa := rInts) (l := [a, b]) (eg_name 1) eg_int rfl)))) (fun _ => ?_) (fun e => by rw [decide_eq_false hab] at e; cases e) (h (m + 1) (by omega))
      refine sg_mis (m := m) Fh gmh G TB H4 hr rfl (by omega) rfl (lamS_by (sc := defScope (top 108)) (by decide +kernel)) (fun A2 o2 s2 h2 E2 f2' c2 hr2 tk => ?_) (sg_nil (Le.refl _))
      refine pe_raiX C3 (L2N.passes_call tk fun _ _ _ _ z => z) (xa_ag (rs := [rSew K S, rRims K [a, b] nx, rInts (ns.map fun n => 1 - n)]) (ag_cons (eg_name 2) (ag_cons (eg_name 6) (ag_cons (eg_n (ng_lc (fa := rInt) (fb := rInt) (l := ns) [("_law_number", 15)] (fun x => (slR K p P cs n [a, b] S ns bad (hdm m) (.d (rRims K [a, b] nx)) odd .non tur far .non .non .non).set 15 (.d (rInt x))) (fun _ => some true) (fun n => some (1 - n)) rfl sc_refused.nd (ig_list (eg_name 3)) (comp_all (by have := hR.nz; omega)) (blkOk_by (N := Nr) (sc := lamScOf ((defBody (top 108)).getD 10 (.Pass ⟨0, 0, 0, 0⟩))) (by decide +kernel))
        (fun x s H C cl fp => kg_name 15 sc_refused.nd) (fun x k s H C cl fp e => by cases e; exact ts_nil) (fun x y s H C cl fp _ e => by cases e; exact eg_sub eg_int (eg_name 15)))) ag_nil)))) (fun As g' e => ?_) hr2
      obtain ⟨rfl, rfl⟩ := e
      exact ⟨.mis S [a, b] nx false _ f1 f2 f3, rfl⟩
  · have hl' : ¬ ((ws.length : Int) = 2) := by omega
    exact sg_ifF (k := decide ((ws.length : Int) = 2) && false) (bg_w (wg_and (bg_eqi (eg_lenL1 (fa := rInts) T.len (eg_name 1)) eg_int) fun e => absurd (of_decide_eq_true e) hl')) (by rw [Bool.and_false]) (h m (by omega))
end
end Rf

namespace Rf
open PySem PySem.Spec PyProof.Rows L2 LamX
theorem wh1 : wordH [5, -5] = some [5, -5] := by decide +kernel
theorem wh2 : wordH [5, -5, 5, -5] = some [5, -5, 5, -5] := by decide +kernel
theorem wh3 : wordH [6, -6] = some [6, -6] := by decide +kernel
theorem rep_mf {α : Type} [DecidableEq α] (m : Nat) (x : α) : decide (List.replicate m x = (List.replicate ((List.replicate m x).length : Int).toNat [x]).flatten) = true := by
  rw [decide_eq_true_eq]
  simp
section
variable {P0 : Program} {w : World} {K : PySem.W.Frag} {mg : Str → Option Value} {base : Heap} {f gf c P : Addr} {fd fdh : FuncData}
/-- the ones that are always made, the end -/
theorem ref7 {A : Around} {outer : List Env} {s : Shared} {H : Hp} {E : XK} {PP : Pt} (T : Fre mg) (W : KSew K) (B : KBag K) (hL : PySem.W.kitOne K (.ref (He.ga K "Sewing")) (.type "list") = some false) (hT : PySem.W.kitOne K (.ref (He.ga K "Sewing")) (.type "tuple") = some false) (C3 : RaiC P0 w K mg base "bag_of_rounds" 9 (relBX K)) (C5 : MakeC P0 w K mg base "Rims" (He.ga K "Rims") 2 (relRimsI K)) (C6 : MakeC P0 w K mg base "Word" (He.ga K "Word") 5 relWordI) (C7 : MakeC P0 w K mg base "Sewing" (He.ga K "Sewing") 4 (relSewI K)) (C8 : DefC P0 w K mg base "bag_of_rounds" 9 (relBR K)) (C9 : DefC P0 w K mg base "shows_built" 9 (relSB K)) (C11 : MakeC P0 w K mg base "Built" (He.ga K "Built") 5 (relBuiltI K))
    (Fh : FnP K "_law_heard" (top 107) gf fdh) (gmh : mg "_law_heard" = some (.ref gf)) (G : HearG K mg) (TB : TabB base mg c P) (H4 : HeardC K (He.ga K "Misfit") .misfit)
    (hr : Room 11 (Bd P0 w K mg base Nr "_law_refused_right" (defScope (top 108)) f (.ref c) A outer s H E).A) {ws : List (List Int)} {S S1 S3 : SewD} {ns onx vnx : List Int} {B1 B2 : BagD} {p : Addr} {cs : List Int} {n m : Nat} (Z : FixH K S1 S3 onx vnx B1 B2) (hm : m ≤ 3) {bad rims odd tur far : Sl}
    (h : ∀ g', g'[0]? = some (jar p cs n) → g'[16]? = some (.b P qRef) → PP.rx (rBl true) g') :
    SG (Bd P0 w K mg base Nr "_law_refused_right" (defScope (top 108)) f (.ref c) A outer s H E) ((defBody (top 108)).drop 11) (slR K p P cs n ws S ns bad (hdm m) rims odd .non tur far .non .non .non) PP := by
  have hlst : relListed K [rSew K S1] (rBl false) := listed_I W.c hL hT
  obtain ⟨a1, a2, a3⟩ := Z.f1
  obtain ⟨b1, b2, b3⟩ := Z.f3
  refine sg_set 11 (r := rSew K S1) (eg_make C7 (ag_cons (eg_make C5 (ag_cons (eg_n (ng_lst (rs := onw.map (rWord K)) (ag_cons (eg_make C6 (ag_cons (eg_n (ng_lst (ag_cons eg_int (ag_cons (eg_neg eg_int) ag_nil)))) ag_nil) (wordH_rel wh1).2 (hr.mono (by decide))) (ag_cons (eg_make C6 (ag_cons (eg_n (ng_lst (ag_cons eg_int (ag_cons (eg_neg eg_int) ag_nil)))) ag_nil) (wordH_rel wh1).2 (hr.mono (by decide))) ag_nil)))) ag_nil) Z.r1 (hr.mono (by decide))) (ag_cons (eg_n (ng_lst (ag_cons eg_int (ag_cons eg_int (ag_cons eg_int (ag_cons eg_int ag_nil)))))) ag_nil)) Z.s1 (hr.mono (by decide))) sc_refused.nd ?_
  refine sg_set 12 (r := rRims K onw S1.nx) (eg_make C5 (ag_cons (eg_n (ng_lst (rs := onw.map (rWord K)) (ag_cons (eg_make C6 (ag_cons (eg_n (ng_lst (ag_cons eg_int (ag_cons (eg_neg eg_int) ag_nil)))) ag_nil) (wordH_rel wh1).2 (hr.mono (by decide))) (ag_cons (eg_make C6 (ag_cons (eg_n (ng_lst (ag_cons eg_int (ag_cons (eg_neg eg_int) ag_nil)))) ag_nil) (wordH_rel wh1).2 (hr.mono (by decide))) ag_nil)))) ag_nil) Z.r1 (hr.mono (by decide))) sc_refused.nd ?_
  refine sg_mis (m := m) Fh gmh G TB H4 hr rfl (by omega) rfl (lamS_by (sc := defScope (top 108)) (by decide +kernel)) (fun A2 o2 s2 h2 E2 f2' c2 hr2 tk => ?_) ?_
  · exact pe_raiX C3 (L2N.passes_call tk fun _ _ _ _ z => z) (xa_ag (rs := [rSew K S1, rRims K onw S1.nx, rInts [0, 0]]) (ag_cons (eg_name 11) (ag_cons (eg_name 12) (ag_cons (eg_n (ng_lst (ag_cons eg_int (ag_cons eg_int ag_nil)))) ag_nil)))) (fun As g' e => by
      obtain ⟨rfl, rfl⟩ := e
      exact ⟨.mis S1 onw S1.nx false [0, 0] a1 a2 a3, rfl⟩) hr2
  refine sg_set 13 (r := rSew K S3) (eg_make C7 (ag_cons (eg_make C5 (ag_cons (eg_n (ng_lst (rs := thw.map (rWord K)) (ag_cons (eg_make C6 (ag_cons (eg_n (ng_lst (ag_cons eg_int (ag_cons (eg_neg eg_int) (ag_cons eg_int (ag_cons (eg_neg eg_int) ag_nil)))))) ag_nil) (wordH_rel wh2).2 (hr.mono (by decide))) (ag_cons (eg_make C6 (ag_cons (eg_n (ng_lst (ag_cons eg_int (ag_cons (eg_neg eg_int) ag_nil)))) ag_nil) (wordH_rel wh3).2 (hr.mono (by decide))) ag_nil)))) ag_nil) Z.r3 (hr.mono (by decide))) (ag_cons (eg_n (ng_lst (ag_cons eg_int (ag_cons eg_int (ag_cons eg_int (ag_cons eg_int (ag_cons eg_int (ag_cons eg_int ag_nil)))))))) ag_nil)) Z.s3 (hr.mono (by decide))) sc_refused.nd ?_
  refine sg_mis (m := m + 1) Fh gmh G TB H4 hr rfl (by omega) rfl (lamS_by (sc := defScope (top 108)) (by decide +kernel)) (fun A2 o2 s2 h2 E2 f2' c2 hr2 tk => ?_) ?_
  · exact pe_raiX C3 (L2N.passes_call tk fun _ _ _ _ z => z) (xa_ag (rs := [rSew K S3, rRims K thv vnx, rInts [0, 1]]) (ag_cons (eg_name 13) (ag_cons (eg_make C5 (ag_cons (eg_n (ng_lst (rs := thv.map (rWord K)) (ag_cons (eg_make C6 (ag_cons (eg_n (ng_lst (ag_cons eg_int (ag_cons (eg_neg eg_int) ag_nil)))) ag_nil) (wordH_rel wh1).2 (hr2.mono (by decide))) (ag_cons (eg_make C6 (ag_cons (eg_n (ng_lst (ag_cons eg_int (ag_cons (eg_neg eg_int) ag_nil)))) ag_nil) (wordH_rel wh3).2 (hr2.mono (by decide))) ag_nil)))) ag_nil) Z.r4 (hr2.mono (by decide))) (ag_cons (eg_n (ng_lst (ag_cons eg_int (ag_cons eg_int ag_nil)))) ag_nil)))) (fun As g' e => by
      obtain ⟨rfl, rfl⟩ := e
      exact ⟨.mis S3 thv vnx false [0, 1] b1 b2 b3, rfl⟩) hr2
  refine sg_le (Le.freeze 5 rfl rfl) ?_
  refine sg_retX (post := fun r g' => r = rBl true ∧ g' = slR K p P cs n ws S ns bad (.d (rL ((List.replicate (m + 1 + 1) mf).map fpp))) rims odd .non tur far (.d (rSew K S1)) (.d (rRims K onw S1.nx)) (.d (rSew K S3))) ?_ (fun r g' h' => ?_)
  · refine xg_eg (r := rBl true) ?_
    refine eg_eq (r1 := rBl (decide (List.replicate (m + 1 + 1) mf = (List.replicate ((List.replicate (m + 1 + 1) mf).length : Int).toNat [mf]).flatten) && (decide (B1.copies = 1) && decide (false = false)))) ?_ ?_
    · rw [rep_mf, Z.c1]; rfl
    · exact (eg_and (eg_eqd (u := List.replicate (m + 1 + 1) mf) (dat_L (dat_P dat_str dat_str)) (dat_L (dat_P dat_str dat_str)) hr.units (eg_name 5) (eg_n (ng_rep1 (fa := fpp) (l := [mf]) (by show 1 * _ ≤ 100000; simp; omega) (by simp; omega) (eg_n (ng_lst (ag_cons (eg_tup (ag_cons eg_str (ag_cons eg_str ag_nil))) ag_nil))) (eg_lenL1 (fa := fpp) (l := List.replicate (m + 1 + 1) mf) T.len (eg_name 5)))))
    fun _ => eg_and (eg_eqi (eg_fld B.c.cl (B.n _ (by decide)) (eg_call C8 (ag_cons (eg_name 11) (ag_cons (eg_name 12) (ag_cons (eg_n (ng_lst (ag_cons eg_int (ag_cons eg_int ag_nil)))) ag_nil))) Z.g1 (hr.mono (by decide)))) eg_int)
      fun _ => eg_one (eg_isB (k1 := false) (k2 := false) (eg_call C9 (ag_cons (eg_call C8 (ag_cons (eg_name 11) (ag_cons (eg_name 12) (ag_cons (eg_n (ng_lst (ag_cons eg_int (ag_cons eg_int ag_nil)))) ag_nil))) Z.g2 (hr.mono (by decide))) (ag_cons (eg_make C11 (ag_cons (eg_name 11) (ag_cons (eg_n (ng_lst (ag_cons eg_int (ag_cons eg_int ag_nil)))) ag_nil)) (.mk (rSew K S1) false [0, 0] hlst (by decide)) (hr.mono (by decide))) ag_nil)) Z.sb (hr.mono (by decide))) eg_bl))
  · obtain ⟨rfl, rfl⟩ := h'
    exact h _ rfl rfl
end
end Rf

namespace Rf
open PySem PySem.Spec PyProof.Rows L2 LamX
section
variable {P0 : Program} {w : World} {K : PySem.W.Frag} {mg : Str → Option Value} {base : Heap} {f gf c P : Addr} {fd fdh : FuncData}
theorem c__law_refused_right (T : Fre mg) (W : KSew K) (R : KRims K) (B : KBag K) (O : OddF K) (hL : PySem.W.kitOne K (.ref (He.ga K "Sewing")) (.type "list") = some false) (hT : PySem.W.kitOne K (.ref (He.ga K "Sewing")) (.type "tuple") = some false)
    (C1 : DefC P0 w K mg base "_law_made" 7 (relMade K)) (C2 : JarC P0 w K mg base "_law_pick" 2 relPick) (C3 : RaiC P0 w K mg base "bag_of_rounds" 9 (relBX K)) (C4 : MethC P0 w K mg base (He.ga K "Rims") "__str__" 5 (relRStr K)) (C5 : MakeC P0 w K mg base "Rims" (He.ga K "Rims") 2 (relRimsI K)) (C6 : MakeC P0 w K mg base "Word" (He.ga K "Word") 5 relWordI) (C7 : MakeC P0 w K mg base "Sewing" (He.ga K "Sewing") 4 (relSewI K)) (C8 : DefC P0 w K mg base "bag_of_rounds" 9 (relBR K)) (C9 : DefC P0 w K mg base "shows_built" 9 (relSB K)) (C11 : MakeC P0 w K mg base "Built" (He.ga K "Built") 5 (relBuiltI K))
    (Fh : FnP K "_law_heard" (top 107) gf fdh) (gmh : mg "_law_heard" = some (.ref gf)) (G : HearG K mg) (TB : TabB base mg c P) (H1 : HeardC K (He.ga K "BadSewing") .sewing) (H2 : HeardC K (He.ga K "BadRims") .rims) (H3 : HeardC K (He.ga K "BadNumber") .number) (H4 : HeardC K (He.ga K "Misfit") .misfit)
    (hcd : fd.code = .ref c) (F : FnP K "_law_refused_right" (top 108) f fd) (gm : mg "_law_refused_right" = some (.ref f)) : JarB P0 w K mg base "_law_refused_right" 12 P qRef (relRef K) := by
  refine ⟨f, fd, ["_law_jar_here", "_law_words", "_law_sewing", "_law_numbers"], def_jb 16 hcd F sc_refused (fun A k S h => by cases h; rfl) (by decide) (by decide) (fun x hx => by cases hx; decide +kernel) (fun A outer s H E hr As kk T2 p cs n t0 r0 h hn h1 h2 h3 => ?_), gm, F.kp, F.bindsN fun _ _ _ _ _ _ us hl => match us, hl with | [_, _, _, _], _ => rfl⟩
  cases h with
  | mk ws S S1 S3 ns nx fnx tnx onx vnx B1 B2 hR Z =>
    refine sg_le (Le.weakJ (rs' := jarR cs n) 0 rfl fun D vs q => jar_end h1 h2 h3 q) ?_
    exact ref1 T W R C1 C2 hr hR (by omega) fun r hm => ref2 T W R O C2 C3 C4 Fh gmh G TB H1 H2 hr hR (by omega) hm (ref3 O C3 Fh gmh G TB H3 hr hR (ref4 C3 C5 C6 Fh gmh G TB H4 hr hR (ref5 C1 C3 Fh gmh G TB H4 hr hR fun m hm => ref6 T C3 Fh gmh G TB H4 hr hR hm fun m hm => ref7 T W B hL hT C3 C5 C6 C7 C8 C9 C11 Fh gmh G TB H4 hr Z hm fun g' g0 g16 => ⟨rfl, ⟨_, g0, fun D vs q => q⟩, g16⟩)))
end
end Rf

namespace Rf
open PySem PySem.Spec PyProof.Rows L2 LamX
abbrev Nl : List Str := ["_law_script", "_law_jar_here", "_law_turn", "_law_words", "_law_rounds", "_law_long", "_law_numbers", "_law_sewings", "_law_rims_here", "_law_other", "_law_sewing", "#"]
theorem sc_law : FnScope Nl ["_law_script"] (defScope (top 109)) := ⟨rfl, rfl, rfl, by decide +kernel, rfl, by decide +kernel, by decide +kernel⟩
/-- what one turn needs of the words and their parts -/
structure TurnH (K : PySem.W.Frag) (ws lo : List (List Int)) (ns nx lnx : List Int) (Ss : List SewD) (S0 : SewD) (fnx tnx : List Int) : Prop where
  made : relMade K [rL (ws.map rInts)] (rRims K ws nx)
  long : relMade K [rL (lo.map rInts)] (rRims K lo lnx)
  all : relAllS K [rRims K lo lnx] (rT (Ss.map (rSew K)))
  sz : 1 ≤ Ss.length ∧ Ss.length ≤ 1000
  right : ∀ So ∈ Ss, ∃ O : BagD, relBR K [rSew K So, rRims K ws nx, rInts ns] (rBag K O) ∧ ∀ S ∈ Ss, relSR K [rRims K ws nx, rL (ws.map rInts), rL (lo.map rInts), rInts ns, rSew K S, rBag K O] (rBl true)
  first : atI Ss 0 = some S0
  ref : RefH K ws S0 ns nx fnx tnx
abbrev TurnP (K : PySem.W.Frag) (ws : List (List Int)) (rows : List (List Int × Int)) : Prop := ∃ nx lnx Ss S0 fnx tnx, TurnH K ws (rows.map (·.1)) (rows.map (·.2)) nx lnx Ss S0 fnx tnx
theorem cases_sz : ∀ c ∈ lawCases, (∀ w ∈ c.1, w.length ≤ 50) ∧ (c.2 ≤ 10 ∧ c.1.length ≤ 10) ∧ 2 * (c.1.length * c.2) ≤ 8 := by decide
abbrev slL (pj P : Addr) (cs : List Int) (n : Nat) (sc : List Int) (turn words rounds long numbers sewings rims other : Sl) : List Sl := [.non, jar pj cs n, turn, words, rounds, long, numbers, sewings, rims, other, .non, .b P qRef]
def lawBody : List Stmt := match (defBody (top 109)).getD 1 (.Pass ⟨0, 0, 0, 0⟩) with
  | .For _ _ b _ _ => b
  | _ => []
section
variable {X : Cx} {g : List Sl} {e : Expr} {es : List Expr} {pos p1 : Pos} {x : Str} {lv : Nat} {rel : Rel} {qa : List Rp → List Sl → Prop} {post : Rp → List Sl → Prop}
/-- a call, its arguments of several values -/
theorem xg_call (F : DefC X.prog X.w X.K X.mg X.base x lv rel) (ha : XA X (e :: es) g qa) (h : ∀ As g', qa As g' → ∃ r, rel As r ∧ post r g') (hr : Room lv X.A) (hg : Gl X x := by rfl) (hdb : (x == ("__debug__" : Str)) = false := by decide) (he : starEach (e :: es) X.env = (false, eval e X.env) :: starEach es X.env := by rfl)
    (hpl : (backTo pos (starEach es X.env)).any (·.1) = false := by rfl) : XG X (.Call (.Name x p1) (e :: es) [] pos) g post := by
  obtain ⟨f, fd, ps, F, m, kp, b⟩ := F.ex
  refine pe_to (pe_call F hr hg m kp b .nil pass0 ha hdb he hpl) fun σ H Q ⟨F, D0, D, ok, k⟩ => ⟨F, D0, D, ok, fun As g' vs H' D' hqa ok' dd hvs => ?_⟩
  show SpR rel (vs ++ []) H' Q E0
  rw [List.append_nil]
  obtain ⟨r, h1, h2⟩ := h As g' hqa
  exact ⟨As, r, D', h1, ok'.sub, hvs, fun v H2 D2 e2 hv => k r g' v H2 D2 h2 (ok'.grow e2) (dd.trans e2.d) hv⟩
end
def lstep (n : Nat) (_ : Int) : Option Nat := if n ≤ 100 then some (n + 20) else none
def SpLaw (K : PySem.W.Frag) (P : Addr) : Sp := fun vs H Q _ => ∃ (ns : List Int) (v : V) (qs : Array Value) (D : Hp), vs = [v] ∧ ns.length ≤ 1000 ∧ Same D H ∧ (rLK K (ns.map rInt)).p D v ∧ H P = some (.tbl qs) ∧ TabD D qRef qs ∧ D P = none ∧ ∀ H', Q (.bl true) H'
theorem att_map {α β : Type} (f : α → β) (l : List α) : l.attach.map (fun x => f x.1) = l.map f := by
  have z := List.attach_map_subtype_val l
  conv => rhs; rw [← z]
  rw [List.map_map]
  rfl
section
variable {P0 : Program} {w : World} {K : PySem.W.Frag} {mg : Str → Option Value} {base : Heap} {f P : Addr} {fd : FuncData}
theorem law_turn {A : Around} {outer : List Env} {s : Shared} {H : Hp} {E : XK} {PP : Pt} {cdv : Value} (C1 : DefC P0 w K mg base "_law_made" 7 (relMade K)) (C2 : JarC P0 w K mg base "_law_pick" 2 relPick) (C3 : JarC P0 w K mg base "_law_case" 3 relCase) (C4 : JarC P0 w K mg base "_law_parted" 3 relParted) (C5 : DefC P0 w K mg base "all_sewings" 6 (relAllS K)) (C6 : DefC P0 w K mg base "bag_of_rounds" 9 (relBR K)) (C7 : DefC P0 w K mg base "_law_sewing_right" 10 (relSR K)) (C8 : JarB P0 w K mg base "_law_refused_right" 12 P qRef (relRef K))
    {S1 S3 : SewD} {onx vnx : List Int} {B1 B2 : BagD} (Z : FixH K S1 S3 onx vnx B1 B2) (hall : ∀ c ∈ lawCases, ∀ rows ∈ partOut c.1 c.2, TurnP K c.1 rows)
    (hr : Room 12 (Bd P0 w K mg base Nl "law" (defScope (top 109)) f cdv A outer s H E).A) {pj : Addr} {cs sc : List Int} {n : Nat} {x : Int} (hn : n ≤ 100) :
    SG (Bd P0 w K mg base Nl "law" (defScope (top 109)) f cdv A outer s H E) lawBody (slL pj P cs n sc (.d (rInt x)) .non .non .non .non .non .non .non) { nx := fun q => Le q (slL pj P cs (n + 20) sc .non .non .non .non .non .non .non .non), ct := fun q => Le q (slL pj P cs (n + 20) sc .non .non .non .non .non .non .non .non), rt := PP.rt } := by
  refine sg_unpY 3 4 (post2 := fun ra rb g' => ∃ c ∈ lawCases, ra = rL (c.1.map rInts) ∧ rb = rInt c.2 ∧ g' = slL pj P cs (n + 1) sc (.d (rInt x)) .non .non .non .non .non .non .non) (xg_jar 1 C3 rfl ag_nil .mk (by omega) (hr.mono (by decide))) (fun r g' h' => ?_) rfl sc_law.nd (fun ra rb g' h' => ?_)
  · obtain ⟨⟨c, hc, rfl⟩, e⟩ := h'
    exact ⟨_, _, rfl, c, hc, rfl, rfl, e⟩
  · obtain ⟨c, hc, rfl, rfl, rfl⟩ := h'
    obtain ⟨z1, z2, z3⟩ := cases_sz c hc
    refine sg_unpY 5 6 (post2 := fun ra rb g' => ∃ rows ∈ partOut c.1 c.2, ra = rL ((rows.map (·.1)).map rInts) ∧ rb = rInts (rows.map (·.2)) ∧ g' = slL pj P cs (n + 1 + 2 * (c.1.length * c.2)) sc (.d (rInt x)) (.d (rL (c.1.map rInts))) (.d (rInt c.2)) .non .non .non .non .non) (xg_jar 1 C4 rfl (ag_cons (eg_name 3) (ag_cons (eg_name 4) ag_nil)) (.mk c.1 c.2 z1 z2) (by omega) (hr.mono (by decide))) (fun r g' h' => ?_) rfl sc_law.nd (fun ra rb g' h' => ?_)
    · obtain ⟨⟨rows, hrows, rfl⟩, e⟩ := h'
      exact ⟨_, _, rfl, rows, hrows, by rw [List.map_map]; rfl, by show _ = rL ((rows.map (·.2)).map rInt); rw [List.map_map]; rfl, e⟩
    · obtain ⟨rows, hrows, rfl, rfl, rfl⟩ := h'
      obtain ⟨nx, lnx, Ss, S0, fnx, tnx, M⟩ := hall c hc rows hrows
      generalize rows.map (·.1) = lo at M
      generalize rows.map (·.2) = ns at M
      refine sg_set 7 (eg_call C5 (ag_cons (eg_call C1 (ag_cons (eg_name 5) ag_nil) M.long (hr.mono (by decide))) ag_nil) M.all (hr.mono (by decide))) sc_law.nd ?_
      refine sg_unpY 8 9 (post2 := fun ra rb g' => ra = rRims K c.1 nx ∧ (∃ So ∈ Ss, ∃ O : BagD, rb = rBag K O ∧ relBR K [rSew K So, rRims K c.1 nx, rInts ns] (rBag K O) ∧ ∀ S ∈ Ss, relSR K [rRims K c.1 nx, rL (c.1.map rInts), rL (lo.map rInts), rInts ns, rSew K S, rBag K O] (rBl true)) ∧ g' = slL pj P cs (n + 1 + 2 * (c.1.length * c.2) + 1) sc (.d (rInt x)) (.d (rL (c.1.map rInts))) (.d (rInt c.2)) (.d (rL (lo.map rInts))) (.d (rInts ns)) (.d (rT (Ss.map (rSew K)))) .non .non)
        (xg_tup (xa_cons (xg_eg (eg_call C1 (ag_cons (eg_name 3) ag_nil) M.made (hr.mono (by decide)))) (q3 := fun r rs g2 => ∃ r2, rs = [r2] ∧ (∃ So ∈ Ss, ∃ O : BagD, r2 = rBag K O ∧ relBR K [rSew K So, rRims K c.1 nx, rInts ns] (rBag K O) ∧ ∀ S ∈ Ss, relSR K [rRims K c.1 nx, rL (c.1.map rInts), rL (lo.map rInts), rInts ns, rSew K S, rBag K O] (rBl true)) ∧ g2 = slL pj P cs (n + 1 + 2 * (c.1.length * c.2) + 1) sc (.d (rInt x)) (.d (rL (c.1.map rInts))) (.d (rInt c.2)) (.d (rL (lo.map rInts))) (.d (rInts ns)) (.d (rT (Ss.map (rSew K)))) .non .non) fun r g' h' => ?_) (fun rs g' h' => ?_)) (fun r g' h' => ?_) rfl sc_law.nd (fun ra rb g' h' => ?_)
      · obtain ⟨_, rfl⟩ := h'
        refine xa_to (xa_one (xg_call C6 (post := fun r2 g2 => (∃ So ∈ Ss, ∃ O : BagD, r2 = rBag K O ∧ relBR K [rSew K So, rRims K c.1 nx, rInts ns] (rBag K O) ∧ ∀ S ∈ Ss, relSR K [rRims K c.1 nx, rL (c.1.map rInts), rL (lo.map rInts), rInts ns, rSew K S, rBag K O] (rBl true)) ∧ g2 = slL pj P cs (n + 1 + 2 * (c.1.length * c.2) + 1) sc (.d (rInt x)) (.d (rL (c.1.map rInts))) (.d (rInt c.2)) (.d (rL (lo.map rInts))) (.d (rInts ns)) (.d (rT (Ss.map (rSew K)))) .non .non)
          (xa_cons (xg_jar 1 C2 rfl (ag_cons (eg_name 7) ag_nil) (relPick.tup (Ss.map (rSew K)) (by rw [List.length_map]; exact M.sz)) (by omega) (hr.mono (by decide))) (q3 := fun _ rs g2 => rs = [rRims K c.1 nx, rInts ns] ∧ g2 = slL pj P cs (n + 1 + 2 * (c.1.length * c.2) + 1) sc (.d (rInt x)) (.d (rL (c.1.map rInts))) (.d (rInt c.2)) (.d (rL (lo.map rInts))) (.d (rInts ns)) (.d (rT (Ss.map (rSew K)))) .non .non) fun r2 g2 h2 => ?_) (fun As g' h' => ?_) (hr.mono (by decide)))) fun rs g2 ⟨r2, e1, e2, e3⟩ => ⟨r2, e1, e2, e3⟩
        · obtain ⟨_, rfl⟩ := h2
          exact xa_ag (ag_cons (eg_call C1 (ag_cons (eg_name 3) ag_nil) M.made (hr.mono (by decide))) (ag_cons (eg_name 6) ag_nil))
        · obtain ⟨r2, rs', g1, rfl, ⟨⟨i, hi⟩, rfl⟩, rfl, rfl⟩ := h'
          rw [List.getElem?_map] at hi
          cases e : Ss[i]? with
          | none => rw [e] at hi; cases hi
          | some So =>
            rw [e] at hi
            cases hi
            have hm := List.mem_of_getElem? e
            obtain ⟨O, h1, h2⟩ := M.right So hm
            exact ⟨rBag K O, h1, ⟨So, hm, O, rfl, h1, h2⟩, rfl⟩
      · obtain ⟨r1, rs', g1, rfl, _, r2, rfl, _⟩ := h'
        exact Nat.le_of_ble_eq_true rfl
      · obtain ⟨rs, rfl, r1, rs', g1, rfl, ⟨rfl, _⟩, r2, rfl, hm, e2⟩ := h'
        exact ⟨_, r2, rfl, rfl, hm, e2⟩
      · obtain ⟨rfl, ⟨So, hSo, O, rfl, _, hO⟩, rfl⟩ := h'
        have hcomp : comp (fun _ : {S // S ∈ Ss} => some false) (fun _ => some (1 : Int)) Ss.attach = some [] := by
          have z := comp_filter (p := fun _ : {S // S ∈ Ss} => false) (f := fun _ => (1 : Int)) (l := Ss.attach) (by rw [List.length_attach]; have := M.sz; omega)
          have e : (Ss.attach.filter fun _ => false) = [] := List.filter_eq_nil_iff.mpr fun _ _ => by simp
          rw [e] at z
          exact z
        refine sg_ifF (k := !decide (([] : List Int) = [])) (bg_ned (u := ([] : List Int)) (v := ([] : List Int)) (dat_L dat_int) (dat_L dat_int) hr.units (eg_n (ng_lc (fa := fun S : {S // S ∈ Ss} => rSew K S.1) (fb := rInt) (l := Ss.attach) [("_law_sewing", 10)] (fun S => (slL pj P cs (n + 1 + 2 * (c.1.length * c.2) + 1) sc (.d (rInt x)) (.d (rL (c.1.map rInts))) (.d (rInt c.2)) (.d (rL (lo.map rInts))) (.d (rInts ns)) (.d (rT (Ss.map (rSew K)))) (.d (rRims K c.1 nx)) (.d (rBag K O))).set 10 (.d (rSew K S.1))) (fun _ => some false) (fun _ => some 1) rfl sc_law.nd ?_ hcomp (blkOk_by (N := Nl) (sc := defScope (top 109)) (by decide +kernel))
          (fun x s H C cl fp => kg_name 10 sc_law.nd) (fun S k s H C cl fp e => ?_) (fun x y s H C cl fp e _ => by cases e))) (eg_n (ng_lst ag_nil))) rfl ?_
        · rw [att_map (rSew K) Ss]
          exact ig_tup (eg_name 7)
        · cases e
          exact ts_one (bg_not (k := true) (bg_val (eg_call C7 (ag_cons (eg_name 8) (ag_cons (eg_name 3) (ag_cons (eg_name 5) (ag_cons (eg_name 6) (ag_cons (eg_name 10) (ag_cons (eg_name 9) ag_nil)))))) (hO S.1 S.2) (hr.mono (by decide)))))
        · refine sg_ifXF (xt_not (pt := fun b g' => b = true ∧ g' = slL pj P cs (n + 1 + 2 * (c.1.length * c.2) + 1 + 2) sc (.d (rInt x)) (.d (rL (c.1.map rInts))) (.d (rInt c.2)) (.d (rL (lo.map rInts))) (.d (rInts ns)) (.d (rT (Ss.map (rSew K)))) (.d (rRims K c.1 nx)) (.d (rBag K O))) ?_) (fun b g' h' => ?_) fun g' h' => ?_
          · refine xt_val (q1 := fun r g' => r = rBl true ∧ g' = slL pj P cs (n + 1 + 2 * (c.1.length * c.2) + 1 + 2) sc (.d (rInt x)) (.d (rL (c.1.map rInts))) (.d (rInt c.2)) (.d (rL (lo.map rInts))) (.d (rInts ns)) (.d (rT (Ss.map (rSew K)))) (.d (rRims K c.1 nx)) (.d (rBag K O))) ?_ fun r g' h' => ?_
            · exact xg_jarB 1 11 C8 rfl rfl (by decide) (ag_cons (eg_name 3) (ag_cons (eg_ixT (l := Ss) (fa := rSew K) (eg_name 7) eg_int M.first) (ag_cons (eg_name 6) ag_nil))) (.mk c.1 S0 S1 S3 ns nx fnx tnx onx vnx B1 B2 M.ref Z) (by omega) hr
            · obtain ⟨rfl, rfl⟩ := h'
              exact ⟨true, rfl, rfl, rfl⟩
          · cases b with
            | false => rfl
            | true => exact absurd h'.1 (by decide)
          · obtain ⟨_, rfl⟩ := h'
            refine sg_nil ?_
            refine Le.trans (Le.weakJ 1 rfl (rs' := jarR cs (n + 20)) fun D vs q => jar_up (by omega) q) ?_
            exact (((((((Le.forget 2).trans (Le.forget 3)).trans (Le.forget 4)).trans (Le.forget 5)).trans (Le.forget 6)).trans (Le.forget 7)).trans (Le.forget 8)).trans (Le.forget 9)
end
end Rf

namespace Rf
open PySem PySem.Spec PyProof.Rows L2 LamX
section
variable {P0 : Program} {w : World} {K : PySem.W.Frag} {mg : Str → Option Value} {base : Heap} {f P : Addr} {fd : FuncData}
theorem law_body {A : Around} {outer : List Env} {s : Shared} {H : Hp} {E : XK} {cdv : Value} (T : Fre mg) (C0 : NewL P0 w K mg base "_law_jar" 1 (relJarN K)) (C1 : DefC P0 w K mg base "_law_made" 7 (relMade K)) (C2 : JarC P0 w K mg base "_law_pick" 2 relPick) (C3 : JarC P0 w K mg base "_law_case" 3 relCase) (C4 : JarC P0 w K mg base "_law_parted" 3 relParted) (C5 : DefC P0 w K mg base "all_sewings" 6 (relAllS K)) (C6 : DefC P0 w K mg base "bag_of_rounds" 9 (relBR K)) (C7 : DefC P0 w K mg base "_law_sewing_right" 10 (relSR K)) (C8 : JarB P0 w K mg base "_law_refused_right" 12 P qRef (relRef K))
    {S1 S3 : SewD} {onx vnx : List Int} {B1 B2 : BagD} (Z : FixH K S1 S3 onx vnx B1 B2) (hall : ∀ c ∈ lawCases, ∀ rows ∈ partOut c.1 c.2, TurnP K c.1 rows)
    (hr : Room 12 (Bd P0 w K mg base Nl "law" (defScope (top 109)) f cdv A outer s H E).A) {sc : List Int} (hz : sc.length ≤ 1000) :
    SG (Bd P0 w K mg base Nl "law" (defScope (top 109)) f cdv A outer s H E) (defBody (top 109)) ((g0 Nl [rLK K (sc.map rInt)]).set 11 (.b P qRef)) { rt := fun r => r = rBl true } := by
  refine sg_setN 1 (ng_call C0 (ag_cons (eg_name 0) ag_nil) (.mk sc hz) (hr.mono (by decide))) sc_law.nd ?_
  refine sg_asJ 1 rfl fun pj => ?_
  refine sg_le (Le.weakJ (rs' := jarR (cutL sc none (some 60)) 0) 1 rfl fun D vs q => jar_end (by decide) (by decide) (by decide) q) ?_
  refine sg_le (Le.forget 0) ?_
  refine sg_for (S := Nat) (fa := rInt) (l := rangeI 2) (fun n => slL pj P (cutL sc none (some 60)) n sc .non .non .non .non .non .non .non .non) lstep (fun n x => slL pj P (cutL sc none (some 60)) n sc (.d (rInt x)) .non .non .non .non .non .non .non) [2] (s0 := 0) (s1 := 40) (ig_range T.range (by decide) eg_int) (by decide) (Le.refl _) rfl (fun n x => kg_name 2 sc_law.nd) (fun n x n' hx hs => ?_) (sg_ret eg_bl rfl)
  unfold lstep at hs
  by_cases hn : n ≤ 100
  · rw [if_pos hn] at hs
    cases hs
    exact law_turn C1 C2 C3 C4 C5 C6 C7 C8 Z hall hr hn
  · rw [if_neg hn] at hs; cases hs
theorem fn_law (T : Fre mg) (C0 : NewL P0 w K mg base "_law_jar" 1 (relJarN K)) (C1 : DefC P0 w K mg base "_law_made" 7 (relMade K)) (C2 : JarC P0 w K mg base "_law_pick" 2 relPick) (C3 : JarC P0 w K mg base "_law_case" 3 relCase) (C4 : JarC P0 w K mg base "_law_parted" 3 relParted) (C5 : DefC P0 w K mg base "all_sewings" 6 (relAllS K)) (C6 : DefC P0 w K mg base "bag_of_rounds" 9 (relBR K)) (C7 : DefC P0 w K mg base "_law_sewing_right" 10 (relSR K)) (C8 : JarB P0 w K mg base "_law_refused_right" 12 P qRef (relRef K))
    {S1 S3 : SewD} {onx vnx : List Int} {B1 B2 : BagD} (Z : FixH K S1 S3 onx vnx B1 B2) (hall : ∀ c ∈ lawCases, ∀ rows ∈ partOut c.1 c.2, TurnP K c.1 rows)
    (F : FnP K "law" (top 109) f fd) : FnOk P0 w K mg base CX0 13 f fd ["_law_script"] (SpLaw K P) := by
  refine F.ok sc_law (fun vs H Q E ⟨ns, v, qs, D, e, _⟩ => by rw [e]; rfl) fun cdv A outer s H vs Q E hr ⟨ns, v, qs, D, e, hz, sD, hv, hP, hT, hD, kk⟩ => ?_
  subst e
  refine ⟨_, pss_ghost 11 (some (.ref P)) (fun x hx => novis (show visB (defScope (top 109)) x = false from by cases hx; decide +kernel)) (PSs.nox (law_body T C0 C1 C2 C3 C4 C5 C6 C7 C8 Z hall hr hz)), ?_⟩
  refine ⟨_, D, D, ok_ghost (N := Nl) (As := [rLK K (ns.map rInt)]) (vs := [v]) 11 (Nat.le_of_ble_eq_true rfl) sD (.cons hv .nil) hP hD hT, ⟨fun _ _ _ _ q _ => q.elim, fun _ _ _ _ q _ => q.elim, fun _ _ _ _ q _ => q.elim, fun r w' H' q hr => ?_, fun _ _ _ _ _ _ q => q.elim⟩⟩
  subst q
  obtain ⟨D', _, _, _, _, hv'⟩ := hr
  obtain rfl : w' = V.bl true := hv'
  exact kk H'
end
end Rf

/-! what is asked of the words and their parts, as functions that may be run -/
namespace Rf
open PySem PySem.Spec PyProof.Rows L2 LamX
theorem ob {α β : Type} {x : Option α} {f : α → Option β} {y : β} (h : x.bind f = some y) : ∃ a, x = some a ∧ f a = some y := by
  cases x with
  | none => cases h
  | some a => exact ⟨a, rfl, h⟩
theorem oi {α : Type} {c : Prop} [Decidable c] {x y : α} (h : (if c then some x else none) = some y) : c ∧ x = y := by
  by_cases hc : c
  · rw [if_pos hc] at h; exact ⟨hc, Option.some.inj h⟩
  · rw [if_neg hc] at h; cases h
def rimsOf (ws : List (List Int)) : Option (List Int) := (foldM oddStep [] (lettersOf ws)).bind fun m => (foldM nextsStep [] ws).bind fun nx =>
  if (1 ≤ ws.length ∧ ws.length ≤ 4) ∧ ws.all (fun x => decide (0 < x.length)) = true ∧ (lettersOf ws).length ≤ 24 ∧ (numbersM ws).length ≤ 1000 ∧ m.length ≤ 1000 ∧ m.all (fun z => decide (z.2 = 0)) = true then some nx else none
theorem rims_is {ws : List (List Int)} {nx : List Int} (h : rimsOf ws = some nx) (K : PySem.W.Frag) : relRimsI K [rL (ws.map (rWord K))] (rimsF K ws nx) := by
  obtain ⟨m, h1, h⟩ := ob h
  obtain ⟨n, h2, h⟩ := ob h
  obtain ⟨⟨a, b, c, d, e, f⟩, rfl⟩ := oi h
  exact .mk ws n m a b c d h1 e f h2
def madeOf (ws : List (List Int)) : Option (List Int) := (comp (fun _ => some true) wordH ws).bind fun y => (rimsOf ws).bind fun nx => if y = ws then some nx else none
theorem made_is {ws : List (List Int)} {nx : List Int} (h : madeOf ws = some nx) (K : PySem.W.Frag) : relMade K [rL (ws.map rInts)] (rRims K ws nx) := by
  obtain ⟨y, h1, h⟩ := ob h
  obtain ⟨n, h2, h⟩ := ob h
  obtain ⟨rfl, rfl⟩ := oi h
  exact .mk _ _ h1 (rims_is h2 K)
def allOf (ws : List (List Int)) (nx : List Int) : Option (List SewD) := (manyM (lettersOf ws)).bind fun n => (allMatesM (lettersOf ws)).bind fun mss => (comp (fun _ => some true) (sewD ws nx) mss).bind fun Ss => if (lettersOf ws).length ≤ 60 ∧ n ≤ 720 then some Ss else none
theorem all_is {ws : List (List Int)} {nx : List Int} {Ss : List SewD} (h : allOf ws nx = some Ss) (K : PySem.W.Frag) : relAllS K [rRims K ws nx] (rT (Ss.map (rSew K))) := by
  obtain ⟨n, h1, h⟩ := ob h
  obtain ⟨m, h2, h⟩ := ob h
  obtain ⟨S, h3, h⟩ := ob h
  obtain ⟨⟨a, b⟩, rfl⟩ := oi h
  exact .mk ws nx n m S a h1 b h2 h3
def bagOf (ws : List (List Int)) (nx : List Int) (vs : WS) : Option BagD := (aheadM nx (lettersOf ws).length).bind fun ah => (byM ah vs).bind fun m => (gatM vs).bind fun gs => (fromM (lettersOf ws).length m).bind fun fr => (atI fr 0).bind fun c =>
  (comp (fun z : (Int × Int) × Int => some (decide (z.1.1 < z.1.2))) (bandH m) m).bind fun bs => (gcdM 100 (c * ((lettersOf ws).length / 2) - (vs.map (·.2)).sum) (2 * c)).bind fun s =>
  if (lettersOf ws).length ≤ 1000 ∧ m.length ≤ 1000 ∧ (vs ≠ [] ∧ vs.length ≤ 1000) ∧ vs.all (fun z => walkOk (lettersOf ws) ah z.1 && decide (z.1.length ≤ 1000) && decide (1 ≤ z.2)) = true ∧ evenOk (lettersOf ws).length m = true ∧ bs.all (fun t => !t.isEmpty) = true ∧ (0 < c ∧ c < 1000000) ∧ (0 < s.1 ∧ s.1 < 1073741824) then
    some ⟨ws, nx, gs, (vs.map (·.2)).sum, c, c * ((lettersOf ws).length / 2) - (vs.map (·.2)).sum⟩ else none
theorem bag_is {ws : List (List Int)} {nx : List Int} {vs : WS} {B : BagD} (h : bagOf ws nx vs = some B) : (∀ K, relBagI K [rRims K ws nx, rWS vs] (bagF K B)) ∧ B.ws = ws ∧ B.nx = nx := by
  obtain ⟨ah, h1, h⟩ := ob h
  obtain ⟨m, h2, h⟩ := ob h
  obtain ⟨gs, h3, h⟩ := ob h
  obtain ⟨fr, h4, h⟩ := ob h
  obtain ⟨c, h5, h⟩ := ob h
  obtain ⟨bs, h6, h⟩ := ob h
  obtain ⟨s, h7, h⟩ := ob h
  obtain ⟨⟨a1, a2, a3, a4, a5, a6, a7, a8⟩, rfl⟩ := oi h
  exact ⟨fun K => .mk ws nx vs ah m gs fr c bs s 100 a1 a2 a3 h1 a4 h2 a5 h3 h4 h5 h6 a6 a7 h7 a8, rfl, rfl⟩
def roundsOf (S : SewD) (ws : List (List Int)) (ns : List Int) : Option Bool := match foldM (rStepE ws) (some (List.replicate ws.length 0)) (S.ws.zip ns) with
  | some none => if ws.length ≤ 1000 then some false else none
  | _ => (foldM (rStep ws) (List.replicate ws.length 0) (S.ws.zip ns)).bind fun had => (atI had 0).bind fun c => if ws.length ≤ 100 ∧ had.length ≤ 100 then some (decide (0 < c) && decide (had = (List.replicate had.length (cutL had none (some 1))).flatten)) else none
theorem rounds_is {S : SewD} {ws : List (List Int)} {ns : List Int} {b : Bool} (h : roundsOf S ws ns = some b) (K : PySem.W.Frag) (nx : List Int) (tp : Bool) : relRounds K [rSew K S, rRims K ws nx, rQi tp ns] (rBl b) := by
  have two : ((foldM (rStep ws) (List.replicate ws.length 0) (S.ws.zip ns)).bind fun had => (atI had 0).bind fun c => if ws.length ≤ 100 ∧ had.length ≤ 100 then some (decide (0 < c) && decide (had = (List.replicate had.length (cutL had none (some 1))).flatten)) else none) = some b → relRounds K [rSew K S, rRims K ws nx, rQi tp ns] (rBl b) := fun h => by
    obtain ⟨had, h1, h⟩ := ob h
    obtain ⟨c, h2, h⟩ := ob h
    obtain ⟨a, rfl⟩ := oi h
    exact .mk S ws nx tp ns had c a h1 h2
  unfold roundsOf at h
  cases e : foldM (rStepE ws) (some (List.replicate ws.length 0)) (S.ws.zip ns) with
  | none => rw [e] at h; exact two h
  | some o =>
    cases o with
    | some v => rw [e] at h; exact two h
    | none =>
      rw [e] at h
      obtain ⟨a, rfl⟩ := oi h
      exact .no S ws nx tp ns a e
def fbOf (S : SewD) (ws : List (List Int)) (nx ns : List Int) : Option (Option BagD) := (roundsOf S ws ns).bind fun b => match b with
  | false => some none
  | true => (foldM firstsS ([], 0) ws).bind fun s => (foldM (foldsStep ws s.1) [] (S.ws.zip ns)).bind fun fo => (comp (fun _ => some true) (cornH fo) S.cs).bind fun vs => (bagOf ws nx vs).bind fun B => some (some B)
theorem fb_no {S : SewD} {ws : List (List Int)} {nx ns : List Int} (h : fbOf S ws nx ns = some none) (K : PySem.W.Frag) (tp : Bool) : relFB K [rSew K S, rRims K ws nx, rQi tp ns] rNon := by
  obtain ⟨b, h1, h⟩ := ob h
  cases b with
  | false => exact .no S ws nx tp ns (rounds_is h1 K nx tp)
  | true =>
    obtain ⟨s, h2, h⟩ := ob h
    obtain ⟨fo, h3, h⟩ := ob h
    obtain ⟨vs, h4, h⟩ := ob h
    obtain ⟨B, h5, h⟩ := ob h
    cases h
theorem fb_is {S : SewD} {ws : List (List Int)} {nx ns : List Int} {B : BagD} (h : fbOf S ws nx ns = some (some B)) : (∀ K tp, relFB K [rSew K S, rRims K ws nx, rQi tp ns] (rBag K B)) ∧ B.ws = ws ∧ B.nx = nx := by
  obtain ⟨b, h1, h⟩ := ob h
  cases b with
  | false => cases h
  | true =>
    obtain ⟨s, h2, h⟩ := ob h
    obtain ⟨fo, h3, h⟩ := ob h
    obtain ⟨vs, h4, h⟩ := ob h
    obtain ⟨B, h5, h⟩ := ob h
    cases h
    obtain ⟨h6, h7, h8⟩ := bag_is h5
    exact ⟨fun K tp => .mk S ws nx tp ns fo vs B (rounds_is h1 K nx tp) (.mk S ws nx tp ns s fo h2 h3) h4 (h6 K), h7, h8⟩
/-- refused as a misfit -/
def misB (S : SewD) (ws : List (List Int)) (nx ns : List Int) : Bool := decide (ns.length ≤ 1000) && (badI S.ws.length ws.length ns && match fbOf S ws nx ns with
  | some none => true
  | _ => false)
theorem mis_is {S : SewD} {ws : List (List Int)} {nx ns : List Int} (h : misB S ws nx ns = true) (K : PySem.W.Frag) : relFBn K S ws nx ns := by
  unfold misB at h
  rw [Bool.and_eq_true, Bool.and_eq_true, decide_eq_true_eq] at h
  obtain ⟨h1, h2, h3⟩ := h
  refine ⟨h1, h2, ?_⟩
  split at h3
  · rename_i e
    exact fb_no e K false
  · cases h3
/-- a bag of rounds -/
def brOf (S : SewD) (ws : List (List Int)) (nx ns : List Int) : Option BagD := (fbOf S ws nx ns).bind fun o => o.bind fun B => if ns.length ≤ 1000 ∧ badI S.ws.length ws.length ns = true then some B else none
theorem br_is {S : SewD} {ws : List (List Int)} {nx ns : List Int} {B : BagD} (h : brOf S ws nx ns = some B) : (∀ K tp, relBR K [rSew K S, rRims K ws nx, rQi tp ns] (rBag K B)) ∧ B.ws = ws ∧ B.nx = nx ∧ ns.length ≤ 1000 ∧ badI S.ws.length ws.length ns = true ∧ ∀ K tp, relFB K [rSew K S, rRims K ws nx, rQi tp ns] (rBag K B) := by
  obtain ⟨o, h1, h⟩ := ob h
  obtain ⟨B', rfl, h⟩ := ob h
  obtain ⟨⟨a, b⟩, rfl⟩ := oi h
  obtain ⟨h2, h3, h4⟩ := fb_is h1
  exact ⟨fun K tp => .mk S ws nx tp ns B' a b (h2 K tp), h3, h4, a, b, h2⟩
def lcOf (nx ms : List Int) : Option (List (List Int)) := (whileM (fun s : List Int × List (List Int) => some (!decide (s.1 = []))) (lcO nx ms) 100 (rangeI ms.length, [])).bind fun s => if s.1 = [] then some s.2 else none
/-- all that is asked of one sewing: its bag -/
def srOf (ws lo : List (List Int)) (nx ns : List Int) (S : SewD) : Option BagD := (foldM nextsStep [] lo).bind fun nl => (foldM (foldsStep ws (firstsL ws)) [] (lo.zip ns)).bind fun fo => (lcOf nl S.ms).bind fun cs => (comp (fun _ => some true) (cornH fo) cs).bind fun vs => (bagOf ws nx vs).bind fun Bd => (brOf S ws nx ns).bind fun B =>
  (foldM catStep [] lo).bind fun l1 => (foldM catStep [] ws).bind fun l2 =>
  if (lo.length ≤ 1000 ∧ ws.length ≤ 100) ∧ S.ms.length ≤ 1000 ∧ (0 < l2.length ∧ l2.length < 1000) ∧ B.gs = Bd.gs ∧ B.copies = (l1.length : Int) / (l2.length : Int) ∧ B.cost = S.cost ∧ B.many = cs.length ∧ cs.length ≤ 1000 then some B else none
theorem sr_is {ws lo : List (List Int)} {nx ns : List Int} {S : SewD} {B : BagD} (h : srOf ws lo nx ns S = some B) : (∀ K tp, relBR K [rSew K S, rRims K ws nx, rQi tp ns] (rBag K B)) ∧ B.ws = ws ∧ B.nx = nx ∧
    ∀ K (O : BagD), O.ws = ws → O.nx = nx → relSR K [rRims K ws nx, rL (ws.map rInts), rL (lo.map rInts), rInts ns, rSew K S, rBag K O] (rBl true) := by
  obtain ⟨nl, h1, h⟩ := ob h
  obtain ⟨fo, h2, h⟩ := ob h
  obtain ⟨cs, h3, h⟩ := ob h
  obtain ⟨vs, h4, h⟩ := ob h
  obtain ⟨Bd, h5, h⟩ := ob h
  obtain ⟨B', h6, h⟩ := ob h
  obtain ⟨l1, h7, h⟩ := ob h
  obtain ⟨l2, h8, h⟩ := ob h
  obtain ⟨⟨⟨z1, z2⟩, z3, z4, z5, z6, z7, z8, z9⟩, rfl⟩ := oi h
  obtain ⟨s, g1, h3⟩ := ob h3
  obtain ⟨g2, rfl⟩ := oi h3
  obtain ⟨b1, b2, b3⟩ := bag_is h5
  obtain ⟨r1, r2, r3, r4, r5, r6⟩ := br_is h6
  refine ⟨r1, r2, r3, fun K O o1 o2 => ?_⟩
  have g1 : whileM (fun s : List Int × List (List Int) => some (!decide (s.1 = []))) (lcO nl S.ms) 100 (rangeI S.ms.length, []) = some ([], s.2) := by
    rw [g1, ← g2]
  have sb : ∀ O2 : BagD, O2.ws = ws → O2.nx = nx → relSB K [rBag K O2, rBuilt K S ns] (rBl (decide (B'.gs = O2.gs))) := fun O2 e1 e2 =>
    .mk O2 B' S ns r4 (by rw [e1]; exact r5) (by rw [e1, e2]; exact r6 K true) (by rw [r2, e1]) (by rw [r3, e2])
  have hS := sb B' r2 r3
  rw [decide_eq_true rfl] at hS
  have hO := sb O o1 o2
  rw [show decide (B'.gs = O.gs) = decide (O.gs = B'.gs) from decide_eq_decide.mpr ⟨Eq.symm, Eq.symm⟩] at hO
  exact .mk S ws lo nx ns nl fo l1 l2 s.2 vs Bd B' O ⟨z1, r4⟩ (.mk lo nl h1) (.mk lo ws ns fo z2 h2) (.mk nl S.ms s.2 z3 g1) h4 (b1 K) (r1 K false) (r1 K true) (.mk lo l1 h7) (.mk ws l2 h8) z4 (by rw [r2, b2]) (by rw [r3, b3]) z5 z6 z7 z8 hS hO (by rw [o1, r2]) (by rw [o2, r3]) z9
end Rf

namespace Rf
open PySem PySem.Spec PyProof.Rows L2 LamX
def farB (ws : List (List Int)) (S : SewD) (ns : List Int) : Bool := match rimsOf (ws.map farH) with
  | some fnx => misB S (ws.map farH) fnx ns
  | none => false
def turnB (ws : List (List Int)) (S : SewD) (ns : List Int) : Bool := match trn ws with
  | [] => true
  | _ => (match madeOf (ws.map turnH) with
    | some tnx => misB S (ws.map turnH) tnx ns
    | none => false)
def swapB (ws : List (List Int)) (S : SewD) (ns nx : List Int) : Bool := match ws with
  | [a, b] => decide (a = b) || misB S [a, b] nx (ns.map fun n => 1 - n)
  | _ => true
def plainB (ws : List (List Int)) (S : SewD) (ns : List Int) : Bool := decide (ns.length ≤ 100 ∧ ws.length ≤ 10 ∧ comp (fun _ => some true) turnM ws = some (ws.map turnH) ∧ comp (fun _ => some true) farM ws = some (ws.map farH) ∧ ws.all (fun ls => ls.all isLetterB && decide (ls.length ≤ 100) && !decide (ls = [])) = true) &&
  (!badI S.ws.length ws.length (bad1 ns) && !badI S.ws.length ws.length (bad2 ns) && !badW S.ws.length ws.length (bad3 ns) && !badI S.ws.length ws.length (bad4 ns) && !badI S.ws.length ws.length (bad5 ns ws.length) && !badW S.ws.length ws.length (bad6 ns))
def refB (ws : List (List Int)) (S : SewD) (ns nx : List Int) : Bool := plainB ws S ns && (farB ws S ns && (turnB ws S ns && swapB ws S ns nx))
theorem ref_is {ws : List (List Int)} {S : SewD} {ns nx : List Int} (h : refB ws S ns nx = true) (hm : madeOf ws = some nx) : ∃ fnx tnx, ∀ K, RefH K ws S ns nx fnx tnx := by
  unfold refB plainB at h
  rw [Bool.and_eq_true, Bool.and_eq_true, Bool.and_eq_true, Bool.and_eq_true, Bool.and_eq_true, Bool.and_eq_true, Bool.and_eq_true, Bool.and_eq_true, Bool.and_eq_true, decide_eq_true_eq, Bool.not_eq_true', Bool.not_eq_true', Bool.not_eq_true', Bool.not_eq_true', Bool.not_eq_true', Bool.not_eq_true'] at h
  obtain ⟨⟨⟨h1, h2, h3, h4, h5⟩, ⟨⟨⟨⟨b1, b2⟩, b3⟩, b4⟩, b5⟩, b6⟩, hf, ht, hs⟩ := h
  unfold farB at hf
  cases ef : rimsOf (ws.map farH) with
  | none => rw [ef] at hf; cases hf
  | some fnx =>
    rw [ef] at hf
    have sw : ∀ K, ∀ a b, ws = [a, b] → a ≠ b → relFBn K S ws nx (ns.map fun n => 1 - n) := fun K a b e ne => by
      subst e
      unfold swapB at hs
      dsimp only at hs
      rw [decide_eq_false ne, Bool.false_or] at hs
      exact mis_is hs K
    unfold turnB at ht
    cases et : trn ws with
    | nil => exact ⟨fnx, [], fun K => ⟨h1, h2, h3, made_is hm K, .mk ws nx h5 h2, b1, b2, b3, b4, b5, b6, h4, rims_is ef K, mis_is hf K, fun z => absurd et z, sw K⟩⟩
    | cons t ts =>
      rw [et] at ht
      dsimp only at ht
      cases em : madeOf (ws.map turnH) with
      | none => rw [em] at ht; cases ht
      | some tnx =>
        rw [em] at ht
        exact ⟨fnx, tnx, fun K => ⟨h1, h2, h3, made_is hm K, .mk ws nx h5 h2, b1, b2, b3, b4, b5, b6, h4, rims_is ef K, mis_is hf K, fun _ => ⟨made_is em K, mis_is ht K⟩, sw K⟩⟩
theorem atI_zero {α : Type} {x : α} {l : List α} : atI (x :: l) 0 = some x := by
  unfold atI ixN
  rw [if_pos (by omega), if_pos (by rw [List.length_cons]; omega)]
  rfl
/-- what one turn asks -/
def turnOk (ws : List (List Int)) (rows : List (List Int × Int)) : Bool := match madeOf ws, madeOf (rows.map (·.1)) with
  | some nx, some lnx => (match allOf (rows.map (·.1)) lnx with
    | some Ss => decide (Ss.length ≤ 1000) && (Ss.all (fun S => (srOf ws (rows.map (·.1)) nx (rows.map (·.2)) S).isSome) && match Ss with
      | S0 :: _ => refB ws S0 (rows.map (·.2)) nx
      | [] => false)
    | none => false)
  | _, _ => false
theorem turn_is {ws : List (List Int)} {rows : List (List Int × Int)} (h : turnOk ws rows = true) (K : PySem.W.Frag) : TurnP K ws rows := by
  unfold turnOk at h
  cases e1 : madeOf ws with
  | none => rw [e1] at h; cases h
  | some nx =>
    rw [e1] at h
    cases e2 : madeOf (rows.map (·.1)) with
    | none => rw [e2] at h; cases h
    | some lnx =>
      rw [e2] at h
      dsimp only at h
      cases e3 : allOf (rows.map (·.1)) lnx with
      | none => rw [e3] at h; cases h
      | some Ss =>
        rw [e3] at h
        dsimp only at h
        rw [Bool.and_eq_true, Bool.and_eq_true, decide_eq_true_eq] at h
        obtain ⟨h1, h2, h3⟩ := h
        cases Ss with
        | nil => cases h3
        | cons S0 St =>
          obtain ⟨fnx, tnx, hR⟩ := ref_is h3 e1
          refine ⟨nx, lnx, S0 :: St, S0, fnx, tnx, made_is e1 K, made_is e2 K, all_is e3 K, ⟨by rw [List.length_cons]; omega, h1⟩, fun So hSo => ?_, atI_zero, hR K⟩
          obtain ⟨B, hB⟩ := Option.isSome_iff_exists.mp (List.all_eq_true.mp h2 So hSo)
          obtain ⟨r1, r2, r3, _⟩ := sr_is hB
          refine ⟨B, r1 K false, fun S hS => ?_⟩
          obtain ⟨B2, hB2⟩ := Option.isSome_iff_exists.mp (List.all_eq_true.mp h2 S hS)
          exact (sr_is hB2).2.2.2 K B r2 r3
def fixOf : Option (SewD × SewD × List Int × BagD × BagD) := (rimsOf onw).bind fun onx => (rimsOf thw).bind fun thx => (rimsOf thv).bind fun vnx => (sewD onw onx [1, 0, 3, 2]).bind fun S1 => (sewD thw thx [1, 0, 3, 2, 5, 4]).bind fun S3 => (brOf S1 onw onx [1, 0]).bind fun B1 => (brOf S1 onw onx [0, 1]).bind fun B2 => (fbOf S1 onw onx [0, 0]).bind fun o =>
  if (S1.ws = onw ∧ S1.nx = onx ∧ S3.ws = thw ∧ S3.nx = thx) ∧ misB S1 onw onx [0, 0] = true ∧ misB S3 thv vnx [0, 1] = true ∧ B1.copies = 1 ∧ o.isNone = true then some (S1, S3, vnx, B1, B2) else none
theorem fix_is {z : SewD × SewD × List Int × BagD × BagD} (h : fixOf = some z) (K : PySem.W.Frag) : FixH K z.1 z.2.1 [] z.2.2.1 z.2.2.2.1 z.2.2.2.2 := by
  obtain ⟨onx, h1, h⟩ := ob h
  obtain ⟨thx, h2, h⟩ := ob h
  obtain ⟨vnx, h3, h⟩ := ob h
  obtain ⟨S1, h4, h⟩ := ob h
  obtain ⟨S3, h5, h⟩ := ob h
  obtain ⟨B1, h6, h⟩ := ob h
  obtain ⟨B2, h7, h⟩ := ob h
  obtain ⟨o, h8, h⟩ := ob h
  obtain ⟨⟨⟨e1, e2, e3, e4⟩, m1, m2, m3, m4⟩, rfl⟩ := oi h
  cases o with
  | some B => cases m4
  | none =>
    dsimp only
    subst e2 e4
    obtain ⟨q1, q2, q3⟩ := mis_is m1 K
    obtain ⟨_, w1, w2, _⟩ := br_is h7
    exact ⟨e1, rims_is h1 K, sewD_rel false h4, mis_is m1 K, (br_is h6).1 K false, m3, (br_is h7).1 K false, .no B2 S1 [0, 0] (by decide) (by rw [w1]; exact q2) (by rw [w1, w2]; exact fb_no h8 K true), rims_is h2 K, sewD_rel false h5, rims_is h3 K, mis_is m2 K⟩
end Rf

namespace Rf
open PySem PySem.Spec PyProof.Rows L2 LamX
def nub {α : Type} [DecidableEq α] : List α → List α
  | [] => []
  | x :: l => if (nub l).any (fun y => decide (y = x)) = true then nub l else x :: nub l
theorem mem_nub {α : Type} [DecidableEq α] {x : α} : ∀ {l : List α}, x ∈ l → x ∈ nub l
  | y :: l, h => by
    unfold nub
    by_cases c : (nub l).any (fun z => decide (z = y)) = true
    · rw [if_pos c]
      rcases List.mem_cons.mp h with e | e
      · subst e
        obtain ⟨z, hz, e⟩ := List.any_eq_true.mp c
        rw [← of_decide_eq_true e]; exact hz
      · exact mem_nub e
    · rw [if_neg c]
      rcases List.mem_cons.mp h with e | e
      · exact e ▸ List.mem_cons_self
      · exact List.mem_cons_of_mem _ (mem_nub e)
theorem fix_ok : fixOf.isSome = true := by decide +kernel
end Rf

namespace Rf
open PySem PySem.Spec PyProof.Rows L2 LamX
def caseB (c : Case) : Bool := (nub (partOut c.1 c.2)).all (turnOk c.1)
theorem case0 : caseB ([[1, 2, -1, -2]], 2) = true := by decide +kernel
theorem case1 : caseB ([[1, 2, -1, -2]], 3) = true := by decide +kernel
theorem case2 : caseB ([[1, -1]], 3) = true := by decide +kernel
theorem case3 : caseB ([[1], [-1]], 2) = true := by decide +kernel
theorem case4 : caseB ([[1, 2, 3, -1, -2, -3]], 2) = true := by decide +kernel
theorem case5 : caseB ([[1, 1, -1, -1]], 2) = true := by decide +kernel
theorem case6 : caseB ([[1, 2], [-2, -1]], 2) = true := by decide +kernel
theorem case7 : caseB ([[2, 1, -2], [-1]], 2) = true := by decide +kernel
theorem case8 : caseB ([[1, -2, 3, -1, 2, -3]], 2) = true := by decide +kernel
theorem case9 : caseB ([[1, 2, -2, -1]], 2) = true := by decide +kernel
theorem case10 : caseB ([[1, 2, -1, -2]], 1) = true := by decide +kernel
theorem hall (K : PySem.W.Frag) : ∀ c ∈ lawCases, ∀ rows ∈ partOut c.1 c.2, TurnP K c.1 rows := by
  intro c hc rows hr
  have h : caseB c = true := by
    simp only [lawCases, List.mem_cons, List.not_mem_nil, or_false] at hc
    rcases hc with rfl | rfl | rfl | rfl | rfl | rfl | rfl | rfl | rfl | rfl | rfl
    · exact case0
    · exact case1
    · exact case2
    · exact case3
    · exact case4
    · exact case5
    · exact case6
    · exact case7
    · exact case8
    · exact case9
    · exact case10
  exact turn_is (List.all_eq_true.mp h rows (mem_nub hr)) K
theorem fixh : ∃ S1 S3 onx vnx B1 B2, ∀ K, FixH K S1 S3 onx vnx B1 B2 := by
  obtain ⟨z, hz⟩ := Option.isSome_iff_exists.mp fix_ok
  exact ⟨_, _, _, _, _, _, fix_is hz⟩
end Rf

namespace Rf
open PySem PySem.Spec PyProof.Rows L2 LamX
section
variable {w : World} {h : Heap} {K : PySem.W.Frag} {mg : Str → Option Value} {base : Heap}
theorem find_is {c : Value} {m : Str} {v : Option Value} (e : findB K c m v = true) : PySem.W.findIn K c m = some v := He.eqO_ok e
theorem clsT_is {x : Str} (e : clsTB K x = true) : ClsT K (He.ga K x) := by
  obtain ⟨e1, e⟩ := He.ba e
  obtain ⟨e2, e⟩ := He.ba e
  obtain ⟨e3, e⟩ := He.ba e
  obtain ⟨e4, e5⟩ := He.ba e
  exact ⟨He.cls_ok e1, find_is e2, He.eqO_ok e3, of_decide_eq_true e4, of_decide_eq_true e5⟩
theorem kls_is {p : Str × List Str} (e : klsB K p = true) : KlsA K (He.ga K p.1) p.2 := by
  obtain ⟨e1, e⟩ := He.ba e
  obtain ⟨e2, e3⟩ := He.ba e
  exact ⟨clsT_is e1, fun f hf => find_is (List.all_eq_true.mp e2 f hf), of_decide_eq_true e3⟩
theorem oex_is {C : Addr} (e : oexB K C = true) : ∃ nm q N bs bm sn sub ab col dd k0 k1 k2 k3 k5, K.lookup C = some (excClassObj nm q C N bs bm true sn sub ab col dd k0 k1 k2 k3 k5 "ValueError.__new__") ∧ PySem.HandSPX.refsVE bm = true := by
  unfold oexB at e
  cases hk : K.lookup C with
  | none => rw [hk] at e; cases e
  | some o =>
    rw [hk] at e
    obtain ⟨oc, od, dt, ⟨sl⟩⟩ := o
    cases oc with
    | type t =>
      cases dt with
      | cls cd =>
        match sl, e with
        | [k0, k1, k2, k3, some (.builtin nw), k5], e =>
          obtain ⟨e1, e⟩ := He.ba e
          obtain ⟨e2, e⟩ := He.ba e
          obtain ⟨e3, e⟩ := He.ba e
          obtain ⟨e4, e⟩ := He.ba e
          obtain ⟨nm, bs, mro, N, q, hd, sn, sub, ab, col, dl⟩ := cd
          have e1 := of_decide_eq_true e1
          have e2 := of_decide_eq_true e2
          have e3 : (!dl) = true := e3
          have e4 : hd = true := e4
          cases mro with
          | nil => cases e
          | cons v more =>
            cases v with
            | ref c =>
              obtain ⟨e5, e6⟩ := He.ba e
              have e5 := of_decide_eq_true e5
              subst e1 e2 e4 e5
              cases dl with
              | true => cases e3
              | false => exact ⟨nm, q, N, bs, more, sn, sub, ab, col, od, k0, k1, k2, k3, k5, rfl, e6⟩
            | _ => cases e
      | _ => cases e
    | _ => cases e
structure ErrAll (K : PySem.W.Frag) (x : Str) : Prop where
  o : OexC K (He.ga K x)
  c : ErrC K (He.ga K x)
  i : PySem.W.findIn K (gaB K x) "__init__" = some (some (.ref (He.fAd K (x, some "__init__"))))
  t : PySem.W.typeIn K (.ref (He.fAd K (x, some "__init__"))) = some (.type "function")
  h : PySem.W.exmOne K (gaB K x) (gaB K "HandleError") = some true
  k : ∀ y ∈ four, PySem.W.kitOne K (gaB K x) (gaB K y) = some (decide (x = y))
theorem err_is {x : Str} (hn : PySem.W.specialIn K (.builtin "object.__class__") "__get__" = some (some (.builtin "getset_descriptor.__get__"))) (ht : PySem.W.takesIn K (.builtin "object.__class__") = some true) (e : errB K x = true) : ErrAll K x := by
  obtain ⟨e1, e⟩ := He.ba e
  obtain ⟨e2, e3⟩ := He.ba e
  obtain ⟨a1, e1⟩ := He.ba e1
  obtain ⟨a2, e1⟩ := He.ba e1
  obtain ⟨a3, e1⟩ := He.ba e1
  obtain ⟨a4, e1⟩ := He.ba e1
  obtain ⟨a5, e1⟩ := He.ba e1
  obtain ⟨a6, e1⟩ := He.ba e1
  obtain ⟨a7, a8⟩ := He.ba e1
  obtain ⟨b1, b2⟩ := He.ba e2
  obtain ⟨c1, c2⟩ := He.ba e3
  have xf := xfB_ok a7
  exact ⟨⟨oex_is a8, find_is a1, xf.exC, of_decide_eq_true a2, a3⟩, ⟨⟨xf.ga, xf.gg, xf.exC, xf.hdC, find_is a4, hn, ht, of_decide_eq_true a5⟩, xf, find_is a6⟩, find_is b1, of_decide_eq_true b2, He.exm_ok c1, fun y hy => of_decide_eq_true (List.all_eq_true.mp c2 y hy)⟩
theorem heard_is {x : Str} {k : Kd} (a : ErrAll K x) (e1 : decide (x = "BadSewing") = decide (k = .sewing)) (e2 : decide (x = "BadRims") = decide (k = .rims)) (e3 : decide (x = "BadNumber") = decide (k = .number)) (e4 : decide (x = "Misfit") = decide (k = .misfit)) : HeardC K (He.ga K x) k :=
  ⟨a.c, a.h, e1 ▸ a.k "BadSewing" (by decide), e2 ▸ a.k "BadRims" (by decide), e3 ▸ a.k "BadNumber" (by decide), e4 ▸ a.k "Misfit" (by decide)⟩
end
end Rf
namespace Rf
open PySem PySem.Spec PyProof.Rows L2 LamX
abbrev PW : Program := PySem.Challenge.pw_handlerims_k60_whole_rounds_folded
theorem built_is {K : PySem.W.Frag} {mg : Str → Option Value} (e : builtB K = true) (hW : bW K = bWv) (hs : mg "super" = none) : ∃ fd, BuiltF PW K mg (He.ga K "Built") (bCell K) (He.codeOf K bP) (He.fAd K bP) (He.fAd K ("Paper", some "__init__")) fd := by
  unfold builtB at e
  obtain ⟨e1, e⟩ := He.ba e
  obtain ⟨e2, e⟩ := He.ba e
  obtain ⟨e3, e⟩ := He.ba e
  obtain ⟨e4, e⟩ := He.ba e
  obtain ⟨e5, e⟩ := He.ba e
  obtain ⟨e6, e⟩ := He.ba e
  obtain ⟨e7, e⟩ := He.ba e
  obtain ⟨e8, e9⟩ := He.ba e
  cases hb : bFd K with
  | none => rw [hb] at e1; cases e1
  | some fd =>
    rw [hb] at e1
    obtain ⟨c1, c⟩ := He.ba e1
    obtain ⟨c2, c3⟩ := He.ba c
    have c2 := beq_iff_eq.mp c2
    have hw : (fd.name, fd.qualname, fd.params, fd.body, fd.scope, fd.globals, fd.builtins) = (("__init__" : Str), ("Built.__init__" : Str), defArgs (inClass (top 83) 0), FuncBody.stmts (defBody (inClass (top 83) 0)), defScope (inClass (top 83) 0), mainGlobals, builtinsNs) := by
      unfold bW at hW
      rw [hb] at hW
      exact Option.some.inj hW
    have hlk : ∃ oc od osl, K.lookup (He.fAd K bP) = some ⟨oc, od, .func fd, osl⟩ := by
      unfold bFd at hb
      cases hk : K.lookup (He.fAd K bP) with
      | none => rw [hk] at hb; cases hb
      | some o =>
        rw [hk] at hb
        obtain ⟨oc, od, dt, osl⟩ := o
        cases dt with
        | func fd2 => cases hb; exact ⟨oc, od, osl, rfl⟩
        | _ => cases hb
    cases hcl : fd.closure with
    | nil => rw [hcl] at c1; cases c1
    | cons q rest =>
      cases rest with
      | cons q2 rest => rw [hcl] at c1; cases c1
      | nil =>
        rw [hcl] at c1
        have c1 := of_decide_eq_true c1
        have hq : bCell K = q.2 := by unfold bCell; rw [hb]; dsimp only; rw [hcl]
        cases hcd : fd.code with
        | ref cda =>
          rw [hcd] at c3
          obtain ⟨oc, od, osl, lk⟩ := hlk
          have hco : He.codeOf K bP = cda := He.codeOf_eq lk hcd
          refine ⟨fd, ⟨⟨fd.kwdefaults, fd.doc, fd.pyModule, fd.closureTuple, fd.annotations, ?_⟩, by rw [hco]; exact c3, ⟨oc, od, osl, lk⟩, ?_, ?_, ?_, of_decide_eq_true e5, He.eqO_ok e6, He.eqO_ok e7, of_decide_eq_true e8, e9, hs, by decide +kernel⟩⟩
          · obtain ⟨nm, qn, pa, bo, sc, gl, cl, de, kw, dc, pm, an, co, ct, bu⟩ := fd
            obtain ⟨k, z⟩ := q
            have hcl : cl = [(k, z)] := hcl
            have hcd : co = .ref cda := hcd
            have c1 : k = ("__class__" : Str) := c1
            have c2 : de = .none := c2
            have hq : bCell K = z := hq
            have hw : (nm, qn, pa, bo, sc, gl, bu) = (("__init__" : Str), ("Built.__init__" : Str), defArgs (inClass (top 83) 0), FuncBody.stmts (defBody (inClass (top 83) 0)), defScope (inClass (top 83) 0), mainGlobals, builtinsNs) := hw
            rw [Prod.mk.injEq, Prod.mk.injEq, Prod.mk.injEq, Prod.mk.injEq, Prod.mk.injEq, Prod.mk.injEq] at hw
            obtain ⟨w1, w2, w3, w4, w5, w6, w7⟩ := hw
            subst hcl hcd c1 c2 w1 w2 w3 w4 w5 w6 w7
            rw [hco, hq]
          · cases hk : K.lookup (He.codeOf K bP) with
            | none => rw [hk] at e2; cases e2
            | some o =>
              rw [hk] at e2
              obtain ⟨ccl, cdd, dt, ccs⟩ := o
              cases dt with
              | fields vs =>
                dsimp only at e2
                cases hv : (vs[2]? : Option Value) with
                | none => rw [hv] at e2; cases e2
                | some v =>
                  rw [hv] at e2
                  cases v with
                  | str file tf => exact ⟨ccl, cdd, vs, ccs, file, tf, rfl, hv, e2⟩
                  | _ => cases e2
              | _ => cases e2
          · cases hk : K.lookup (bCell K) with
            | none => rw [hk] at e3; cases e3
            | some o =>
              rw [hk] at e3
              obtain ⟨ccl, cdd, dt, ccs⟩ := o
              cases dt with
              | cell v =>
                cases v with
                | none => cases e3
                | some v =>
                  cases v with
                  | ref z => exact ⟨ccl, cdd, ccs, by rw [of_decide_eq_true e3]⟩
                  | _ => cases e3
              | _ => cases e3
          · exact Option.isSome_iff_exists.mp e4
        | _ => rw [hcd] at c3; cases c3
end Rf

namespace Rf
open PySem PySem.Spec PyProof.Rows L2 LamX
abbrev rP : He.Defn := ("_law_refused_right", none)
theorem join {w : World} {h base : Heap} {K : PySem.W.Frag} {mg : Str → Option Value} {fdl : FuncData} (X : K.In h) (G : h.Ns mainGlobals mg) (c : SaysM w h K) (TB : TabB base mg (He.cT K rP).1 (He.cT K rP).2) (Fl : FnP K "law" (top 109) (He.ga K "law") fdl) : FnOk PW w K mg base CX0 13 (He.ga K "law") fdl ["_law_script"] (SpLaw K (He.cT K rP).2) := by
  have sD : He.SaysD fa fn K := congrArg (fun z : He.AlT => z.1) c.x.t
  have eM : exM K = true := c.x.more
  obtain ⟨x1, eM⟩ := He.ba eM
  obtain ⟨x2, eM⟩ := He.ba eM
  obtain ⟨x3, eM⟩ := He.ba eM
  obtain ⟨x4, eM⟩ := He.ba eM
  obtain ⟨x5, eM⟩ := He.ba eM
  obtain ⟨x6, eM⟩ := He.ba eM
  obtain ⟨x7, eM⟩ := He.ba eM
  obtain ⟨x8, eM⟩ := He.ba eM
  obtain ⟨x9, x10⟩ := He.ba eM
  have T : Fre mg := ⟨He.free_ok X G (sD.fact 77 (f := .free "isinstance") rfl), He.free_ok X G (sD.fact 78 (f := .free "int") rfl), He.free_ok X G (sD.fact 79 (f := .free "bool") rfl), He.free_ok X G (sD.fact 80 (f := .free "list") rfl), He.free_ok X G (sD.fact 81 (f := .free "tuple") rfl), He.free_ok X G (sD.fact 82 (f := .free "all") rfl), He.free_ok X G (sD.fact 83 (f := .free "len") rfl), He.free_ok X G (sD.fact 84 (f := .free "abs") rfl), He.free_ok X G (sD.fact 85 (f := .free "sorted") rfl), He.free_ok X G (sD.fact 86 (f := .free "range") rfl), He.free_ok X G (sD.fact 87 (f := .free "zip") rfl), He.free_ok X G (sD.fact 88 (f := .free "enumerate") rfl), He.free_ok X G (sD.fact 89 (f := .free "min") rfl), He.free_ok X G (sD.fact 90 (f := .free "sum") rfl), He.free_ok X G (sD.fact 91 (f := .free "str") rfl), He.free_ok X G (sD.fact 92 (f := .free "set") rfl)⟩
  have kW : KlsA K (He.ga K "Word") fWord := kls_is (List.all_eq_true.mp x3 ("Word", fWord) (by decide))
  have mk_Word := He.mkr_ok (List.all_eq_true.mp x4 "Word" (by decide))
  have kR : KlsA K (He.ga K "Rims") fRims := kls_is (List.all_eq_true.mp x3 ("Rims", fRims) (by decide))
  have mk_Rims := He.mkr_ok (List.all_eq_true.mp x4 "Rims" (by decide))
  have kS : KlsA K (He.ga K "Sewing") fSew := kls_is (List.all_eq_true.mp x3 ("Sewing", fSew) (by decide))
  have mk_Sewing := He.mkr_ok (List.all_eq_true.mp x4 "Sewing" (by decide))
  have kB : KlsA K (He.ga K "Bag") fBag := kls_is (List.all_eq_true.mp x3 ("Bag", fBag) (by decide))
  have mk_Bag := He.mkr_ok (List.all_eq_true.mp x4 "Bag" (by decide))
  have kU : KlsA K (He.ga K "Built") fBuilt := kls_is (List.all_eq_true.mp x3 ("Built", fBuilt) (by decide))
  have mk_Built := He.mkr_ok (List.all_eq_true.mp x4 "Built" (by decide))
  have mt_Word_len := He.meth_ok (List.all_eq_true.mp x5 ("Word", "__len__") (by decide))
  have mt_Word_eq := He.meth_ok (List.all_eq_true.mp x5 ("Word", "__eq__") (by decide))
  have mt_Word_str := He.meth_ok (List.all_eq_true.mp x5 ("Word", "__str__") (by decide))
  have mt_Rims_next := He.meth_ok (List.all_eq_true.mp x5 ("Rims", "next") (by decide))
  have mt_Rims_eq := He.meth_ok (List.all_eq_true.mp x5 ("Rims", "__eq__") (by decide))
  have mt_Rims_str := He.meth_ok (List.all_eq_true.mp x5 ("Rims", "__str__") (by decide))
  have mt_Bag_eq := He.meth_ok (List.all_eq_true.mp x5 ("Bag", "__eq__") (by decide))
  obtain ⟨fd_is_integer, F_is_integer⟩ := sD.def_ 0 (d := d_is_integer) rfl
  have g_is_integer := He.glo_ok X G (sD.fact 0 (f := .glo "is_integer") rfl)
  obtain ⟨fd_is_within, F_is_within⟩ := sD.def_ 1 (d := d_is_within) rfl
  have g_is_within := He.glo_ok X G (sD.fact 1 (f := .glo "is_within") rfl)
  obtain ⟨fd_is_letter, F_is_letter⟩ := sD.def_ 2 (d := d_is_letter) rfl
  have g_is_letter := He.glo_ok X G (sD.fact 2 (f := .glo "is_letter") rfl)
  obtain ⟨fd_is_listed, F_is_listed⟩ := sD.def_ 3 (d := d_is_listed) rfl
  have g_is_listed := He.glo_ok X G (sD.fact 3 (f := .glo "is_listed") rfl)
  obtain ⟨fd_are_integers, F_are_integers⟩ := sD.def_ 4 (d := d_are_integers) rfl
  have g_are_integers := He.glo_ok X G (sD.fact 4 (f := .glo "are_integers") rfl)
  obtain ⟨fd_are_letters, F_are_letters⟩ := sD.def_ 5 (d := d_are_letters) rfl
  have g_are_letters := He.glo_ok X G (sD.fact 5 (f := .glo "are_letters") rfl)
  obtain ⟨fd_need_number, F_need_number⟩ := sD.def_ 6 (d := d_need_number) rfl
  have g_need_number := He.glo_ok X G (sD.fact 6 (f := .glo "need_number") rfl)
  obtain ⟨fd_measure_of, F_measure_of⟩ := sD.def_ 7 (d := d_measure_of) rfl
  have g_measure_of := He.glo_ok X G (sD.fact 7 (f := .glo "measure_of") rfl)
  obtain ⟨fd_lowest, F_lowest⟩ := sD.def_ 8 (d := d_lowest) rfl
  have g_lowest := He.glo_ok X G (sD.fact 8 (f := .glo "lowest") rfl)
  obtain ⟨fd_text_of_letter, F_text_of_letter⟩ := sD.def_ 9 (d := d_text_of_letter) rfl
  have g_text_of_letter := He.glo_ok X G (sD.fact 9 (f := .glo "text_of_letter") rfl)
  obtain ⟨fd_rounded_of, F_rounded_of⟩ := sD.def_ 10 (d := d_rounded_of) rfl
  have g_rounded_of := He.glo_ok X G (sD.fact 10 (f := .glo "rounded_of") rfl)
  obtain ⟨fd_are_short, F_are_short⟩ := sD.def_ 11 (d := d_are_short) rfl
  have g_are_short := He.glo_ok X G (sD.fact 11 (f := .glo "are_short") rfl)
  obtain ⟨fd_need_few_words, F_need_few_words⟩ := sD.def_ 12 (d := d_need_few_words) rfl
  have g_need_few_words := He.glo_ok X G (sD.fact 12 (f := .glo "need_few_words") rfl)
  obtain ⟨fd_need_few_sewings, F_need_few_sewings⟩ := sD.def_ 13 (d := d_need_few_sewings) rfl
  have g_need_few_sewings := He.glo_ok X G (sD.fact 13 (f := .glo "need_few_sewings") rfl)
  obtain ⟨fd_need_rims, F_need_rims⟩ := sD.def_ 14 (d := d_need_rims) rfl
  have g_need_rims := He.glo_ok X G (sD.fact 14 (f := .glo "need_rims") rfl)
  obtain ⟨fd_need_place, F_need_place⟩ := sD.def_ 15 (d := d_need_place) rfl
  have g_need_place := He.glo_ok X G (sD.fact 15 (f := .glo "need_place") rfl)
  obtain ⟨fd_odd_kind, F_odd_kind⟩ := sD.def_ 16 (d := d_odd_kind) rfl
  have g_odd_kind := He.glo_ok X G (sD.fact 16 (f := .glo "odd_kind") rfl)
  obtain ⟨fd_nexts_of, F_nexts_of⟩ := sD.def_ 17 (d := d_nexts_of) rfl
  have g_nexts_of := He.glo_ok X G (sD.fact 17 (f := .glo "nexts_of") rfl)
  obtain ⟨fd_numbers_of, F_numbers_of⟩ := sD.def_ 18 (d := d_numbers_of) rfl
  have g_numbers_of := He.glo_ok X G (sD.fact 18 (f := .glo "numbers_of") rfl)
  obtain ⟨fd_kinds_of, F_kinds_of⟩ := sD.def_ 19 (d := d_kinds_of) rfl
  have g_kinds_of := He.glo_ok X G (sD.fact 19 (f := .glo "kinds_of") rfl)
  obtain ⟨fd_many_of, F_many_of⟩ := sD.def_ 20 (d := d_many_of) rfl
  have g_many_of := He.glo_ok X G (sD.fact 20 (f := .glo "many_of") rfl)
  obtain ⟨fd_sewn, F_sewn⟩ := sD.def_ 21 (d := d_sewn) rfl
  have g_sewn := He.glo_ok X G (sD.fact 21 (f := .glo "sewn") rfl)
  obtain ⟨fd_all_mates, F_all_mates⟩ := sD.def_ 22 (d := d_all_mates) rfl
  have g_all_mates := He.glo_ok X G (sD.fact 22 (f := .glo "all_mates") rfl)
  obtain ⟨fd_corners_of, F_corners_of⟩ := sD.def_ 23 (d := d_corners_of) rfl
  have g_corners_of := He.glo_ok X G (sD.fact 23 (f := .glo "corners_of") rfl)
  obtain ⟨fd_pieces_of, F_pieces_of⟩ := sD.def_ 24 (d := d_pieces_of) rfl
  have g_pieces_of := He.glo_ok X G (sD.fact 24 (f := .glo "pieces_of") rfl)
  obtain ⟨fd_are_mates, F_are_mates⟩ := sD.def_ 25 (d := d_are_mates) rfl
  have g_are_mates := He.glo_ok X G (sD.fact 25 (f := .glo "are_mates") rfl)
  obtain ⟨fd_all_sewings, F_all_sewings⟩ := sD.def_ 26 (d := d_all_sewings) rfl
  have g_all_sewings := He.glo_ok X G (sD.fact 26 (f := .glo "all_sewings") rfl)
  obtain ⟨fd_ahead_of, F_ahead_of⟩ := sD.def_ 27 (d := d_ahead_of) rfl
  have g_ahead_of := He.glo_ok X G (sD.fact 27 (f := .glo "ahead_of") rfl)
  obtain ⟨fd_steps_in, F_steps_in⟩ := sD.def_ 28 (d := d_steps_in) rfl
  have g_steps_in := He.glo_ok X G (sD.fact 28 (f := .glo "steps_in") rfl)
  obtain ⟨fd_least_form, F_least_form⟩ := sD.def_ 29 (d := d_least_form) rfl
  have g_least_form := He.glo_ok X G (sD.fact 29 (f := .glo "least_form") rfl)
  obtain ⟨fd_is_walk, F_is_walk⟩ := sD.def_ 30 (d := d_is_walk) rfl
  have g_is_walk := He.glo_ok X G (sD.fact 30 (f := .glo "is_walk") rfl)
  obtain ⟨fd_are_counted, F_are_counted⟩ := sD.def_ 31 (d := d_are_counted) rfl
  have g_are_counted := He.glo_ok X G (sD.fact 31 (f := .glo "are_counted") rfl)
  obtain ⟨fd_steps_by, F_steps_by⟩ := sD.def_ 32 (d := d_steps_by) rfl
  have g_steps_by := He.glo_ok X G (sD.fact 32 (f := .glo "steps_by") rfl)
  obtain ⟨fd_steps_from, F_steps_from⟩ := sD.def_ 33 (d := d_steps_from) rfl
  have g_steps_from := He.glo_ok X G (sD.fact 33 (f := .glo "steps_from") rfl)
  obtain ⟨fd_are_even, F_are_even⟩ := sD.def_ 34 (d := d_are_even) rfl
  have g_are_even := He.glo_ok X G (sD.fact 34 (f := .glo "are_even") rfl)
  obtain ⟨fd_gathered, F_gathered⟩ := sD.def_ 35 (d := d_gathered) rfl
  have g_gathered := He.glo_ok X G (sD.fact 35 (f := .glo "gathered") rfl)
  obtain ⟨fd_need_bag, F_need_bag⟩ := sD.def_ 36 (d := d_need_bag) rfl
  have g_need_bag := He.glo_ok X G (sD.fact 36 (f := .glo "need_bag") rfl)
  obtain ⟨fd_fixed, F_fixed⟩ := sD.def_ 37 (d := d_fixed) rfl
  have g_fixed := He.glo_ok X G (sD.fact 37 (f := .glo "fixed") rfl)
  obtain ⟨fd_first_places, F_first_places⟩ := sD.def_ 38 (d := d_first_places) rfl
  have g_first_places := He.glo_ok X G (sD.fact 38 (f := .glo "first_places") rfl)
  obtain ⟨fd_are_words, F_are_words⟩ := sD.def_ 39 (d := d_are_words) rfl
  have g_are_words := He.glo_ok X G (sD.fact 39 (f := .glo "are_words") rfl)
  obtain ⟨fd_rounds_in, F_rounds_in⟩ := sD.def_ 40 (d := d_rounds_in) rfl
  have g_rounds_in := He.glo_ok X G (sD.fact 40 (f := .glo "rounds_in") rfl)
  obtain ⟨fd_are_rounds, F_are_rounds⟩ := sD.def_ 41 (d := d_are_rounds) rfl
  have g_are_rounds := He.glo_ok X G (sD.fact 41 (f := .glo "are_rounds") rfl)
  obtain ⟨fd_folds_of, F_folds_of⟩ := sD.def_ 42 (d := d_folds_of) rfl
  have g_folds_of := He.glo_ok X G (sD.fact 42 (f := .glo "folds_of") rfl)
  obtain ⟨fd_folded_bag, F_folded_bag⟩ := sD.def_ 43 (d := d_folded_bag) rfl
  have g_folded_bag := He.glo_ok X G (sD.fact 43 (f := .glo "folded_bag") rfl)
  obtain ⟨fd_bag_of_rounds, F_bag_of_rounds⟩ := sD.def_ 44 (d := d_bag_of_rounds) rfl
  have g_bag_of_rounds := He.glo_ok X G (sD.fact 44 (f := .glo "bag_of_rounds") rfl)
  obtain ⟨fd_shows_built, F_shows_built⟩ := sD.def_ 45 (d := d_shows_built) rfl
  have g_shows_built := He.glo_ok X G (sD.fact 45 (f := .glo "shows_built") rfl)
  obtain ⟨fd__law_jar, F__law_jar⟩ := sD.def_ 46 (d := d__law_jar) rfl
  have g__law_jar := He.glo_ok X G (sD.fact 46 (f := .glo "_law_jar") rfl)
  obtain ⟨fd__law_dip, F__law_dip⟩ := sD.def_ 47 (d := d__law_dip) rfl
  have g__law_dip := He.glo_ok X G (sD.fact 47 (f := .glo "_law_dip") rfl)
  obtain ⟨fd__law_pick, F__law_pick⟩ := sD.def_ 48 (d := d__law_pick) rfl
  have g__law_pick := He.glo_ok X G (sD.fact 48 (f := .glo "_law_pick") rfl)
  obtain ⟨fd__law_mixed, F__law_mixed⟩ := sD.def_ 49 (d := d__law_mixed) rfl
  have g__law_mixed := He.glo_ok X G (sD.fact 49 (f := .glo "_law_mixed") rfl)
  obtain ⟨fd__law_letters, F__law_letters⟩ := sD.def_ 50 (d := d__law_letters) rfl
  have g__law_letters := He.glo_ok X G (sD.fact 50 (f := .glo "_law_letters") rfl)
  obtain ⟨fd__law_nexts, F__law_nexts⟩ := sD.def_ 51 (d := d__law_nexts) rfl
  have g__law_nexts := He.glo_ok X G (sD.fact 51 (f := .glo "_law_nexts") rfl)
  obtain ⟨fd__law_made, F__law_made⟩ := sD.def_ 52 (d := d__law_made) rfl
  have g__law_made := He.glo_ok X G (sD.fact 52 (f := .glo "_law_made") rfl)
  obtain ⟨fd__law_corners, F__law_corners⟩ := sD.def_ 53 (d := d__law_corners) rfl
  have g__law_corners := He.glo_ok X G (sD.fact 53 (f := .glo "_law_corners") rfl)
  obtain ⟨fd__law_folded, F__law_folded⟩ := sD.def_ 54 (d := d__law_folded) rfl
  have g__law_folded := He.glo_ok X G (sD.fact 54 (f := .glo "_law_folded") rfl)
  obtain ⟨fd__law_parted, F__law_parted⟩ := sD.def_ 55 (d := d__law_parted) rfl
  have g__law_parted := He.glo_ok X G (sD.fact 55 (f := .glo "_law_parted") rfl)
  obtain ⟨fd__law_case, F__law_case⟩ := sD.def_ 56 (d := d__law_case) rfl
  have g__law_case := He.glo_ok X G (sD.fact 56 (f := .glo "_law_case") rfl)
  obtain ⟨fd__law_sewing_right, F__law_sewing_right⟩ := sD.def_ 57 (d := d__law_sewing_right) rfl
  have g__law_sewing_right := He.glo_ok X G (sD.fact 57 (f := .glo "_law_sewing_right") rfl)
  obtain ⟨fd__law_heard, F__law_heard⟩ := sD.def_ 58 (d := d__law_heard) rfl
  have g__law_heard := He.glo_ok X G (sD.fact 58 (f := .glo "_law_heard") rfl)
  obtain ⟨fd__law_refused_right, F__law_refused_right⟩ := sD.def_ 59 (d := d__law_refused_right) rfl
  have g__law_refused_right := He.glo_ok X G (sD.fact 59 (f := .glo "_law_refused_right") rfl)
  obtain ⟨fd_Word_init, F_Word_init⟩ := sD.def_ 61 (d := d_Word_init) rfl
  obtain ⟨fd_Word_len, F_Word_len⟩ := sD.def_ 62 (d := d_Word_len) rfl
  obtain ⟨fd_Word_eq, F_Word_eq⟩ := sD.def_ 63 (d := d_Word_eq) rfl
  obtain ⟨fd_Word_str, F_Word_str⟩ := sD.def_ 64 (d := d_Word_str) rfl
  obtain ⟨fd_Rims_init, F_Rims_init⟩ := sD.def_ 65 (d := d_Rims_init) rfl
  obtain ⟨fd_Rims_next, F_Rims_next⟩ := sD.def_ 66 (d := d_Rims_next) rfl
  obtain ⟨fd_Rims_eq, F_Rims_eq⟩ := sD.def_ 67 (d := d_Rims_eq) rfl
  obtain ⟨fd_Rims_str, F_Rims_str⟩ := sD.def_ 68 (d := d_Rims_str) rfl
  obtain ⟨fd_Sewing_init, F_Sewing_init⟩ := sD.def_ 69 (d := d_Sewing_init) rfl
  obtain ⟨fd_Sewing_eq, F_Sewing_eq⟩ := sD.def_ 70 (d := d_Sewing_eq) rfl
  obtain ⟨fd_Bag_init, F_Bag_init⟩ := sD.def_ 71 (d := d_Bag_init) rfl
  obtain ⟨fd_Bag_eq, F_Bag_eq⟩ := sD.def_ 72 (d := d_Bag_eq) rfl
  obtain ⟨fd_Paper_init, F_Paper_init⟩ := sD.def_ 73 (d := d_Paper_init) rfl
  obtain ⟨fd_BadRims_init, F_BadRims_init⟩ := sD.def_ 74 (d := d_BadRims_init) rfl
  obtain ⟨fd_BadSewing_init, F_BadSewing_init⟩ := sD.def_ 75 (d := d_BadSewing_init) rfl
  obtain ⟨fd_BadNumber_init, F_BadNumber_init⟩ := sD.def_ 76 (d := d_BadNumber_init) rfl
  obtain ⟨fd_Misfit_init, F_Misfit_init⟩ := sD.def_ 77 (d := d_Misfit_init) rfl
  have g_Word := He.glo_ok X G (sD.fact 61 (f := .glo "Word") rfl)
  have g_Rims := He.glo_ok X G (sD.fact 62 (f := .glo "Rims") rfl)
  have g_Sewing := He.glo_ok X G (sD.fact 63 (f := .glo "Sewing") rfl)
  have g_Bag := He.glo_ok X G (sD.fact 64 (f := .glo "Bag") rfl)
  have g_Built := He.glo_ok X G (sD.fact 66 (f := .glo "Built") rfl)
  have g_HandleError := He.glo_ok X G (sD.fact 67 (f := .glo "HandleError") rfl)
  have g_BadSewing := He.glo_ok X G (sD.fact 70 (f := .glo "BadSewing") rfl)
  have g_BadRims := He.glo_ok X G (sD.fact 69 (f := .glo "BadRims") rfl)
  have g_BadNumber := He.glo_ok X G (sD.fact 72 (f := .glo "BadNumber") rfl)
  have g_Misfit := He.glo_ok X G (sD.fact 73 (f := .glo "Misfit") rfl)
  have nt : ∀ p ∈ nots K, PySem.W.kitOne K p.1 p.2 = some false := fun p hp => of_decide_eq_true (List.all_eq_true.mp x8 p hp)
  have O : OddF K := ⟨nt _ (List.mem_of_getElem? (i := 0) rfl), nt _ (List.mem_of_getElem? (i := 1) rfl), nt _ (List.mem_of_getElem? (i := 2) rfl), nt _ (List.mem_of_getElem? (i := 3) rfl), nt _ (List.mem_of_getElem? (i := 4) rfl), nt _ (List.mem_of_getElem? (i := 5) rfl), nt _ (List.mem_of_getElem? (i := 6) rfl), nt _ (List.mem_of_getElem? (i := 7) rfl), nt _ (List.mem_of_getElem? (i := 8) rfl), nt _ (List.mem_of_getElem? (i := 9) rfl), nt _ (List.mem_of_getElem? (i := 10) rfl), nt _ (List.mem_of_getElem? (i := 11) rfl), nt _ (List.mem_of_getElem? (i := 12) rfl), nt _ (List.mem_of_getElem? (i := 13) rfl), nt _ (List.mem_of_getElem? (i := 14) rfl), nt _ (List.mem_of_getElem? (i := 15) rfl), nt _ (List.mem_of_getElem? (i := 16) rfl), nt _ (List.mem_of_getElem? (i := 17) rfl)⟩
  have nB := nt _ (List.mem_of_getElem? (i := 18) rfl)
  have nL := nt _ (List.mem_of_getElem? (i := 19) rfl)
  have nT := nt _ (List.mem_of_getElem? (i := 20) rfl)
  have hne := find_is x6
  have hsub := of_decide_eq_true x7
  have a_BadSewing := err_is kW.c.hn kW.c.htk (List.all_eq_true.mp x9 "BadSewing" (by decide))
  have h_BadSewing : HeardC K (He.ga K "BadSewing") .sewing := heard_is a_BadSewing (by decide) (by decide) (by decide) (by decide)
  have e_BadSewing : ErrF PW w K mg base "BadSewing" (He.ga K "BadSewing") := ⟨a_BadSewing.o, g_BadSewing, _, fd_BadSewing_init, a_BadSewing.i, a_BadSewing.t, err_init F_BadSewing_init ⟨rfl, rfl, rfl, by decide +kernel, rfl, by decide +kernel, by decide +kernel⟩ a_BadSewing.o a_BadSewing.c.no, F_BadSewing_init.bindsN fun _ _ _ _ _ _ us hl => match us, hl with | [_, _], _ => rfl⟩
  have a_BadRims := err_is kW.c.hn kW.c.htk (List.all_eq_true.mp x9 "BadRims" (by decide))
  have h_BadRims : HeardC K (He.ga K "BadRims") .rims := heard_is a_BadRims (by decide) (by decide) (by decide) (by decide)
  have e_BadRims : ErrF PW w K mg base "BadRims" (He.ga K "BadRims") := ⟨a_BadRims.o, g_BadRims, _, fd_BadRims_init, a_BadRims.i, a_BadRims.t, err_init F_BadRims_init ⟨rfl, rfl, rfl, by decide +kernel, rfl, by decide +kernel, by decide +kernel⟩ a_BadRims.o a_BadRims.c.no, F_BadRims_init.bindsN fun _ _ _ _ _ _ us hl => match us, hl with | [_, _], _ => rfl⟩
  have a_BadNumber := err_is kW.c.hn kW.c.htk (List.all_eq_true.mp x9 "BadNumber" (by decide))
  have h_BadNumber : HeardC K (He.ga K "BadNumber") .number := heard_is a_BadNumber (by decide) (by decide) (by decide) (by decide)
  have e_BadNumber : ErrF PW w K mg base "BadNumber" (He.ga K "BadNumber") := ⟨a_BadNumber.o, g_BadNumber, _, fd_BadNumber_init, a_BadNumber.i, a_BadNumber.t, err_init F_BadNumber_init ⟨rfl, rfl, rfl, by decide +kernel, rfl, by decide +kernel, by decide +kernel⟩ a_BadNumber.o a_BadNumber.c.no, F_BadNumber_init.bindsN fun _ _ _ _ _ _ us hl => match us, hl with | [_, _], _ => rfl⟩
  have a_Misfit := err_is kW.c.hn kW.c.htk (List.all_eq_true.mp x9 "Misfit" (by decide))
  have h_Misfit : HeardC K (He.ga K "Misfit") .misfit := heard_is a_Misfit (by decide) (by decide) (by decide) (by decide)
  have e_Misfit : ErrF PW w K mg base "Misfit" (He.ga K "Misfit") := ⟨a_Misfit.o, g_Misfit, _, fd_Misfit_init, a_Misfit.i, a_Misfit.t, err_init F_Misfit_init ⟨rfl, rfl, rfl, by decide +kernel, rfl, by decide +kernel, by decide +kernel⟩ a_Misfit.o a_Misfit.c.no, F_Misfit_init.bindsN fun _ _ _ _ _ _ us hl => match us, hl with | [_, _], _ => rfl⟩
  have HG : HearG K mg := ⟨T.isinstance, g_HandleError, g_BadSewing, g_BadRims, g_BadNumber, g_Misfit⟩
  obtain ⟨fdU, bU⟩ := built_is x10 c.b (He.free_ok X G (sD.fact 93 (f := .free "super") rfl))
  obtain ⟨tS, eS⟩ := He.str_ok X G (sD.fact 95 (f := .str "SMALL" "abcdefghijklmnopqrstuvwxyz") rfl)
  obtain ⟨S1, S3, onx, vnx, B1, B2, hZ⟩ := fixh
  have hcd : fd__law_refused_right.code = .ref (He.cT K rP).1 := by
    obtain ⟨oc, od, dV, kV, doc, pm, an, cdv, ct, osl, e, lk, hc, _, _⟩ := F__law_refused_right.ex
    subst e
    obtain ⟨cc, rfl⟩ := He.codeIn_ref hc
    exact congrArg Value.ref (He.codeOf_eq lk rfl).symm
  have hc_is_integer : DefC PW w K mg base "is_integer" 1 (relIsInt K) := c_is_integer T F_is_integer g_is_integer
  have hc_is_within : DefC PW w K mg base "is_within" 2 (relWithin K) := c_is_within T F_is_within g_is_within hc_is_integer
  have hc_is_letter : DefC PW w K mg base "is_letter" 3 relIsLetter := c_is_letter (He.int_ok X G (sD.fact 94 (f := .int "LAST_KIND" 26) rfl)) F_is_letter g_is_letter hc_is_within
  have hc_is_listed : DefC PW w K mg base "is_listed" 1 (relListed K) := c_is_listed T F_is_listed g_is_listed
  have hc_are_integers : DefC PW w K mg base "are_integers" 2 relInts := c_are_integers T F_are_integers g_are_integers hc_is_integer hc_is_listed
  have hc_are_letters : DefC PW w K mg base "are_letters" 4 relLet := c_are_letters T hc_is_letter hc_is_listed F_are_letters g_are_letters
  have hc_need_number : DefC PW w K mg base "need_number" 3 relNeedN := c_need_number hc_is_within F_need_number g_need_number
  have hc_measure_of : DefC PW w K mg base "measure_of" 1 relMeas := c_measure_of T F_measure_of g_measure_of
  have hc_lowest : DefC PW w K mg base "lowest" 4 relLow := c_lowest hc_need_number hc_measure_of F_lowest g_lowest
  have hc_need_few_words : DefC PW w K mg base "need_few_words" 1 relFew := c_need_few_words (He.int_ok X G (sD.fact 96 (f := .int "MOST_LETTERS_words" 500) rfl)) F_need_few_words g_need_few_words
  have hc_rounded_of : DefC PW w K mg base "rounded_of" 1 relRnd := c_rounded_of T F_rounded_of g_rounded_of
  have hc_are_short : DefC PW w K mg base "are_short" 1 relShort := c_are_short T F_are_short g_are_short
  have hc_Word_init : MakeC PW w K mg base "Word" (He.ga K "Word") 5 relWordI := c_Word_init T kW hc_are_letters hc_need_few_words hc_are_short hc_rounded_of F_Word_init g_Word mk_Word
  have hc_odd_kind : DefC PW w K mg base "odd_kind" 1 relOdd := c_odd_kind T F_odd_kind g_odd_kind
  have hc_nexts_of : DefC PW w K mg base "nexts_of" 1 (relNexts K) := c_nexts_of T kW F_nexts_of g_nexts_of
  have hc_numbers_of : DefC PW w K mg base "numbers_of" 1 (relNumbers K) := c_numbers_of T kW F_numbers_of g_numbers_of
  have hc_need_rims : DefC PW w K mg base "need_rims" 1 (relNeedR K) := c_need_rims T kR g_Rims F_need_rims g_need_rims
  have hc_need_place : DefC PW w K mg base "need_place" 3 (relNeedP K) := c_need_place kR hc_is_within F_need_place g_need_place
  have hc_Rims_next : MethC PW w K mg base (He.ga K "Rims") "next" 4 (relNext K) := c_Rims_next kR hc_need_place F_Rims_next mt_Rims_next
  have hc_Rims_init : MakeC PW w K mg base "Rims" (He.ga K "Rims") 2 (relRimsI K) := c_Rims_init T kW kR g_Word (He.int_ok X G (sD.fact 97 (f := .int "MOST_WORDS" 4) rfl)) (He.int_ok X G (sD.fact 98 (f := .int "MOST_LETTERS_rims" 24) rfl)) hc_is_listed hc_odd_kind hc_nexts_of hc_numbers_of F_Rims_init g_Rims mk_Rims
  have hc_kinds_of : DefC PW w K mg base "kinds_of" 1 relKinds := c_kinds_of T F_kinds_of g_kinds_of
  have hc_many_of : DefC PW w K mg base "many_of" 2 relMany := c_many_of (PySem.W.mg_of X G (He.eqO_ok x2)) hc_kinds_of F_many_of g_many_of
  have hc_need_few_sewings : DefC PW w K mg base "need_few_sewings" 3 (relFewS K) := c_need_few_sewings kR (He.int_ok X G (sD.fact 99 (f := .int "MOST_SEWINGS" 720) rfl)) hc_need_rims hc_many_of F_need_few_sewings g_need_few_sewings
  have hc_sewn : DefC PW w K mg base "sewn" 1 relSewn := c_sewn T F_sewn g_sewn
  have hc_corners_of : DefC PW w K mg base "corners_of" 1 relCorn := c_corners_of T F_corners_of g_corners_of
  have hc_are_mates : DefC PW w K mg base "are_mates" 3 relMates := c_are_mates T hc_are_integers F_are_mates g_are_mates
  have hc_pieces_of : DefC PW w K mg base "pieces_of" 1 relPiec := c_pieces_of T F_pieces_of g_pieces_of
  have hc_all_mates : DefC PW w K mg base "all_mates" 2 relAllM := c_all_mates T (PySem.W.mg_of X G (He.eqO_ok x1)) hc_kinds_of hc_sewn F_all_mates g_all_mates
  have hc_Sewing_init : MakeC PW w K mg base "Sewing" (He.ga K "Sewing") 4 (relSewI K) := c_Sewing_init T kR kS hc_need_rims hc_are_mates hc_corners_of hc_pieces_of F_Sewing_init g_Sewing mk_Sewing
  have hc_all_sewings : DefC PW w K mg base "all_sewings" 6 (relAllS K) := c_all_sewings T kR hc_need_few_sewings hc_all_mates hc_Sewing_init F_all_sewings g_all_sewings
  have hc_ahead_of : DefC PW w K mg base "ahead_of" 5 (relAhead K) := c_ahead_of T kR hc_Rims_next F_ahead_of g_ahead_of
  have hc_steps_in : DefC PW w K mg base "steps_in" 1 relSteps := c_steps_in T F_steps_in g_steps_in
  have hc_least_form : DefC PW w K mg base "least_form" 1 relLeast := c_least_form T F_least_form g_least_form
  have hc_is_walk : DefC PW w K mg base "is_walk" 3 (relWalk K) := c_is_walk T kR hc_are_integers hc_is_within hc_steps_in F_is_walk g_is_walk
  have hc_are_counted : DefC PW w K mg base "are_counted" 4 (relCounted K) := c_are_counted T kR hc_is_listed hc_is_within hc_is_walk F_are_counted g_are_counted
  have hc_steps_by : DefC PW w K mg base "steps_by" 2 relBy := c_steps_by T hc_steps_in F_steps_by g_steps_by
  have hc_steps_from : DefC PW w K mg base "steps_from" 1 (relFrom K) := c_steps_from kR F_steps_from g_steps_from
  have hc_are_even : DefC PW w K mg base "are_even" 2 (relEven K) := c_are_even T kR hc_steps_from F_are_even g_are_even
  have hc_gathered : DefC PW w K mg base "gathered" 2 relGat := c_gathered T hc_least_form F_gathered g_gathered
  have hc_Bag_init : MakeC PW w K mg base "Bag" (He.ga K "Bag") 6 (relBagI K) := c_Bag_init T kR kB hc_need_rims hc_ahead_of hc_are_counted hc_steps_by hc_are_even hc_gathered hc_steps_from hc_lowest F_Bag_init g_Bag mk_Bag
  have hc_Word_len : MethC PW w K mg base (He.ga K "Word") "__len__" 1 (relWLen K) := c_Word_len T kW F_Word_len mt_Word_len
  have hc_Word_eq : MethC PW w K mg base (He.ga K "Word") "__eq__" 1 (relWEq K) := c_Word_eq T kW g_Word F_Word_eq mt_Word_eq
  have hc_Rims_eq : MethC PW w K mg base (He.ga K "Rims") "__eq__" 3 (relREq K) := c_Rims_eq T kR g_Rims hc_Word_eq F_Rims_eq mt_Rims_eq
  have hc_Bag_eq : MethC PW w K mg base (He.ga K "Bag") "__eq__" 4 (relBEq K) := c_Bag_eq T kR kB g_Bag hc_Rims_eq F_Bag_eq mt_Bag_eq
  have hc_first_places : DefC PW w K mg base "first_places" 3 (relFirsts K) := c_first_places T kR hc_Word_len F_first_places g_first_places
  have hc_are_words : DefC PW w K mg base "are_words" 3 (relWords K) := c_are_words T kR kS hc_is_listed hc_is_within F_are_words g_are_words
  have hc_rounds_in : DefC PW w K mg base "rounds_in" 3 (relRoundsIn K) := c_rounds_in T kW hc_Word_len F_rounds_in g_rounds_in
  have hc_are_rounds : DefC PW w K mg base "are_rounds" 4 (relRounds K) := c_are_rounds T kR kS hc_rounds_in F_are_rounds g_are_rounds
  have hc_folds_of : DefC PW w K mg base "folds_of" 4 (relFolds K) := c_folds_of T kR kS hc_first_places hc_Word_len F_folds_of g_folds_of
  have hc_folded_bag : DefC PW w K mg base "folded_bag" 8 (relFB K) := c_folded_bag T kR kS hc_are_rounds hc_folds_of hc_Bag_init F_folded_bag g_folded_bag
  have hk_bag_of_rounds : DefK PW w K mg base "bag_of_rounds" 9 (relBR K) ["words", "rims", "sewing"] := k_bag_of_rounds F_bag_of_rounds g_bag_of_rounds (fn_bag_of_rounds T kR kS g_Sewing hc_need_rims hc_are_words hc_folded_bag F_bag_of_rounds)
  have hc_need_bag : DefC PW w K mg base "need_bag" 1 (relNeedB K) := c_need_bag T kB g_Bag F_need_bag g_need_bag
  have hc_bag_of_rounds : DefC PW w K mg base "bag_of_rounds" 9 (relBR K) := c_bag_of_rounds T kR kS g_Sewing hc_need_rims hc_are_words hc_folded_bag F_bag_of_rounds g_bag_of_rounds
  have hc__law_letters : DefC PW w K mg base "_law_letters" 1 relLL := c__law_letters T F__law_letters g__law_letters
  have hc__law_made : DefC PW w K mg base "_law_made" 7 (relMade K) := c__law_made T hc_Rims_init hc_Word_init F__law_made g__law_made
  have hc__law_nexts : DefC PW w K mg base "_law_nexts" 1 relLNexts := c__law_nexts T F__law_nexts g__law_nexts
  have hc__law_folded : DefC PW w K mg base "_law_folded" 1 relLF := c__law_folded T F__law_folded g__law_folded
  have hc__law_corners : DefC PW w K mg base "_law_corners" 1 relLC := c__law_corners T F__law_corners g__law_corners
  have hc__law_dip : JarC PW w K mg base "_law_dip" 1 relDip := c__law_dip T F__law_dip g__law_dip
  have hc__law_pick : JarC PW w K mg base "_law_pick" 2 relPick := c__law_pick T hc__law_dip F__law_pick g__law_pick
  have hc__law_mixed : JarC PW w K mg base "_law_mixed" 2 relMixed := c__law_mixed T hc__law_dip F__law_mixed g__law_mixed
  have hc__law_parted : JarC PW w K mg base "_law_parted" 3 relParted := c__law_parted T hc__law_dip hc__law_mixed F__law_parted g__law_parted
  have hc__law_case : JarC PW w K mg base "_law_case" 3 relCase := c__law_case hc__law_pick F__law_case g__law_case
  have hc__law_jar : NewL PW w K mg base "_law_jar" 1 (relJarN K) := c__law_jar T F__law_jar g__law_jar
  have hc_fixed0 : DefC PW w K mg base "fixed" 1 (relFix0 K) := c_fixed0 T F_fixed g_fixed
  have hc_fixed1 : DefC PW w K mg base "fixed" 2 relFix1 := c_fixed1 T hc_fixed0 F_fixed g_fixed
  have hc_fixed2 : DefC PW w K mg base "fixed" 3 (relFix2 K) := c_fixed2 T hc_fixed0 hc_fixed1 F_fixed g_fixed
  have hP := c_Paper_init (P := PW) (w := w) (mg := mg) (base := base) kU.c.cl (kU.n "word" (by decide)) (kU.n "parts" (by decide)) hc_fixed2 F_Paper_init
  have hBm : MakeC PW w K mg base "Built" (He.ga K "Built") 5 (relBuiltI K) := built_make kU bU hP g_Built mk_Built
  have hBk : MakeK PW w K mg base "Built" (He.ga K "Built") 5 (relBuiltI K) ["words", "sewing"] := built_makeK kU bU hP g_Built mk_Built
  have hc_Bag_eqN : MethC PW w K mg base (He.ga K "Bag") "__eq__" 1 (relBEqN K) := c_Bag_eqN T kB g_Bag nB F_Bag_eq mt_Bag_eq
  have hk_shows_built : DefK PW w K mg base "shows_built" 9 (relSB K) ["value", "bag"] := k_shows_built F_shows_built g_shows_built (fn_shows_built T kB kU kS g_Built g_Sewing hsub hc_need_bag hc_are_words hc_folded_bag hc_Bag_eq hc_Bag_eqN F_shows_built)
  have hc_shows_built : DefC PW w K mg base "shows_built" 9 (relSB K) := c_shows_built T kB kU kS g_Built g_Sewing hsub hc_need_bag hc_are_words hc_folded_bag hc_Bag_eq hc_Bag_eqN F_shows_built g_shows_built
  have hc__law_sewing_right : DefC PW w K mg base "_law_sewing_right" 10 (relSR K) := c__law_sewing_right T kR kS kB hne kB.c.hm nL nT hc__law_nexts hc__law_folded hc__law_corners hc_Bag_init hk_bag_of_rounds hc_bag_of_rounds hc__law_letters hc_Bag_eq hc_shows_built hk_shows_built hBm hBk F__law_sewing_right g__law_sewing_right
  have hc_text_of_letter : DefC PW w K mg base "text_of_letter" 1 relTL := c_text_of_letter ⟨_, tS, eS, by decide⟩ F_text_of_letter g_text_of_letter
  have hc_Word_str : MethC PW w K mg base (He.ga K "Word") "__str__" 2 (relWStr K) := c_Word_str kW hc_text_of_letter F_Word_str mt_Word_str
  have hc_Rims_str : MethC PW w K mg base (He.ga K "Rims") "__str__" 5 (relRStr K) := c_Rims_str T kR hc_Word_str F_Rims_str mt_Rims_str
  have hc_need_rims_x : RaiC PW w K mg base "need_rims" 3 (relNR K) := c_need_rims_x T g_Rims e_BadRims F_need_rims g_need_rims
  have hc_bag_of_rounds_x : RaiC PW w K mg base "bag_of_rounds" 9 (relBX K) := c_bag_of_rounds_x T kR kS g_Sewing e_BadSewing e_BadNumber e_Misfit hc_need_rims_x hc_need_rims hc_are_words hc_folded_bag F_bag_of_rounds g_bag_of_rounds
  have hc__law_refused_right : JarB PW w K mg base "_law_refused_right" 12 (He.cT K rP).2 qRef (relRef K) := c__law_refused_right T kS kR kB O nL nT hc__law_made hc__law_pick hc_bag_of_rounds_x hc_Rims_str hc_Rims_init hc_Word_init hc_Sewing_init hc_bag_of_rounds hc_shows_built hBm F__law_heard g__law_heard HG TB h_BadSewing h_BadRims h_BadNumber h_Misfit hcd F__law_refused_right g__law_refused_right
  exact fn_law T hc__law_jar hc__law_made hc__law_pick hc__law_case hc__law_parted hc_all_sewings hc_bag_of_rounds hc__law_sewing_right hc__law_refused_right (hZ K) (hall K) Fl
end Rf

namespace Rf
open PySem PySem.Spec PyProof.Rows L2 LamX
theorem law_at {w : World} {mg : Str → Option Value} {f : Addr} {h : Heap} (Y : hookM.says w h) (G : h.Ns mainGlobals mg) (hf : mg ("law" : Str) = some (.ref f)) : ∃ K : PySem.W.Frag, K.In h ∧ LawAtS PySem.Challenge.rw_handlerims_k60_whole_rounds_folded w K CX0 13 63 "_law_script" mg f h := by
  obtain ⟨K, X, c⟩ := Y
  have sD : He.SaysD fa fn K := congrArg (fun z : He.AlT => z.1) c.x.t
  obtain ⟨fd, F⟩ := sD.def_ 60 (d := d_law) rfl
  have g := He.glo_ok X G (sD.fact 60 (f := .glo "law") rfl)
  have e := hf.symm.trans g
  cases e
  have hm : rP ∈ tf := by decide
  refine ⟨K, X, fd, [He.cT K rP], SpLaw K (He.cT K rP).2, ?_, ?_, ?_, ?_, ?_, ?_⟩
  · intro p hp
    rw [List.mem_singleton.mp hp]
    exact c.x.empty rP hm
  · intro p hp
    rw [List.mem_singleton.mp hp]
    exact c.x.out rP hm
  · intro p hp
    rw [List.mem_singleton.mp hp]
    exact PySem.W.codeHd_of_K X (c.x.hd rP hm)
  · have b := FunD.bindsA (ps := ["_law_script"]) F fun _ _ _ _ _ _ us hl => match us, hl with | [_], _ => rfl
    exact fun s v => b s [v] rfl
  · intro H a ns hl _ hH hS
    have hP := hH (He.cT K rP) (List.mem_singleton.mpr rfl)
    have rs : ∀ (D : Hp) (l : List Int), Reps D (l.map rInt) (l.map V.int) := fun D l => by
      induction l with
      | nil => exact .nil
      | cons x l ih => exact .cons rfl ih
    have tb : ∀ D : Hp, TabD D qRef #[] := fun D => ⟨trivial, fun pos cv z => nomatch z⟩
    rcases hS with z | z
    · have ne : (He.cT K rP).2 ≠ a := fun e => by
        rw [e] at hP
        rcases z with z | ⟨o, z⟩
        · rw [hP] at z; cases z
        · rw [hP] at z; cases z
      refine ⟨ns, .ref a, #[], fun b => if b = a then H b else none, rfl, by omega, fun b u e => ?_, ⟨a, ns.map V.int, rfl, .inl ?_, rs _ ns⟩, hP, tb _, if_neg ne, fun _ => rfl⟩
      · have e : (if b = a then H b else none) = some u := e
        by_cases hb : b = a
        · rw [if_pos hb] at e; exact e
        · rw [if_neg hb] at e; cases e
      · rcases z with z | ⟨o, z⟩
        · exact .inl ((if_pos rfl).trans z)
        · exact .inr ⟨o, (if_pos rfl).trans z⟩
    · exact ⟨ns, .ref a, #[], fun _ => none, rfl, by omega, (fun b u e => nomatch e), ⟨a, ns.map V.int, rfl, .inr z, rs _ ns⟩, hP, tb _, rfl, fun _ => rfl⟩
  · intro base KB GB TB
    exact join X G c (TB _ (List.mem_singleton.mpr rfl)) F
end Rf

namespace Rf
open PySem PySem.Spec PyProof.Rows L2 LamX
theorem runs (w : World) : HandSHeadRun.RunEqI R theV hookM obM 12000 names w := three (runa w) (runb w) (runc w)
end Rf
open PySem PySem.W PySem.Calls PyProof.Rows
theorem PySem.Challenge.cw_handlerims_k60_whole_rounds_folded_holds : PySem.Challenge.rw_handlerims_k60_whole_rounds_folded.Holds := by
  w_on; o_law
  refine HandSHeadRun.head_imp (r := OpenLaw.row PySem.Challenge.rw_handlerims_k60_whole_rounds_folded) (q := Rf.theV) (H := Rf.hookM) (ob := Rf.obM) (M := 12000) (loose := Rf.names) (d := HandSHeadRun.topDef (OpenLaw.row PySem.Challenge.rw_handlerims_k60_whole_rounds_folded).prog 109) (kwd := []) Rf.obM_eq Rf.runs
    (by kernel_rfl) (by kernel_rfl) (by rfl) (by decide +kernel) (by first | assumption | decide +kernel) (by decide +kernel) ⟨rfl, rfl, rfl, rfl, rfl, by decide +kernel⟩ ?hw ?hc
  case hw => w_witness2
  case hc =>
    refine LamX.walk_ofTsE (l := PySem.Challenge.rw_handlerims_k60_whole_rounds_folded) (n := 63) (k := 13) (x := "_law_script") (CX := fun _ => L2.CX0) rfl (by decide) (by kernel_rfl) ⟨rfl, by decide, by decide⟩ ?F (fun _ _ _ _ _ z => z)
    intro w mg fa h Y G hmg0
    have hmg : mg ("law" : PySem.Str) = some (.ref fa) := by
      have e : (HandSHeadRun.topDef (OpenLaw.row PySem.Challenge.rw_handlerims_k60_whole_rounds_folded).prog 109).name = ("law" : PySem.Str) := by kernel_rfl
      rw [← e]
      exact hmg0
    exact Rf.law_at Y G hmg
