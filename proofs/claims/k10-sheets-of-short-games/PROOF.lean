import PyProof.Rows.All
import Wide.All
import OpenK.AllK
import Wide.FinOn
import HandS.ForMost
import HandS.Style
import HandS.TupAny
import HandS.TupMul
import HandS.TupLe
import HandS.Wide
import HandS.IsInst
import HandS.Walk
import HandS.Zip
import HandS.Conv
import HandS.Deep
import HandS.Star
import HandS.More
import HandS.SetFor
import HandS.Small
import HandS.SortInts
import HandS.WideBits
import KE.KSortedM
import KE.GoesNew
import KE.GoesNewDict
import KE.KTupSum
import KE.KSortTupAny
import HandS.SortOrd
import HandS.TupSets
import HandS.Strs
import KE.KDictWalk
import KE.KEqDict
import KE.KDictDisplayH
import PySem.Challenge.RW_pinframes_k10_whole_sheets_of_short_game
set_option Elab.async false
set_option linter.all false
set_option maxRecDepth 100000
set_option maxHeartbeats 4000000
/-! # Values without addresses: data D, slots Sl, and what an expression or a statement gives as a plain function of the slots -/
namespace FL
open PySem L2

/-- data, deep -/
inductive D where
  | non | bl (b : Bool) | int (i : Int) | str (x : Str) | tup (xs : List D) | lst (xs : List D)
  | dic (kvs : List (List Key × D)) | scr (ns : List Int)

/-- what a slot holds: nothing known, a value that never changes, an object that this slot alone holds (pinned: an argument) -/
inductive Sl where
  | no | val (d : D) | own (p : Bool) (d : D)

/-- what an expression gives: a value, a new object, the object of a slot -/
inductive R where
  | val (d : D) | own (d : D) | al (i : Nat)

def overD : List D := [.int 0, .int 0, .int 0, .str "over", .int 0]
def overV : List V := [.int 0, .int 0, .int 0, .str "over", .int 0]

mutual
inductive Rep (K : PySem.W.Frag) (S : Hp) : V → D → Prop
  | non : Rep K S .non .non
  | bl (b : Bool) : Rep K S (.bl b) (.bl b)
  | int (i : Int) : Rep K S (.int i) (.int i)
  | str (x : Str) : Rep K S (.str x) (.str x)
  | tup {a : Addr} {vs : List V} {ds : List D} : S a = some (.tup vs) → Reps K S vs ds → Rep K S (.ref a) (.tup ds)
  | con {a : Addr} : SqT K (fun _ => none) a overV → Rep K S (.ref a) (.tup overD)
  | lst {a : Addr} {vs : List V} {ds : List D} : S a = some (.lst vs) → Reps K S vs ds → Rep K S (.ref a) (.lst ds)
  | dic {a : Addr} {ks : List (List Key × V)} {ds : List (List Key × D)} : Rd S a (.dT ks) → RepK K S ks ds → Rep K S (.ref a) (.dic ds)
  | scr {a : Addr} {ns : List Int} : SqL K S a (ns.map V.int) → Rep K S (.ref a) (.scr ns)
inductive Reps (K : PySem.W.Frag) (S : Hp) : List V → List D → Prop
  | nil : Reps K S [] []
  | cons {v : V} {d : D} {vs : List V} {ds : List D} : Rep K S v d → Reps K S vs ds → Reps K S (v :: vs) (d :: ds)
inductive RepK (K : PySem.W.Frag) (S : Hp) : List (List Key × V) → List (List Key × D) → Prop
  | nil : RepK K S [] []
  | cons {k : List Key} {v : V} {d : D} {vs : List (List Key × V)} {ds : List (List Key × D)} : Rep K S v d → RepK K S vs ds → RepK K S ((k, v) :: vs) ((k, d) :: ds)
end

/-- what is known stays known -/
structure Le (S S' : Hp) : Prop where
  tup : ∀ a vs, S a = some (.tup vs) → S' a = some (.tup vs)
  lst : ∀ a vs, S a = some (.lst vs) → S' a = some (.lst vs)
  dic : ∀ a ks, Rd S a (.dT ks) → Rd S' a (.dT ks)
  rdl : ∀ a vs, Rd S a (.lst vs) → Rd S' a (.lst vs)
theorem Le.of {S S' : Hp} (h : Same S S') : Le S S' :=
  ⟨fun a _ e => h a _ e, fun a _ e => h a _ e, fun a _ e => e.elim (fun q => .inl (h a _ q)) fun ⟨o, q⟩ => .inr ⟨o, h a _ q⟩, fun a _ e => e.elim (fun q => .inl (h a _ q)) fun ⟨o, q⟩ => .inr ⟨o, h a _ q⟩⟩

section
variable {K : PySem.W.Frag} {S S' H H' : Hp}
mutual
theorem Rep.le (h : Le S S') : ∀ {v : V} {d : D}, Rep K S v d → Rep K S' v d
  | _, _, .non => .non
  | _, _, .bl b => .bl b
  | _, _, .int i => .int i
  | _, _, .str x => .str x
  | _, _, .tup e r => .tup (h.tup _ _ e) (Reps.le h r)
  | _, _, .con e => .con e
  | _, _, .lst e r => .lst (h.lst _ _ e) (Reps.le h r)
  | _, _, .dic e r => .dic (h.dic _ _ e) (RepK.le h r)
  | _, _, .scr e => .scr (e.elim (fun q => .inl (h.rdl _ _ q)) .inr)
theorem Reps.le (h : Le S S') : ∀ {vs : List V} {ds : List D}, Reps K S vs ds → Reps K S' vs ds
  | _, _, .nil => .nil
  | _, _, .cons r t => .cons (Rep.le h r) (Reps.le h t)
theorem RepK.le (h : Le S S') : ∀ {vs : List (List Key × V)} {ds : List (List Key × D)}, RepK K S vs ds → RepK K S' vs ds
  | _, _, .nil => .nil
  | _, _, .cons r t => .cons (Rep.le h r) (RepK.le h t)
end
theorem Rep.mono (h : Same S S') {v : V} {d : D} (r : Rep K S v d) : Rep K S' v d := r.le (.of h)
theorem Reps.mono (h : Same S S') {v : List V} {d : List D} (r : Reps K S v d) : Reps K S' v d := r.le (.of h)
theorem RepK.mono (h : Same S S') {v : List (List Key × V)} {d : List (List Key × D)} (r : RepK K S v d) : RepK K S' v d := r.le (.of h)
theorem Reps.length : ∀ {vs : List V} {ds : List D}, Reps K S vs ds → vs.length = ds.length
  | _, _, .nil => rfl
  | _, _, .cons _ t => congrArg (· + 1) (Reps.length t)
theorem Reps.get : ∀ {vs : List V} {ds : List D}, Reps K S vs ds → ∀ {i : Nat} {d : D}, ds[i]? = some d → ∃ v, vs[i]? = some v ∧ Rep K S v d
  | _, _, .nil, i, d, e => by simp at e
  | _, _, .cons (v := v) r _, 0, d, e => by simp at e; subst e; exact ⟨v, rfl, r⟩
  | _, _, .cons _ t, i + 1, d, e => by simpa using Reps.get t (by simpa using e)
theorem Reps.getV : ∀ {vs : List V} {ds : List D}, Reps K S vs ds → ∀ {i : Nat} {v : V}, vs[i]? = some v → ∃ d, ds[i]? = some d ∧ Rep K S v d
  | _, _, .nil, i, d, e => by simp at e
  | _, _, .cons (d := d) r _, 0, v, e => by simp at e; subst e; exact ⟨d, rfl, r⟩
  | _, _, .cons _ t, i + 1, d, e => by simpa using Reps.getV t (by simpa using e)
theorem Reps.append : ∀ {vs us : List V} {ds es : List D}, Reps K S vs ds → Reps K S us es → Reps K S (vs ++ us) (ds ++ es)
  | _, _, _, _, .nil, s => s
  | _, _, _, _, .cons r t, s => .cons r (Reps.append t s)
theorem Reps.take : ∀ {vs : List V} {ds : List D} (n : Nat), Reps K S vs ds → Reps K S (vs.take n) (ds.take n)
  | _, _, 0, _ => by simp; exact .nil
  | _, _, _ + 1, .nil => .nil
  | _, _, n + 1, .cons r t => .cons r (Reps.take n t)
theorem Reps.drop : ∀ {vs : List V} {ds : List D} (n : Nat), Reps K S vs ds → Reps K S (vs.drop n) (ds.drop n)
  | _, _, 0, r => r
  | _, _, _ + 1, .nil => .nil
  | _, _, n + 1, .cons _ t => Reps.drop n t
theorem Reps.set : ∀ {vs : List V} {ds : List D} {v : V} {d : D} (n : Nat), Rep K S v d → Reps K S vs ds → Reps K S (vs.set n v) (ds.set n d)
  | _, _, _, _, _, _, .nil => .nil
  | _, _, _, _, 0, q, .cons _ t => .cons q t
  | _, _, _, _, n + 1, q, .cons r t => .cons r (Reps.set n q t)
theorem Reps.one {v : V} {d : D} (r : Rep K S v d) : Reps K S [v] [d] := .cons r .nil
theorem Reps.ints : ∀ (ns : List Int), Reps K S (ns.map V.int) (ns.map D.int)
  | [] => .nil
  | n :: ns => .cons (.int n) (Reps.ints ns)
theorem Reps.rep {v : V} {d : D} (r : Rep K S v d) : ∀ n : Nat, Reps K S (List.replicate n v) (List.replicate n d)
  | 0 => .nil
  | n + 1 => by rw [List.replicate_succ, List.replicate_succ]; exact .cons r (Reps.rep r n)
theorem Reps.flat {vs : List V} {ds : List D} (r : Reps K S vs ds) : ∀ n : Nat, Reps K S (List.replicate n vs).flatten (List.replicate n ds).flatten
  | 0 => .nil
  | n + 1 => by rw [List.replicate_succ, List.replicate_succ, List.flatten_cons, List.flatten_cons]; exact Reps.append r (Reps.flat r n)
theorem Reps.reverse : ∀ {vs : List V} {ds : List D}, Reps K S vs ds → Reps K S vs.reverse ds.reverse
  | _, _, .nil => .nil
  | _, _, .cons r t => by rw [List.reverse_cons, List.reverse_cons]; exact Reps.append (Reps.reverse t) (.one r)
theorem over_reps : Reps K S overV overD := .cons (.int 0) (.cons (.int 0) (.cons (.int 0) (.cons (.str _) (.cons (.int 0) .nil))))
end

/-- the content of an object that is owned -/
def Own (K : PySem.W.Frag) (S H : Hp) (a : Addr) (d : D) : Prop := S a = none ∧ match d with
  | .lst ds => ∃ vs, H a = some (.lst vs) ∧ Reps K S vs ds
  | .dic ds => ∃ ks, H a = some (.dT ks) ∧ RepK K S ks ds
  | _ => False

def Owns (σ : L2.St) (ρ : List Sl) (a : Addr) : Prop := ∃ (i : Nat) (p : Bool) (d : D), ρ[i]? = some (Sl.own p d) ∧ σ[i]? = some (some (V.ref a))

structure Env (K : PySem.W.Frag) (S : Hp) (σ : L2.St) (H : Hp) (ρ : List Sl) : Prop where
  ex : Same S H
  len : ρ.length = σ.length
  val : ∀ (i : Nat) (d : D), ρ[i]? = some (Sl.val d) → ∃ v, σ[i]? = some (some v) ∧ Rep K S v d
  own : ∀ (i : Nat) (p : Bool) (d : D), ρ[i]? = some (Sl.own p d) → ∃ a, σ[i]? = some (some (V.ref a)) ∧ Own K S H a d
  inj : ∀ (i j : Nat) (p q : Bool) (d e : D) (a : Addr), ρ[i]? = some (Sl.own p d) → ρ[j]? = some (Sl.own q e) → σ[i]? = some (some (V.ref a)) → σ[j]? = some (some (V.ref a)) → i = j

/-- something stands at a that is no tuple (tuples do not change: they may join what is known at any time) -/
def Live (H : Hp) (a : Addr) : Prop := ∃ o, H a = some o ∧ ∀ vs, o ≠ .tup vs
theorem Live.ne {H : Hp} {a : Addr} (h : Live H a) : H a ≠ none := by
  obtain ⟨o, e, _⟩ := h
  rw [e]; simp
structure Go (σ : L2.St) (ρ : List Sl) (S H : Hp) (σ' : L2.St) (ρ' : List Sl) (S' H' : Hp) : Prop where
  st : Same S S'
  keep : ∀ a o, H a = some o → ¬ Owns σ ρ a → H' a = some o
  dom : ∀ a, H a ≠ none → H' a ≠ none
  new : ∀ a, S a = none → Live H a → ¬ Owns σ ρ a → S' a = none
  own : ∀ a, Owns σ' ρ' a → Owns σ ρ a ∨ H a = none
  pin : ∀ (i : Nat) (d : D), ρ'[i]? = some (Sl.own true d) → (∃ d0, ρ[i]? = some (Sl.own true d0)) ∧ σ'[i]? = σ[i]?
  len : σ'.length = σ.length

section
variable {K : PySem.W.Frag} {S S' S'' H H' H'' : Hp} {σ σ' σ'' : L2.St} {ρ ρ' ρ'' : List Sl} {a : Addr} {d : D}
theorem Own.there (h : Own K S H a d) : H a ≠ none := by
  obtain ⟨_, h⟩ := h
  cases d with
  | lst ds => obtain ⟨vs, e, _⟩ := h; rw [e]; simp
  | dic ds => obtain ⟨vs, e, _⟩ := h; rw [e]; simp
  | _ => exact h.elim
theorem Own.live (h : Own K S H a d) : Live H a := by
  obtain ⟨_, h⟩ := h
  cases d with
  | lst ds => obtain ⟨vs, e, _⟩ := h; exact ⟨_, e, fun _ z => nomatch z⟩
  | dic ds => obtain ⟨vs, e, _⟩ := h; exact ⟨_, e, fun _ z => nomatch z⟩
  | _ => exact h.elim
theorem Own.keep (h : Own K S H a d) (s : Same S S') (n : S' a = none) (k : ∀ o, H a = some o → H' a = some o) : Own K S' H' a d := by
  obtain ⟨_, h⟩ := h
  refine ⟨n, ?_⟩
  cases d with
  | lst ds => obtain ⟨vs, e, r⟩ := h; exact ⟨vs, k _ e, r.mono s⟩
  | dic ds => obtain ⟨vs, e, r⟩ := h; exact ⟨vs, k _ e, r.mono s⟩
  | _ => exact h.elim
theorem Env.there (E : Env K S σ H ρ) (h : Owns σ ρ a) : H a ≠ none ∧ S a = none := by
  obtain ⟨i, p, d, e1, e2⟩ := h
  obtain ⟨b, e3, o⟩ := E.own i p d e1
  rw [e2] at e3; cases e3
  exact ⟨o.there, o.1⟩
theorem Go.refl : Go σ ρ S H σ ρ S H := ⟨fun _ _ e => e, fun _ _ e _ => e, fun _ e => e, fun _ e _ _ => e, fun _ e => .inl e, fun _ d e => ⟨⟨d, e⟩, rfl⟩, rfl⟩
theorem Go.trans (x : Go σ ρ S H σ' ρ' S' H') (y : Go σ' ρ' S' H' σ'' ρ'' S'' H'') : Go σ ρ S H σ'' ρ'' S'' H'' where
  st := fun a o e => y.st a o (x.st a o e)
  keep := fun a o e n => y.keep a o (x.keep a o e n) fun q => (x.own a q).elim n fun z => by rw [e] at z; cases z
  dom := fun a e => y.dom a (x.dom a e)
  new := fun a e h n => y.new a (x.new a e h n) (let ⟨o, ho, ht⟩ := h; ⟨o, x.keep a o ho n, ht⟩) fun q => (x.own a q).elim n fun z => h.ne z
  own := fun a q => (y.own a q).elim (x.own a) fun z => by
    cases e : H a with
    | none => exact .inr rfl
    | some o => exact absurd z (x.dom a (by rw [e]; simp))
  pin := fun i d e => by
    obtain ⟨⟨d1, e1⟩, s1⟩ := y.pin i d e
    obtain ⟨q, s2⟩ := x.pin i d1 e1
    exact ⟨q, s1.trans s2⟩
  len := y.len.trans x.len
end

/-! ### operands that have been evaluated -/
def RepR (K : PySem.W.Frag) (S H : Hp) (σ : L2.St) (ρ : List Sl) (v : V) : R → Prop
  | .val d => Rep K S v d
  | .own d => ∃ a, v = .ref a ∧ Own K S H a d ∧ ¬ Owns σ ρ a
  | .al i => σ[i]? = some (some v)

inductive RepRs (K : PySem.W.Frag) (S H : Hp) (σ : L2.St) (ρ : List Sl) : List V → List R → Prop
  | nil : RepRs K S H σ ρ [] []
  | cons {v : V} {r : R} {vs : List V} {rs : List R} : RepR K S H σ ρ v r → (∀ d a, r = .own d → v = .ref a → ∀ d' , (V.ref a, R.own d') ∉ vs.zip rs) → RepRs K S H σ ρ vs rs → RepRs K S H σ ρ (v :: vs) (r :: rs)

/-- from (σ, ρ, S, H) operands vs, rs have been made; now (σ, ρ', S', H') -/
structure Cur (K : PySem.W.Frag) (σ : L2.St) (ρ : List Sl) (S H : Hp) (vs : List V) (rs : List R) (ρ' : List Sl) (S' H' : Hp) : Prop where
  env : Env K S' σ H' ρ'
  go : Go σ ρ S H σ ρ' S' H'
  rep : RepRs K S' H' σ ρ' vs rs
  nw : ∀ a d, (V.ref a, R.own d) ∈ vs.zip rs → Owns σ ρ a ∨ H a = none
end FL
namespace FL
open PySem L2

section
variable {K : PySem.W.Frag} {S S1 S2 S' H H1 H2 H' : Hp} {σ σ' : L2.St} {ρ ρ1 ρ2 ρ' : List Sl} {a : Addr} {d : D} {v w : V} {r : R} {vs : List V} {rs : List R}

theorem Cur.init (E : Env K S σ H ρ) : Cur K σ ρ S H [] [] ρ S H := ⟨E, .refl, .nil, fun _ _ h => nomatch h⟩
theorem RepR.go (h : RepR K S1 H1 σ ρ1 v r) (E : Env K S1 σ H1 ρ1) (g : Go σ ρ1 S1 H1 σ ρ2 S2 H2) : RepR K S2 H2 σ ρ2 v r := by
  cases r with
  | val d => exact Rep.mono g.st h
  | al i => exact h
  | own d =>
    obtain ⟨a, rfl, o, n⟩ := h
    refine ⟨a, rfl, o.keep g.st (g.new a o.1 o.live n) fun u e => g.keep a u e n, fun q => ?_⟩
    exact (g.own a q).elim n fun z => o.there z
theorem Cur.cons (x : Cur K σ ρ S H [v] [r] ρ1 S1 H1) (y : Cur K σ ρ1 S1 H1 vs rs ρ2 S2 H2) : Cur K σ ρ S H (v :: vs) (r :: rs) ρ2 S2 H2 := by
  cases x.rep with
  | cons hr _ _ =>
    refine ⟨y.env, x.go.trans y.go, .cons (hr.go x.env y.go) ?_ y.rep, ?_⟩
    · intro d a e1 e2 d' hm
      subst e1 e2
      obtain ⟨b, e, o, n⟩ := hr
      cases e
      exact (y.nw a d' hm).elim n fun z => o.there z
    · intro a d hm
      rw [List.zip_cons_cons] at hm
      rcases List.mem_cons.mp hm with e | hm
      · exact x.nw a d (by cases e; simp)
      · rcases y.nw a d hm with q | q
        · exact x.go.own a q
        · cases e : H a with
          | none => exact .inr rfl
          | some o => exact absurd q (x.go.dom a (by rw [e]; simp))

/-- what a look at an operand tells -/
inductive See (K : PySem.W.Frag) (S H : Hp) : V → D → Prop
  | of {v : V} {d : D} : Rep K S v d → See K S H v d
  | lst {a : Addr} {vs : List V} {ds : List D} : H a = some (.lst vs) → Reps K S vs ds → See K S H (.ref a) (.lst ds)
  | dic {a : Addr} {ks : List (List Key × V)} {ds : List (List Key × D)} : H a = some (.dT ks) → RepK K S ks ds → See K S H (.ref a) (.dic ds)
def see (ρ : List Sl) : R → Option D
  | .val d => some d
  | .own d => some d
  | .al i => match ρ[i]? with
    | some (.own _ d) => some d
    | some (.val d) => some d
    | _ => none
theorem Own.see (o : Own K S H a d) : See K S H (.ref a) d := by
  obtain ⟨_, h⟩ := o
  cases d with
  | lst ds => obtain ⟨vs, e, r⟩ := h; exact .lst e r
  | dic ds => obtain ⟨vs, e, r⟩ := h; exact .dic e r
  | _ => exact h.elim
theorem RepR.see (h : RepR K S H σ ρ v r) (E : Env K S σ H ρ) (e : see ρ r = some d) : See K S H v d := by
  cases r with
  | val d' => cases e; exact .of h
  | own d' => cases e; obtain ⟨a, rfl, o, _⟩ := h; exact o.see
  | al i =>
    have h' : σ[i]? = some (some v) := h
    cases q : ρ[i]? with
    | none => simp [FL.see, q] at e
    | some sl =>
      cases sl with
      | no => simp [FL.see, q] at e
      | val d' =>
        simp [FL.see, q] at e; subst e
        obtain ⟨u, e1, r⟩ := E.val i d' q
        rw [h'] at e1; cases e1
        exact .of r
      | own p d' =>
        simp [FL.see, q] at e; subst e
        obtain ⟨b, e1, o⟩ := E.own i p d' q
        rw [h'] at e1; cases e1
        exact o.see
/-- what a look tells, by the data -/
theorem See.tup {ds : List D} (h : See K S H v (.tup ds)) (ex : Same S H) : ∃ a vs, v = .ref a ∧ SqT K H a vs ∧ Reps K S vs ds := by
  cases h with
  | of r =>
    cases r with
    | tup e q => exact ⟨_, _, rfl, .inl (.inl (ex _ _ e)), q⟩
    | con e => exact ⟨_, _, rfl, e.elim (fun z => by rcases z with z | ⟨_, z⟩ <;> exact absurd z (by simp)) .inr, over_reps⟩
theorem See.lst' {ds : List D} (h : See K S H v (.lst ds)) (ex : Same S H) : ∃ a vs, v = .ref a ∧ H a = some (.lst vs) ∧ Reps K S vs ds := by
  cases h with
  | of r => cases r with | lst e q => exact ⟨_, _, rfl, ex _ _ e, q⟩
  | lst e q => exact ⟨_, _, rfl, e, q⟩
theorem See.dic' {ds : List (List Key × D)} (h : See K S H v (.dic ds)) (ex : Same S H) : ∃ a ks, v = .ref a ∧ Rd H a (.dT ks) ∧ RepK K S ks ds := by
  cases h with
  | of r => cases r with | dic e q => exact ⟨_, _, rfl, (Le.of ex).dic _ _ e, q⟩
  | dic e q => exact ⟨_, _, rfl, .inl e, q⟩
theorem See.int {i : Int} (h : See K S H v (.int i)) : v = .int i := by cases h with | of r => cases r; rfl
theorem See.bl {b : Bool} (h : See K S H v (.bl b)) : v = .bl b := by cases h with | of r => cases r; rfl
theorem See.str {x : Str} (h : See K S H v (.str x)) : v = .str x := by cases h with | of r => cases r; rfl
theorem See.non (h : See K S H v .non) : v = .non := by cases h with | of r => cases r; rfl
theorem See.scr {ns : List Int} (h : See K S H v (.scr ns)) (ex : Same S H) : ∃ a, v = .ref a ∧ SqL K H a (ns.map V.int) := by
  cases h with
  | of r => cases r with | scr e => exact ⟨_, rfl, e.elim (fun q => .inl ((Le.of ex).rdl _ _ q)) .inr⟩

/-- a result made from what stands, all kept -/
structure Fresh (K : PySem.W.Frag) (S H : Hp) (w : V) (res : R) (S' H' : Hp) : Prop where
  st : Same S S'
  keep : Same H H'
  new : ∀ a, S a = none → Live H a → S' a = none
  ex : Same S' H'
  rep : match res with
    | .val d => Rep K S' w d
    | .own d => ∃ a, w = .ref a ∧ H a = none ∧ Own K S' H' a d
    | .al _ => False
theorem Env.fresh {res : R} (E : Env K S σ H ρ) (f : Fresh K S H w res S' H') : Env K S' σ H' ρ :=
  ⟨f.ex, E.len, fun i d e => let ⟨v, e1, r⟩ := E.val i d e; ⟨v, e1, r.mono f.st⟩, fun i p d e => let ⟨a, e1, o⟩ := E.own i p d e; ⟨a, e1, o.keep f.st (f.new a o.1 o.live) (f.keep a)⟩, E.inj⟩
theorem Go.fresh {res : R} (f : Fresh K S H w res S' H') : Go σ ρ S H σ ρ S' H' :=
  ⟨f.st, fun a o e _ => f.keep a o e, fun a h => by
    cases e : H a with
    | none => exact absurd e h
    | some o => rw [f.keep a o e]; simp, fun a e h _ => f.new a e h, fun _ q => .inl q, fun _ d e => ⟨⟨d, e⟩, rfl⟩, rfl⟩
theorem Cur.fin {res : R} (x : Cur K σ ρ S H vs rs ρ1 S1 H1) (f : Fresh K S1 H1 w res S2 H2) : Cur K σ ρ S H [w] [res] ρ1 S2 H2 := by
  have hn : ∀ a d, w = .ref a → res = .own d → H1 a = none := fun a d e1 e2 => by
    have q := f.rep
    subst e2
    obtain ⟨b, e, n, _⟩ := q
    rw [e1] at e; cases e; exact n
  refine ⟨x.env.fresh f, x.go.trans (.fresh f), .cons ?_ (fun _ _ _ _ _ h => nomatch h) .nil, ?_⟩
  · have q := f.rep
    cases res with
    | val d => exact q
    | al i => exact q.elim
    | own d =>
      obtain ⟨a, rfl, n, o⟩ := q
      exact ⟨a, rfl, o, fun z => (x.env.there z).1 n⟩
  · intro a d hm
    rw [List.zip_cons_cons] at hm
    rcases List.mem_cons.mp hm with e | hm
    · cases e
      have n := hn a d rfl rfl
      cases e : H a with
      | none => exact .inr rfl
      | some o => exact absurd n (x.go.dom a (by rw [e]; simp))
    · exact nomatch hm
/-- the kinds of results -/
theorem Fresh.flat {d : D} (ex : Same S H) (r : Rep K S w d) : Fresh K S H w (.val d) S H := ⟨fun _ _ e => e, fun _ _ e => e, fun _ e _ => e, ex, r⟩
theorem same_new {p : Addr} {o : HO} (h : H p = none) : Same H (upd H p o) := fun b u e => by rw [upd_ne (ne_of_none e h)]; exact e
theorem none_of {p : Addr} (ex : Same S H) (h : H p = none) : S p = none := by
  cases e : S p with
  | none => rfl
  | some o => rw [ex p o e] at h; cases h
theorem same_both {p : Addr} {o : HO} (ex : Same S H) : Same (upd S p o) (upd H p o) := fun b u e => by
  by_cases hb : b = p
  · subst hb; rw [upd_same] at e ⊢; exact e
  · rw [upd_ne hb] at e ⊢; exact ex b u e
theorem Fresh.tup {p : Addr} {vs : List V} {ds : List D} (ex : Same S H) (h : H p = none) (r : Reps K S vs ds) : Fresh K S H (.ref p) (.val (.tup ds)) (upd S p (.tup vs)) (upd H p (.tup vs)) :=
  ⟨same_new (none_of ex h), same_new h, fun a e n => by rw [upd_ne (fun z => n.ne (by rw [z]; exact h))]; exact e, same_both ex, .tup upd_same (r.mono (same_new (none_of ex h)))⟩
theorem Fresh.lst {p : Addr} {vs : List V} {ds : List D} (ex : Same S H) (h : H p = none) (r : Reps K S vs ds) : Fresh K S H (.ref p) (.own (.lst ds)) S (upd H p (.lst vs)) :=
  ⟨fun _ _ e => e, same_new h, fun _ e _ => e, fun b o e => same_new h b o (ex b o e), ⟨p, rfl, h, none_of ex h, vs, upd_same, r⟩⟩
theorem Fresh.dic {p : Addr} {vs : List (List Key × V)} {ds : List (List Key × D)} (ex : Same S H) (h : H p = none) (r : RepK K S vs ds) : Fresh K S H (.ref p) (.own (.dic ds)) S (upd H p (.dT vs)) :=
  ⟨fun _ _ e => e, same_new h, fun _ e _ => e, fun b o e => same_new h b o (ex b o e), ⟨p, rfl, h, none_of ex h, vs, upd_same, r⟩⟩

/-! ### an operand is kept for good -/
def take (ρ : List Sl) : R → Option (D × List Sl)
  | .val d => some (d, ρ)
  | .own d => some (d, ρ)
  | .al i => match ρ[i]? with
    | some (.own _ d) => some (d, ρ.set i (.val d))
    | some (.val d) => some (d, ρ)
    | _ => none
theorem Own.frz (o : Own K S H a d) : ∃ u, H a = some u ∧ Rep K (upd S a u) (.ref a) d := by
  obtain ⟨n, h⟩ := o
  cases d with
  | lst ds => obtain ⟨vs, e, r⟩ := h; exact ⟨_, e, .lst upd_same (r.mono (same_new n))⟩
  | dic ds => obtain ⟨vs, e, r⟩ := h; exact ⟨_, e, .dic (.inl upd_same) (r.mono (same_new n))⟩
  | _ => exact h.elim
theorem RepRs.mono2 (h : RepRs K S H σ ρ vs rs) (f : ∀ v r, (v, r) ∈ vs.zip rs → RepR K S H σ ρ v r → RepR K S' H' σ ρ' v r) : RepRs K S' H' σ ρ' vs rs := by
  induction h with
  | nil => exact .nil
  | cons hr hd ht ih => exact .cons (f _ _ (by simp) hr) hd (ih fun v r hm => f v r (by rw [List.zip_cons_cons]; exact List.mem_cons_of_mem _ hm))
/-- S grows by the object at a, which stands in H and is neither owned by a slot of ρ2 nor by an operand -/
theorem Env.grow {u : HO} (E : Env K S σ H ρ) (hs : S a = none) (hu : H a = some u) (hn : ¬ Owns σ ρ a) : Env K (upd S a u) σ H ρ := by
  refine ⟨fun b o e => ?_, E.len, fun i d e => let ⟨v, e1, r⟩ := E.val i d e; ⟨v, e1, r.mono (same_new hs)⟩, fun i p d e => ?_, E.inj⟩
  · by_cases hb : b = a
    · subst hb; rw [upd_same] at e; cases e; exact hu
    · rw [upd_ne hb] at e; exact E.ex b o e
  · obtain ⟨b, e1, o⟩ := E.own i p d e
    have hb : b ≠ a := fun z => hn ⟨i, p, d, e, by rw [e1, z]⟩
    exact ⟨b, e1, o.keep (same_new hs) (by rw [upd_ne hb]; exact o.1) fun _ e => e⟩
theorem Go.grow {u : HO} (g : Go σ ρ S H σ' ρ1 S1 H1) (hs : S1 a = none) (hw : Owns σ ρ a ∨ H a = none) : Go σ ρ S H σ' ρ1 (upd S1 a u) H1 :=
  ⟨fun b o e => same_new hs b o (g.st b o e), g.keep, g.dom, fun b e h n => by
    rw [upd_ne]
    · exact g.new b e h n
    · rintro rfl; exact hw.elim n fun z => h.ne z, g.own, g.pin, g.len⟩
theorem owns_set {i : Nat} {d' : D} (h : Owns σ (ρ.set i (.val d')) a) : Owns σ ρ a := by
  obtain ⟨j, p, d, e1, e2⟩ := h
  by_cases hj : j = i
  · subst hj
    by_cases hl : j < ρ.length
    · rw [List.getElem?_set_self hl] at e1; cases e1
    · rw [List.getElem?_eq_none (by simpa using hl)] at e1; cases e1
  · rw [List.getElem?_set_ne (Ne.symm hj)] at e1
    exact ⟨j, p, d, e1, e2⟩
theorem RepR.grow {u : HO} {ρ' : List Sl} (hs : S a = none) (ho : ∀ b, Owns σ ρ' b → Owns σ ρ b) (hne : ∀ d, (v, r) ≠ (.ref a, .own d)) (h : RepR K S H σ ρ v r) : RepR K (upd S a u) H σ ρ' v r := by
  cases r with
  | val d => exact Rep.mono (same_new hs) h
  | al i => exact h
  | own d =>
    obtain ⟨b, rfl, o, n⟩ := h
    have hb : b ≠ a := fun z => hne d (by rw [z])
    exact ⟨b, rfl, o.keep (same_new hs) (by rw [upd_ne hb]; exact o.1) (fun _ e => e), fun z => n (ho b z)⟩
theorem Cur.take (x : Cur K σ ρ S H (v :: vs) (r :: rs) ρ1 S1 H1) (e : FL.take ρ1 r = some (d, ρ2)) :
    ∃ S2, Same S1 S2 ∧ Rep K S2 v d ∧ Cur K σ ρ S H vs rs ρ2 S2 H1 := by
  have nw' : ∀ a d, (V.ref a, R.own d) ∈ vs.zip rs → Owns σ ρ a ∨ H a = none := fun a d hm => x.nw a d (by rw [List.zip_cons_cons]; exact List.mem_cons_of_mem _ hm)
  cases x.rep with
  | cons hr hd ht =>
    cases r with
    | val d' =>
      cases e
      exact ⟨S1, fun _ _ e => e, hr, x.env, x.go, ht, nw'⟩
    | own d' =>
      cases e
      obtain ⟨a, rfl, o, n⟩ := hr
      obtain ⟨u, hu, hrep⟩ := o.frz
      have hw := x.nw a d (by simp)
      refine ⟨upd S1 a u, same_new o.1, hrep, x.env.grow o.1 hu n, x.go.grow o.1 hw, ht.mono2 fun v r hm hv => ?_, nw'⟩
      refine hv.grow o.1 (fun _ z => z) fun d' z => ?_
      cases z
      exact hd _ a rfl rfl _ hm
    | al i =>
      have h' : σ[i]? = some (some v) := hr
      cases q : ρ1[i]? with
      | none => simp [FL.take, q] at e
      | some sl =>
        cases sl with
        | no => simp [FL.take, q] at e
        | val d' =>
          simp [FL.take, q] at e
          obtain ⟨rfl, rfl⟩ := e
          obtain ⟨u, e1, r⟩ := x.env.val i d' q
          rw [h'] at e1; cases e1
          exact ⟨S1, fun _ _ e => e, r, x.env, x.go, ht, nw'⟩
        | own p d' =>
          simp [FL.take, q] at e
          obtain ⟨rfl, rfl⟩ := e
          obtain ⟨a, e1, o⟩ := x.env.own i p d' q
          rw [h'] at e1; cases e1
          obtain ⟨u, hu, hrep⟩ := o.frz
          have hi : i < ρ1.length := (List.getElem?_eq_some_iff.mp q).1
          have hown : Owns σ ρ1 a := ⟨i, p, d', q, h'⟩
          have E2 : Env K S1 σ H1 (ρ1.set i .no) := by
            refine ⟨x.env.ex, by rw [List.length_set]; exact x.env.len, fun j e hj => ?_, fun j p e hj => ?_, fun j k p q e f b hj hk => ?_⟩
            · by_cases hji : j = i
              · subst hji; rw [List.getElem?_set_self hi] at hj; cases hj
              · rw [List.getElem?_set_ne (Ne.symm hji)] at hj; exact x.env.val j e hj
            · by_cases hji : j = i
              · subst hji; rw [List.getElem?_set_self hi] at hj; cases hj
              · rw [List.getElem?_set_ne (Ne.symm hji)] at hj; exact x.env.own j p e hj
            · by_cases hji : j = i
              · subst hji; rw [List.getElem?_set_self hi] at hj; cases hj
              · by_cases hki : k = i
                · subst hki; rw [List.getElem?_set_self hi] at hk; cases hk
                · rw [List.getElem?_set_ne (Ne.symm hji)] at hj
                  rw [List.getElem?_set_ne (Ne.symm hki)] at hk
                  exact x.env.inj j k p q e f b hj hk
          have hn2 : ¬ Owns σ (ρ1.set i .no) a := by
            rintro ⟨j, p', e', h1, h2⟩
            by_cases hji : j = i
            · subst hji; rw [List.getElem?_set_self hi] at h1; cases h1
            · rw [List.getElem?_set_ne (Ne.symm hji)] at h1
              exact hji (x.env.inj j i _ _ _ _ a h1 q h2 h')
          have E3 := E2.grow o.1 hu hn2
          have E4 : Env K (upd S1 a u) σ H1 (ρ1.set i (.val d')) := by
            refine ⟨E3.ex, by rw [List.length_set]; exact x.env.len, fun j e hj => ?_, fun j p e hj => ?_, fun j k p q e f b hj hk => ?_⟩
            · by_cases hji : j = i
              · subst hji; rw [List.getElem?_set_self hi] at hj; cases hj; exact ⟨_, h', hrep⟩
              · rw [List.getElem?_set_ne (Ne.symm hji)] at hj; exact E3.val j e (by rw [List.getElem?_set_ne (Ne.symm hji)]; exact hj)
            · by_cases hji : j = i
              · subst hji; rw [List.getElem?_set_self hi] at hj; cases hj
              · rw [List.getElem?_set_ne (Ne.symm hji)] at hj; exact E3.own j p e (by rw [List.getElem?_set_ne (Ne.symm hji)]; exact hj)
            · by_cases hji : j = i
              · subst hji; rw [List.getElem?_set_self hi] at hj; cases hj
              · by_cases hki : k = i
                · subst hki; rw [List.getElem?_set_self hi] at hk; cases hk
                · rw [List.getElem?_set_ne (Ne.symm hji)] at hj
                  rw [List.getElem?_set_ne (Ne.symm hki)] at hk
                  exact x.env.inj j k p q e f b hj hk
          have hw : Owns σ ρ a ∨ H a = none := x.go.own a hown
          refine ⟨upd S1 a u, same_new o.1, hrep, E4, ?_, ?_, nw'⟩
          · have g := x.go.grow (u := u) o.1 hw
            refine ⟨g.st, g.keep, g.dom, g.new, fun b z => g.own b (owns_set z), fun j e hj => ?_, g.len⟩
            by_cases hji : j = i
            · subst hji; rw [List.getElem?_set_self hi] at hj; cases hj
            · rw [List.getElem?_set_ne (Ne.symm hji)] at hj; exact g.pin j e hj
          · refine ht.mono2 fun v r hm hv => hv.grow o.1 (fun _ z => owns_set z) fun d'' z => ?_
            cases z
            obtain ⟨b, eb, _, nb⟩ := hv
            cases eb
            exact nb hown
def takes : List Sl → List R → Option (List D × List Sl)
  | ρ, [] => some ([], ρ)
  | ρ, r :: rs => (FL.take ρ r).bind fun p => (takes p.2 rs).map fun q => (p.1 :: q.1, q.2)
theorem Cur.takes : ∀ {vs : List V} {rs : List R} {ρ1 ρ2 : List Sl} {S1 : Hp} {ds : List D}, Cur K σ ρ S H vs rs ρ1 S1 H1 → FL.takes ρ1 rs = some (ds, ρ2) → ∃ S2, Same S1 S2 ∧ Reps K S2 vs ds ∧ Cur K σ ρ S H [] [] ρ2 S2 H1 := by
  intro vs
  induction vs with
  | nil =>
    intro rs ρ1 ρ2 S1 ds x e
    cases x.rep
    cases e
    exact ⟨S1, fun _ _ e => e, .nil, x⟩
  | cons v vs ih =>
    intro rs ρ1 ρ2 S1 ds x e
    cases rs with
    | nil => exact nomatch x.rep
    | cons r rs =>
      simp only [FL.takes] at e
      cases h1 : FL.take ρ1 r with
      | none => simp [h1] at e
      | some p =>
        simp only [h1, Option.bind_some] at e
        cases h2 : FL.takes p.2 rs with
        | none => simp [h2] at e
        | some q =>
          simp only [h2, Option.map_some, Option.some.injEq, Prod.mk.injEq] at e
          obtain ⟨rfl, rfl⟩ := e
          obtain ⟨S2, s1, r1, c1⟩ := x.take (d := p.1) (ρ2 := p.2) h1
          obtain ⟨S3, s2, r2, c2⟩ := ih c1 (ds := q.1) (ρ2 := q.2) h2
          exact ⟨S3, fun a o e => s2 a o (s1 a o e), .cons (r1.mono s2) r2, c2⟩
end
end FL
namespace FL
open PySem L2

abbrev Ev := List Sl → Option (R × List Sl)
def evs : List Ev → List Sl → Option (List R × List Sl)
  | [], ρ => some ([], ρ)
  | f :: fs, ρ => (f ρ).bind fun p => (evs fs p.2).map fun q => (p.1 :: q.1, q.2)
def tV (K : PySem.W.Frag) (f : Ev) : TE := fun σ H Q => ∃ S ρ r ρ', Env K S σ H ρ ∧ f ρ = some (r, ρ') ∧ ∀ v S' H', Cur K σ ρ S H [v] [r] ρ' S' H' → Q v H'
def tVA (K : PySem.W.Frag) (fs : List Ev) : TA := fun σ H Q => ∃ S ρ rs ρ', Env K S σ H ρ ∧ evs fs ρ = some (rs, ρ') ∧ ∀ vs S' H', Cur K σ ρ S H vs rs ρ' S' H' → Q vs H'
def tVT (K : PySem.W.Frag) (f : Ev) : TT := fun σ H Q => ∃ S ρ b ρ', Env K S σ H ρ ∧ f ρ = some (.val (.bl b), ρ') ∧ ∀ S' H', Cur K σ ρ S H [] [] ρ' S' H' → Q b H'
abbrev VE (X : Cx) (e : Expr) (f : Ev) : Prop := PE X e (tV X.K f)
abbrev VA (X : Cx) (es : List Expr) (fs : List Ev) : Prop := PA X es (tVA X.K fs)
abbrev VT (X : Cx) (e : Expr) (f : Ev) : Prop := PT X e (tVT X.K f)
abbrev VW (X : Cx) (e : Expr) (f : Ev) : Prop := PW X e (tVT X.K f)

/-! ### the functions -/
def fVar (i : Nat) : Ev := fun ρ => match ρ[i]? with
  | some (.val d) => some (.val d, ρ)
  | some (.own _ _) => some (.al i, ρ)
  | _ => none
def fC (d : D) : Ev := fun ρ => some (.val d, ρ)
def fOp1 (o : D → Option R) (f : Ev) : Ev := fun ρ => (f ρ).bind fun p => (see p.2 p.1).bind fun x => (o x).map fun r => (r, p.2)
def fOp2 (o : D → D → Option R) (f g : Ev) : Ev := fun ρ => (f ρ).bind fun p => (g p.2).bind fun q => (see q.2 p.1).bind fun x => (see q.2 q.1).bind fun y => (o x y).map fun r => (r, q.2)
def sees (ρ : List Sl) : List R → Option (List D)
  | [] => some []
  | r :: rs => (see ρ r).bind fun d => (sees ρ rs).map fun ds => d :: ds
def fOpN (o : List D → Option R) (fs : List Ev) : Ev := fun ρ => (evs fs ρ).bind fun p => (sees p.2 p.1).bind fun ds => (o ds).map fun r => (r, p.2)
/-- a method of a built-in type, its object looked at twice (its kind first) -/
def fMt (o : List D → Option R) (f : Ev) (fs : List Ev) : Ev := fun ρ => (f ρ).bind fun p => (evs fs p.2).bind fun q => (sees q.2 (p.1 :: q.1)).bind fun ds => (o ds).map fun r => (r, q.2)
def fChain (o o' : D → D → Option Bool) (f g h : Ev) : Ev := fun ρ => (f ρ).bind fun p => (g p.2).bind fun q => (see q.2 p.1).bind fun x => (see q.2 q.1).bind fun y => (o x y).bind fun b =>
  if b = true then (h q.2).bind fun r => (see r.2 q.1).bind fun y' => (see r.2 r.1).bind fun z => (o' y' z).map fun c => (.val (.bl c), r.2) else some (.val (.bl false), q.2)
def fAnd (f g : Ev) : Ev := fun ρ => (f ρ).bind fun p => match p.1 with
  | .val (.bl true) => g p.2
  | .val (.bl false) => some (.val (.bl false), p.2)
  | _ => none
def fOr (f g : Ev) : Ev := fun ρ => (f ρ).bind fun p => match p.1 with
  | .val (.bl true) => some (.val (.bl true), p.2)
  | .val (.bl false) => g p.2
  | _ => none
def fNot (f : Ev) : Ev := fun ρ => (f ρ).bind fun p => match p.1 with
  | .val (.bl b) => some (.val (.bl (!b)), p.2)
  | _ => none
def fIf (c f g : Ev) : Ev := fun ρ => (c ρ).bind fun p => match p.1 with
  | .val (.bl true) => f p.2
  | .val (.bl false) => g p.2
  | _ => none
def cap : Nat := 1000000
theorem cap_le {n : Nat} (h : n ≤ cap) : n ≤ sizeLine := Nat.le_trans h (by decide)
def fTup (fs : List Ev) : Ev := fun ρ => (evs fs ρ).bind fun p => (takes p.2 p.1).bind fun q => if q.1.length ≤ cap then some (.val (.tup q.1), q.2) else none
def fLst (fs : List Ev) : Ev := fun ρ => (evs fs ρ).bind fun p => (takes p.2 p.1).bind fun q => if q.1.length ≤ cap then some (.own (.lst q.1), q.2) else none

/-! ### the rules -/
theorem _root_.L2.PE.imp {X : Cx} {e : Expr} {t t' : TE} (h : PE X e t) (k : ∀ σ H Q, t' σ H Q → t σ H Q) : PE X e t' := ⟨fun pins s σ H Q I q => h.run pins s σ H Q I (k σ H Q q)⟩
theorem _root_.L2.PE.or {X : Cx} {e : Expr} {t t' : TE} (h : PE X e t) (h' : PE X e t') : PE X e fun σ H Q => t σ H Q ∨ t' σ H Q := ⟨fun pins s σ H Q I q => q.elim (h.run pins s σ H Q I) (h'.run pins s σ H Q I)⟩
theorem _root_.L2.PA.imp {X : Cx} {e : List Expr} {t t' : TA} (h : PA X e t) (k : ∀ σ H Q, t' σ H Q → t σ H Q) : PA X e t' := ⟨fun pos pins s σ H Q I q => h.run pos pins s σ H Q I (k σ H Q q)⟩
theorem _root_.L2.PT.imp {X : Cx} {e : Expr} {t t' : TT} (h : PT X e t) (k : ∀ σ H Q, t' σ H Q → t σ H Q) : PT X e t' := ⟨fun pins s σ H Q I q => h.run pins s σ H Q I (k σ H Q q)⟩
theorem _root_.L2.PW.imp {X : Cx} {e : Expr} {t t' : TT} (h : PW X e t) (k : ∀ σ H Q, t' σ H Q → t σ H Q) : PW X e t' := ⟨fun w pins s σ H Q I q => h.run w pins s σ H Q I (k σ H Q q)⟩
theorem bind_some {α β : Type} {a : Option α} {f : α → Option β} {b : β} (h : a.bind f = some b) : ∃ x, a = some x ∧ f x = some b := Option.bind_eq_some_iff.mp h
theorem map_some {α β : Type} {a : Option α} {f : α → β} {b : β} (h : a.map f = some b) : ∃ x, a = some x ∧ f x = b := Option.map_eq_some_iff.mp h

section
variable {K : PySem.W.Frag} {S H : Hp} {σ : L2.St} {ρ ρ1 ρ2 : List Sl}
theorem Cur.rep1 {σ : L2.St} {ρ ρ' : List Sl} {S H S' H' : Hp} {v : V} {r : R} (c : Cur K σ ρ S H [v] [r] ρ' S' H') : RepR K S' H' σ ρ' v r := by
  cases c.rep with | cons h _ _ => exact h
theorem Cur.drop {σ : L2.St} {ρ ρ' : List Sl} {S H S' H' : Hp} {vs : List V} {rs : List R} (c : Cur K σ ρ S H vs rs ρ' S' H') : Cur K σ ρ S H [] [] ρ' S' H' := ⟨c.env, c.go, .nil, fun _ _ h => nomatch h⟩
theorem bin {fa fb : Ev} {ra rb : R} {G : V → V → Hp → Prop} (E : Env K S σ H ρ) (h1 : fa ρ = some (ra, ρ1)) (h2 : fb ρ1 = some (rb, ρ2))
    (k : ∀ u v S2 H2, Cur K σ ρ S H [u, v] [ra, rb] ρ2 S2 H2 → G u v H2) : tV K fa σ H fun u H1 => tV K fb σ H1 fun v H2 => G u v H2 :=
  ⟨S, ρ, ra, ρ1, E, h1, fun u S1 H1 c1 => ⟨S1, ρ1, rb, ρ2, c1.env, h2, fun v S2 H2 c2 => k u v S2 H2 (c1.cons c2)⟩⟩
inductive Sees (K : PySem.W.Frag) (S H : Hp) : List V → List D → Prop
  | nil : Sees K S H [] []
  | cons {v : V} {d : D} {vs : List V} {ds : List D} : See K S H v d → Sees K S H vs ds → Sees K S H (v :: vs) (d :: ds)
theorem RepRs.sees {vs : List V} : ∀ {rs : List R} {ds : List D}, RepRs K S H σ ρ vs rs → Env K S σ H ρ → sees ρ rs = some ds → Sees K S H vs ds := by
  induction vs with
  | nil => intro rs ds h E e; cases h; cases e; exact .nil
  | cons v vs ih =>
    intro rs ds h E e
    cases h with
    | cons hr _ ht =>
      obtain ⟨d, e1, e2⟩ := bind_some e
      obtain ⟨ds', e3, rfl⟩ := map_some e2
      exact .cons (hr.see E e1) (ih ht E e3)
end

section
variable {X : Cx} {e a b c : Expr} {es : List Expr} {f g h : Ev} {fs : List Ev} {pos : Pos}
theorem ve_var {i : Nat} (hp : PE X e (tVar i)) : VE X e (fVar i) := hp.imp fun σ H Q q => by
  obtain ⟨S, ρ, r, ρ', E, e, k⟩ := q
  simp only [fVar] at e
  cases q : ρ[i]? with
  | none => simp [q] at e
  | some sl =>
    cases sl with
    | no => simp [q] at e
    | val d =>
      simp [q] at e; obtain ⟨rfl, rfl⟩ := e
      obtain ⟨v, e1, r⟩ := E.val i d q
      exact ⟨v, e1, k v S H ⟨E, .refl, .cons r (fun _ _ h => nomatch h) .nil, fun a d h => by simp at h⟩⟩
    | own p d =>
      simp [q] at e; obtain ⟨rfl, rfl⟩ := e
      obtain ⟨a, e1, o⟩ := E.own i p d q
      exact ⟨_, e1, k _ S H ⟨E, .refl, .cons e1 (fun _ _ h => nomatch h) .nil, fun a d h => by simp at h⟩⟩
theorem ve_c {v : V} {d : D} (hp : PE X e (tC v)) (hr : ∀ S, Rep X.K S v d) : VE X e (fC d) := hp.imp fun σ H Q q => by
  obtain ⟨S, ρ, r, ρ', E, e, k⟩ := q
  cases e
  exact k v S H ⟨E, .refl, .cons (hr S) (fun _ _ h => nomatch h) .nil, fun a d h => by simp at h⟩
theorem ve_int {i : Int} {j : Nat} : VE X (.Constant (.int i) j pos) (fC (.int i)) := ve_c pe_int fun _ => .int i
theorem ve_bl {i : Bool} {j : Nat} : VE X (.Constant (.bool i) j pos) (fC (.bl i)) := ve_c pe_bl fun _ => .bl i
theorem ve_str {i : Str} {j : Nat} : VE X (.Constant (.str i) j pos) (fC (.str i)) := ve_c pe_str fun _ => .str i
theorem ve_non {j : Nat} : VE X (.Constant .none j pos) (fC .non) := ve_c pe_non fun _ => .non
theorem va_nil : VA X [] [] := pa_nil.imp fun σ H Q q => by
  obtain ⟨S, ρ, rs, ρ', E, e, k⟩ := q
  cases e
  exact k [] S H (.init E)
theorem va_cons (ha : VE X e f) (hr : VA X es fs) (hs : starEach (e :: es) X.env = (false, eval e X.env) :: starEach es X.env := by rfl) : VA X (e :: es) (f :: fs) :=
  (pa_cons ha hr hs).imp fun σ H Q q => by
    obtain ⟨S, ρ, rs, ρ', E, e, k⟩ := q
    obtain ⟨p, e1, e2⟩ := bind_some e
    obtain ⟨p2, e3, e4⟩ := map_some e2
    cases e4
    exact ⟨S, ρ, p.1, p.2, E, e1, fun v S1 H1 c1 => ⟨S1, p.2, p2.1, p2.2, c1.env, e3, fun vs S2 H2 c2 => k (v :: vs) S2 H2 (c1.cons c2)⟩⟩

def Sound1 (K : PySem.W.Frag) (r : V → Hp → VK → Prop) (o : D → Option R) : Prop := ∀ S H v d res, Same S H → See K S H v d → o d = some res → ∀ Q : VK, (∀ w S' H', Fresh K S H w res S' H' → Q w H') → r v H Q
def Sound2 (K : PySem.W.Frag) (r : R2) (o : D → D → Option R) : Prop := ∀ S H u v x y res, Same S H → See K S H u x → See K S H v y → o x y = some res → ∀ Q : VK, (∀ w S' H', Fresh K S H w res S' H' → Q w H') → r u v H Q
def SoundN (K : PySem.W.Frag) (r : List V → Hp → VK → Prop) (o : List D → Option R) : Prop := ∀ S H vs ds res, Same S H → Sees K S H vs ds → o ds = some res → ∀ Q : VK, (∀ w S' H', Fresh K S H w res S' H' → Q w H') → r vs H Q

theorem sem1 {K : PySem.W.Frag} {r : V → Hp → VK → Prop} {o : D → Option R} (so : Sound1 K r o) {σ : L2.St} {H : Hp} {Q : VK} (q : tV K (fOp1 o f) σ H Q) : tUn r (tV K f) σ H Q := by
  obtain ⟨S, ρ, r, ρ', E, e, k⟩ := q
  obtain ⟨p, e1, e2⟩ := bind_some e
  obtain ⟨x, e3, e4⟩ := bind_some e2
  obtain ⟨r, e5, e6⟩ := map_some e4
  cases e6
  refine ⟨S, ρ, p.1, p.2, E, e1, fun v S1 H1 c => ?_⟩
  exact so S1 H1 v x r c.env.ex (c.rep1.see c.env e3) e5 Q fun w S2 H2 fr => k w S2 H2 (c.fin fr)
theorem sem2 {K : PySem.W.Frag} {r : R2} {o : D → D → Option R} (so : Sound2 K r o) {σ : L2.St} {H : Hp} {Q : VK} (q : tV K (fOp2 o f g) σ H Q) : tOp r (tV K f) (tV K g) σ H Q := by
  obtain ⟨S, ρ, r, ρ', E, e, k⟩ := q
  obtain ⟨p, e1, e2⟩ := bind_some e
  obtain ⟨p2, e3, e4⟩ := bind_some e2
  obtain ⟨x, e5, e6⟩ := bind_some e4
  obtain ⟨y, e7, e8⟩ := bind_some e6
  obtain ⟨r, e9, e10⟩ := map_some e8
  cases e10
  refine bin E e1 e3 fun u v S2 H2 c => ?_
  cases c.rep with
  | cons hu _ ht =>
    cases ht with
    | cons hv _ _ => exact so S2 H2 u v x y r c.env.ex (hu.see c.env e5) (hv.see c.env e7) e9 Q fun w S3 H3 fr => k w S3 H3 (c.fin fr)
theorem semN {K : PySem.W.Frag} {r : List V → Hp → VK → Prop} {o : List D → Option R} (so : SoundN K r o) {σ : L2.St} {H : Hp} {Q : VK} (q : tV K (fOpN o fs) σ H Q) : tCB r (tVA K fs) σ H Q := by
  obtain ⟨S, ρ, r, ρ', E, e, k⟩ := q
  obtain ⟨p, e1, e2⟩ := bind_some e
  obtain ⟨x, e3, e4⟩ := bind_some e2
  obtain ⟨r, e5, e6⟩ := map_some e4
  cases e6
  refine ⟨S, ρ, p.1, p.2, E, e1, fun v S1 H1 c => ?_⟩
  exact so S1 H1 v x r c.env.ex (c.rep.sees c.env e3) e5 Q fun w S2 H2 fr => k w S2 H2 (c.fin fr)
theorem ve_un {op : UnaryOp} {r : V → Hp → VK → Prop} {o : D → Option R} (ho : UnR X (unaryOp op) r) (so : Sound1 X.K r o) (ha : VE X a f) : VE X (.UnaryOp op a pos) (fOp1 o f) := (pe_un ho ha).imp fun _ _ _ q => sem1 so q
theorem ve_bin {op : Operator} {r : R2} {o : D → D → Option R} (ho : OpR X (binaryOp op) r) (so : Sound2 X.K r o) (ha : VE X a f) (hb : VE X b g) : VE X (.BinOp a op b pos) (fOp2 o f g) := (pe_op ho ha hb).imp fun _ _ _ q => sem2 so q
theorem ve_cmp {op : CmpOp} {r : R2} {o : D → D → Option R} (ho : OpR X (compareOp op) r) (so : Sound2 X.K r o) (ha : VE X a f) (hb : VE X b g) (hm : behindInMarks op b = false) : VE X (.Compare a [op] [b] pos) (fOp2 o f g) :=
  (pe_cmpR ho ha hb hm).imp fun _ _ _ q => sem2 so q
theorem ve_ix {r : R2} {o : D → D → Option R} (hr : IxR X r) (so : Sound2 X.K r o) (ha : VE X a f) (hb : VE X b g) (hs : PlainIx b) : VE X (.Subscript a b pos) (fOp2 o f g) := (pe_ix hr ha hb hs).imp fun _ _ _ q => sem2 so q
theorem ve_callB {x : Str} {p : Pos} {id : String} {r : List V → Hp → VK → Prop} {o : List D → Option R} (hc : CallR X (.builtin id) r) (so : SoundN X.K r o) (hg : Gl X x) (hm : X.mg x = none) (hv : bootBuiltins x = some (.builtin id)) (ha : VA X (e :: es) fs)
    (hn : x ≠ "__name__" := by decide) (hdb : (x == ("__debug__" : Str)) = false := by decide)
    (he : starEach (e :: es) X.env = (false, eval e X.env) :: starEach es X.env := by rfl) (hpl : (backTo pos (starEach es X.env)).any (·.1) = false := by rfl) : VE X (.Call (.Name x p) (e :: es) [] pos) (fOpN o fs) :=
  (pe_callB hc hg hm hv ha hn hdb he hpl).imp fun _ _ _ q => semN so q
theorem ve_callTy {x : Str} {p : Pos} {T : String} {r : List V → Hp → VK → Prop} {o : List D → Option R} (hc : CallR X (.type T) r) (so : SoundN X.K r o) (hg : Gl X x) (hm : X.mg x = none) (hv : bootBuiltins x = some (.type T)) (ha : VA X (e :: es) fs)
    (hn : x ≠ "__name__" := by decide) (hdb : (x == ("__debug__" : Str)) = false := by decide)
    (he : starEach (e :: es) X.env = (false, eval e X.env) :: starEach es X.env := by rfl) (hpl : (backTo pos (starEach es X.env)).any (·.1) = false := by rfl) : VE X (.Call (.Name x p) (e :: es) [] pos) (fOpN o fs) :=
  (pe_callTy hc hg hm hv ha hn hdb he hpl).imp fun _ _ _ q => semN so q
/-- two comparisons -/
def SoundB (K : PySem.W.Frag) (r : R2) (o : D → D → Option Bool) : Prop := ∀ S H u v x y b, Same S H → See K S H u x → See K S H v y → o x y = some b → ∀ Q : VK, Q (.bl b) H → r u v H Q
theorem sem_chain {K : PySem.W.Frag} {r r' : R2} {o o' : D → D → Option Bool} (so : SoundB K r o) (so' : SoundB K r' o') {σ : L2.St} {H : Hp} {Q : VK} (q : tV K (fChain o o' f g h) σ H Q) : tChain r r' (tV K f) (tV K g) (tV K h) σ H Q := by
  obtain ⟨S, ρ, r, ρ', E, e, k⟩ := q
  obtain ⟨p, e1, e2⟩ := bind_some e
  obtain ⟨p2, e3, e4⟩ := bind_some e2
  obtain ⟨x, e5, e6⟩ := bind_some e4
  obtain ⟨y, e7, e8⟩ := bind_some e6
  obtain ⟨t, e9, e10⟩ := bind_some e8
  refine bin (G := fun x y H2 => _) E e1 e3 fun u v S2 H2 c => ?_
  cases hrep : c.rep with
  | cons hu hd ht =>
    cases ht with
    | cons hv _ _ =>
      refine so S2 H2 u v x y t c.env.ex (hu.see c.env e5) (hv.see c.env e7) e9 _ ⟨t, rfl, ?_⟩
      cases t with
      | false =>
        rw [if_neg (by decide)] at e10 ⊢
        cases e10
        exact k _ S2 H2 (c.fin (.flat c.env.ex (.bl false)))
      | true =>
        rw [if_pos rfl] at e10 ⊢
        obtain ⟨p3, f1, f2⟩ := bind_some e10
        obtain ⟨y', f3, f4⟩ := bind_some f2
        obtain ⟨z, f5, f6⟩ := bind_some f4
        obtain ⟨t2, f7, f8⟩ := map_some f6
        cases f8
        refine ⟨S2, p2.2, p3.1, p3.2, c.env, f1, fun w S3 H3 c3 => ?_⟩
        have hv3 := hv.go c.env c3.go
        refine so' S3 H3 v w y' z t2 c3.env.ex (hv3.see c3.env f3) (c3.rep1.see c3.env f5) f7 _ ?_
        refine k _ S3 H3 (Cur.fin (vs := []) (rs := []) ⟨c3.env, c.go.trans c3.go, .nil, fun _ _ h => nomatch h⟩ (.flat c3.env.ex (.bl t2)))
theorem ve_chain {op op' : CmpOp} {r r' : R2} {o o' : D → D → Option Bool} (ho : OpR X (compareOp op) r) (ho' : OpR X (compareOp op') r') (so : SoundB X.K r o) (so' : SoundB X.K r' o') (ha : VE X a f) (hb : VE X b g) (hc : VE X c h)
    (hm : lastMarks [op, op'] [b, c] = false := by with_unfolding_all rfl) : VE X (.Compare a [op, op'] [b, c] pos) (fChain o o' f g h) := (pe_chain ho ho' ha hb hc hm).imp fun σ H Q q => sem_chain so so' q
end
end FL
namespace FL
open PySem L2

abbrev Fn := List Sl → Option (R × List Sl)
def spV (K : PySem.W.Frag) (n : Nat) (F : Fn) : Sp := fun vs H Q _ => vs.length = n ∧ tV K F (vs.map some) H Q
structure Cal (P : Program) (w : World) (K : PySem.W.Frag) (mg : Str → Option Value) (base : Heap) (x : Str) (k n : Nat) (F : Fn) : Prop where
  ex : ∃ f fd ps, mg x = some (.ref f) ∧ PySem.W.keepIn K (.ref f) = true ∧ Binds K fd ps [] ∧ ps.length = n ∧ FnOk P w K mg base CX0 k f fd ps (spV K n F)

def argOf (ρ : List Sl) : R → Option Sl
  | .val d => some (.val d)
  | .own d => some (.own false d)
  | .al i => match ρ[i]? with
    | some (.own _ d) => some (.own false d)
    | some (.val d) => some (.val d)
    | _ => none
def argsOf (ρ : List Sl) : List R → Option (List Sl)
  | [] => some []
  | r :: rs => (argOf ρ r).bind fun a => (argsOf ρ rs).map fun as => a :: as
def als (ρ : List Sl) : List R → List Nat
  | [] => []
  | .al i :: rs => match ρ[i]? with
    | some (.own _ _) => i :: als ρ rs
    | _ => als ρ rs
  | _ :: rs => als ρ rs
def flagAs (p : Bool) : Sl → Sl
  | .own _ d => .own p d
  | s => s
def back (ρ0 : List Sl) : List R → List Sl → List Sl → List Sl
  | .al i :: rs, a :: as, ρ => match ρ0[i]? with
    | some (.own p _) => back ρ0 rs as (ρ.set i (flagAs p a))
    | _ => back ρ0 rs as ρ
  | .val _ :: rs, _ :: as, ρ => back ρ0 rs as ρ
  | .own _ :: rs, _ :: as, ρ => back ρ0 rs as ρ
  | _, _, ρ => ρ
def fCall (F : Fn) (fs : List Ev) : Ev := fun ρ => (evs fs ρ).bind fun p => (argsOf p.2 p.1).bind fun args => if (als p.2 p.1).Nodup then (F args).bind fun q => match q.1 with
  | .al _ => none
  | r => some (r, back p.2 p.1 q.2 p.2) else none

section
variable {K : PySem.W.Frag} {S S1 S2 S' H H1 H2 H' : Hp} {σ σ' : L2.St} {ρ ρ0 ρ1 ρ2 ρ' : List Sl} {a : Addr} {d : D} {v w : V} {r : R} {vs : List V} {rs : List R} {as : List Sl}
theorem RepRs.len (h : RepRs K S H σ ρ vs rs) : vs.length = rs.length := by
  induction h with
  | nil => rfl
  | cons _ _ _ ih => exact congrArg (· + 1) ih
theorem RepRs.get (h : RepRs K S H σ ρ vs rs) : ∀ {k : Nat} {r : R}, rs[k]? = some r → ∃ v, vs[k]? = some v ∧ RepR K S H σ ρ v r := by
  induction h with
  | nil => intro k r e; simp at e
  | cons hr _ _ ih =>
    intro k r e
    cases k with
    | zero => simp at e; subst e; exact ⟨_, rfl, hr⟩
    | succ k => simpa using ih (by simpa using e)
theorem mem_zip_of {α β : Type} : ∀ {xs : List α} {ys : List β} {k : Nat} {x : α} {y : β}, xs[k]? = some x → ys[k]? = some y → (x, y) ∈ xs.zip ys
  | [], _, _, _, _, e, _ => by simp at e
  | _ :: _, [], _, _, _, _, e => by simp at e
  | x :: xs, y :: ys, 0, _, _, e1, e2 => by simp at e1 e2; subst e1 e2; simp
  | x :: xs, y :: ys, k + 1, _, _, e1, e2 => by rw [List.zip_cons_cons]; exact List.mem_cons_of_mem _ (mem_zip_of (by simpa using e1) (by simpa using e2))
theorem RepRs.dis (h : RepRs K S H σ ρ vs rs) : ∀ {k l : Nat} {d e : D} {a : Addr}, rs[k]? = some (R.own d) → rs[l]? = some (R.own e) → vs[k]? = some (V.ref a) → vs[l]? = some (V.ref a) → k = l := by
  induction h with
  | nil => intro k l d e a h; simp at h
  | cons hr hd ht ih =>
    intro k l d e a h1 h2 h3 h4
    cases k with
    | zero =>
      cases l with
      | zero => rfl
      | succ l =>
        simp at h1 h3 h2 h4
        exact absurd (mem_zip_of h4 h2) (hd _ a h1 h3 e)
    | succ k =>
      cases l with
      | zero =>
        simp at h1 h3 h2 h4
        exact absurd (mem_zip_of h3 h1) (hd _ a h2 h4 d)
      | succ l => simp at h1 h2 h3 h4; rw [ih h1 h2 h3 h4]
theorem argsOf_get : ∀ {rs : List R} {as : List Sl}, argsOf ρ rs = some as → as.length = rs.length ∧ ∀ {k : Nat} {s : Sl}, as[k]? = some s → ∃ r, rs[k]? = some r ∧ argOf ρ r = some s
  | [], as, e => by cases e; exact ⟨rfl, fun h => by simp at h⟩
  | r :: rs, as, e => by
    obtain ⟨a, e1, e2⟩ := bind_some e
    obtain ⟨as', e3, rfl⟩ := map_some e2
    obtain ⟨hl, hg⟩ := argsOf_get e3
    refine ⟨by simp [hl], fun {k s} h => ?_⟩
    cases k with
    | zero => simp at h; subst h; exact ⟨r, rfl, e1⟩
    | succ k => simpa using hg (by simpa using h)
theorem als_mem : ∀ {rs : List R} {i : Nat}, i ∈ als ρ rs → ∃ (k : Nat) (p : Bool) (d : D), rs[k]? = some (R.al i) ∧ ρ[i]? = some (Sl.own p d)
  | [], _, h => nomatch h
  | .val _ :: rs, i, h => by obtain ⟨k, p, d, e1, e2⟩ := als_mem (rs := rs) h; exact ⟨k + 1, p, d, by simpa using e1, e2⟩
  | .own _ :: rs, i, h => by obtain ⟨k, p, d, e1, e2⟩ := als_mem (rs := rs) h; exact ⟨k + 1, p, d, by simpa using e1, e2⟩
  | .al j :: rs, i, h => by
    simp only [als] at h
    split at h
    · rename_i p d e
      rcases List.mem_cons.mp h with rfl | h
      · exact ⟨0, p, d, rfl, e⟩
      · obtain ⟨k, p, d, e1, e2⟩ := als_mem (rs := rs) h; exact ⟨k + 1, p, d, by simpa using e1, e2⟩
    · obtain ⟨k, p, d, e1, e2⟩ := als_mem (rs := rs) h; exact ⟨k + 1, p, d, by simpa using e1, e2⟩
theorem mem_als {p : Bool} : ∀ {rs : List R} {i k : Nat}, rs[k]? = some (R.al i) → ρ[i]? = some (Sl.own p d) → i ∈ als ρ rs
  | [], _, _, h, _ => by simp at h
  | .val _ :: rs, i, 0, h, _ => by simp at h
  | .own _ :: rs, i, 0, h, _ => by simp at h
  | .al j :: rs, i, 0, h, e => by simp at h; subst h; simp [als, e]
  | .val _ :: rs, i, k + 1, h, e => mem_als (rs := rs) (by simpa using h) e
  | .own _ :: rs, i, k + 1, h, e => mem_als (rs := rs) (by simpa using h) e
  | .al j :: rs, i, k + 1, h, e => by
    have q := mem_als (rs := rs) (by simpa using h) e
    simp only [als]
    split
    · exact List.mem_cons_of_mem _ q
    · exact q
theorem als_inj {p : Bool} : ∀ {rs : List R} {i k l : Nat}, (als ρ rs).Nodup → rs[k]? = some (R.al i) → rs[l]? = some (R.al i) → ρ[i]? = some (Sl.own p d) → k = l
  | [], _, _, _, _, h, _, _ => by simp at h
  | .val _ :: rs, i, k, l, n, h1, h2, e => by
    cases k with
    | zero => simp at h1
    | succ k => cases l with
      | zero => simp at h2
      | succ l => exact congrArg (· + 1) (als_inj (rs := rs) (k := k) (l := l) n (by simpa using h1) (by simpa using h2) e)
  | .own _ :: rs, i, k, l, n, h1, h2, e => by
    cases k with
    | zero => simp at h1
    | succ k => cases l with
      | zero => simp at h2
      | succ l => exact congrArg (· + 1) (als_inj (rs := rs) (k := k) (l := l) n (by simpa using h1) (by simpa using h2) e)
  | .al j :: rs, i, k, l, n, h1, h2, e => by
    simp only [als] at n
    have n' : (als ρ rs).Nodup := by
      split at n
      · exact (List.nodup_cons.mp n).2
      · exact n
    cases k with
    | zero =>
      cases l with
      | zero => rfl
      | succ l =>
        simp at h1; subst h1
        rw [e] at n
        exact absurd (mem_als (by simpa using h2) e) (List.nodup_cons.mp n).1
    | succ k =>
      cases l with
      | zero =>
        simp at h2; subst h2
        rw [e] at n
        exact absurd (mem_als (by simpa using h1) e) (List.nodup_cons.mp n).1
      | succ l => exact congrArg (· + 1) (als_inj (rs := rs) (k := k) (l := l) n' (by simpa using h1) (by simpa using h2) e)
theorem back_len : ∀ {rs : List R} {as ρ : List Sl}, (back ρ0 rs as ρ).length = ρ.length
  | [], _, _ => by simp [back]
  | .val _ :: rs, [], _ => by simp [back]
  | .own _ :: rs, [], _ => by simp [back]
  | .al _ :: rs, [], _ => by simp [back]
  | .val _ :: rs, _ :: as, _ => by simp only [back]; exact back_len
  | .own _ :: rs, _ :: as, _ => by simp only [back]; exact back_len
  | .al _ :: rs, _ :: as, _ => by
    simp only [back]
    split
    · rw [back_len, List.length_set]
    · exact back_len
theorem back_out : ∀ {rs : List R} {as ρ : List Sl} {j : Nat}, j ∉ als ρ0 rs → (back ρ0 rs as ρ)[j]? = ρ[j]?
  | [], _, _, _, _ => by simp [back]
  | .val _ :: rs, [], _, _, _ => by simp [back]
  | .own _ :: rs, [], _, _, _ => by simp [back]
  | .al _ :: rs, [], _, _, _ => by simp [back]
  | .val _ :: rs, _ :: as, _, _, h => by simp only [back]; exact back_out (by simpa [als] using h)
  | .own _ :: rs, _ :: as, _, _, h => by simp only [back]; exact back_out (by simpa [als] using h)
  | .al i :: rs, a :: as, ρ, j, h => by
    simp only [back]
    simp only [als] at h
    split
    · rename_i p d e
      rw [e] at h
      have h' : j ≠ i ∧ j ∉ als ρ0 rs := by simpa using h
      rw [back_out h'.2, List.getElem?_set_ne (Ne.symm h'.1)]
    · rename_i e
      refine back_out ?_
      split at h
      · rename_i p d q; exact absurd q (e p d)
      · exact h
theorem back_in {p : Bool} : ∀ {rs : List R} {as ρ : List Sl} {k i : Nat} {s : Sl}, (als ρ0 rs).Nodup → rs[k]? = some (R.al i) → ρ0[i]? = some (Sl.own p d) → as[k]? = some s → i < ρ.length → (back ρ0 rs as ρ)[i]? = some (flagAs p s)
  | [], _, _, _, _, _, _, h, _, _, _ => by simp at h
  | _ :: _, [], _, _, _, _, _, _, _, h, _ => by simp at h
  | .val _ :: rs, _ :: as, ρ, k, i, s, n, h1, h2, h3, hl => by
    cases k with
    | zero => simp at h1
    | succ k => simp only [back]; exact back_in n (by simpa using h1) h2 (by simpa using h3) hl
  | .own _ :: rs, _ :: as, ρ, k, i, s, n, h1, h2, h3, hl => by
    cases k with
    | zero => simp at h1
    | succ k => simp only [back]; exact back_in n (by simpa using h1) h2 (by simpa using h3) hl
  | .al j :: rs, a :: as, ρ, k, i, s, n, h1, h2, h3, hl => by
    simp only [als] at n
    cases k with
    | zero =>
      simp at h1 h3; subst h1 h3
      simp only [back, h2]
      rw [h2] at n
      rw [back_out (List.nodup_cons.mp n).1, List.getElem?_set_self hl]
    | succ k =>
      have n' : (als ρ0 rs).Nodup := by
        split at n
        · exact (List.nodup_cons.mp n).2
        · exact n
      simp only [back]
      split
      · exact back_in n' (by simpa using h1) h2 (by simpa using h3) (by rw [List.length_set]; exact hl)
      · exact back_in n' (by simpa using h1) h2 (by simpa using h3) hl

theorem vmap_get {vs : List V} {k : Nat} {v : V} : (vs.map some)[k]? = some (some v) ↔ vs[k]? = some v := by
  rw [List.getElem?_map]; cases vs[k]? <;> simp
theorem Cur.args {args : List Sl} (c : Cur K σ ρ S H vs rs ρ1 S1 H1) (e : argsOf ρ1 rs = some args) (n : (als ρ1 rs).Nodup) :
    Env K S1 (vs.map some) H1 args ∧ (∀ a, Owns (vs.map some) args a → (∃ i, i ∈ als ρ1 rs ∧ σ[i]? = some (some (V.ref a))) ∨ (¬ Owns σ ρ1 a ∧ (Owns σ ρ a ∨ H a = none))) := by
  obtain ⟨hl, hg⟩ := argsOf_get e
  have key : ∀ (k : Nat) (p : Bool) (d : D), args[k]? = some (Sl.own p d) → ∃ a, vs[k]? = some (V.ref a) ∧ Own K S1 H1 a d ∧ ((∃ (i : Nat) (q : Bool), rs[k]? = some (R.al i) ∧ ρ1[i]? = some (Sl.own q d) ∧ σ[i]? = some (some (V.ref a))) ∨ (rs[k]? = some (R.own d) ∧ ¬ Owns σ ρ1 a ∧ (Owns σ ρ a ∨ H a = none))) := by
    intro k p d h
    obtain ⟨r, e1, e2⟩ := hg h
    obtain ⟨v, e3, hr⟩ := c.rep.get e1
    cases r with
    | val d' => simp [argOf] at e2
    | own d' =>
      simp [argOf] at e2
      obtain ⟨_, rfl⟩ := e2
      obtain ⟨a, rfl, o, nn⟩ := hr
      exact ⟨a, e3, o, .inr ⟨e1, nn, c.nw a d' (mem_zip_of e3 e1)⟩⟩
    | al i =>
      have hr' : σ[i]? = some (some v) := hr
      cases q : ρ1[i]? with
      | none => simp [argOf, q] at e2
      | some sl =>
        cases sl with
        | no => simp [argOf, q] at e2
        | val d' => simp [argOf, q] at e2
        | own p' d' =>
          simp [argOf, q] at e2
          obtain ⟨_, rfl⟩ := e2
          obtain ⟨a, e4, o⟩ := c.env.own i p' d' q
          rw [hr'] at e4; cases e4
          exact ⟨a, e3, o, .inl ⟨i, p', e1, q, hr'⟩⟩
  refine ⟨⟨c.env.ex, by rw [List.length_map, hl, c.rep.len], fun k d h => ?_, fun k p d h => ?_, fun k l p q d e a h1 h2 h3 h4 => ?_⟩, fun a h => ?_⟩
  · obtain ⟨r, e1, e2⟩ := hg h
    obtain ⟨v, e3, hr⟩ := c.rep.get e1
    cases r with
    | val d' => simp [argOf] at e2; subst e2; exact ⟨v, vmap_get.mpr e3, hr⟩
    | own d' => simp [argOf] at e2
    | al i =>
      have hr' : σ[i]? = some (some v) := hr
      cases q : ρ1[i]? with
      | none => simp [argOf, q] at e2
      | some sl =>
        cases sl with
        | no => simp [argOf, q] at e2
        | own p' d' => simp [argOf, q] at e2
        | val d' =>
          simp [argOf, q] at e2; subst e2
          obtain ⟨u, e4, o⟩ := c.env.val i d' q
          rw [hr'] at e4; cases e4
          exact ⟨v, vmap_get.mpr e3, o⟩
  · obtain ⟨a, e1, o, _⟩ := key k p d h
    exact ⟨a, vmap_get.mpr e1, o⟩
  · obtain ⟨a1, f1, o1, w1⟩ := key k p d h1
    obtain ⟨a2, f2, o2, w2⟩ := key l q e h2
    rw [vmap_get] at h3 h4
    rw [f1] at h3; cases h3
    rw [f2] at h4; cases h4
    rcases w1 with ⟨i, q1, g1, g2, g3⟩ | ⟨g1, g2, _⟩
    · rcases w2 with ⟨j, q2, k1, k2, k3⟩ | ⟨k1, k2, _⟩
      · have ij := c.env.inj i j _ _ _ _ a g2 k2 g3 k3
        subst ij
        exact als_inj n g1 k1 g2
      · exact absurd ⟨i, _, _, g2, g3⟩ k2
    · rcases w2 with ⟨j, q2, k1, k2, k3⟩ | ⟨k1, k2, _⟩
      · exact absurd ⟨j, _, _, k2, k3⟩ g2
      · exact c.rep.dis g1 k1 f1 f2
  · obtain ⟨k, p, d, h1, h2⟩ := h
    obtain ⟨a1, f1, o1, w1⟩ := key k p d h1
    rw [vmap_get, f1] at h2; cases h2
    rcases w1 with ⟨i, q1, g1, g2, g3⟩ | ⟨_, g2, g3⟩
    · exact .inl ⟨i, mem_als g1 g2, g3⟩
    · exact .inr ⟨g2, g3⟩

theorem Cur.called {args args' : List Sl} (c : Cur K σ ρ S H vs rs ρ1 S1 H1) (e : argsOf ρ1 rs = some args) (n : (als ρ1 rs).Nodup) (hr : ∀ i, r ≠ .al i)
    (c2 : Cur K (vs.map some) args S1 H1 [v] [r] args' S2 H2) : Cur K σ ρ S H [v] [r] (back ρ1 rs args' ρ1) S2 H2 := by
  obtain ⟨E1, ho⟩ := c.args e n
  have hln : args'.length = rs.length := by rw [c2.env.len, List.length_map, c.rep.len]
  have hl2 : (back ρ1 rs args' ρ1).length = ρ1.length := back_len
  -- what an argument owns, the beginning owned, or it was not there
  have ho' : ∀ a, Owns (vs.map some) args a → Owns σ ρ a ∨ H a = none := fun a h => by
    rcases ho a h with ⟨i, hi, hs⟩ | ⟨_, h⟩
    · obtain ⟨k, p, d, _, e2⟩ := als_mem hi
      exact c.go.own a ⟨i, p, d, e2, hs⟩
    · exact h
  have nn : ∀ a, H1 a = none → H a = none := fun a h => by
    cases q : H a with
    | none => rfl
    | some o => exact absurd h (c.go.dom a (by rw [q]; simp))
  -- a slot behind the call
  have inn : ∀ j, j ∈ als ρ1 rs → ∃ (k : Nat) (p : Bool) (d : D) (s : Sl) (v : V), rs[k]? = some (R.al j) ∧ ρ1[j]? = some (Sl.own p d) ∧ args'[k]? = some s ∧ vs[k]? = some v ∧ σ[j]? = some (some v) ∧ (back ρ1 rs args' ρ1)[j]? = some (flagAs p s) := by
    intro j hj
    obtain ⟨k, p, d, e1, e2⟩ := als_mem hj
    have hk : k < args'.length := by rw [hln]; exact (List.getElem?_eq_some_iff.mp e1).1
    have e3 : args'[k]? = some args'[k] := List.getElem?_eq_getElem hk
    obtain ⟨u, e4, hu⟩ := c.rep.get e1
    exact ⟨k, p, d, _, u, e1, e2, e3, e4, hu, back_in n e1 e2 e3 (List.getElem?_eq_some_iff.mp e2).1⟩
  have notin : ∀ j p d a, j ∉ als ρ1 rs → ρ1[j]? = some (Sl.own p d) → σ[j]? = some (some (V.ref a)) → ¬ Owns (vs.map some) args a := fun j p d a hj h1 h2 h => by
    rcases ho a h with ⟨i, hi, hs⟩ | ⟨h3, _⟩
    · obtain ⟨k, p', d', _, e2⟩ := als_mem hi
      have := c.env.inj j i _ _ _ _ a h1 e2 h2 hs
      exact hj (this ▸ hi)
    · exact h3 ⟨j, p, d, h1, h2⟩
  have ownb : ∀ a, Owns σ (back ρ1 rs args' ρ1) a → Owns (vs.map some) args' a ∨ (Owns σ ρ1 a ∧ ¬ Owns (vs.map some) args a) := by
    rintro a ⟨j, p, d, h1, h2⟩
    by_cases hj : j ∈ als ρ1 rs
    · obtain ⟨k, p', d', s, u, e1, e2, e3, e4, e5, e6⟩ := inn j hj
      rw [e6] at h1
      rw [e5] at h2; cases h2
      cases s with
      | no => cases h1
      | val _ => cases h1
      | own q d'' => exact .inl ⟨k, q, d'', e3, vmap_get.mpr e4⟩
    · rw [back_out hj] at h1
      exact .inr ⟨⟨j, p, d, h1, h2⟩, notin j p d a hj h1 h2⟩
  have backOwn : ∀ a, Owns (vs.map some) args' a → Owns σ ρ a ∨ H a = none := fun a h => (c2.go.own a h).elim (ho' a) fun z => .inr (nn a z)
  have E2 : Env K S2 σ H2 (back ρ1 rs args' ρ1) := by
    refine ⟨c2.env.ex, by rw [hl2]; exact c.env.len, fun j d h => ?_, fun j p d h => ?_, fun j l p q d e a h1 h2 h3 h4 => ?_⟩
    · by_cases hj : j ∈ als ρ1 rs
      · obtain ⟨k, p', d', s, u, e1, e2, e3, e4, e5, e6⟩ := inn j hj
        rw [e6] at h
        cases s with
        | no => cases h
        | own _ _ => cases h
        | val d'' =>
          cases h
          obtain ⟨u', g1, g2⟩ := c2.env.val k d e3
          rw [vmap_get, e4] at g1; cases g1
          exact ⟨u, e5, g2⟩
      · rw [back_out hj] at h
        obtain ⟨u, g1, g2⟩ := c.env.val j d h
        exact ⟨u, g1, g2.mono c2.go.st⟩
    · by_cases hj : j ∈ als ρ1 rs
      · obtain ⟨k, p', d', s, u, e1, e2, e3, e4, e5, e6⟩ := inn j hj
        rw [e6] at h
        cases s with
        | no => cases h
        | val _ => cases h
        | own q d'' =>
          cases h
          obtain ⟨a, g1, g2⟩ := c2.env.own k q d e3
          rw [vmap_get, e4] at g1; cases g1
          exact ⟨a, e5, g2⟩
      · rw [back_out hj] at h
        obtain ⟨a, g1, g2⟩ := c.env.own j p d h
        have hn := notin j p d a hj h g1
        exact ⟨a, g1, g2.keep c2.go.st (c2.go.new a g2.1 g2.live hn) fun o e => c2.go.keep a o e hn⟩
    · have oj : Owns σ (back ρ1 rs args' ρ1) a := ⟨j, p, d, h1, h3⟩
      by_cases hj : j ∈ als ρ1 rs
      · obtain ⟨k, p', d', s, u, e1, e2, e3, e4, e5, e6⟩ := inn j hj
        rw [e6] at h1
        rw [e5] at h3; cases h3
        cases s with
        | no => cases h1
        | val _ => cases h1
        | own q' d'' =>
          by_cases hl' : l ∈ als ρ1 rs
          · obtain ⟨k', p'', d3, s', u', f1, f2, f3, f4, f5, f6⟩ := inn l hl'
            rw [f6] at h2
            rw [f5] at h4; cases h4
            cases s' with
            | no => cases h2
            | val _ => cases h2
            | own q'' d4 =>
              have kk := c2.env.inj k k' _ _ _ _ a e3 f3 (vmap_get.mpr e4) (vmap_get.mpr f4)
              subst kk
              rw [e1] at f1; cases f1; rfl
          · rw [back_out hl'] at h2
            have hn := notin l q e a hl' h2 h4
            have hz : H1 a ≠ none := (c.env.there ⟨l, q, e, h2, h4⟩).1
            exact absurd (c2.go.own a ⟨k, q', d'', e3, vmap_get.mpr e4⟩) (by rintro (z | z); exact hn z; exact hz z)
      · rw [back_out hj] at h1
        have hn := notin j p d a hj h1 h3
        have hz : H1 a ≠ none := (c.env.there ⟨j, p, d, h1, h3⟩).1
        by_cases hl' : l ∈ als ρ1 rs
        · obtain ⟨k', p'', d3, s', u', f1, f2, f3, f4, f5, f6⟩ := inn l hl'
          rw [f6] at h2
          rw [f5] at h4; cases h4
          cases s' with
          | no => cases h2
          | val _ => cases h2
          | own q'' d4 => exact absurd (c2.go.own a ⟨k', q'', d4, f3, vmap_get.mpr f4⟩) (by rintro (z | z); exact hn z; exact hz z)
        · rw [back_out hl'] at h2
          exact c.env.inj j l _ _ _ _ a h1 h2 h3 h4
  have nowns : ∀ a, ¬ Owns σ ρ a → H a ≠ none → ¬ Owns (vs.map some) args a := fun a h1 h2 h3 => (ho' a h3).elim h1 h2
  refine ⟨E2, ⟨fun b o e => c2.go.st b o (c.go.st b o e), fun b o e q => c2.go.keep b o (c.go.keep b o e q) (nowns b q (by rw [e]; simp)), fun b h => c2.go.dom b (c.go.dom b h), fun b e h q => c2.go.new b (c.go.new b e h q) (let ⟨o, ho, ht⟩ := h; ⟨o, c.go.keep b o ho q, ht⟩) (nowns b q h.ne), fun b h => ?_, fun j d h => ?_, rfl⟩, .cons ?_ (fun _ _ _ _ _ h => nomatch h) .nil, ?_⟩
  · rcases ownb b h with h | ⟨h, _⟩
    · exact backOwn b h
    · exact c.go.own b h
  · have : ∃ d0, ρ1[j]? = some (Sl.own true d0) := by
      by_cases hj : j ∈ als ρ1 rs
      · obtain ⟨k, p', d', s, u, e1, e2, e3, e4, e5, e6⟩ := inn j hj
        rw [e6] at h
        cases s with
        | no => cases h
        | val _ => cases h
        | own q' d'' => cases h; exact ⟨_, e2⟩
      · rw [back_out hj] at h; exact ⟨d, h⟩
    obtain ⟨d0, h0⟩ := this
    obtain ⟨q, _⟩ := c.go.pin j d0 h0
    exact ⟨q, rfl⟩
  · have q := c2.rep1
    cases r with
    | val d => exact q
    | al i => exact absurd rfl (hr i)
    | own d =>
      obtain ⟨a, rfl, o, hn⟩ := q
      refine ⟨a, rfl, o, fun h => ?_⟩
      rcases ownb a h with h | ⟨h, h2⟩
      · exact hn h
      · rcases c2.nw a d (by simp) with z | z
        · exact h2 z
        · exact (c.env.there h).1 z
  · intro a d hm
    rcases c2.nw a d hm with z | z
    · exact ho' a z
    · exact .inr (nn a z)
end

section
variable {X : Cx} {e : Expr} {es : List Expr} {fs : List Ev} {pos p : Pos} {x : Str} {k n : Nat} {F : Fn}
theorem ve_call (C : Cal X.prog X.w X.K X.mg X.base x k n F) (hr : Room k X.A) (ha : VA X (e :: es) fs) (hn : fs.length = n) (hg : Gl X x)
    (hdb : (x == ("__debug__" : Str)) = false := by decide) (he : starEach (e :: es) X.env = (false, eval e X.env) :: starEach es X.env := by rfl) (hpl : (backTo pos (starEach es X.env)).any (·.1) = false := by rfl) :
    VE X (.Call (.Name x p) (e :: es) [] pos) (fCall F fs) := by
  obtain ⟨f, fd, ps, hm, kp, hb, hl, G⟩ := C.ex
  refine (pe_call G hr hg hm kp hb .nil pass0 ha hdb he hpl).imp fun σ H Q q => ?_
  obtain ⟨S, ρ, r, ρ', E, e, k⟩ := q
  obtain ⟨p1, e1, e2⟩ := bind_some e
  obtain ⟨args, e3, e4⟩ := bind_some e2
  split at e4
  · rename_i nd
    obtain ⟨q1, e5, e6⟩ := bind_some e4
    refine ⟨S, ρ, p1.1, p1.2, E, e1, fun vs S1 H1 c => ⟨?_, ?_⟩⟩
    · rw [List.append_nil, c.rep.len]
      have : ∀ {fs : List Ev} {ρ : List Sl} {q : List R × List Sl}, evs fs ρ = some q → q.1.length = fs.length := by
        intro fs
        induction fs with
        | nil => intro ρ q h; cases h; rfl
        | cons f fs ih =>
          intro ρ q h
          obtain ⟨a, h1, h2⟩ := bind_some h
          obtain ⟨b, h3, rfl⟩ := map_some h2
          simp [ih h3]
      rw [this e1]; exact hn
    · rw [List.append_nil]
      obtain ⟨E1, _⟩ := c.args e3 nd
      have hr : (∀ i, q1.1 ≠ .al i) ∧ (q1.1, back p1.2 p1.1 q1.2 p1.2) = (r, ρ') := by
        revert e6
        cases q1.1 with
        | al i => intro h; cases h
        | val d => intro h; exact ⟨fun _ h => (by cases h), (by cases h; rfl)⟩
        | own d => intro h; exact ⟨fun _ h => (by cases h), (by cases h; rfl)⟩
      obtain ⟨hr1, hr2⟩ := hr
      cases hr2
      exact ⟨S1, args, q1.1, q1.2, E1, e5, fun v S2 H2 c2 => k v S2 H2 (c.called e3 nd hr1 c2)⟩
  · cases e4
end
end FL
namespace FL
open PySem L2

section
variable {X : Cx} {e a b c : Expr} {es rest : List Expr} {f g h : Ev} {fs : List Ev} {pos : Pos}
/-! ### tests -/
theorem vt_val (he : VE X e f) (hs : ∀ whole, isTrue e X.env whole = (do let v ← whole; standAt e.pos; holding [v] (truthy v)) := by intro _; rfl) : VT X e f := (pt_val he hs).imp fun σ H Q q => by
  obtain ⟨S, ρ, b, ρ', E, e, k⟩ := q
  refine ⟨S, ρ, _, ρ', E, e, fun v S' H' c => ?_⟩
  have := c.rep1
  cases this
  exact ⟨b, rfl, k S' H' c.drop⟩
def tru : D → Option Bool
  | .non => some false
  | .bl b => some b
  | .int i => some (i != 0)
  | .tup xs => some (!xs.isEmpty)
  | .lst xs => some (!xs.isEmpty)
  | _ => none
def fTru (f : Ev) : Ev := fun ρ => (f ρ).bind fun p => (see p.2 p.1).bind fun d => (tru d).map fun b => (.val (.bl b), p.2)
theorem reps_empty {K : PySem.W.Frag} {S : Hp} {vs : List V} {ds : List D} (r : Reps K S vs ds) : (!vs.isEmpty) = (!ds.isEmpty) := by cases r <;> rfl
theorem vt_tru (he : VE X e f) (hs : ∀ whole, isTrue e X.env whole = (do let v ← whole; standAt e.pos; holding [v] (truthy v)) := by intro _; rfl) : VT X e (fTru f) := (pt_truth he hs).imp fun σ H Q q => by
  obtain ⟨S, ρ, b, ρ', E, e, k⟩ := q
  obtain ⟨p, e1, e2⟩ := bind_some e
  obtain ⟨x, e3, e4⟩ := bind_some e2
  obtain ⟨r, e5, e6⟩ := map_some e4
  cases e6
  refine ⟨S, ρ, p.1, p.2, E, e1, fun v S1 H1 c => ⟨b, ?_, k S1 H1 c.drop⟩⟩
  have s := c.rep1.see c.env e3
  cases x with
  | non => cases e5; rw [s.non]; rfl
  | bl i => cases e5; rw [s.bl]; rfl
  | int i => cases e5; rw [s.int]; rfl
  | tup xs => cases e5; obtain ⟨a, vs, rfl, h1, h2⟩ := s.tup c.env.ex; exact .inr (.inl ⟨vs, h1, (reps_empty h2).symm⟩)
  | lst xs => cases e5; obtain ⟨a, vs, rfl, h1, h2⟩ := s.lst' c.env.ex; exact .inl ⟨vs, .inl (.inl h1), (reps_empty h2).symm⟩
  | str z => cases e5
  | dic z => cases e5
  | scr z => cases e5
theorem sem_and {K : PySem.W.Frag} {σ : L2.St} {H : Hp} {Q : Bool → Hp → Prop} (q : tVT K (fAnd f g) σ H Q) : tAnd (tVT K f) (tVT K g) σ H Q := by
  obtain ⟨S, ρ, b, ρ', E, e, k⟩ := q
  obtain ⟨p, e1, e2⟩ := bind_some e
  split at e2
  · rename_i h1
    refine ⟨S, ρ, true, p.2, E, by rw [e1, ← h1], fun S1 H1 c => ?_⟩
    refine iteT ?_
    refine ⟨S1, p.2, b, ρ', c.env, e2, fun S2 H2 c2 => k S2 H2 ⟨c2.env, c.go.trans c2.go, .nil, fun _ _ h => nomatch h⟩⟩
  · rename_i h1
    cases e2
    refine ⟨S, ρ, false, p.2, E, by rw [e1, ← h1], fun S1 H1 c => ?_⟩
    refine iteF ?_
    exact k S1 H1 c
  · cases e2
theorem sem_or {K : PySem.W.Frag} {σ : L2.St} {H : Hp} {Q : Bool → Hp → Prop} (q : tVT K (fOr f g) σ H Q) : tOr (tVT K f) (tVT K g) σ H Q := by
  obtain ⟨S, ρ, b, ρ', E, e, k⟩ := q
  obtain ⟨p, e1, e2⟩ := bind_some e
  split at e2
  · rename_i h1
    cases e2
    refine ⟨S, ρ, true, p.2, E, by rw [e1, ← h1], fun S1 H1 c => ?_⟩
    refine iteT ?_
    exact k S1 H1 c
  · rename_i h1
    refine ⟨S, ρ, false, p.2, E, by rw [e1, ← h1], fun S1 H1 c => ?_⟩
    refine iteF ?_
    refine ⟨S1, p.2, b, ρ', c.env, e2, fun S2 H2 c2 => k S2 H2 ⟨c2.env, c.go.trans c2.go, .nil, fun _ _ h => nomatch h⟩⟩
  · cases e2
theorem vw_and1 (ha : VT X a f) : VW X (.BoolOp .And [a] pos) f := pw_and1 ha
theorem vw_or1 (ha : VT X a f) : VW X (.BoolOp .Or [a] pos) f := pw_or1 ha
theorem vw_and (ha : VT X a f) (hb : VW X (.BoolOp .And (b :: rest) pos) g) : VW X (.BoolOp .And (a :: b :: rest) pos) (fAnd f g) := (pw_and ha hb).imp fun _ _ _ q => sem_and q
theorem vw_or (ha : VT X a f) (hb : VW X (.BoolOp .Or (b :: rest) pos) g) : VW X (.BoolOp .Or (a :: b :: rest) pos) (fOr f g) := (pw_or ha hb).imp fun _ _ _ q => sem_or q
theorem vt_not (ha : VT X a f) : VT X (.UnaryOp .Not a pos) (fNot f) := (pt_not ha).imp fun σ H Q q => by
  obtain ⟨S, ρ, b, ρ', E, e, k⟩ := q
  obtain ⟨p, e1, e2⟩ := bind_some e
  split at e2
  · rename_i c h1
    cases e2
    exact ⟨S, ρ, c, p.2, E, by rw [e1, ← h1], fun S1 H1 c1 => k S1 H1 c1⟩
  · cases e2
theorem cur_bl {K : PySem.W.Frag} {σ : L2.St} {ρ ρ1 : List Sl} {S H S1 H1 : Hp} {b : Bool} (c : Cur K σ ρ S H [] [] ρ1 S1 H1) : Cur K σ ρ S H [.bl b] [.val (.bl b)] ρ1 S1 H1 := c.fin (.flat c.env.ex (.bl b))
theorem ve_one {op} (ha : VE X a f) : VE X (.BoolOp op [a] pos) f := pe_one ha
/-- and, or, not as values: truth values alone (the last of and, or: any) -/
theorem ve_and (ha : VE X a f) (hb : VE X (.BoolOp .And (b :: rest) pos) g) : VE X (.BoolOp .And (a :: b :: rest) pos) (fAnd f g) := (pe_and ha hb).imp fun σ H Q q => by
  obtain ⟨S, ρ, r, ρ', E, e, k⟩ := q
  obtain ⟨p, e1, e2⟩ := bind_some e
  refine ⟨S, ρ, p.1, p.2, E, e1, fun v S1 H1 c => ?_⟩
  split at e2
  · rename_i h1
    have q := c.rep1
    rw [h1] at q
    cases q
    refine ⟨true, rfl, ?_⟩
    refine iteT ?_
    refine ⟨S1, p.2, r, ρ', c.env, e2, fun w S2 H2 c2 => k w S2 H2 ?_⟩
    refine ⟨c2.env, c.go.trans c2.go, c2.rep, fun a d hm => ?_⟩
    exact (c2.nw a d hm).elim (c.go.own a) fun z => .inr (by
      cases q : H a with
      | none => rfl
      | some o => exact absurd z (c.go.dom a (by rw [q]; simp)))
  · rename_i h1
    have q := c.rep1
    rw [h1] at q
    cases q
    cases e2
    refine ⟨false, rfl, ?_⟩
    refine iteF ?_
    exact k _ S1 H1 (cur_bl c.drop)
  · cases e2
theorem Cur.then {K : PySem.W.Frag} {σ : L2.St} {ρ ρ1 ρ2 : List Sl} {S H S1 H1 S2 H2 : Hp} {vs : List V} {rs : List R} {v : V} {r : R} (c : Cur K σ ρ S H vs rs ρ1 S1 H1) (c2 : Cur K σ ρ1 S1 H1 [v] [r] ρ2 S2 H2) : Cur K σ ρ S H [v] [r] ρ2 S2 H2 :=
  ⟨c2.env, c.go.trans c2.go, c2.rep, fun a d hm => (c2.nw a d hm).elim (c.go.own a) fun z => .inr (by
      cases q : H a with
      | none => rfl
      | some o => exact absurd z (c.go.dom a (by rw [q]; simp)))⟩
theorem ve_or (ha : VE X a f) (hb : VE X (.BoolOp .Or (b :: rest) pos) g) : VE X (.BoolOp .Or (a :: b :: rest) pos) (fOr f g) := (pe_or ha hb).imp fun σ H Q q => by
  obtain ⟨S, ρ, r, ρ', E, e, k⟩ := q
  obtain ⟨p, e1, e2⟩ := bind_some e
  refine ⟨S, ρ, p.1, p.2, E, e1, fun v S1 H1 c => ?_⟩
  split at e2
  · rename_i h1
    have q := c.rep1
    rw [h1] at q
    cases q
    cases e2
    refine ⟨true, rfl, ?_⟩
    refine iteT ?_
    exact k _ S1 H1 (cur_bl c.drop)
  · rename_i h1
    have q := c.rep1
    rw [h1] at q
    cases q
    refine ⟨false, rfl, ?_⟩
    refine iteF ?_
    exact ⟨S1, p.2, r, ρ', c.env, e2, fun w S2 H2 c2 => k w S2 H2 (c.then c2)⟩
  · cases e2
theorem ve_not (ha : VE X a f) : VE X (.UnaryOp .Not a pos) (fNot f) := (pe_not ha).imp fun σ H Q q => by
  obtain ⟨S, ρ, r, ρ', E, e, k⟩ := q
  obtain ⟨p, e1, e2⟩ := bind_some e
  split at e2
  · rename_i b h1
    cases e2
    refine ⟨S, ρ, p.1, p.2, E, e1, fun v S1 H1 c => ?_⟩
    have q := c.rep1
    rw [h1] at q
    cases q
    exact ⟨b, rfl, k _ S1 H1 (cur_bl c.drop)⟩
  · cases e2
theorem ve_if (hc : VT X c h) (ha : VE X a f) (hb : VE X b g) : VE X (.IfExp c a b pos) (fIf h f g) := (pe_ifExp hc ha hb).imp fun σ H Q q => by
  obtain ⟨S, ρ, r, ρ', E, e, k⟩ := q
  obtain ⟨p, e1, e2⟩ := bind_some e
  split at e2
  · rename_i h1
    refine ⟨S, ρ, true, p.2, E, by rw [e1, ← h1], fun S1 H1 c => ?_⟩
    refine iteT ?_
    exact ⟨S1, p.2, r, ρ', c.env, e2, fun w S2 H2 c2 => k w S2 H2 (c.then c2)⟩
  · rename_i h1
    refine ⟨S, ρ, false, p.2, E, by rw [e1, ← h1], fun S1 H1 c => ?_⟩
    refine iteF ?_
    exact ⟨S1, p.2, r, ρ', c.env, e2, fun w S2 H2 c2 => k w S2 H2 (c.then c2)⟩
  · cases e2

/-! ### displays -/
theorem Cur.freshen {K : PySem.W.Frag} {σ : L2.St} {ρ ρ1 ρ2 : List Sl} {S H S1 H1 : Hp} {vs : List V} {rs : List R} {ds : List D} (c : Cur K σ ρ S H vs rs ρ1 S1 H1) (e : FL.takes ρ1 rs = some (ds, ρ2)) :
    ∃ S2, Reps K S2 vs ds ∧ Cur K σ ρ S H [] [] ρ2 S2 H1 := let ⟨S2, _, r, c2⟩ := c.takes e; ⟨S2, r, c2⟩
theorem ve_tup {x1} (ha : VA X es fs) : VE X (.Tuple es x1 pos) (fTup fs) := (pe_tup ha).imp fun σ H Q q => by
  obtain ⟨S, ρ, r, ρ', E, e, k⟩ := q
  obtain ⟨p, e1, e2⟩ := bind_some e
  obtain ⟨p2, e3, e4⟩ := bind_some e2
  split at e4
  · rename_i hl
    cases e4
    refine ⟨S, ρ, p.1, p.2, E, e1, fun vs S1 H1 c => ?_⟩
    obtain ⟨S2, rp, c2⟩ := c.freshen e3
    exact ⟨by rw [rp.length]; exact cap_le hl, fun q hq => k _ _ _ (c2.fin (.tup c2.env.ex hq rp))⟩
  · cases e4
theorem ve_lst (ha : VA X es fs) : VE X (.List es pos) (fLst fs) := (pe_lst ha).imp fun σ H Q q => by
  obtain ⟨S, ρ, r, ρ', E, e, k⟩ := q
  obtain ⟨p, e1, e2⟩ := bind_some e
  obtain ⟨p2, e3, e4⟩ := bind_some e2
  split at e4
  · rename_i hl
    cases e4
    refine ⟨S, ρ, p.1, p.2, E, e1, fun vs S1 H1 c => ?_⟩
    obtain ⟨S2, rp, c2⟩ := c.freshen e3
    exact ⟨by rw [rp.length]; exact cap_le hl, fun q hq => k _ _ _ (c2.fin (.lst c2.env.ex hq rp))⟩
  · cases e4
/-- displays with stars: each part's items -/
def evsS : List (Bool × Ev) → List Sl → Option (List D × List Sl)
  | [], ρ => some ([], ρ)
  | (false, f) :: fs, ρ => (f ρ).bind fun p => (evsS fs p.2).bind fun q => match p.1 with
    | .val d => some (d :: q.1, q.2)
    | _ => none
  | (true, f) :: fs, ρ => (f ρ).bind fun p => match p.1 with
    | .val (.tup ds) => (evsS fs p.2).map fun q => (ds ++ q.1, q.2)
    | _ => none
def tVAS (K : PySem.W.Frag) (fs : List (Bool × Ev)) : TA := fun σ H Q => ∃ S ρ ds ρ', Env K S σ H ρ ∧ evsS fs ρ = some (ds, ρ') ∧ ∀ vs S' H', Cur K σ ρ S H [] [] ρ' S' H' → Reps K S' vs ds → Q vs H'
abbrev VAS (X : Cx) (es : List Expr) (fs : List (Bool × Ev)) : Prop := PA X es (tVAS X.K fs)
def fTupS (fs : List (Bool × Ev)) : Ev := fun ρ => (evsS fs ρ).bind fun p => if p.1.length ≤ cap then some (.val (.tup p.1), p.2) else none
variable {gs : List (Bool × Ev)}
theorem vas_nil : VAS X [] [] := pa_nil.imp fun σ H Q q => by
  obtain ⟨S, ρ, rs, ρ', E, e, k⟩ := q
  cases e
  exact k [] S H (.init E) .nil
theorem vas_cons (ha : VE X e f) (hr : VAS X es gs) (hs : starEach (e :: es) X.env = (false, eval e X.env) :: starEach es X.env := by rfl) : VAS X (e :: es) ((false, f) :: gs) :=
  (pa_cons ha hr hs).imp fun σ H Q q => by
    obtain ⟨S, ρ, rs, ρ', E, e, k⟩ := q
    obtain ⟨p, e1, e2⟩ := bind_some e
    obtain ⟨p2, e3, e4⟩ := bind_some e2
    refine ⟨S, ρ, p.1, p.2, E, e1, fun v S1 H1 c1 => ⟨S1, p.2, p2.1, p2.2, c1.env, e3, fun vs S2 H2 c2 r2 => ?_⟩⟩
    split at e4
    · rename_i d h1
      cases e4
      have q := c1.rep1
      rw [h1] at q
      exact k (v :: vs) S2 H2 ⟨c2.env, c1.go.trans c2.go, .nil, fun _ _ h => nomatch h⟩ (.cons (Rep.mono c2.go.st q) r2)
    · cases e4
theorem vas_star {sp : Pos} (ha : VE X e f) (hr : VAS X es gs) (hs : starEach (.Starred e sp :: es) X.env = (true, eval e X.env) :: starEach es X.env := by rfl) : VAS X (.Starred e sp :: es) ((true, f) :: gs) :=
  (StX.pa_star ha hr hs).imp fun σ H Q q => by
    obtain ⟨S, ρ, rs, ρ', E, e, k⟩ := q
    obtain ⟨p, e1, e2⟩ := bind_some e
    split at e2
    · rename_i ds h1
      obtain ⟨p2, e3, e4⟩ := map_some e2
      cases e4
      refine ⟨S, ρ, p.1, p.2, E, e1, fun v S1 H1 c1 => ?_⟩
      have q := c1.rep1
      rw [h1] at q
      obtain ⟨a, vs, rfl, h2, h3⟩ := See.tup (.of q) c1.env.ex
      exact ⟨a, vs, rfl, .inl h2, S1, p.2, p2.1, p2.2, c1.env, e3, fun us S2 H2 c2 r2 => k (vs ++ us) S2 H2 ⟨c2.env, c1.go.trans c2.go, .nil, fun _ _ h => nomatch h⟩ (.append (h3.mono c2.go.st) r2)⟩
    · cases e2
theorem ve_tupS {x1} (ha : VAS X es gs) : VE X (.Tuple es x1 pos) (fTupS gs) := (pe_tup ha).imp fun σ H Q q => by
  obtain ⟨S, ρ, r, ρ', E, e, k⟩ := q
  obtain ⟨p, e1, e2⟩ := bind_some e
  split at e2
  · rename_i hl
    cases e2
    refine ⟨S, ρ, p.1, p.2, E, e1, fun vs S1 H1 c rp => ?_⟩
    exact ⟨by rw [rp.length]; exact cap_le hl, fun q hq => k _ _ _ (c.fin (.tup c.env.ex hq rp))⟩
  · cases e2
/-- a new dict for keys that are tuples -/
def fDic : Ev := fun ρ => some (.own (.dic []), ρ)
theorem ve_dic : VE X (.Dict [] [] pos) fDic := pe_dnewT.imp fun σ H Q q => by
  obtain ⟨S, ρ, r, ρ', E, e, k⟩ := q
  cases e
  exact fun p hp => k _ _ _ ((Cur.init E).fin (.dic E.ex hp .nil))

/-! ### slices -/
def optI : Option (Option D) → Option (Option Int)
  | none => some none
  | some (some (.int i)) => some (some i)
  | _ => none
def fPart : Option Ev → List Sl → Option (Option Int × List Sl)
  | none, ρ => some (none, ρ)
  | some f, ρ => (f ρ).bind fun p => match p.1 with
    | .val (.int i) => some (some i, p.2)
    | _ => none
def cutD {α : Type} (xs : List α) (lo hi : Option Int) : List α := (xs.drop (HT.sIx xs.length 0 lo)).take (HT.sIx xs.length xs.length hi - HT.sIx xs.length 0 lo)
def oSlice : D → Option Int → Option Int → Option R
  | .lst xs, lo, hi => some (.own (.lst (cutD xs lo hi)))
  | .tup xs, lo, hi => some (.val (.tup (cutD xs lo hi)))
  | .str x, lo, hi => if x.length ≤ cap then some (.val (.str (cutS x lo hi))) else none
  | _, _, _ => none
def fSlice (f : Ev) (lo hi : Option Ev) : Ev := fun ρ => (f ρ).bind fun p => (fPart lo p.2).bind fun q => (fPart hi q.2).bind fun t => (see t.2 p.1).bind fun x => (oSlice x q.1 t.1).map fun r => (r, t.2)
def tVO (K : PySem.W.Frag) (f : Option Ev) : TO := fun σ H Q => ∃ S ρ o ρ', Env K S σ H ρ ∧ fPart f ρ = some (o, ρ') ∧ ∀ S' H', Cur K σ ρ S H [] [] ρ' S' H' → Q o H'
theorem vo_none : PO X none (tVO X.K none) := ⟨fun pins s σ H Q I q => po_none.run pins s σ H Q I (by
  obtain ⟨S, ρ, o, ρ', E, e, k⟩ := q
  cases e
  exact k S H (.init E))⟩
theorem vo_some (he : VE X e f) : PO X (some e) (tVO X.K (some f)) := ⟨fun pins s σ H Q I q => (po_some he).run pins s σ H Q I (by
  obtain ⟨S, ρ, o, ρ', E, e, k⟩ := q
  obtain ⟨p, e1, e2⟩ := bind_some e
  refine ⟨S, ρ, p.1, p.2, E, e1, fun v S1 H1 c => ?_⟩
  split at e2
  · rename_i i h1
    cases e2
    have q := c.rep1
    rw [h1] at q
    cases q
    exact ⟨i, rfl, k S1 H1 c.drop⟩
  · cases e2)⟩
theorem cut_len {K : PySem.W.Frag} {S : Hp} {vs : List V} {ds : List D} (h : Reps K S vs ds) (lo hi : Option Int) : Reps K S (cutV vs lo hi) (cutD ds lo hi) := by
  unfold cutV cutD
  rw [h.length]
  exact (h.drop _).take _
theorem cut_whole {α : Type} {xs : List α} {lo hi : Option Int} (h : HT.sIx xs.length 0 lo = 0 ∧ HT.sIx xs.length xs.length hi = xs.length) : cutD xs lo hi = xs := by
  unfold cutD
  rw [h.1, h.2]; simp
theorem ve_slice {lo hi : Option Expr} {flo fhi : Option Ev} {p2 : Pos} (ha : VE X a f) (hl : PO X lo (tVO X.K flo)) (hh : PO X hi (tVO X.K fhi)) : VE X (.Subscript a (.Slice lo hi none p2) pos) (fSlice f flo fhi) :=
  (pe_slice (SlR.or sl_list (SlR.or sl_tupA sl_str)) ha hl hh).imp fun σ H Q q => by
    obtain ⟨S, ρ, r, ρ', E, e, k⟩ := q
    obtain ⟨p, e1, e2⟩ := bind_some e
    obtain ⟨q1, e3, e4⟩ := bind_some e2
    obtain ⟨q2, e5, e6⟩ := bind_some e4
    obtain ⟨x, e7, e8⟩ := bind_some e6
    obtain ⟨r, e9, e10⟩ := map_some e8
    cases e10
    refine ⟨S, ρ, p.1, p.2, E, e1, fun v S1 H1 c1 => ⟨S1, p.2, q1.1, q1.2, c1.env, e3, fun S2 H2 c2 => ⟨S2, q1.2, q2.1, q2.2, c2.env, e5, fun S3 H3 c3 => ?_⟩⟩⟩
    have hr := (c1.rep1.go c1.env c2.go).go c2.env c3.go
    have sv := hr.see c3.env e7
    have cc : Cur X.K σ ρ S H [] [] q2.2 S3 H3 := ⟨c3.env, (c1.go.trans c2.go).trans c3.go, .nil, fun _ _ h => nomatch h⟩
    cases x with
    | lst xs =>
      cases e9
      obtain ⟨a, vs, rfl, h1, h2⟩ := sv.lst' c3.env.ex
      exact .inl ⟨a, vs, rfl, .inl (.inl h1), fun p hp => k _ _ _ (cc.fin (.lst c3.env.ex hp (cut_len h2 _ _)))⟩
    | tup xs =>
      cases e9
      have sv' := sv
      obtain ⟨a, vs, rfl, h1, h2⟩ := sv.tup c3.env.ex
      refine .inr (.inl ⟨a, vs, rfl, h1, fun hw => ?_, fun _ p hp => k _ _ _ (cc.fin (.tup c3.env.ex hp (cut_len h2 _ _)))⟩)
      refine k _ _ _ (cc.fin (.flat c3.env.ex ?_))
      rw [h2.length] at hw
      rw [cut_whole hw]
      cases sv' with | of r => exact r
    | str z =>
      simp only [oSlice] at e9
      split at e9
      · rename_i hz
        cases e9
        exact .inr (.inr ⟨z, sv.str, cap_le hz, k _ _ _ (cc.fin (.flat c3.env.ex (.str _)))⟩)
      · cases e9
    | _ => cases e9
end
end FL
namespace FL
open PySem L2

inductive Out where
  | nx | bk | ct | rt (r : R)
abbrev Stm := List Sl → Option (Out × List Sl)

/-- what is to be shown behind a statement that began at (σ, ρ, S, H), ends by o and leaves ρ' -/
def Fin (K : PySem.W.Frag) (D : Ends) (σ : L2.St) (ρ : List Sl) (S H : Hp) (o : Out) (ρ' : List Sl) : Prop := match o with
  | .nx => ∀ S' σ' H', Env K S' σ' H' ρ' → Go σ ρ S H σ' ρ' S' H' → D.nx σ' H'
  | .bk => ∀ S' σ' H', Env K S' σ' H' ρ' → Go σ ρ S H σ' ρ' S' H' → D.bk σ' H'
  | .ct => ∀ S' σ' H', Env K S' σ' H' ρ' → Go σ ρ S H σ' ρ' S' H' → D.ct σ' H'
  | .rt r => ∀ v S' σ' H', Env K S' σ' H' ρ' → Go σ ρ S H σ' ρ' S' H' → RepR K S' H' σ' ρ' v r → (∀ i, r ≠ .al i) → (∀ a d, v = .ref a → r = .own d → Owns σ ρ a ∨ H a = none) → D.rt v H'
def tVS (K : PySem.W.Frag) (f : Stm) : TS := fun D σ H => ∃ S ρ o ρ', Env K S σ H ρ ∧ f ρ = some (o, ρ') ∧ Fin K D σ ρ S H o ρ'
abbrev VS (X : Cx) (st : Stmt) (f : Stm) : Prop := PS X st (tVS X.K f)
abbrev VSs (X : Cx) (st : List Stmt) (f : Stm) : Prop := PSs X st (tVS X.K f)
theorem _root_.L2.PS.imp {X : Cx} {e : Stmt} {t t' : TS} (h : PS X e t) (k : ∀ D σ H, t' D σ H → t D σ H) : PS X e t' := ⟨fun pins s σ H D I q => h.run pins s σ H D I (k D σ H q)⟩
theorem _root_.L2.PSs.imp {X : Cx} {e : List Stmt} {t t' : TS} (h : PSs X e t) (k : ∀ D σ H, t' D σ H → t D σ H) : PSs X e t' := ⟨fun pins s σ H D I q => h.run pins s σ H D I (k D σ H q)⟩

def sSeq (f g : Stm) : Stm := fun ρ => (f ρ).bind fun p => match p.1 with
  | .nx => g p.2
  | o => some (o, p.2)
def sNx : Stm := fun ρ => some (.nx, ρ)
def sBk : Stm := fun ρ => some (.bk, ρ)
def sCt : Stm := fun ρ => some (.ct, ρ)
def sRet (f : Ev) : Stm := fun ρ => (f ρ).bind fun p => match p.1 with
  | .al i => match p.2[i]? with
    | some (.own _ d) => some (.rt (.own d), p.2.set i .no)
    | some (.val d) => some (.rt (.val d), p.2)
    | _ => none
  | r => some (.rt r, p.2)
def sIf (c : Ev) (f g : Stm) : Stm := fun ρ => (c ρ).bind fun p => match p.1 with
  | .val (.bl true) => f p.2
  | .val (.bl false) => g p.2
  | _ => none
def sDrop (f : Ev) : Stm := fun ρ => (f ρ).map fun p => (.nx, p.2)

section
variable {K : PySem.W.Frag} {S S1 S2 S' H H1 H2 H' : Hp} {σ σ' σ1 : L2.St} {ρ ρ0 ρ1 ρ2 ρ' : List Sl} {a : Addr} {d : D} {v w : V} {r : R} {vs : List V} {rs : List R} {D D' : Ends} {o : Out}
theorem hnone (g : Go σ ρ S H σ' ρ' S' H') (h : H' a = none) : H a = none := by
  cases q : H a with
  | none => rfl
  | some o => exact absurd h (g.dom a (by rw [q]; simp))
theorem Fin.before (g : Go σ ρ S H σ1 ρ1 S1 H1) (h : Fin K D σ ρ S H o ρ') : Fin K D σ1 ρ1 S1 H1 o ρ' := by
  cases o with
  | nx => exact fun S' σ' H' E q => h S' σ' H' E (g.trans q)
  | bk => exact fun S' σ' H' E q => h S' σ' H' E (g.trans q)
  | ct => exact fun S' σ' H' E q => h S' σ' H' E (g.trans q)
  | rt r => exact fun v S' σ' H' E q rr nr nw => h v S' σ' H' E (g.trans q) rr nr fun a d e1 e2 => (nw a d e1 e2).elim (g.own a) fun z => .inr (hnone g z)
theorem owns_no {i : Nat} (h : Owns σ (ρ.set i .no) a) : Owns σ ρ a ∧ ∀ p d, ρ[i]? = some (Sl.own p d) → σ[i]? = some (some (V.ref a)) → Env K S σ H ρ → False := by
  obtain ⟨j, p, d, e1, e2⟩ := h
  by_cases hj : j = i
  · subst hj
    by_cases hl : j < ρ.length
    · rw [List.getElem?_set_self hl] at e1; cases e1
    · rw [List.getElem?_eq_none (by simpa using hl)] at e1; cases e1
  · rw [List.getElem?_set_ne (Ne.symm hj)] at e1
    exact ⟨⟨j, p, d, e1, e2⟩, fun p' d' f1 f2 E => hj (E.inj j i _ _ _ _ a e1 f1 e2 f2)⟩
/-- slots forgotten -/
theorem Env.forget (E : Env K S σ H ρ) (i : Nat) : Env K S σ H (ρ.set i .no) := by
  have key : ∀ (j : Nat) (s : Sl), (ρ.set i .no)[j]? = some s → s = .no ∨ ρ[j]? = some s := by
    intro j s h
    by_cases hj : j = i
    · subst hj
      by_cases hl : j < ρ.length
      · rw [List.getElem?_set_self hl] at h; cases h; exact .inl rfl
      · rw [List.getElem?_eq_none (by simpa using hl)] at h; cases h
    · rw [List.getElem?_set_ne (Ne.symm hj)] at h; exact .inr h
  refine ⟨E.ex, by rw [List.length_set]; exact E.len, fun j d h => ?_, fun j p d h => ?_, fun j k p q d e a h1 h2 => ?_⟩
  · rcases key j _ h with z | z
    · cases z
    · exact E.val j d z
  · rcases key j _ h with z | z
    · cases z
    · exact E.own j p d z
  · rcases key j _ h1 with z | z
    · cases z
    · rcases key k _ h2 with z2 | z2
      · cases z2
      · exact E.inj j k p q d e a z z2
theorem Go.forget (E : Env K S σ H ρ) (g : Go σ0 ρ0 S0 H0 σ ρ S H) (i : Nat) : Go σ0 ρ0 S0 H0 σ (ρ.set i .no) S H :=
  ⟨g.st, g.keep, g.dom, g.new, fun a h => g.own a (owns_no (K := K) (S := S) (H := H) h).1, fun j d h => by
    by_cases hj : j = i
    · subst hj
      by_cases hl : j < ρ.length
      · rw [List.getElem?_set_self hl] at h; cases h
      · rw [List.getElem?_eq_none (by simpa using hl)] at h; cases h
    · rw [List.getElem?_set_ne (Ne.symm hj)] at h; exact g.pin j d h, g.len⟩
/-- a slot is stored: a value, or an object that nobody else holds -/
def stored : Sl → Bool
  | .own true _ => false
  | _ => true
theorem Env.store {s : Sl} {i : Nat} (E : Env K S σ H ρ) (hi : ∃ s0, ρ[i]? = some s0)
    (hs : match s with | .val d => Rep K S v d | .own _ d => ∃ a, v = .ref a ∧ Own K S H a d ∧ ¬ Owns σ ρ a | .no => True) : Env K S (σ.set i (some v)) H (ρ.set i s) := by
  obtain ⟨s0, h0⟩ := hi
  have hl : i < ρ.length := (List.getElem?_eq_some_iff.mp h0).1
  have hl2 : i < σ.length := by rw [← E.len]; exact hl
  refine ⟨E.ex, by rw [List.length_set, List.length_set]; exact E.len, fun j d h => ?_, fun j p d h => ?_, fun j k p q d e a h1 h2 h3 h4 => ?_⟩
  · by_cases hj : j = i
    · subst hj
      rw [List.getElem?_set_self hl] at h; cases h
      exact ⟨v, List.getElem?_set_self hl2, hs⟩
    · rw [List.getElem?_set_ne (Ne.symm hj)] at h ⊢; exact E.val j d h
  · by_cases hj : j = i
    · subst hj
      rw [List.getElem?_set_self hl] at h; cases h
      obtain ⟨a, rfl, o, _⟩ := hs
      exact ⟨a, List.getElem?_set_self hl2, o⟩
    · rw [List.getElem?_set_ne (Ne.symm hj)] at h ⊢; exact E.own j p d h
  · by_cases hj : j = i
    · subst hj
      by_cases hk : k = j
      · exact hk.symm
      · rw [List.getElem?_set_self hl] at h1; cases h1
        rw [List.getElem?_set_self hl2] at h3
        obtain ⟨b, rfl, o, n⟩ := hs
        cases h3
        rw [List.getElem?_set_ne (Ne.symm hk)] at h2 h4
        exact absurd ⟨k, q, e, h2, h4⟩ n
    · rw [List.getElem?_set_ne (Ne.symm hj)] at h1 h3
      by_cases hk : k = i
      · subst hk
        rw [List.getElem?_set_self hl] at h2; cases h2
        rw [List.getElem?_set_self hl2] at h4
        obtain ⟨b, rfl, o, n⟩ := hs
        cases h4
        exact absurd ⟨j, p, d, h1, h3⟩ n
      · rw [List.getElem?_set_ne (Ne.symm hk)] at h2 h4
        exact E.inj j k p q d e a h1 h2 h3 h4
theorem Go.store {σ0 : L2.St} {S0 H0 : Hp} {s : Sl} {i : Nat} (g : Go σ0 ρ0 S0 H0 σ ρ S H) (hi : ∃ s0, ρ[i]? = some s0 ∧ stored s0 = true) (hp : ∀ d, s ≠ .own true d)
    (hl2 : i < σ.length) (hw : ∀ p d a, s = .own p d → v = .ref a → Owns σ0 ρ0 a ∨ H0 a = none) : Go σ0 ρ0 S0 H0 (σ.set i (some v)) (ρ.set i s) S H := by
  obtain ⟨s0, h0, hst⟩ := hi
  have hl : i < ρ.length := (List.getElem?_eq_some_iff.mp h0).1
  refine ⟨g.st, g.keep, g.dom, g.new, fun a h => ?_, fun j d h => ?_, by rw [List.length_set]; exact g.len⟩
  · obtain ⟨j, p, d, e1, e2⟩ := h
    by_cases hj : j = i
    · subst hj
      rw [List.getElem?_set_self hl] at e1; cases e1
      rw [List.getElem?_set_self hl2] at e2; cases e2
      exact hw p d a rfl rfl
    · rw [List.getElem?_set_ne (Ne.symm hj)] at e1 e2
      exact g.own a ⟨j, p, d, e1, e2⟩
  · by_cases hj : j = i
    · subst hj
      rw [List.getElem?_set_self hl] at h; cases h
      exact absurd rfl (hp d)
    · rw [List.getElem?_set_ne (Ne.symm hj)] at h ⊢
      exact g.pin j d h
end

section
variable {X : Cx} {e a b c : Expr} {es rest : List Expr} {f g h : Ev} {fs : List Ev} {pos : Pos} {st : Stmt} {sts sus : List Stmt} {u t : Stm}
theorem fin_seq {K : PySem.W.Frag} {σ : L2.St} {H : Hp} {D : Ends} (q : tVS K (sSeq t u) D σ H) : tSeq (tVS K t) (tVS K u) D σ H := by
  obtain ⟨S, ρ, o, ρ', E, e, k⟩ := q
  obtain ⟨p, e1, e2⟩ := bind_some e
  refine ⟨S, ρ, p.1, p.2, E, e1, ?_⟩
  cases hp : p.1 with
  | nx =>
    rw [hp] at e2
    exact fun S' σ' H' E' G' => ⟨S', p.2, o, ρ', E', e2, k.before G'⟩
  | bk => rw [hp] at e2; cases e2; exact k
  | ct => rw [hp] at e2; cases e2; exact k
  | rt r => rw [hp] at e2; cases e2; exact k
theorem vss_cons (h1 : VS X st t) (h2 : VSs X sts u) : VSs X (st :: sts) (sSeq t u) := (pss_cons h1 h2).imp fun _ _ _ q => fin_seq q
theorem vss_one (h1 : VS X st t) : VSs X [st] t := pss_one h1
theorem fin_nx {K : PySem.W.Frag} {σ : L2.St} {H : Hp} {D : Ends} (q : tVS K sNx D σ H) : D.nx σ H := by
  obtain ⟨S, ρ, o, ρ', E, e, k⟩ := q
  cases e
  exact k S σ H E .refl
theorem vss_nil : VSs X [] sNx := pss_nil.imp fun D σ H q => fin_nx q
theorem vs_pass : VS X (.Pass pos) sNx := ps_pass.imp fun D σ H q => fin_nx q
theorem vs_doc {x j pos'} : VS X (.Expr (.Constant (.str x) j pos) pos') sNx := ps_doc.imp fun D σ H q => fin_nx q
theorem vs_break : VS X (.Break pos) sBk := ps_break.imp fun D σ H q => by
  obtain ⟨S, ρ, o, ρ', E, e, k⟩ := q
  cases e
  exact k S σ H E .refl
theorem vs_continue : VS X (.Continue pos) sCt := ps_continue.imp fun D σ H q => by
  obtain ⟨S, ρ, o, ρ', E, e, k⟩ := q
  cases e
  exact k S σ H E .refl
theorem vs_ret (he : VE X e f) : VS X (.Return (some e) pos) (sRet f) := (ps_ret he).imp fun D σ H q => by
  obtain ⟨S, ρ, o, ρ', E, e, k⟩ := q
  obtain ⟨p, e1, e2⟩ := bind_some e
  refine ⟨S, ρ, p.1, p.2, E, e1, fun v S1 H1 c => ?_⟩
  cases hp : p.1 with
  | val d =>
    rw [hp] at e2 c; cases e2
    exact k v S1 σ H1 c.env c.go c.rep1 (fun _ h => by cases h) (fun _ _ _ h => by cases h)
  | own d =>
    rw [hp] at e2 c; cases e2
    exact k v S1 σ H1 c.env c.go c.rep1 (fun _ h => by cases h) (fun a d' h1 h2 => c.nw a d' (by rw [h1, h2]; simp))
  | al i =>
    rw [hp] at e2 c
    have hr : σ[i]? = some (some v) := c.rep1
    cases hq : p.2[i]? with
    | none => simp [hq] at e2
    | some sl =>
      cases sl with
      | no => simp [hq] at e2
      | val d =>
        simp [hq] at e2
        obtain ⟨rfl, rfl⟩ := e2
        obtain ⟨u, h1, h2⟩ := c.env.val i d hq
        rw [hr] at h1; cases h1
        exact k v S1 σ H1 c.env c.go h2 (fun _ h => by cases h) (fun _ _ _ h => by cases h)
      | own pp d =>
        simp [hq] at e2
        obtain ⟨rfl, rfl⟩ := e2
        obtain ⟨a, h1, h2⟩ := c.env.own i pp d hq
        rw [hr] at h1; cases h1
        refine k _ S1 σ H1 (c.env.forget i) (.forget c.env c.go i) ⟨a, rfl, h2, fun z => ?_⟩ (fun _ h => by cases h) (fun b d' h3 h4 => ?_)
        · exact (owns_no (K := X.K) (S := S1) (H := H1) z).2 pp d hq hr c.env
        · cases h3
          exact c.go.own a ⟨i, pp, d, hq, hr⟩
theorem vs_retN : VS X (.Return none pos) (sRet (fC .non)) := ps_retN.imp fun D σ H q => by
  obtain ⟨S, ρ, o, ρ', E, e, k⟩ := q
  cases e
  exact k .non S σ H E .refl .non (fun _ h => by cases h) (fun _ _ _ h => by cases h)
theorem vs_if (hc : VT X c h) (ha : VSs X sts t) (hb : VSs X sus u) : VS X (.If c sts sus pos) (sIf h t u) := (ps_if hc ha hb).imp fun D σ H q => by
  obtain ⟨S, ρ, o, ρ', E, e, k⟩ := q
  obtain ⟨p, e1, e2⟩ := bind_some e
  split at e2
  · rename_i h1
    refine ⟨S, ρ, true, p.2, E, by rw [e1, ← h1], fun S1 H1 c1 => ?_⟩
    refine iteT ?_
    exact ⟨S1, p.2, o, ρ', c1.env, e2, k.before c1.go⟩
  · rename_i h1
    refine ⟨S, ρ, false, p.2, E, by rw [e1, ← h1], fun S1 H1 c1 => ?_⟩
    refine iteF ?_
    exact ⟨S1, p.2, o, ρ', c1.env, e2, k.before c1.go⟩
  · cases e2
theorem vs_expr (he : VE X e f) (hs : swapsWith e none pos.line X.env = pure false := by rfl) : VS X (.Expr e pos) (sDrop f) := (ps_expr he hs).imp fun D σ H q => by
  obtain ⟨S, ρ, o, ρ', E, e, k⟩ := q
  obtain ⟨p, e1, e2⟩ := map_some e
  cases e2
  exact ⟨S, ρ, p.1, p.2, E, e1, fun v S1 H1 c => k S1 σ H1 c.env c.go⟩
/-! ### stores -/
def okAt (ρ : List Sl) (i : Nat) : Bool := match ρ[i]? with
  | some s => stored s
  | none => false
def putR (i : Nat) (r : R) (ρ : List Sl) : Option (List Sl) := if okAt ρ i = true then match r with
  | .val d => some (ρ.set i (.val d))
  | .own d => some (ρ.set i (.own false d))
  | .al j => (take ρ (.al j)).bind fun q => if okAt q.2 i = true then some (q.2.set i (.val q.1)) else none
  else none
def sAsg (i : Nat) (f : Ev) : Stm := fun ρ => (f ρ).bind fun p => (putR i p.1 p.2).map fun ρ1 => (.nx, ρ1)
theorem ok_at {ρ : List Sl} {i : Nat} (h : okAt ρ i = true) : ∃ s0, ρ[i]? = some s0 ∧ stored s0 = true := by
  unfold okAt at h
  split at h
  · rename_i s e; exact ⟨s, e, h⟩
  · cases h
theorem fin_put {K : PySem.W.Frag} {σ : L2.St} {ρ ρ1 ρ2 : List Sl} {S H S1 H1 : Hp} {v : V} {r : R} {i : Nat} (c : Cur K σ ρ S H [v] [r] ρ1 S1 H1) (e : putR i r ρ1 = some ρ2) :
    ∃ S2, Env K S2 (σ.set i (some v)) H1 ρ2 ∧ Go σ ρ S H (σ.set i (some v)) ρ2 S2 H1 := by
  unfold putR at e
  split at e
  · rename_i hok
    obtain ⟨s0, h0, hst⟩ := ok_at hok
    have hl : i < σ.length := by rw [← c.env.len]; exact (List.getElem?_eq_some_iff.mp h0).1
    cases r with
    | val d =>
      cases e
      exact ⟨S1, c.env.store (s := .val d) ⟨s0, h0⟩ c.rep1, c.go.store ⟨s0, h0, hst⟩ (fun _ h => by cases h) hl (fun _ _ _ h => by cases h)⟩
    | own d =>
      cases e
      refine ⟨S1, c.env.store (s := .own false d) ⟨s0, h0⟩ c.rep1, c.go.store ⟨s0, h0, hst⟩ (fun _ h => by cases h) hl (fun p d' a h1 h2 => c.nw a d (by rw [h2]; simp))⟩
    | al j =>
      obtain ⟨q, e1, e2⟩ := bind_some e
      split at e2
      · rename_i hok2
        cases e2
        obtain ⟨s1, h1, hst1⟩ := ok_at hok2
        obtain ⟨S2, s12, hr, c2⟩ := c.take (d := q.1) (ρ2 := q.2) e1
        exact ⟨S2, c2.env.store (s := .val q.1) ⟨s1, h1⟩ hr, c2.go.store ⟨s1, h1, hst1⟩ (fun _ h => by cases h) hl (fun _ _ _ h => by cases h)⟩
      · cases e2
  · cases e
theorem fin_asg {K : PySem.W.Frag} {σ : L2.St} {H : Hp} {D : Ends} {i : Nat} (q : tVS K (sAsg i f) D σ H) : tAsg (tV K f) (gName i) D σ H := by
  obtain ⟨S, ρ, o, ρ', E, e, k⟩ := q
  obtain ⟨p, e1, e2⟩ := bind_some e
  obtain ⟨ρ1, e3, e4⟩ := map_some e2
  cases e4
  refine ⟨S, ρ, p.1, p.2, E, e1, fun v S1 H1 c => ?_⟩
  obtain ⟨S2, E2, G2⟩ := fin_put c e3
  exact k S2 _ H1 E2 G2
theorem vs_set {i : Nat} {x : Str} {pos' : Pos} (hN : X.N.Nodup) (hi : X.N[i]? = some x) (hx : Loc X.env.scope x) (he : VE X e f) (hs : swapsWith e (some (.Name x pos')) pos.line X.env = pure false := by rfl)
    (hf : X.fn x = true ∨ X.env.scope.names.lookup x = some .local := by first | exact .inl rfl | exact .inr rfl | assumption) : VS X (.Assign [.Name x pos'] e pos) (sAsg i f) :=
  (ps_set hN hi hx he hs hf).imp fun D σ H q => fin_asg q

/-! ### targets: names and tuples of them; values alone -/
inductive Tg where
  | nm (i : Nat) | tp (ts : List Tg)
mutual
def asg : Tg → FL.D → List Sl → Option (List Sl)
  | .nm i, d, ρ => if okAt ρ i = true then some (ρ.set i (.val d)) else none
  | .tp ts, .tup ds, ρ => asgs ts ds ρ
  | .tp _, _, _ => none
def asgs : List Tg → List FL.D → List Sl → Option (List Sl)
  | [], [], ρ => some ρ
  | t :: ts, d :: ds, ρ => (asg t d ρ).bind fun ρ1 => asgs ts ds ρ1
  | _, _, _ => none
end
mutual
def gOf (K : PySem.W.Frag) : Tg → TG
  | .nm i => gName i
  | .tp ts => gTup K ts.length (gsOf K ts)
def gsOf (K : PySem.W.Frag) : List Tg → TGs
  | [] => gNil
  | t :: ts => gCons (gOf K t) (gsOf K ts)
end
theorem asgs_len : ∀ {ts : List Tg} {ds : List FL.D} {ρ ρ' : List Sl}, asgs ts ds ρ = some ρ' → ds.length = ts.length
  | [], [], _, _, _ => rfl
  | [], _ :: _, _, _, h => by simp [asgs] at h
  | _ :: _, [], _, _, h => by simp [asgs] at h
  | t :: ts, d :: ds, ρ, ρ', h => by
    rw [asgs] at h
    obtain ⟨ρ1, _, h2⟩ := bind_some h
    simp [asgs_len h2]
section
variable {K : PySem.W.Frag}
mutual
def tgHas : Tg → Nat → Bool
  | .nm i, j => i == j
  | .tp ts, j => tgsHas ts j
def tgsHas : List Tg → Nat → Bool
  | [], _ => false
  | t :: ts, j => tgHas t j || tgsHas ts j
end
mutual
theorem gOf_ok : ∀ (t : Tg) {d : FL.D} {ρ0 ρ ρ' : List Sl} {σ0 σ : L2.St} {S0 H0 S H : Hp} {v : V} {Q : L2.St → Hp → Prop}, asg t d ρ = some ρ' → Env K S σ H ρ → Go σ0 ρ0 S0 H0 σ ρ S H → Rep K S v d →
    (∀ σ', Env K S σ' H ρ' → Go σ0 ρ0 S0 H0 σ' ρ' S H → (∀ j, tgHas t j = false → σ'[j]? = σ[j]?) → Q σ' H) → gOf K t v σ H Q
  | .nm i, d, ρ0, ρ, ρ', σ0, σ, S0, H0, S, H, v, Q, h, E, G, r, k => by
    rw [asg] at h
    split at h
    · rename_i hok
      cases h
      obtain ⟨s0, h0, hst⟩ := ok_at hok
      have hl : i < σ.length := by rw [← E.len]; exact (List.getElem?_eq_some_iff.mp h0).1
      exact k _ (E.store (s := .val d) ⟨s0, h0⟩ r) (G.store ⟨s0, h0, hst⟩ (fun _ h => by cases h) hl (fun _ _ _ h => by cases h)) fun j hj => List.getElem?_set_ne (by rw [tgHas] at hj; simpa using hj)
    · cases h
  | .tp ts, .tup ds, ρ0, ρ, ρ', σ0, σ, S0, H0, S, H, v, Q, h, E, G, r, k => by
    rw [asg] at h
    obtain ⟨a, vs, rfl, h1, h2⟩ := See.tup (.of r) E.ex
    rw [gOf]
    refine ⟨a, vs, rfl, h1, by rw [h2.length]; exact asgs_len h, ?_⟩
    exact gsOf_ok ts h E G h2 fun σ' E' G' hj => k σ' E' G' fun j h => hj j (by rw [tgHas] at h; exact h)
  | .tp _, .non, _, _, _, _, _, _, _, _, _, _, _, h, _, _, _, _ => by rw [asg] at h; cases h; intro _ h; cases h
  | .tp _, .bl _, _, _, _, _, _, _, _, _, _, _, _, h, _, _, _, _ => by rw [asg] at h; cases h; intro _ h; cases h
  | .tp _, .int _, _, _, _, _, _, _, _, _, _, _, _, h, _, _, _, _ => by rw [asg] at h; cases h; intro _ h; cases h
  | .tp _, .str _, _, _, _, _, _, _, _, _, _, _, _, h, _, _, _, _ => by rw [asg] at h; cases h; intro _ h; cases h
  | .tp _, .lst _, _, _, _, _, _, _, _, _, _, _, _, h, _, _, _, _ => by rw [asg] at h; cases h; intro _ h; cases h
  | .tp _, .dic _, _, _, _, _, _, _, _, _, _, _, _, h, _, _, _, _ => by rw [asg] at h; cases h; intro _ h; cases h
  | .tp _, .scr _, _, _, _, _, _, _, _, _, _, _, _, h, _, _, _, _ => by rw [asg] at h; cases h; intro _ h; cases h
theorem gsOf_ok : ∀ (ts : List Tg) {ds : List FL.D} {ρ0 ρ ρ' : List Sl} {σ0 σ : L2.St} {S0 H0 S H : Hp} {vs : List V} {Q : L2.St → Hp → Prop}, asgs ts ds ρ = some ρ' → Env K S σ H ρ → Go σ0 ρ0 S0 H0 σ ρ S H → Reps K S vs ds →
    (∀ σ', Env K S σ' H ρ' → Go σ0 ρ0 S0 H0 σ' ρ' S H → (∀ j, tgsHas ts j = false → σ'[j]? = σ[j]?) → Q σ' H) → gsOf K ts vs σ H Q
  | [], [], ρ0, ρ, ρ', σ0, σ, S0, H0, S, H, vs, Q, h, E, G, r, k => by
    rw [asgs] at h; cases h
    cases r
    exact ⟨rfl, k σ E G fun _ _ => rfl⟩
  | [], _ :: _, _, _, _, _, _, _, _, _, _, _, _, h, _, _, _, _ => by simp [asgs] at h
  | _ :: _, [], _, _, _, _, _, _, _, _, _, _, _, h, _, _, _, _ => by simp [asgs] at h
  | t :: ts, d :: ds, ρ0, ρ, ρ', σ0, σ, S0, H0, S, H, vs, Q, h, E, G, r, k => by
    rw [asgs] at h
    obtain ⟨ρ1, h1, h2⟩ := bind_some h
    cases r with
    | cons r1 rt => exact ⟨_, _, rfl, gOf_ok t h1 E G r1 fun σ' E' G' hj => gsOf_ok ts h2 E' G' rt fun σ2 E2 G2 hj2 => k σ2 E2 G2 fun j h => by
      rw [tgsHas, Bool.or_eq_false_iff] at h
      exact (hj2 j h.2).trans (hj j h.1)⟩
end
end
abbrev VG (X : Cx) (tg : Expr) (t : Tg) : Prop := PG X tg (gOf X.K t)
abbrev VGs (X : Cx) (tg : List Expr) (t : List Tg) : Prop := PGs X tg (gsOf X.K t)
theorem vg_name {i : Nat} {x : Str} (hN : X.N.Nodup) (hi : X.N[i]? = some x) (hx : Loc X.env.scope x) (hf : X.fn x = true ∨ X.env.scope.names.lookup x = some .local := by first | exact .inl rfl | exact .inr rfl | assumption) : VG X (.Name x pos) (.nm i) := by
  have h := pg_name (pos := pos) hN hi hx hf
  show PG X _ (gOf X.K (.nm i))
  rw [gOf]; exact h
theorem vgs_nil : VGs X [] [] := by
  show PGs X _ (gsOf X.K [])
  rw [gsOf]; exact pgs_nil
theorem vgs_cons {e : Expr} {es : List Expr} {t : Tg} {ts : List Tg} (h1 : VG X e t) (h2 : VGs X es ts) (hs : (assignEach (e :: es) X.env).map (·.2) = assign e X.env :: (assignEach es X.env).map (·.2) := by rfl) : VGs X (e :: es) (t :: ts) := by
  show PGs X _ (gsOf X.K (t :: ts))
  rw [gsOf]; exact pgs_cons h1 h2 hs
theorem vg_tup {es : List Expr} {k : Nat} {ts : List Tg} (hc : X.calm = true) (h : VGs X es ts) (hn : (assignEach es X.env).length = ts.length := by rfl) (hst : (assignEach es X.env).findIdx? (·.1) = none := by rfl) : VG X (.Tuple es k pos) (.tp ts) := by
  show PG X _ (gOf X.K (.tp ts))
  rw [gOf]; exact pg_tup hc h hn hst
/-- a tuple is unpacked -/
def sUnp (t : Tg) (f : Ev) : Stm := fun ρ => (f ρ).bind fun p => match p.1 with
  | .val d => (asg t d p.2).map fun ρ1 => (.nx, ρ1)
  | _ => none
theorem vs_unp {tg : Expr} {t : Tg} (he : VE X e f) (hg : VG X tg t) (hs : swapsWithSole [tg] e pos.line X.env = pure false := by rfl) (hw : swappedStores [tg] e X.env = pure none := by rfl)
    (h1 : (assignEach [tg] X.env).map (·.2) = [assign tg X.env] := by rfl) : VS X (.Assign [tg] e pos) (sUnp t f) := (ps_asg he hg hs hw h1).imp fun D σ H q => by
  obtain ⟨S, ρ, o, ρ', E, e, k⟩ := q
  obtain ⟨p, e1, e2⟩ := bind_some e
  refine ⟨S, ρ, p.1, p.2, E, e1, fun v S1 H1 c => ?_⟩
  split at e2
  · rename_i d h1
    obtain ⟨ρ1, e3, e4⟩ := map_some e2
    cases e4
    have q := c.rep1
    rw [h1] at q
    exact gOf_ok t e3 c.env c.go q fun σ' E' G' _ => k S1 σ' H1 E' G'
  · cases e2
/-- two, three names at once -/
def put1 (i : Nat) (r : R) (ρ : List Sl) : Option (List Sl) := if okAt ρ i = true then match r with
  | .val d => some (ρ.set i (.val d))
  | .own d => some (ρ.set i (.own false d))
  | .al _ => none
  else none
def puts : List Nat → List R → List Sl → Option (List Sl)
  | [], [], ρ => some ρ
  | i :: is, r :: rs, ρ => (put1 i r ρ).bind fun ρ1 => puts is rs ρ1
  | _, _, _ => none
def sPar (is : List Nat) (fs : List Ev) : Stm := fun ρ => (evs fs ρ).bind fun p => (puts is p.1 p.2).map fun ρ1 => (.nx, ρ1)
end
end FL
namespace FL
open PySem L2

section
variable {K : PySem.W.Frag} {S S1 S2 S' H H1 H2 H' : Hp} {σ σ' σ1 : L2.St} {ρ ρ0 ρ1 ρ2 ρ' : List Sl} {a : Addr} {d : D} {v w : V} {r : R} {vs : List V} {rs : List R}
def setsσ : List Nat → List V → L2.St → L2.St
  | i :: is, v :: vs, σ => setsσ is vs (σ.set i (some v))
  | _, _, σ => σ
theorem owns_store {i : Nat} {s : Sl} (hl : i < ρ.length) (hl2 : i < σ.length) (h : Owns (σ.set i (some v)) (ρ.set i s) a) : (∃ p d, s = .own p d ∧ v = .ref a) ∨ Owns σ ρ a := by
  obtain ⟨j, p, d, e1, e2⟩ := h
  by_cases hj : j = i
  · subst hj
    rw [List.getElem?_set_self hl] at e1; cases e1
    rw [List.getElem?_set_self hl2] at e2; cases e2
    exact .inl ⟨p, d, rfl, rfl⟩
  · rw [List.getElem?_set_ne (Ne.symm hj)] at e1 e2
    exact .inr ⟨j, p, d, e1, e2⟩
theorem RepRs.noal (h : RepRs K S H σ ρ vs rs) (n : ∀ i, R.al i ∉ rs) (f : ∀ a, (∃ d, (V.ref a, R.own d) ∈ vs.zip rs) → Owns σ' ρ' a → Owns σ ρ a) : RepRs K S H σ' ρ' vs rs := by
  induction h with
  | nil => exact .nil
  | @cons v r vs rs hr hd ht ih =>
    refine .cons ?_ hd (ih (fun i hi => n i (List.mem_cons_of_mem _ hi)) fun a ⟨d, hm⟩ => f a ⟨d, by rw [List.zip_cons_cons]; exact List.mem_cons_of_mem _ hm⟩)
    cases r with
    | val d => exact hr
    | al i => exact absurd List.mem_cons_self (n i)
    | own d =>
      obtain ⟨a, rfl, o, nn⟩ := hr
      exact ⟨a, rfl, o, fun z => nn (f a ⟨d, by simp⟩ z)⟩
theorem puts_noal : ∀ {is : List Nat} {rs : List R} {ρ ρ' : List Sl}, puts is rs ρ = some ρ' → ∀ i, R.al i ∉ rs
  | [], [], _, _, _, _, h => nomatch h
  | [], _ :: _, _, _, h, _, _ => by simp [puts] at h
  | _ :: _, [], _, _, h, _, _ => by simp [puts] at h
  | i :: is, r :: rs, ρ, ρ', h, j, hm => by
    rw [puts] at h
    obtain ⟨ρ1, h1, h2⟩ := bind_some h
    rcases List.mem_cons.mp hm with z | z
    · subst z
      unfold put1 at h1
      split at h1
      · cases h1
      · cases h1
    · exact puts_noal h2 j z
theorem puts_len : ∀ {is : List Nat} {rs : List R} {ρ ρ' : List Sl}, puts is rs ρ = some ρ' → rs.length = is.length
  | [], [], _, _, _ => rfl
  | [], _ :: _, _, _, h => by simp [puts] at h
  | _ :: _, [], _, _, h => by simp [puts] at h
  | i :: is, r :: rs, ρ, ρ', h => by
    rw [puts] at h
    obtain ⟨ρ1, h1, h2⟩ := bind_some h
    simp [puts_len h2]
theorem puts_ok {σ0 : L2.St} {ρ0 : List Sl} {S0 H0 : Hp} : ∀ {is : List Nat} {vs : List V} {rs : List R} {σ : L2.St} {ρ ρ' : List Sl}, puts is rs ρ = some ρ' → RepRs K S H σ ρ vs rs → Env K S σ H ρ → Go σ0 ρ0 S0 H0 σ ρ S H →
    (∀ a d, (V.ref a, R.own d) ∈ vs.zip rs → Owns σ0 ρ0 a ∨ H0 a = none) → Env K S (setsσ is vs σ) H ρ' ∧ Go σ0 ρ0 S0 H0 (setsσ is vs σ) ρ' S H
  | [], vs, [], σ, ρ, ρ', h, hr, E, G, nw => by
    cases hr; cases h; exact ⟨E, G⟩
  | [], _, _ :: _, _, _, _, h, _, _, _, _ => by simp [puts] at h
  | _ :: _, _, [], _, _, _, h, _, _, _, _ => by simp [puts] at h
  | i :: is, vs, r :: rs, σ, ρ, ρ', h, hr, E, G, nw => by
    have na := puts_noal h
    cases hr with
    | @cons v _ vs _ hr hd ht =>
      rw [puts] at h
      obtain ⟨ρ1, h1, h2⟩ := bind_some h
      have nw' : ∀ a d, (V.ref a, R.own d) ∈ vs.zip rs → Owns σ0 ρ0 a ∨ H0 a = none := fun a d hm => nw a d (by rw [List.zip_cons_cons]; exact List.mem_cons_of_mem _ hm)
      unfold put1 at h1
      split at h1
      · rename_i hok
        obtain ⟨s0, h0, hst⟩ := ok_at hok
        have hlr : i < ρ.length := (List.getElem?_eq_some_iff.mp h0).1
        have hl : i < σ.length := by rw [← E.len]; exact hlr
        cases r with
        | al j => exact absurd List.mem_cons_self (na j)
        | val d =>
          cases h1
          refine puts_ok (is := is) (vs := vs) (σ := σ.set i (some v)) h2 (ht.noal (fun j hj => na j (List.mem_cons_of_mem _ hj)) fun a _ z => (owns_store (s := .val d) hlr hl z).elim (fun ⟨_, _, q, _⟩ => by cases q) fun z => z) (E.store (s := .val d) ⟨s0, h0⟩ hr) (G.store ⟨s0, h0, hst⟩ (fun _ h => by cases h) hl (fun _ _ _ h => by cases h)) nw'
        | own d =>
          cases h1
          refine puts_ok (is := is) (vs := vs) (σ := σ.set i (some v)) h2 (ht.noal (fun j hj => na j (List.mem_cons_of_mem _ hj)) fun a ⟨d2, hm⟩ z => (owns_store (s := .own false d) hlr hl z).elim (fun ⟨_, _, q, q2⟩ => absurd hm (hd d a rfl q2 d2)) fun z => z) (E.store (s := .own false d) ⟨s0, h0⟩ hr)
            (G.store ⟨s0, h0, hst⟩ (fun _ h => by cases h) hl (fun p d' a h1 h2 => nw a d (by rw [h2]; simp))) nw'
      · cases h1
end

section
variable {X : Cx} {e a b c : Expr} {es rest : List Expr} {f g h : Ev} {fs : List Ev} {pos : Pos} {st : Stmt} {sts sus : List Stmt} {u t : Stm}
theorem vs_par {i j : Nat} {x y : Str} {px py pt : Pos} {kt k2 pt2} (hc : X.calm = true) (hN : X.N.Nodup) (hi : X.N[i]? = some x) (hj : X.N[j]? = some y) (hij : i ≠ j)
    (hx : X.env.scope.names.lookup x = some .local) (hy : X.env.scope.names.lookup y = some .local) (ha : VA X [a, b] fs)
    (hw : swappedStores [.Tuple [.Name x px, .Name y py] kt pt] (.Tuple [a, b] k2 pt2) X.env = pure (some [x, y]))
    (hs : swapsWithSole [.Tuple [.Name x px, .Name y py] kt pt] (.Tuple [a, b] k2 pt2) pos.line X.env = pure false := by rfl) :
    VS X (.Assign [.Tuple [.Name x px, .Name y py] kt pt] (.Tuple [a, b] k2 pt2) pos) (sPar [i, j] fs) := (ps_par hc hN hi hj hij hx hy ha hw hs).imp fun D σ H q => by
  obtain ⟨S, ρ, o, ρ', E, e, k⟩ := q
  obtain ⟨p, e1, e2⟩ := bind_some e
  obtain ⟨ρ1, e3, e4⟩ := map_some e2
  cases e4
  refine ⟨S, ρ, p.1, p.2, E, e1, fun vs S1 H1 c => ?_⟩
  obtain ⟨E2, G2⟩ := puts_ok e3 c.rep c.env c.go c.nw
  have hl : p.1.length = 2 := by
    exact puts_len e3
  match vs, c.rep.len with
  | [v, w], _ => exact ⟨v, w, rfl, k S1 _ H1 E2 G2⟩
  | [], h => rw [hl] at h; cases h
  | [_], h => rw [hl] at h; cases h
  | _ :: _ :: _ :: _, h => rw [hl] at h; cases h
theorem vs_par3 {i j l : Nat} {x y z : Str} {px py pz pt : Pos} {kt k2 pt2} (hc : X.calm = true) (hN : X.N.Nodup) (hi : X.N[i]? = some x) (hj : X.N[j]? = some y) (hk : X.N[l]? = some z) (hij : i ≠ j) (hil : i ≠ l) (hjl : j ≠ l)
    (hx : X.env.scope.names.lookup x = some .local) (hy : X.env.scope.names.lookup y = some .local) (hz : X.env.scope.names.lookup z = some .local) (ha : VA X [a, b, c] fs)
    (hw : swappedStores [.Tuple [.Name x px, .Name y py, .Name z pz] kt pt] (.Tuple [a, b, c] k2 pt2) X.env = pure (some [x, y, z]))
    (hs : swapsWithSole [.Tuple [.Name x px, .Name y py, .Name z pz] kt pt] (.Tuple [a, b, c] k2 pt2) pos.line X.env = pure false := by rfl) :
    VS X (.Assign [.Tuple [.Name x px, .Name y py, .Name z pz] kt pt] (.Tuple [a, b, c] k2 pt2) pos) (sPar [i, j, l] fs) := (ps_par3 hc hN hi hj hk hij hil hjl hx hy hz ha hw hs).imp fun D σ H q => by
  obtain ⟨S, ρ, o, ρ', E, e, k⟩ := q
  obtain ⟨p, e1, e2⟩ := bind_some e
  obtain ⟨ρ1, e3, e4⟩ := map_some e2
  cases e4
  refine ⟨S, ρ, p.1, p.2, E, e1, fun vs S1 H1 c => ?_⟩
  obtain ⟨E2, G2⟩ := puts_ok e3 c.rep c.env c.go c.nw
  have hl : p.1.length = 3 := by
    exact puts_len e3
  match vs, c.rep.len with
  | [v, w, w2], _ => exact ⟨v, w, w2, rfl, k S1 _ H1 E2 G2⟩
  | [], h => rw [hl] at h; cases h
  | [_], h => rw [hl] at h; cases h
  | [_, _], h => rw [hl] at h; cases h
  | _ :: _ :: _ :: _ :: _, h => rw [hl] at h; cases h

/-! ### walks -/
/-- behind S0 the iterator J walks ds -/
structure Walks (K : PySem.W.Frag) (J : It) (S0 : Hp) (ds : List FL.D) : Prop where
  goes : ∀ S H i, Same S0 S → Same S H → i < ds.length → J.go i H
  stops : ∀ S H, Same S0 S → Same S H → J.stop ds.length H
  gives : ∀ S H i x H', Same S0 S → Same S H → i < ds.length → J.yld i H x H' → ∃ S' d, ds[i]? = some d ∧ Rep K S' x d ∧ Same S S' ∧ Same H H' ∧ Same S' H' ∧ ∀ a, S a = none → Live H a → S' a = none
abbrev Iv := List Sl → Option (List FL.D × List Sl)
def tVI (K : PySem.W.Frag) (it : Iv) : TI := fun σ H R => ∃ S ρ ds ρ', Env K S σ H ρ ∧ it ρ = some (ds, ρ') ∧ ∀ S' H' J, Env K S' σ H' ρ' → Go σ ρ S H σ ρ' S' H' → Walks K J S' ds → R J H'
abbrev VI (X : Cx) (tg iter : Expr) (it : Iv) : Prop := PI X tg iter (tVI X.K it)
theorem _root_.L2.PI.imp {X : Cx} {tg e : Expr} {t t' : TI} (h : PI X tg e t) (k : ∀ σ H R, t' σ H R → t σ H R) : PI X tg e t' := ⟨fun pins s σ H R I q => h.run pins s σ H R I (k σ H R q)⟩
theorem _root_.L2.PI.or {X : Cx} {tg e : Expr} {t t' : TI} (h : PI X tg e t) (h' : PI X tg e t') : PI X tg e fun σ H R => t σ H R ∨ t' σ H R := ⟨fun pins s σ H R I q => q.elim (h.run pins s σ H R I) (h'.run pins s σ H R I)⟩
def forL (t : Tg) (b : Stm) : List FL.D → Stm
  | [], ρ => some (.nx, ρ)
  | d :: ds, ρ => (asg t d ρ).bind fun ρ1 => (b ρ1).bind fun p => match p.1 with
    | .nx => forL t b ds p.2
    | .ct => forL t b ds p.2
    | .bk => some (.nx, p.2)
    | .rt r => some (.rt r, p.2)
def sFor (it : Iv) (t : Tg) (b : Stm) : Stm := fun ρ => (it ρ).bind fun p => forL t b p.1 p.2
theorem fin_for {K : PySem.W.Frag} {it : Iv} {tg : Tg} {σ : L2.St} {H : Hp} {D : Ends} (q : tVS K (sFor it tg t) D σ H) : tFor (tVI K it) (gOf K tg) (tVS K t) D σ H := by
  obtain ⟨S, ρ, o, ρ', E, e, k⟩ := q
  obtain ⟨p, e1, e2⟩ := bind_some e
  refine ⟨S, ρ, p.1, p.2, E, e1, fun S1 H1 J E1 G1 W1 => ?_⟩
  refine ⟨fun i m σi Hi => m = p.1.length - i ∧ i ≤ p.1.length ∧ ∃ Si ρi, Env K Si σi Hi ρi ∧ Go σ ρ S H σi ρi Si Hi ∧ Same S1 Si ∧ forL tg t (p.1.drop i) ρi = some (o, ρ'), ⟨_, rfl, Nat.zero_le _, S1, p.2, E1, G1, fun _ _ e => e, e2⟩, ?_⟩
  rintro i m σi Hi ⟨rfl, hi, Si, ρi, Ei, Gi, si, ei⟩
  by_cases hlt : i < p.1.length
  · refine .inr ⟨W1.goes Si Hi i si Ei.ex hlt, ?_⟩
    rw [List.drop_eq_getElem_cons hlt, forL] at ei
    obtain ⟨ρ1, f1, f2⟩ := bind_some ei
    obtain ⟨p2, f3, f4⟩ := bind_some f2
    refine ⟨fun σ' H' => ∃ Si ρi, Env K Si σ' H' ρi ∧ Go σ ρ S H σ' ρi Si H' ∧ Same S1 Si ∧ forL tg t (p.1.drop (i + 1)) ρi = some (o, ρ'), fun σ' H' ⟨Sj, ρj, w1, w2, w3, w4⟩ => ⟨p.1.length - (i + 1), by omega, rfl, hlt, Sj, ρj, w1, w2, w3, w4⟩, fun x H' hy => ?_⟩
    obtain ⟨S', d, hd, hr, ss, hh, sh, hn⟩ := W1.gives Si Hi i x H' si Ei.ex hlt hy
    rw [List.getElem?_eq_getElem hlt] at hd
    cases hd
    have E' : Env K S' σi H' ρi := ⟨sh, Ei.len, fun j d e => let ⟨v, a, r⟩ := Ei.val j d e; ⟨v, a, r.mono ss⟩, fun j p d e => let ⟨b, a, o⟩ := Ei.own j p d e; ⟨b, a, o.keep ss (hn b o.1 o.live) (hh b)⟩, Ei.inj⟩
    have G' : Go σi ρi Si Hi σi ρi S' H' := ⟨ss, fun a o e _ => hh a o e, fun a h => by
      cases q : Hi a with
      | none => exact absurd q h
      | some o => rw [hh a o q]; simp, fun a e h _ => hn a e h, fun _ q => .inl q, fun _ d e => ⟨⟨d, e⟩, rfl⟩, rfl⟩
    refine gOf_ok tg f1 E' (Gi.trans G') hr fun σ2 E2 G2 _ => ?_
    refine ⟨S', ρ1, p2.1, p2.2, E2, f3, ?_⟩
    have s1 : Same S1 S' := fun a o e => ss a o (si a o e)
    cases hp : p2.1 with
    | nx =>
      rw [hp] at f4
      exact fun S3 σ3 H3 E3 G3 => ⟨S3, p2.2, E3, G2.trans G3, fun a o e => G3.st a o (s1 a o e), f4⟩
    | ct =>
      rw [hp] at f4
      exact fun S3 σ3 H3 E3 G3 => ⟨S3, p2.2, E3, G2.trans G3, fun a o e => G3.st a o (s1 a o e), f4⟩
    | bk =>
      rw [hp] at f4
      cases f4
      exact fun S3 σ3 H3 E3 G3 => k S3 σ3 H3 E3 (G2.trans G3)
    | rt r =>
      rw [hp] at f4
      cases f4
      have := Fin.before (o := .rt r) G2 k
      exact this
  · have e0 : i = p.1.length := by omega
    subst e0
    rw [List.drop_length, forL] at ei
    cases ei
    exact .inl ⟨W1.stops Si Hi si Ei.ex, k Si σi Hi Ei Gi⟩
theorem vs_for {tg iter : Expr} {it : Iv} {tt : Tg} (hp : PassesOwn (model X.prog X.w) X.A X.env X.xe) (hc : X.calm = true) (hi : VI X tg iter it) (hg : VG X tg tt) (hb : VSs X sts t)
    (hs : ∀ x, foldedSetIterable iter X.env x = pure x := by intro _; rfl) : VS X (.For tg iter sts [] pos) (sFor it tt t) := (ps_for hp hc hi hg hb hs).imp fun D σ H q => fin_for q
def whileL (c : Ev) (b : Stm) : Nat → Stm
  | 0, _ => none
  | n + 1, ρ => (c ρ).bind fun p => match p.1 with
    | .val (.bl true) => (b p.2).bind fun q => match q.1 with
      | .nx => whileL c b n q.2
      | .ct => whileL c b n q.2
      | .bk => some (.nx, q.2)
      | .rt r => some (.rt r, q.2)
    | .val (.bl false) => some (.nx, p.2)
    | _ => none
/-- a while, at most n turns -/
def sWhile (n : Nat) (c : Ev) (b : Stm) : Stm := whileL c b n
theorem vs_while {n : Nat} {cd : Expr} (hp : PassesOwn (model X.prog X.w) X.A X.env X.xe) (hc : VT X cd f) (hb : VSs X sts t) : VS X (.While cd sts [] pos) (sWhile n f t) := (ps_while hp hc hb).imp fun D σ H q => by
  obtain ⟨S, ρ, o, ρ', E, e, k⟩ := q
  refine ⟨fun m σi Hi => ∃ Si ρi, Env X.K Si σi Hi ρi ∧ Go σ ρ S H σi ρi Si Hi ∧ whileL f t m ρi = some (o, ρ'), ⟨n, S, ρ, E, .refl, e⟩, ?_⟩
  rintro m σi Hi ⟨Si, ρi, Ei, Gi, ei⟩
  cases m with
  | zero => rw [whileL] at ei; cases ei
  | succ m =>
    rw [whileL] at ei
    obtain ⟨p, e1, e2⟩ := bind_some ei
    split at e2
    · rename_i h1
      refine ⟨Si, ρi, true, p.2, Ei, by rw [e1, ← h1], fun S1 H1 c1 => ?_⟩
      refine iteT ?_
      obtain ⟨p2, f3, f4⟩ := bind_some e2
      refine ⟨fun σ' H' => ∃ Sj ρj, Env X.K Sj σ' H' ρj ∧ Go σ ρ S H σ' ρj Sj H' ∧ whileL f t m ρj = some (o, ρ'), fun σ' H' h => ⟨m, Nat.lt_succ_self m, h⟩, ?_⟩
      refine ⟨S1, p.2, p2.1, p2.2, c1.env, f3, ?_⟩
      have G1 := Gi.trans c1.go
      cases hp : p2.1 with
      | nx => rw [hp] at f4; exact fun S3 σ3 H3 E3 G3 => ⟨S3, p2.2, E3, G1.trans G3, f4⟩
      | ct => rw [hp] at f4; exact fun S3 σ3 H3 E3 G3 => ⟨S3, p2.2, E3, G1.trans G3, f4⟩
      | bk => rw [hp] at f4; cases f4; exact fun S3 σ3 H3 E3 G3 => k S3 σ3 H3 E3 (G1.trans G3)
      | rt r => rw [hp] at f4; cases f4; have := Fin.before (o := .rt r) G1 k; exact this
    · rename_i h1
      refine ⟨Si, ρi, false, p.2, Ei, by rw [e1, ← h1], fun S1 H1 c1 => ?_⟩
      refine iteF ?_
      cases e2
      exact k S1 σi H1 c1.env (Gi.trans c1.go)
    · cases e2
end
end FL
namespace FL
open PySem L2

section
variable {K : PySem.W.Frag} {S S1 S2 S' H H1 H2 H' S0 H0 : Hp} {σ σ' σ0 σ1 : L2.St} {ρ ρ0 ρ1 ρ2 ρ' : List Sl} {a : Addr} {d : D} {v w : V} {r : R} {vs : List V} {rs : List R} {o : HO}
/-! ### an object outside is changed -/
theorem Env.mut (E : Env K S σ H ρ) (hs : S a = none) (hn : ¬ Owns σ ρ a) : Env K S σ (upd H a o) ρ :=
  ⟨fun b u e => by rw [upd_ne (ne_of_none e hs)]; exact E.ex b u e, E.len, E.val, fun i p d e => let ⟨b, e1, q⟩ := E.own i p d e; ⟨b, e1, q.keep (fun _ _ e => e) q.1 fun u h => by rw [upd_ne (fun z => hn ⟨i, p, d, e, by rw [e1, z]⟩)]; exact h⟩, E.inj⟩
theorem Go.mut (G : Go σ0 ρ0 S0 H0 σ ρ S H) (hw : Owns σ0 ρ0 a ∨ H0 a = none) : Go σ0 ρ0 S0 H0 σ ρ S (upd H a o) :=
  ⟨G.st, fun b u e n => by rw [upd_ne (fun z => by subst z; exact hw.elim n fun q => by rw [q] at e; cases e)]; exact G.keep b u e n, fun b h => by
    by_cases hb : b = a
    · subst hb; rw [upd_same]; simp
    · rw [upd_ne hb]; exact G.dom b h, G.new, G.own, G.pin, G.len⟩
/-! ### slots wiped for a comprehension, and given back -/
def wipeR (ρ : List Sl) : List Nat → List Sl
  | [] => ρ
  | v :: vs => (wipeR ρ vs).set v .no
def unwipe (o ρ : List Sl) : List Nat → List Sl
  | [] => ρ
  | v :: vs => (unwipe o ρ vs).set v (o.getD v .no)
def noOwn (ρ : List Sl) (vs : List Nat) : Bool := vs.all fun v => match ρ[v]? with
  | some (.own _ _) => false
  | _ => true
theorem wipe_len {vs : List Nat} : (wipe σ vs).length = σ.length := by induction vs with | nil => rfl | cons v vs ih => rw [wipe, List.length_set, ih]
theorem wipeR_len {vs : List Nat} : (wipeR ρ vs).length = ρ.length := by induction vs with | nil => rfl | cons v vs ih => rw [wipeR, List.length_set, ih]
theorem unwipe_len {vs : List Nat} : (unwipe ρ0 ρ vs).length = ρ.length := by induction vs with | nil => rfl | cons v vs ih => rw [unwipe, List.length_set, ih]
theorem wipe_out {vs : List Nat} {j : Nat} (h : j ∉ vs) : (wipe σ vs)[j]? = σ[j]? := by
  induction vs with
  | nil => rfl
  | cons v vs ih =>
    have h' : j ≠ v ∧ j ∉ vs := by simpa using h
    rw [wipe, List.getElem?_set_ne (Ne.symm h'.1), ih h'.2]
theorem wipe_in {vs : List Nat} {j : Nat} (h : j ∈ vs) (hl : j < σ.length) : (wipe σ vs)[j]? = some none := by
  induction vs with
  | nil => cases h
  | cons v vs ih =>
    rw [wipe]
    by_cases hj : j = v
    · subst hj; rw [List.getElem?_set_self (by rw [wipe_len]; exact hl)]
    · rw [List.getElem?_set_ne (Ne.symm hj)]; exact ih ((List.mem_cons.mp h).resolve_left hj)
theorem wipeR_out {vs : List Nat} {j : Nat} (h : j ∉ vs) : (wipeR ρ vs)[j]? = ρ[j]? := by
  induction vs with
  | nil => rfl
  | cons v vs ih =>
    have h' : j ≠ v ∧ j ∉ vs := by simpa using h
    rw [wipeR, List.getElem?_set_ne (Ne.symm h'.1), ih h'.2]
theorem wipeR_in {vs : List Nat} {j : Nat} {s : Sl} (h : j ∈ vs) (e : (wipeR ρ vs)[j]? = some s) : s = .no := by
  induction vs with
  | nil => cases h
  | cons v vs ih =>
    rw [wipeR] at e
    by_cases hj : j = v
    · subst hj
      by_cases hl : j < (wipeR ρ vs).length
      · rw [List.getElem?_set_self hl] at e; cases e; rfl
      · rw [List.getElem?_eq_none (by simpa using hl)] at e; cases e
    · rw [List.getElem?_set_ne (Ne.symm hj)] at e; exact ih ((List.mem_cons.mp h).resolve_left hj) e
theorem unwipe_out {vs : List Nat} {j : Nat} (h : j ∉ vs) : (unwipe ρ0 ρ vs)[j]? = ρ[j]? := by
  induction vs with
  | nil => rfl
  | cons v vs ih =>
    have h' : j ≠ v ∧ j ∉ vs := by simpa using h
    rw [unwipe, List.getElem?_set_ne (Ne.symm h'.1), ih h'.2]
theorem unwipe_in {vs : List Nat} {j : Nat} {s : Sl} (h : j ∈ vs) (e : (unwipe ρ0 ρ vs)[j]? = some s) : s = ρ0.getD j .no := by
  induction vs with
  | nil => cases h
  | cons v vs ih =>
    rw [unwipe] at e
    by_cases hj : j = v
    · subst hj
      by_cases hl : j < (unwipe ρ0 ρ vs).length
      · rw [List.getElem?_set_self hl] at e; cases e; rfl
      · rw [List.getElem?_eq_none (by simpa using hl)] at e; cases e
    · rw [List.getElem?_set_ne (Ne.symm hj)] at e; exact ih ((List.mem_cons.mp h).resolve_left hj) e
theorem Env.wiped {vs : List Nat} (E : Env K S σ H ρ) (hw : wipe σ vs = wipe σ' vs) : Env K S (wipe σ' vs) H (wipeR ρ vs) := by
  rw [← hw]
  refine ⟨E.ex, by rw [wipe_len, wipeR_len]; exact E.len, fun j d h => ?_, fun j p d h => ?_, fun j k p q d e a h1 h2 h3 h4 => ?_⟩
  · by_cases hj : j ∈ vs
    · cases wipeR_in hj h
    · rw [wipeR_out hj] at h; rw [wipe_out hj]; exact E.val j d h
  · by_cases hj : j ∈ vs
    · cases wipeR_in hj h
    · rw [wipeR_out hj] at h; rw [wipe_out hj]; exact E.own j p d h
  · by_cases hj : j ∈ vs
    · cases wipeR_in hj h1
    · by_cases hk : k ∈ vs
      · cases wipeR_in hk h2
      · rw [wipeR_out hj] at h1; rw [wipeR_out hk] at h2
        rw [wipe_out hj] at h3; rw [wipe_out hk] at h4
        exact E.inj j k p q d e a h1 h2 h3 h4
theorem owns_wiped {vs : List Nat} (h : Owns (wipe σ vs) (wipeR ρ vs) a) : Owns σ ρ a := by
  obtain ⟨j, p, d, e1, e2⟩ := h
  by_cases hj : j ∈ vs
  · cases wipeR_in hj e1
  · rw [wipeR_out hj] at e1; rw [wipe_out hj] at e2
    exact ⟨j, p, d, e1, e2⟩
theorem Go.wiped {vs : List Nat} (G : Go σ0 ρ0 S0 H0 σ ρ S H) (hw : wipe σ vs = wipe σ' vs) (hl : σ'.length = σ.length) (h0 : ∀ j, j ∉ vs → σ'[j]? = σ[j]?) : Go σ0 ρ0 S0 H0 (wipe σ' vs) (wipeR ρ vs) S H := by
  rw [← hw]
  refine ⟨G.st, G.keep, G.dom, G.new, fun a h => G.own a (owns_wiped h), fun j d h => ?_, by rw [wipe_len]; exact G.len⟩
  by_cases hj : j ∈ vs
  · cases wipeR_in hj h
  · rw [wipeR_out hj] at h; rw [wipe_out hj]; exact G.pin j d h
theorem wipe_eq {vs : List Nat} (h : ∀ j, j ∉ vs → σ'[j]? = (wipe σ vs)[j]?) (hl : σ'.length = σ.length) : wipe σ' vs = wipe σ vs := by
  refine List.ext_getElem? fun j => ?_
  by_cases hj : j ∈ vs
  · by_cases hb : j < σ.length
    · rw [wipe_in hj hb, wipe_in hj (by rw [hl]; exact hb)]
    · rw [List.getElem?_eq_none (by rw [wipe_len, hl]; omega), List.getElem?_eq_none (by rw [wipe_len]; omega)]
  · rw [wipe_out hj, h j hj]
end

/-! ### comprehensions -/
def lcL (t : Tg) (c e : Ev) (vs : List Nat) : List D → List D → List Sl → Option (List D × List Sl)
  | [], acc, ρ => some (acc, ρ)
  | d :: ds, acc, ρ => (asg t d ρ).bind fun ρ1 => (c ρ1).bind fun p => match p.1 with
    | .val (.bl true) => (e p.2).bind fun q => (take q.2 q.1).bind fun z => if acc.length < cap then lcL t c e vs ds (acc ++ [z.1]) (wipeR z.2 vs) else none
    | .val (.bl false) => lcL t c e vs ds acc (wipeR p.2 vs)
    | _ => none
def fLc (it : Iv) (t : Tg) (c e : Ev) (vs : List Nat) : Ev := fun ρ => (it ρ).bind fun p => if noOwn p.2 vs = true then (lcL t c e vs p.1 [] (wipeR p.2 vs)).map fun q => (.own (.lst q.1), unwipe p.2 q.2 vs) else none
theorem cap_lt {n : Nat} (h : n < cap) : n < sizeLine := Nat.lt_trans h (by decide)
theorem sem_lc {K : PySem.W.Frag} {it : Iv} {t : Tg} {c e : Ev} {vs : List Nat} {σ : L2.St} {H : Hp} {Q : VK} (hsub : ∀ j, j ∉ vs → tgHas t j = false) (q : tV K (fLc it t c e vs) σ H Q) : tLc (tVI K it) (gOf K t) (tVT K c) (tV K e) vs σ H Q := by
  obtain ⟨S, ρ, r, ρ', E, he, k⟩ := q
  obtain ⟨p, e1, e2⟩ := bind_some he
  split at e2
  · rename_i hno
    obtain ⟨fin, e3, e4⟩ := map_some e2
    cases e4
    refine ⟨S, ρ, p.1, p.2, E, e1, fun S1 H1 J E1 G1 W1 => ?_⟩
    intro D hD
    have hSD : S1 D = none := none_of E1.ex hD
    have Ew : Env K S1 (wipe σ vs) H1 (wipeR p.2 vs) := E1.wiped rfl
    have nD : ∀ {σ ρ}, Env K S1 σ H1 ρ → ¬ Owns σ ρ D := fun E h => (E.there h).1 hD
    refine ⟨fun i m Hi => m = p.1.length - i ∧ i ≤ p.1.length ∧ ∃ Si ρi acc vacc, Env K Si (wipe σ vs) Hi ρi ∧ Go (wipe σ vs) (wipeR p.2 vs) S1 H1 (wipe σ vs) ρi Si Hi ∧ Hi D = some (.lst vacc) ∧ Si D = none ∧ ¬ Owns (wipe σ vs) ρi D ∧ Reps K Si vacc acc ∧
        (∀ j, j ∈ vs → ∀ s, ρi[j]? = some s → s = .no) ∧ lcL t c e vs (p.1.drop i) acc ρi = some fin, ⟨_, rfl, Nat.zero_le _, S1, wipeR p.2 vs, [], [], Ew.mut hSD (nD Ew), Go.refl.mut (.inr hD), upd_same, hSD, nD Ew, .nil, fun j hj s h => wipeR_in hj h, e3⟩, ?_⟩
    rintro i m Hi ⟨rfl, hi, Si, ρi, acc, vacc, Ei, Gi, hDi, hSi, hni, hacc, hnoi, ei⟩
    by_cases hlt : i < p.1.length
    · refine .inr ⟨W1.goes Si Hi i Gi.st Ei.ex hlt, ?_⟩
      rw [List.drop_eq_getElem_cons hlt, lcL] at ei
      obtain ⟨ρ1, f1, f2⟩ := bind_some ei
      obtain ⟨p2, f3, f4⟩ := bind_some f2
      refine ⟨fun H' => ∃ Sj ρj acc vacc, Env K Sj (wipe σ vs) H' ρj ∧ Go (wipe σ vs) (wipeR p.2 vs) S1 H1 (wipe σ vs) ρj Sj H' ∧ H' D = some (.lst vacc) ∧ Sj D = none ∧ ¬ Owns (wipe σ vs) ρj D ∧ Reps K Sj vacc acc ∧
        (∀ j, j ∈ vs → ∀ s, ρj[j]? = some s → s = .no) ∧ lcL t c e vs (p.1.drop (i + 1)) acc ρj = some fin, fun H' h => ⟨p.1.length - (i + 1), by omega, rfl, hlt, h⟩, fun x H' hy => ?_⟩
      obtain ⟨S', d, hd, hr, ss, hh, sh, hn⟩ := W1.gives Si Hi i x H' Gi.st Ei.ex hlt hy
      rw [List.getElem?_eq_getElem hlt] at hd
      cases hd
      have E' : Env K S' (wipe σ vs) H' ρi := ⟨sh, Ei.len, fun j d e => let ⟨v, a, r⟩ := Ei.val j d e; ⟨v, a, r.mono ss⟩, fun j p d e => let ⟨b, a, o⟩ := Ei.own j p d e; ⟨b, a, o.keep ss (hn b o.1 o.live) (hh b)⟩, Ei.inj⟩
      have G' : Go (wipe σ vs) ρi Si Hi (wipe σ vs) ρi S' H' := ⟨ss, fun a o e _ => hh a o e, fun a h => by
        cases q : Hi a with
        | none => exact absurd q h
        | some o => rw [hh a o q]; simp, fun a e h _ => hn a e h, fun _ q => .inl q, fun _ d e => ⟨⟨d, e⟩, rfl⟩, rfl⟩
      have hDi0 : Hi D ≠ none := by rw [hDi]; simp
      refine gOf_ok t f1 E' G' hr fun σ2 E2 G2 hσ2 => ?_
      have hl2 : σ2.length = σ.length := by rw [G2.len, wipe_len]
      have hw2 : wipe σ2 vs = wipe σ vs := wipe_eq (fun j hj => hσ2 j (hsub j hj)) hl2
      have h02 : ∀ j, j ∉ vs → σ[j]? = σ2[j]? := fun j hj => by rw [hσ2 j (hsub j hj), wipe_out hj]
      refine ⟨hw2, S', ρ1, ?_⟩
      split at f4
      · rename_i h1
        refine ⟨true, p2.2, E2, by rw [f3, ← h1], fun S3 H3 c3 => ?_⟩
        refine iteT ?_
        obtain ⟨q, g1, g2⟩ := bind_some f4
        obtain ⟨z, g3, g4⟩ := bind_some g2
        split at g4
        · rename_i hcap
          refine ⟨S3, p2.2, q.1, q.2, c3.env, g1, fun y S4 H4 c4 => ?_⟩
          have G4 := (G2.trans c3.go).trans c4.go
          have c5 : Cur K (wipe σ vs) ρi Si Hi [] [] ρi Si Hi := .init Ei
          -- take the element, seen from the turn's start
          obtain ⟨S5, s45, r5, c6⟩ := Cur.take c4 g3
          have G6 := (G2.trans c3.go).trans c6.go
          have hD6 : H4 D = some (.lst vacc) := G6.keep D _ hDi hni
          have hS6 : S5 D = none := G6.new D hSi ⟨_, hDi, fun _ z => nomatch z⟩ hni
          have hn6 : ¬ Owns σ2 z.2 D := fun h => (G6.own D h).elim hni hDi0
          refine ⟨vacc, hD6, by rw [hacc.length]; exact cap_lt hcap, S5, wipeR z.2 vs, acc ++ [z.1], vacc ++ [y], ?_, ?_, upd_same, hS6, fun h => hn6 ?_, .append (hacc.mono G6.st) (.one r5), fun j hj s h => wipeR_in hj h, g4⟩
          · exact (c6.env.wiped hw2).mut hS6 fun h => hn6 (owns_wiped (by rw [hw2]; exact h))
          · exact ((Gi.trans G6).wiped hw2 (by rw [hl2]) h02).mut (.inr hD)
          · exact owns_wiped (by rw [hw2]; exact h)
        · cases g4
      · rename_i h1
        refine ⟨false, p2.2, E2, by rw [f3, ← h1], fun S3 H3 c3 => ?_⟩
        refine iteF ?_
        have G6 := G2.trans c3.go
        have hn6 : ¬ Owns σ2 p2.2 D := fun h => (G6.own D h).elim hni hDi0
        refine ⟨S3, wipeR p2.2 vs, acc, vacc, c3.env.wiped hw2, (Gi.trans G6).wiped hw2 (by rw [hl2]) h02, G6.keep D _ hDi hni, G6.new D hSi ⟨_, hDi, fun _ z => nomatch z⟩ hni, fun h => hn6 (owns_wiped (by rw [hw2]; exact h)), hacc.mono G6.st, fun j hj s h => wipeR_in hj h, f4⟩
      · cases f4
    · have e0 : i = p.1.length := by omega
      subst e0
      rw [List.drop_length, lcL] at ei
      cases ei
      refine .inl ⟨W1.stops Si Hi Gi.st Ei.ex, ?_⟩
      have back_own : ∀ a, Owns σ (unwipe p.2 ρi vs) a → Owns (wipe σ vs) ρi a := by
        rintro a ⟨j, q, d, h1, h2⟩
        by_cases hj : j ∈ vs
        · have hs := unwipe_in hj h1
          have hno' : (match p.2[j]? with | some (.own _ _) => false | _ => true) = true := List.all_eq_true.mp hno j hj
          rw [List.getD_eq_getElem?_getD] at hs
          cases hq : p.2[j]? with
          | none => rw [hq] at hs; cases hs
          | some s => rw [hq] at hs hno'; simp at hs; subst hs; cases hno'
        · rw [unwipe_out hj] at h1
          exact ⟨j, q, d, h1, by rw [wipe_out hj]; exact h2⟩
      have Gf : Go σ p.2 S1 H1 σ (unwipe p.2 ρi vs) Si Hi := by
        refine ⟨Gi.st, fun a o e n => Gi.keep a o e fun h => n (owns_wiped h), Gi.dom, fun a e h n => Gi.new a e h fun h => n (owns_wiped h), fun a h => (Gi.own a (back_own a h)).elim (fun h => .inl (owns_wiped h)) .inr, fun j d h => ?_, rfl⟩
        refine ⟨?_, rfl⟩
        by_cases hj : j ∈ vs
        · have hs := unwipe_in hj h
          rw [List.getD_eq_getElem?_getD] at hs
          cases hq : p.2[j]? with
          | none => rw [hq] at hs; cases hs
          | some s => rw [hq] at hs; simp at hs; subst hs; exact ⟨d, rfl⟩
        · rw [unwipe_out hj] at h
          obtain ⟨⟨d0, h0⟩, _⟩ := Gi.pin j d h
          rw [wipeR_out hj] at h0
          exact ⟨d0, h0⟩
      have Ef : Env K Si σ Hi (unwipe p.2 ρi vs) := by
        refine ⟨Ei.ex, by rw [unwipe_len, Ei.len, wipe_len], fun j d h => ?_, fun j q d h => ?_, fun j l q1 q2 d1 d2 a h1 h2 h3 h4 => ?_⟩
        · by_cases hj : j ∈ vs
          · have hs := unwipe_in hj h
            rw [List.getD_eq_getElem?_getD] at hs
            cases hq : p.2[j]? with
            | none => rw [hq] at hs; cases hs
            | some s =>
              rw [hq] at hs; simp at hs; subst hs
              obtain ⟨v, w1, w2⟩ := E1.val j d hq
              exact ⟨v, w1, w2.mono Gi.st⟩
          · rw [unwipe_out hj] at h
            obtain ⟨v, w1, w2⟩ := Ei.val j d h
            rw [wipe_out hj] at w1
            exact ⟨v, w1, w2⟩
        · by_cases hj : j ∈ vs
          · have hs := unwipe_in hj h
            have hno' : (match p.2[j]? with | some (.own _ _) => false | _ => true) = true := List.all_eq_true.mp hno j hj
            rw [List.getD_eq_getElem?_getD] at hs
            cases hq : p.2[j]? with
            | none => rw [hq] at hs; cases hs
            | some s => rw [hq] at hs hno'; simp at hs; subst hs; cases hno'
          · rw [unwipe_out hj] at h
            obtain ⟨v, w1, w2⟩ := Ei.own j q d h
            rw [wipe_out hj] at w1
            exact ⟨v, w1, w2⟩
        · have inn : ∀ j q d, (unwipe p.2 ρi vs)[j]? = some (Sl.own q d) → j ∉ vs := fun j q d h hj => by
            have hs := unwipe_in hj h
            have hno' : (match p.2[j]? with | some (.own _ _) => false | _ => true) = true := List.all_eq_true.mp hno j hj
            rw [List.getD_eq_getElem?_getD] at hs
            cases hq : p.2[j]? with
            | none => rw [hq] at hs; cases hs
            | some s => rw [hq] at hs hno'; simp at hs; subst hs; cases hno'
          have hj := inn j q1 d1 h1
          have hk := inn l q2 d2 h2
          rw [unwipe_out hj] at h1; rw [unwipe_out hk] at h2
          exact Ei.inj j l _ _ _ _ a h1 h2 (by rw [wipe_out hj]; exact h3) (by rw [wipe_out hk]; exact h4)
      have hDH : H D = none := hnone G1 hD
      refine k _ Si Hi ⟨Ef, G1.trans Gf, .cons ⟨D, rfl, ⟨hSi, vacc, hDi, hacc⟩, fun h => hni (back_own D h)⟩ (fun _ _ _ _ _ h => nomatch h) .nil, fun a d hm => ?_⟩
      simp at hm
      rw [hm.1]; exact .inr hDH
  · cases e2
abbrev VTs (X : Cx) (ifs : List Expr) (f : Ev) : Prop := PTs X ifs (tVT X.K f)
theorem vts_nil {X : Cx} : VTs X [] (fC (.bl true)) := ⟨fun pins s σ H Q I q => pts_nil.run pins s σ H Q I (by
  obtain ⟨S, ρ, b, ρ', E, e, k⟩ := q
  cases e
  exact k S H (.init E))⟩
theorem vts_one {X : Cx} {c : Expr} {f : Ev} (h : VT X c f) : VTs X [c] f := pts_one h
section
variable {X : Cx} {elt tg iter : Expr} {ifs : List Expr} {scope : Scope} {own : List (Str × Nat)} {pos : Pos} {it : Iv} {t : Tg} {c e : Ev}
theorem ve_lc (hc : X.calm = true) (hN : X.N.Nodup) (hi : VI X tg iter it) (ok : BlkOk X.N X.env.scope scope own)
    (hg : ∀ (s : Shared) (H : Hp) (C : Addr) (cl : List (Str × Addr)) (fp : List Addr), VG (X.blk s H scope (compEnvC scope cl C X.env) fp) tg t)
    (ht : ∀ (s : Shared) (H : Hp) (C : Addr) (cl : List (Str × Addr)) (fp : List Addr), VTs (X.blk s H scope (compEnvC scope cl C X.env) fp) ifs c)
    (he : ∀ (s : Shared) (H : Hp) (C : Addr) (cl : List (Str × Addr)) (fp : List Addr), VE (X.blk s H scope (compEnvC scope cl C X.env) fp) elt e) (hsub : ∀ j, j ∉ own.map (·.2) → tgHas t j = false) (hs : ∀ x, foldedSetIterable iter X.env x = pure x := by intro _; rfl) :
    VE X (.ListComp elt [⟨tg, iter, ifs, 0⟩] scope pos) (fLc it t c e (own.map (·.2))) := (pe_lc hc hN hi ok hg ht he hs).imp fun _ _ _ q => sem_lc hsub q
theorem vs_setLc {i : Nat} {y : Str} {py spos : Pos} (hc : X.calm = true) (hN : X.N.Nodup) (hy : X.N[i]? = some y) (hyl : X.env.scope.names.lookup y = some .local)
    (hsw : swapsWith (.ListComp elt [⟨tg, iter, ifs, 0⟩] scope pos) (some (.Name y py)) spos.line X.env = pure true) (hi : VI X tg iter it) (ok : BlkOk X.N X.env.scope scope own)
    (hg : ∀ (s : Shared) (H : Hp) (C : Addr) (cl : List (Str × Addr)) (fp : List Addr), VG (X.blk s H scope (compEnvC scope cl C X.env) fp) tg t)
    (ht : ∀ (s : Shared) (H : Hp) (C : Addr) (cl : List (Str × Addr)) (fp : List Addr), VTs (X.blk s H scope (compEnvC scope cl C X.env) fp) ifs c)
    (he : ∀ (s : Shared) (H : Hp) (C : Addr) (cl : List (Str × Addr)) (fp : List Addr), VE (X.blk s H scope (compEnvC scope cl C X.env) fp) elt e) (hsub : ∀ j, j ∉ own.map (·.2) → tgHas t j = false) (hs : ∀ x, foldedSetIterable iter X.env x = pure x := by intro _; rfl) :
    VS X (.Assign [.Name y py] (.ListComp elt [⟨tg, iter, ifs, 0⟩] scope pos) spos) (sAsg i (fLc it t c e (own.map (·.2)))) :=
  (ps_setLc hc hN hy hyl hsw hi ok hg ht he hs).imp fun D σ H q => by
    have h := fin_asg q
    exact sem_lc hsub h
end

/-! ### a def -/
def pinS : Sl → Sl
  | .own _ d => .own true d
  | s => s
def outA : Sl → Sl → Sl
  | .own p _, .own true d => .own p d
  | .own _ _, _ => .no
  | s, _ => s
def outs (args ρ' : List Sl) : List Sl := List.zipWith outA args ρ'
def defF (m : Nat) (g : Stm) : Fn := fun args => (g (args.map pinS ++ List.replicate m .no)).bind fun p => match p.1 with
  | .rt r => some (r, outs args p.2)
  | .nx => some (.val .non, outs args p.2)
  | _ => none
end FL
namespace FL
open PySem L2

/-! ### a def keeps its promise -/
theorem outs_get {args ρ' : List Sl} {j : Nat} {s : Sl} (h : (outs args ρ')[j]? = some s) : ∃ a b, args[j]? = some a ∧ ρ'[j]? = some b ∧ s = outA a b := by
  unfold outs at h
  rw [List.getElem?_zipWith] at h
  cases h1 : args[j]? with
  | none => rw [h1] at h; simp at h
  | some a =>
    cases h2 : ρ'[j]? with
    | none => rw [h1, h2] at h; simp at h
    | some b => rw [h1, h2] at h; simp at h; exact ⟨a, b, rfl, rfl, h.symm⟩
theorem start_get {N : List Str} {vs : List V} {j : Nat} (h : j < vs.length) : (L2.start N vs)[j]? = (vs.map some)[j]? := by
  unfold L2.start
  rw [List.getElem?_append_left (by simpa using h)]
theorem fn_ok {P : Program} {w : World} {K : PySem.W.Frag} {mg : Str → Option Value} {base : Heap} {x qual : Str} {st : Stmt} {f : Addr} {fd : FuncData} {N ps : List Str} {k : Nat}
    (F : Fun K x qual st f fd) (Sc : FnScope N ps (defScope st)) (g : Stm)
    (hb : ∀ (cdv : Value) (A : Around) (outer : List PySem.Env) (s : Shared) (H : Hp) (E : XK), Room k (A.deeper (PyProof.Rows.envOfC qual (defScope st) s.heap.objs.size f cdv)) → VSs (cxOf CX0 P w K mg base N qual (defScope st) f cdv A outer s H E).nox (defBody st) g) :
    FnOk P w K mg base CX0 (k + 1) f fd ps (spV K ps.length (defF (N.length - ps.length) g)) := by
  refine F.ok Sc (fun vs H Q E h => h.1) (fun cdv A outer s H vs Q E hr h => ?_)
  refine ⟨_, hb cdv A outer s H E hr, ?_⟩
  obtain ⟨hl, S, args, r, args', En, e, k⟩ := h
  obtain ⟨p, e1, e2⟩ := bind_some e
  have hla : args.length = vs.length := by rw [En.len, List.length_map]
  have hpl : ps.length ≤ N.length := by
    have := Sc.pre
    rw [← this]; exact List.length_take_le' _ _
  have hlen : (args.map pinS ++ List.replicate (N.length - ps.length) Sl.no).length = (L2.start N vs).length := by
    unfold L2.start
    simp [hla, hl]
  -- the slots at the beginning
  have key : ∀ (j : Nat) (s : Sl), (args.map pinS ++ List.replicate (N.length - ps.length) Sl.no)[j]? = some s → s = .no ∨ (∃ a, args[j]? = some a ∧ s = pinS a ∧ (L2.start N vs)[j]? = (vs.map some)[j]?) := by
    intro j s h
    by_cases hj : j < args.length
    · rw [List.getElem?_append_left (by simpa using hj), List.getElem?_map] at h
      cases h1 : args[j]? with
      | none => rw [h1] at h; simp at h
      | some a => rw [h1] at h; simp at h; exact .inr ⟨a, rfl, h.symm, start_get (by rw [← hla]; exact hj)⟩
    · rw [List.getElem?_append_right (by simpa using hj)] at h
      exact .inl (List.eq_of_mem_replicate (List.mem_of_getElem? h))
  have E0 : Env K S (L2.start N vs) H (args.map pinS ++ List.replicate (N.length - ps.length) Sl.no) := by
    refine ⟨En.ex, hlen, fun j d h => ?_, fun j q d h => ?_, fun j l q1 q2 d1 d2 a h1 h2 h3 h4 => ?_⟩
    · rcases key j _ h with z | ⟨a, h1, h2, h3⟩
      · cases z
      · cases a with
        | no => cases h2
        | own _ _ => cases h2
        | val d' => cases h2; rw [h3]; exact En.val j d h1
    · rcases key j _ h with z | ⟨a, h1, h2, h3⟩
      · cases z
      · cases a with
        | no => cases h2
        | val _ => cases h2
        | own q' d' => cases h2; rw [h3]; exact En.own j q' d h1
    · rcases key j _ h1 with z | ⟨a1, g1, g2, g3⟩
      · cases z
      · rcases key l _ h2 with z | ⟨a2, f1, f2, f3⟩
        · cases z
        · cases a1 with
          | no => cases g2
          | val _ => cases g2
          | own q' d' =>
            cases a2 with
            | no => cases f2
            | val _ => cases f2
            | own q'' d'' => exact En.inj j l _ _ _ _ a g1 f1 (by rw [← g3]; exact h3) (by rw [← f3]; exact h4)
  have owns0 : ∀ a, Owns (L2.start N vs) (args.map pinS ++ List.replicate (N.length - ps.length) Sl.no) a → Owns (vs.map some) args a := by
    rintro a ⟨j, q, d, h1, h2⟩
    rcases key j _ h1 with z | ⟨a1, g1, g2, g3⟩
    · cases z
    · cases a1 with
      | no => cases g2
      | val _ => cases g2
      | own q' d' => cases g2; exact ⟨j, q', d, g1, by rw [← g3]; exact h2⟩
  -- behind the body
  have fin : ∀ (v : V) (r : R) (S' : Hp) (σ' : L2.St) (H' : Hp), Env K S' σ' H' p.2 → Go (L2.start N vs) (args.map pinS ++ List.replicate (N.length - ps.length) Sl.no) S H σ' p.2 S' H' → RepR K S' H' σ' p.2 v r → (∀ i, r ≠ .al i) →
      (∀ a d, v = .ref a → r = .own d → Owns (L2.start N vs) (args.map pinS ++ List.replicate (N.length - ps.length) Sl.no) a ∨ H a = none) → Cur K (vs.map some) args S H [v] [r] (outs args p.2) S' H' := by
    intro v r S' σ' H' E' G' rr nr nw
    have kout : ∀ (j : Nat) (s : Sl), (outs args p.2)[j]? = some s → (∃ d, s = .val d ∧ args[j]? = some (Sl.val d)) ∨ s = .no ∨ (∃ q d d0, s = .own q d ∧ args[j]? = some (Sl.own q d0) ∧ p.2[j]? = some (Sl.own true d)) := by
      intro j s h
      obtain ⟨a, b, h1, h2, h3⟩ := outs_get h
      cases a with
      | no => exact .inr (.inl h3)
      | val d => exact .inl ⟨d, h3, h1⟩
      | own q d0 =>
        cases b with
        | no => exact .inr (.inl h3)
        | val _ => exact .inr (.inl h3)
        | own t d =>
          cases t with
          | false => exact .inr (.inl h3)
          | true => exact .inr (.inr ⟨q, d, d0, h3, h1, h2⟩)
    have σeq : ∀ (j : Nat) (q : Bool) (d d0 : D), args[j]? = some (Sl.own q d0) → p.2[j]? = some (Sl.own true d) → σ'[j]? = (vs.map some)[j]? := by
      intro j q d d0 h1 h2
      obtain ⟨_, h3⟩ := G'.pin j d h2
      rw [h3]
      exact start_get (by rw [← hla]; exact (List.getElem?_eq_some_iff.mp h1).1)
    have ownsO : ∀ a, Owns (vs.map some) (outs args p.2) a → Owns σ' p.2 a := by
      rintro a ⟨j, q, d, h1, h2⟩
      rcases kout j _ h1 with ⟨d', z, _⟩ | z | ⟨q', d', d0, z, g1, g2⟩
      · cases z
      · cases z
      · cases z; exact ⟨j, true, d, g2, by rw [σeq j q d d0 g1 g2]; exact h2⟩
    have lo : (outs args p.2).length = args.length := by
      unfold outs
      rw [List.length_zipWith, E'.len, G'.len]
      unfold L2.start
      simp [hla]
    refine ⟨⟨E'.ex, by rw [lo, En.len], fun j d h => ?_, fun j q d h => ?_, fun j l q1 q2 d1 d2 a h1 h2 h3 h4 => ?_⟩, ⟨G'.st, fun a o e n => G'.keep a o e fun z => n (owns0 a z), G'.dom, fun a e h n => G'.new a e h fun z => n (owns0 a z), fun a h => (G'.own a (ownsO a h)).elim (fun z => .inl (owns0 a z)) .inr, fun j d h => ?_, rfl⟩, .cons ?_ (fun _ _ _ _ _ h => nomatch h) .nil, fun a d hm => ?_⟩
    · rcases kout j _ h with ⟨d', z, g1⟩ | z | ⟨q', d', d0, z, g1, g2⟩
      · cases z
        obtain ⟨v, w1, w2⟩ := En.val j d g1
        exact ⟨v, w1, w2.mono G'.st⟩
      · cases z
      · cases z
    · rcases kout j _ h with ⟨d', z, g1⟩ | z | ⟨q', d', d0, z, g1, g2⟩
      · cases z
      · cases z
      · cases z
        obtain ⟨a, w1, w2⟩ := E'.own j true d g2
        exact ⟨a, by rw [← σeq j q d d0 g1 g2]; exact w1, w2⟩
    · rcases kout j _ h1 with ⟨d', z, g1⟩ | z | ⟨q', d', d0, z, g1, g2⟩
      · cases z
      · cases z
      · cases z
        rcases kout l _ h2 with ⟨d', z, f1⟩ | z | ⟨q', d', d0', z, f1, f2⟩
        · cases z
        · cases z
        · cases z
          exact E'.inj j l _ _ _ _ a g2 f2 (by rw [σeq j _ _ _ g1 g2]; exact h3) (by rw [σeq l _ _ _ f1 f2]; exact h4)
    · rcases kout j _ h with ⟨d', z, g1⟩ | z | ⟨q', d', d0, z, g1, g2⟩
      · cases z
      · cases z
      · cases z; exact ⟨⟨d0, g1⟩, rfl⟩
    · cases r with
      | val d => exact rr
      | al i => exact absurd rfl (nr i)
      | own d => obtain ⟨a, rfl, o, n⟩ := rr; exact ⟨a, rfl, o, fun z => n (ownsO a z)⟩
    · simp at hm
      exact (nw a d hm.1.symm hm.2.symm).elim (fun z => .inl (owns0 a z)) .inr
  refine ⟨S, _, p.1, p.2, E0, e1, ?_⟩
  cases hp : p.1 with
  | bk => rw [hp] at e2; cases e2
  | ct => rw [hp] at e2; cases e2
  | nx =>
    rw [hp] at e2; cases e2
    exact fun S' σ' H' E' G' => k _ S' H' (fin .non (.val .non) S' σ' H' E' G' .non (fun _ h => by cases h) (fun _ _ h => by cases h))
  | rt r =>
    rw [hp] at e2; cases e2
    exact fun v S' σ' H' E' G' rr nr nw => k _ S' H' (fin v _ S' σ' H' E' G' rr nr nw)

/-! ### data for == -/
mutual
def D.py : D → PyData
  | .non => .none
  | .bl b => .bool b
  | .int i => .int i
  | .str x => .str x
  | .tup xs => .tuple (pys xs)
  | .lst xs => .list (pys xs)
  | .dic _ => .none
  | .scr _ => .none
def pys : List D → List PyData
  | [] => []
  | x :: xs => D.py x :: pys xs
end
def eqD (x y : D) : Bool := PyData.eqv x.py y.py
def eqDs : List D → List D → Bool
  | [], [] => true
  | x :: xs, y :: ys => eqD x y && eqDs xs ys
  | _, _ => false
theorem eqv_all : ∀ xs ys : List D, PyData.eqvAll (pys xs) (pys ys) = eqDs xs ys
  | [], [] => rfl
  | [], _ :: _ => rfl
  | _ :: _, [] => rfl
  | x :: xs, y :: ys => by rw [pys, pys, PyData.eqvAll, eqv_all xs ys]; rfl
theorem eqD_tup (xs ys : List D) : eqD (.tup xs) (.tup ys) = eqDs xs ys := by rw [← eqv_all]; rfl
theorem eqD_lst (xs ys : List D) : eqD (.lst xs) (.lst ys) = eqDs xs ys := by rw [← eqv_all]; rfl
/-- data of at most so many levels, without dicts -/
def lev : Nat → D → Bool
  | _, .non => true
  | _, .bl _ => true
  | _, .int _ => true
  | _, .str x => PyData.strOk x
  | n + 1, .tup xs => xs.all (lev n)
  | n + 1, .lst xs => xs.all (lev n)
  | _, _ => false
theorem lev_ok : ∀ (n : Nat) (d : D), lev n d = true → d.py.canLay0 = true ∧ d.py.depth ≤ n := by
  have all : ∀ n : Nat, (∀ d : D, lev n d = true → d.py.canLay0 = true ∧ d.py.depth ≤ n) → ∀ xs : List D, xs.all (lev n) = true → PyData.canLayAll0 (pys xs) = true ∧ PyData.depthAll (pys xs) ≤ n := by
    intro n ih xs
    induction xs with
    | nil => intro _; exact ⟨rfl, Nat.zero_le _⟩
    | cons x xs ihx =>
      intro h
      rw [List.all_cons, Bool.and_eq_true] at h
      obtain ⟨a1, a2⟩ := ih x h.1
      obtain ⟨b1, b2⟩ := ihx h.2
      rw [pys]
      exact ⟨by rw [PyData.canLayAll0, a1, b1]; rfl, by rw [PyData.depthAll]; omega⟩
  intro n
  induction n with
  | zero =>
    intro d h
    cases d with
    | non => exact ⟨rfl, Nat.zero_le _⟩
    | bl b => exact ⟨rfl, Nat.zero_le _⟩
    | int i => exact ⟨rfl, Nat.zero_le _⟩
    | str x => exact ⟨h, Nat.zero_le _⟩
    | _ => cases h
  | succ n ih =>
    intro d h
    cases d with
    | non => exact ⟨rfl, Nat.zero_le _⟩
    | bl b => exact ⟨rfl, Nat.zero_le _⟩
    | int i => exact ⟨rfl, Nat.zero_le _⟩
    | str x => exact ⟨h, Nat.zero_le _⟩
    | tup xs =>
      obtain ⟨a, b⟩ := all n ih xs (by rw [lev] at h; exact h)
      rw [D.py]
      exact ⟨by rw [PyData.canLay0]; exact a, by rw [PyData.depth]; omega⟩
    | lst xs =>
      obtain ⟨a, b⟩ := all n ih xs (by rw [lev] at h; exact h)
      rw [D.py]
      exact ⟨by rw [PyData.canLay0]; exact a, by rw [PyData.depth]; omega⟩
    | dic _ => cases h
    | scr _ => cases h
theorem shaped_of {d : D} (h : lev 20 d = true) : SeqAt.shaped d.py = true := by
  obtain ⟨a, b⟩ := lev_ok 20 d h
  unfold SeqAt.shaped
  rw [a, decide_eq_true (by omega : d.py.depth ≤ 64)]; rfl
section
variable {K : PySem.W.Frag} {S H : Hp}
theorem rep_dp : ∀ (n : Nat) {d : D} {v : V}, lev n d = true → Rep K S v d → Same S H → Dp K H v d.py := by
  have all : ∀ n : Nat, (∀ {d : D} {v : V}, lev n d = true → Rep K S v d → Same S H → Dp K H v d.py) → Same S H → ∀ {xs : List D} {vs : List V}, xs.all (lev n) = true → Reps K S vs xs → DpAll K H vs (pys xs) := by
    intro n ih ex xs
    induction xs with
    | nil => intro vs _ h; cases h; exact .nil
    | cons x xs ihx =>
      intro vs h r
      rw [List.all_cons, Bool.and_eq_true] at h
      cases r with
      | cons r1 rt => rw [pys]; exact .cons (ih h.1 r1 ex) (ihx h.2 rt)
  intro n
  induction n with
  | zero =>
    intro d v h r ex
    cases r with
    | non => exact .non
    | bl b => exact .bl b
    | int i => exact .int i
    | str x => exact .str x
    | tup _ _ => cases h
    | con _ => cases h
    | lst _ _ => cases h
    | dic _ _ => cases h
    | scr _ => cases h
  | succ n ih =>
    intro d v h r ex
    have r0 := r
    cases r with
    | non => exact .non
    | bl b => exact .bl b
    | int i => exact .int i
    | str x => exact .str x
    | tup e q => rw [D.py]; exact .tup (.inl (.inl (ex _ _ e))) (all n ih ex (by rw [lev] at h; exact h) q)
    | con e =>
      rw [D.py]
      exact .tup (e.elim (fun z => by rcases z with z | ⟨_, z⟩ <;> exact absurd z (by simp)) .inr) (all n ih ex (by rw [lev] at h; exact h) over_reps)
    | lst e q => rw [D.py]; exact .lst (.inl (.inl (ex _ _ e))) (all n ih ex (by rw [lev] at h; exact h) q)
    | dic _ _ => cases h
    | scr _ => cases h
theorem reps_dp {n : Nat} (ex : Same S H) : ∀ {xs : List D} {vs : List V}, xs.all (lev n) = true → Reps K S vs xs → DpAll K H vs (pys xs)
  | [], _, _, r => by cases r; exact .nil
  | x :: xs, _, h, r => by
    rw [List.all_cons, Bool.and_eq_true] at h
    cases r with
    | cons r1 rt => rw [pys]; exact .cons (rep_dp n h.1 r1 ex) (reps_dp ex h.2 rt)
theorem See.dp {v : V} {d : D} (s : See K S H v d) (h : lev 20 d = true) (ex : Same S H) : Dp K H v d.py := by
  cases s with
  | of r => exact rep_dp 20 h r ex
  | lst e r => rw [D.py]; exact .lst (.inl (.inl e)) (reps_dp (n := 19) ex (by rw [lev] at h; exact h) r)
  | dic _ _ => cases h
end
end FL
namespace FL
open PySem L2

section
variable {K : PySem.W.Frag} {X : Cx}
/-! ### operators -/
def oAdd : D → D → Option R
  | .int i, .int j => some (.val (.int (i + j)))
  | .str x, .str y => if x.length + y.length ≤ cap then some (.val (.str (x ++ y))) else none
  | .lst xs, .lst ys => if xs.length + ys.length ≤ cap then some (.own (.lst (xs ++ ys))) else none
  | .tup xs, .tup ys => if xs.length + ys.length ≤ cap then some (.val (.tup (xs ++ ys))) else none
  | _, _ => none
def rAddA (K : PySem.W.Frag) : R2 := fun x y H Q => (∃ i j, x = .int i ∧ y = .int j ∧ Q (.int (i + j)) H) ∨ ((∃ i j, x = .str i ∧ y = .str j ∧ i.length + j.length ≤ sizeLine ∧ Q (.str (i ++ j)) H) ∨ (rCat x y H Q ∨ rCatA K x y H Q))
theorem op_addA : OpR X (binaryOp .Add) (rAddA X.K) := OpR.or op_add (OpR.or op_add_str (OpR.or op_cat op_catA))
theorem s_add : Sound2 K (rAddA K) oAdd := fun S H u v x y res ex su sv e Q k => by
  unfold oAdd at e
  split at e
  · cases e; rw [su.int, sv.int]; exact .inl ⟨_, _, rfl, rfl, k _ _ _ (.flat ex (.int _))⟩
  · split at e
    · rename_i h
      cases e; rw [su.str, sv.str]; exact .inr (.inl ⟨_, _, rfl, rfl, cap_le h, k _ _ _ (.flat ex (.str _))⟩)
    · cases e
  · split at e
    · rename_i h
      cases e
      obtain ⟨a, vs, rfl, h1, h2⟩ := su.lst' ex
      obtain ⟨b, us, rfl, h3, h4⟩ := sv.lst' ex
      exact .inr (.inr (.inl ⟨a, b, vs, us, rfl, rfl, h1, h3, by rw [h2.length, h4.length]; exact cap_le h, fun p hp => k _ _ _ (.lst ex hp (h2.append h4))⟩))
    · cases e
  · split at e
    · rename_i xs ys h
      cases e
      have su' := su; have sv' := sv
      obtain ⟨a, vs, rfl, h1, h2⟩ := su.tup ex
      obtain ⟨b, us, rfl, h3, h4⟩ := sv.tup ex
      refine .inr (.inr (.inr ⟨a, b, vs, us, rfl, rfl, h1, h3, by rw [h2.length, h4.length]; exact cap_le h, fun z => ?_, fun _ z => ?_, fun _ _ p hp => k _ _ _ (.tup ex hp (h2.append h4))⟩))
      · subst z; cases h2
        refine k _ _ _ (.flat ex ?_)
        cases sv' with | of r => exact r
      · subst z; cases h4
        refine k _ _ _ (.flat ex ?_)
        rw [List.append_nil]
        cases su' with | of r => exact r
    · cases e
  · cases e
def oSub : D → D → Option R
  | .int i, .int j => some (.val (.int (i - j)))
  | _, _ => none
theorem s_sub : Sound2 K (rI0 fun i j => .int (i - j)) oSub := fun S H u v x y res ex su sv e Q k => by
  unfold oSub at e
  split at e
  · cases e; rw [su.int, sv.int]; exact ⟨_, _, rfl, rfl, k _ _ _ (.flat ex (.int _))⟩
  · cases e
def big : Int := 18446744073709551616
instance : Decidable (CMul i j) := by unfold CMul; exact inferInstance
def mulOk (i j : Int) : Bool := decide (-big < i ∧ i < big) || decide (-big < j ∧ j < big)
theorem mul_of {i j : Int} (h : mulOk i j = true) : CMul i j := by
  unfold mulOk big at h
  unfold CMul
  simp at h
  exact h
def oMul : D → D → Option R
  | .int i, .int j => if mulOk i j = true then some (.val (.int (i * j))) else none
  | .lst xs, .int k => if 0 ≤ k ∧ k ≤ 1000 ∧ xs.length ≤ 1000 then some (.own (.lst (List.replicate k.toNat xs).flatten)) else none
  | .tup xs, .int k => if 2 ≤ k ∧ k ≤ 1000 ∧ xs.length ≤ 1000 ∧ 0 < xs.length then some (.val (.tup (List.replicate k.toNat xs).flatten)) else none
  | _, _ => none
def rMulA (K : PySem.W.Frag) : R2 := fun x y H Q => rI CMul (fun i j => .int (i * j)) x y H Q ∨ (rRep x y H Q ∨ rRepT K x y H Q)
theorem op_mulA : OpR X (binaryOp .Mult) (rMulA X.K) := OpR.or op_mul (OpR.or op_rep op_repT)
theorem s_mul : Sound2 K (rMulA K) oMul := fun S H u v x y res ex su sv e Q k => by
  unfold oMul at e
  split at e
  · split at e
    · rename_i h
      cases e; rw [su.int, sv.int]; exact .inl ⟨_, _, rfl, rfl, mul_of h, k _ _ _ (.flat ex (.int _))⟩
    · cases e
  · split at e
    · rename_i xs n h
      cases e
      obtain ⟨a, vs, rfl, h1, h2⟩ := su.lst' ex
      rw [sv.int]
      refine .inr (.inl ⟨a, _, vs, rfl, rfl, h1, by omega, by omega, ?_, fun p hp => k _ _ _ (.lst ex hp (h2.flat _))⟩)
      rw [h2.length]
      have : xs.length * n.toNat ≤ 1000 * 1000 := Nat.mul_le_mul h.2.2 (by omega)
      exact Nat.le_trans this (by decide)
    · cases e
  · split at e
    · rename_i xs n h
      cases e
      obtain ⟨a, vs, rfl, h1, h2⟩ := su.tup ex
      rw [sv.int]
      refine .inr (.inr ⟨a, _, vs, rfl, rfl, h1, ?_, h.1, h.2.1, by rw [h2.length]; exact h.2.2.1, fun p hp => k _ _ _ (.tup ex hp (h2.flat _))⟩)
      intro z
      have := h2.length
      rw [z] at this
      simp at this
      omega
    · cases e
  · cases e
def oMod : D → D → Option R
  | .int i, .int j => if 0 < j then some (.val (.int (i % j))) else none
  | _, _ => none
theorem s_mod : Sound2 K (rI (fun _ j => 0 < j) fun i j => .int (i % j)) oMod := fun S H u v x y res ex su sv e Q k => by
  unfold oMod at e
  split at e
  · split at e
    · rename_i h
      cases e; rw [su.int, sv.int]; exact ⟨_, _, rfl, rfl, h, k _ _ _ (.flat ex (.int _))⟩
    · cases e
  · cases e
def oFDiv : D → D → Option R
  | .int i, .int j => if 0 < j ∧ j < big then some (.val (.int (i / j))) else none
  | _, _ => none
theorem s_fdiv : Sound2 K (rI CDivW fun i j => .int (i / j)) oFDiv := fun S H u v x y res ex su sv e Q k => by
  unfold oFDiv at e
  split at e
  · split at e
    · rename_i i j h
      cases e; rw [su.int, sv.int]
      refine ⟨_, _, rfl, rfl, wide_div (b := 64) h.1 ?_ (by decide) (by decide), k _ _ _ (.flat ex (.int _))⟩
      have := h.2
      unfold big at this
      have := h.1
      omega
    · cases e
  · cases e
def oPow : D → D → Option R
  | .int i, .int j => if 0 ≤ j ∧ j ≤ 1000 ∧ -1000000 < i ∧ i < 1000000 then some (.val (.int (i ^ j.toNat))) else none
  | _, _ => none
theorem s_pow : Sound2 K (rI CPow fun i j => .int (i ^ j.toNat)) oPow := fun S H u v x y res ex su sv e Q k => by
  unfold oPow at e
  split at e
  · split at e
    · rename_i h
      cases e; rw [su.int, sv.int]
      exact ⟨_, _, rfl, rfl, ⟨h.1, by omega, by omega⟩, k _ _ _ (.flat ex (.int _))⟩
    · cases e
  · cases e
def oShl : D → D → Option R
  | .int i, .int j => if 0 ≤ j ∧ j ≤ 100000 ∧ i.natAbs < 2 ^ 100000 then some (.val (.int (i * 2 ^ j.toNat))) else none
  | _, _ => none
theorem s_shl : Sound2 K (rI CShl fun i j => .int (i * 2 ^ j.toNat)) oShl := fun S H u v x y res ex su sv e Q k => by
  unfold oShl at e
  split at e
  · split at e
    · rename_i i j h
      cases e; rw [su.int, sv.int]
      have hc := shl_ok (i := i) (j := j.toNat) h.2.2 (by omega)
      rw [Int.toNat_of_nonneg h.1] at hc
      exact ⟨_, _, rfl, rfl, hc, k _ _ _ (.flat ex (.int _))⟩
    · cases e
  · cases e
def oShr : D → D → Option R
  | .int i, .int j => if 0 ≤ j then some (.val (.int (i / 2 ^ j.toNat))) else none
  | _, _ => none
theorem s_shr : Sound2 K (rI (fun _ j => 0 ≤ j) fun i j => .int (i / 2 ^ j.toNat)) oShr := fun S H u v x y res ex su sv e Q k => by
  unfold oShr at e
  split at e
  · split at e
    · rename_i h
      cases e; rw [su.int, sv.int]; exact ⟨_, _, rfl, rfl, h, k _ _ _ (.flat ex (.int _))⟩
    · cases e
  · cases e
def oBitAnd : D → D → Option R
  | .int i, .int j => some (.val (.int (Builtin.bitAnd i j)))
  | _, _ => none
theorem s_bitAnd : Sound2 K (rI0 fun i j => .int (Builtin.bitAnd i j)) oBitAnd := fun S H u v x y res ex su sv e Q k => by
  unfold oBitAnd at e
  split at e
  · cases e; rw [su.int, sv.int]; exact ⟨_, _, rfl, rfl, k _ _ _ (.flat ex (.int _))⟩
  · cases e
def oBitOr : D → D → Option R
  | .int i, .int j => some (.val (.int (Builtin.bitOr i j)))
  | _, _ => none
theorem s_bitOr : Sound2 K (rI0 fun i j => .int (Builtin.bitOr i j)) oBitOr := fun S H u v x y res ex su sv e Q k => by
  unfold oBitOr at e
  split at e
  · cases e; rw [su.int, sv.int]; exact ⟨_, _, rfl, rfl, k _ _ _ (.flat ex (.int _))⟩
  · cases e
def oNeg : D → Option R
  | .int i => some (.val (.int (-i)))
  | _ => none
theorem s_neg : Sound1 K (rU fun i => .int (-i)) oNeg := fun S H u x res ex su e Q k => by
  unfold oNeg at e
  split at e
  · cases e; rw [su.int]; exact ⟨_, rfl, k _ _ _ (.flat ex (.int _))⟩
  · cases e
/-! ### comparisons -/
def bI (p : Int → Int → Bool) : D → D → Option Bool
  | .int i, .int j => some (p i j)
  | _, _ => none
def oB (o : D → D → Option Bool) : D → D → Option R := fun x y => (o x y).map fun b => .val (.bl b)
theorem sb_int {p : Int → Int → Bool} : SoundB K (rI0 fun i j => .bl (p i j)) (bI p) := fun S H u v x y b ex su sv e Q k => by
  unfold bI at e
  split at e
  · cases e; rw [su.int, sv.int]; exact ⟨_, _, rfl, rfl, k⟩
  · cases e
theorem s_ofB {r : R2} {o : D → D → Option Bool} (s : SoundB K r o) : Sound2 K r (oB o) := fun S H u v x y res ex su sv e Q k => by
  obtain ⟨b, e1, rfl⟩ := map_some e
  exact s S H u v x y b ex su sv e1 Q (k _ _ _ (.flat ex (.bl b)))
abbrev bLt := bI fun i j => decide (i < j)
abbrev bLe := bI fun i j => decide (i ≤ j)
abbrev bGt := bI fun i j => decide (j < i)
abbrev bGe := bI fun i j => decide (j ≤ i)
def bEq (x y : D) : Option Bool := if (lev 20 x && lev 20 y) = true then some (eqD x y) else none
def bNe (x y : D) : Option Bool := if (lev 20 x && lev 20 y) = true then some (!eqD x y) else none
theorem sb_eq : SoundB K (rEqD K) bEq := fun S H u v x y b ex su sv e Q k => by
  unfold bEq at e
  split at e
  · rename_i h
    rw [Bool.and_eq_true] at h
    cases e
    exact ⟨_, _, su.dp h.1 ex, sv.dp h.2 ex, shaped_of h.1, shaped_of h.2, k⟩
  · cases e
theorem sb_ne : SoundB K (rNeD K) bNe := fun S H u v x y b ex su sv e Q k => by
  unfold bNe at e
  split at e
  · rename_i h
    rw [Bool.and_eq_true] at h
    cases e
    exact ⟨_, _, su.dp h.1 ex, sv.dp h.2 ex, shaped_of h.1, shaped_of h.2, k⟩
  · cases e
def isNon : D → Bool
  | .non => true
  | _ => false
def bIs : D → D → Option Bool
  | x, .non => some (isNon x)
  | .bl a, .bl b => some (decide (a = b))
  | _, _ => none
def bIsNot : D → D → Option Bool
  | x, .non => some (!isNon x)
  | .bl a, .bl b => some (!decide (a = b))
  | _, _ => none
theorem See.isNon {S H : Hp} {v : V} {x : D} (s : See K S H v x) : decide (v = .non) = isNon x := by
  cases s with
  | of r => cases r <;> rfl
  | lst _ _ => rfl
  | dic _ _ => rfl
def rIsA : R2 := fun x y H Q => (y = .non ∧ Q (.bl (decide (x = .non))) H) ∨ rIsB x y H Q
def rIsNotA : R2 := fun x y H Q => (y = .non ∧ Q (.bl (!decide (x = .non))) H) ∨ rNotB x y H Q
theorem op_isA : OpR X (compareOp .Is) rIsA := OpR.or op_isN op_isBl
theorem op_isNotA : OpR X (compareOp .IsNot) rIsNotA := OpR.or op_notN op_notBl
theorem sb_is : SoundB K rIsA bIs := fun S H u v x y b ex su sv e Q k => by
  unfold bIs at e
  split at e
  · cases e; refine .inl ⟨sv.non, ?_⟩; rw [su.isNon]; exact k
  · cases e; rw [su.bl, sv.bl]; exact .inr ⟨_, _, rfl, rfl, k⟩
  · cases e
theorem sb_isNot : SoundB K rIsNotA bIsNot := fun S H u v x y b ex su sv e Q k => by
  unfold bIsNot at e
  split at e
  · cases e; refine .inl ⟨sv.non, ?_⟩; rw [su.isNon]; exact k
  · cases e; rw [su.bl, sv.bl]; exact .inr ⟨_, _, rfl, rfl, k⟩
  · cases e
/-! ### in -/
def flatD : D → Bool
  | .non => true | .bl _ => true | .int _ => true | .str _ => true
  | _ => false
theorem Rep.flatV {S : Hp} {v : V} {d : D} (r : Rep K S v d) (h : flatD d = true) : L2.flatV v = true := by cases r <;> first | rfl | cases h
theorem Reps.flatVs {S : Hp} : ∀ {vs : List V} {ds : List D}, Reps K S vs ds → ds.all flatD = true → vs.all L2.flatV = true
  | _, _, .nil, _ => rfl
  | _, _, .cons r t, h => by
    rw [List.all_cons, Bool.and_eq_true] at h
    rw [List.all_cons, r.flatV h.1, Reps.flatVs t h.2]; rfl
theorem eqV_eqD {S : Hp} {v u : V} {x y : D} (r : Rep K S v x) (q : Rep K S u y) (h : flatD x = true) (h' : flatD y = true) : eqV v u = eqD x y := by
  cases r <;> first | cases h | skip
  all_goals (cases q <;> first | rfl | (simp [eqV, eqD, D.py, PyData.eqv]; done) | cases h')
theorem inV_any {S : Hp} {v : V} {x : D} (r : Rep K S v x) (h : flatD x = true) : ∀ {vs : List V} {ds : List D}, Reps K S vs ds → ds.all flatD = true → inV v vs = ds.any fun y => eqD y x
  | _, _, .nil, _ => rfl
  | _, _, .cons q t, h' => by
    rw [List.all_cons, Bool.and_eq_true] at h'
    have := inV_any r h t h'.2
    unfold inV at this ⊢
    rw [List.any_cons, List.any_cons, this, eqV_eqD q r h'.1 h]
theorem any_pys {d : PyData} : ∀ ds : List D, (pys ds).any (fun z => PyData.eqv z d) = ds.any fun y => PyData.eqv y.py d
  | [] => rfl
  | x :: xs => by rw [pys, List.any_cons, List.any_cons, any_pys xs]
def bIn : D → D → Option Bool
  | x, .lst ys => if (lev 20 x && ys.all (lev 19)) = true then some (ys.any fun y => eqD y x) else none
  | x, .tup ys => if (flatD x && ys.all flatD) = true then some (ys.any fun y => eqD y x) else none
  | .str x, .str y => some (!(Builtin.Str.occurrences y x 0 y.length 1).isEmpty)
  | _, _ => none
def bNotIn (x y : D) : Option Bool := (bIn x y).map (!·)
def rInA (K : PySem.W.Frag) : R2 := fun x y H Q => rInD K x y H Q ∨ (rIn K false x y H Q ∨ ∃ i j, x = .str i ∧ y = .str j ∧ Q (.bl (!(Builtin.Str.occurrences j i 0 j.length 1).isEmpty)) H)
def rNotInA (K : PySem.W.Frag) : R2 := fun x y H Q => rNotInD K x y H Q ∨ (rIn K true x y H Q ∨ ∃ i j, x = .str i ∧ y = .str j ∧ Q (.bl (!(!(Builtin.Str.occurrences j i 0 j.length 1).isEmpty))) H)
theorem op_inA (hu : X.A.units + 65 < cLine) : OpR X (compareOp .In) (rInA X.K) := OpR.or (op_inD hu) (OpR.or op_in_seq op_in_str)
theorem op_notInA (hu : X.A.units + 65 < cLine) : OpR X (compareOp .NotIn) (rNotInA X.K) := OpR.or (op_notInD hu) (OpR.or op_notIn_seq op_notin_str)
theorem See.flat {S H : Hp} {v : V} {x : D} (s : See K S H v x) (h : flatD x = true) : Rep K S v x := by
  cases s with
  | of r => exact r
  | lst _ _ => cases h
  | dic _ _ => cases h
theorem sb_in : SoundB K (rInA K) bIn := fun S H u v x y b ex su sv e Q k => by
  unfold bIn at e
  split at e
  · split at e
    · rename_i ys h
      rw [Bool.and_eq_true] at h
      cases e
      refine .inl ⟨x.py, pys ys, su.dp h.1 ex, ?_, shaped_of h.1, ?_, ?_⟩
      · have := sv.dp (d := .lst ys) (by rw [lev]; exact h.2) ex
        rw [D.py] at this; exact this
      · have := shaped_of (d := .lst ys) (by rw [lev]; exact h.2)
        rw [D.py] at this; exact this
      · rw [any_pys]; exact k
    · cases e
  · split at e
    · rename_i ys h
      rw [Bool.and_eq_true] at h
      cases e
      obtain ⟨a, vs, rfl, h1, h2⟩ := sv.tup ex
      have rx := su.flat h.1
      refine .inr (.inl ⟨a, vs, rfl, .inr h1, rx.flatV h.1, h2.flatVs h.2, ?_⟩)
      rw [inV_any rx h.1 h2 h.2]
      exact k
    · cases e
  · cases e
    rw [su.str, sv.str]
    exact .inr (.inr ⟨_, _, rfl, rfl, k⟩)
  · cases e
theorem sb_notIn : SoundB K (rNotInA K) bNotIn := fun S H u v x y b ex su sv e Q k => by
  unfold bNotIn at e
  obtain ⟨c, e2, hc⟩ := map_some e
  subst hc
  clear e
  have e := e2
  clear e2
  unfold bIn at e
  split at e
  · split at e
    · rename_i ys h
      rw [Bool.and_eq_true] at h
      have e' := Option.some.inj e
      subst e'
      refine .inl ⟨x.py, pys ys, su.dp h.1 ex, ?_, shaped_of h.1, ?_, ?_⟩
      · have := sv.dp (d := .lst ys) (by rw [lev]; exact h.2) ex
        rw [D.py] at this; exact this
      · have := shaped_of (d := .lst ys) (by rw [lev]; exact h.2)
        rw [D.py] at this; exact this
      · rw [any_pys]; exact k
    · cases e
  · split at e
    · rename_i ys h
      rw [Bool.and_eq_true] at h
      have e' := Option.some.inj e
      subst e'
      obtain ⟨a, vs, rfl, h1, h2⟩ := sv.tup ex
      have rx := su.flat h.1
      refine .inr (.inl ⟨a, vs, rfl, .inr h1, rx.flatV h.1, h2.flatVs h.2, ?_⟩)
      rw [inV_any rx h.1 h2 h.2]
      exact k
    · cases e
  · have e' := Option.some.inj e
    subst e'
    rw [su.str, sv.str]
    exact .inr (.inr ⟨_, _, rfl, rfl, k⟩)
  · cases e
end
end FL
namespace FL
open PySem L2

/-! ### keys and dicts -/
def keyOf : D → Option Key
  | .int i => some (.inl i)
  | .str x => some (.inr x)
  | _ => none
def keysOf : List D → Option (List Key)
  | [] => some []
  | d :: ds => (keyOf d).bind fun k => (keysOf ds).map fun ks => k :: ks
def toKey (ds : List D) : Option (List Key) := if eqDs ds overD = true then none else keysOf ds
def valD (kvs : List (List Key × D)) (k : List Key) : Option D := (kvs.find? fun kv => decide (kv.1 = k)).map (·.2)
def putD (kvs : List (List Key × D)) (k : List Key) (v : D) : List (List Key × D) :=
  if (kvs.any fun kv => decide (kv.1 = k)) = true then kvs.map (fun kv => if kv.1 = k then (kv.1, v) else kv) else kvs ++ [(k, v)]
section
variable {K : PySem.W.Frag} {S H : Hp}
theorem keysOf_rep : ∀ {ds : List D} {ks : List Key} {vs : List V}, keysOf ds = some ks → Reps K S vs ds → vs = ks.map kV
  | [], _, _, h, r => by cases h; cases r; rfl
  | d :: ds, ks, vs, h, r => by
    rw [keysOf] at h
    obtain ⟨k, h1, h2⟩ := bind_some h
    obtain ⟨ks', h3, rfl⟩ := map_some h2
    cases r with
    | cons r1 rt =>
      rw [List.map_cons, keysOf_rep h3 rt]
      cases r1 <;> first | (cases h1; rfl) | cases h1
theorem over_eq : eqDs overD overD = true := by decide +kernel
theorem toKey_rep {ds : List D} {ks : List Key} {v : V} (h : toKey ds = some ks) (r : Rep K S v (.tup ds)) : ∃ b, v = .ref b ∧ S b = some (.tup (ks.map kV)) := by
  unfold toKey at h
  split at h
  · cases h
  · rename_i ho
    cases r with
    | tup e q => exact ⟨_, rfl, by rw [e, keysOf_rep h q]⟩
    | con e => exact absurd over_eq ho
theorem valD_rep : ∀ {ds : List (List Key × D)} {ks : List (List Key × V)} {k : List Key}, RepK K S ks ds → (∀ d, valD ds k = some d → ∃ v, valV ks k = some v ∧ Rep K S v d) ∧ (valD ds k = none → valV ks k = none)
  | _, _, k, .nil => ⟨fun d h => (by cases h), fun _ => rfl⟩
  | _, _, k, .cons (k := k') (v := v) (d := d) r t => by
    have ih := valD_rep (k := k) t
    unfold valD valV at ih ⊢
    rw [List.find?_cons, List.find?_cons]
    by_cases hk : k' = k
    · rw [decide_eq_true hk]
      exact ⟨fun e h => (by cases h; exact ⟨v, rfl, r⟩), fun h => (by cases h)⟩
    · rw [decide_eq_false hk]
      exact ih
theorem RepK.length : ∀ {ds : List (List Key × D)} {ks : List (List Key × V)}, RepK K S ks ds → ks.length = ds.length
  | _, _, .nil => rfl
  | _, _, .cons _ t => congrArg (· + 1) (RepK.length t)
theorem RepK.anyK : ∀ {ds : List (List Key × D)} {ks : List (List Key × V)} {k : List Key}, RepK K S ks ds → (ks.any fun kv => decide (kv.1 = k)) = (ds.any fun kv => decide (kv.1 = k))
  | _, _, _, .nil => rfl
  | _, _, k, .cons _ t => by rw [List.any_cons, List.any_cons, RepK.anyK (k := k) t]
theorem RepK.mapK {v : V} {d : D} {k : List Key} (q : Rep K S v d) : ∀ {ds : List (List Key × D)} {ks : List (List Key × V)}, RepK K S ks ds → RepK K S (ks.map fun kv => if kv.1 = k then (kv.1, v) else kv) (ds.map fun kv => if kv.1 = k then (kv.1, d) else kv)
  | _, _, .nil => .nil
  | _, _, .cons (k := k') r t => by
    rw [List.map_cons, List.map_cons]
    by_cases hk : k' = k
    · simp only [hk, if_true]; exact .cons q (RepK.mapK q t)
    · simp only [hk, if_false]; exact .cons r (RepK.mapK q t)
theorem RepK.snoc {v : V} {d : D} {k : List Key} (q : Rep K S v d) : ∀ {ds : List (List Key × D)} {ks : List (List Key × V)}, RepK K S ks ds → RepK K S (ks ++ [(k, v)]) (ds ++ [(k, d)])
  | _, _, .nil => .cons q .nil
  | _, _, .cons r t => .cons r (RepK.snoc q t)
theorem RepK.put {v : V} {d : D} {k : List Key} (q : Rep K S v d) {ds : List (List Key × D)} {ks : List (List Key × V)} (r : RepK K S ks ds) : RepK K S (putK ks k v) (putD ds k d) := by
  unfold putK putD
  rw [r.anyK]
  split
  · exact r.mapK q
  · exact r.snoc q

/-! ### subscripts -/
theorem atI_rep {vs : List V} {ds : List D} (r : Reps K S vs ds) {i : Int} {d : D} (h : atI ds i = some d) : ∃ v, atI vs i = some v ∧ Rep K S v d := by
  unfold atI at h ⊢
  rw [r.length]
  obtain ⟨j, h1, h2⟩ := bind_some h
  obtain ⟨v, h3, h4⟩ := r.get h2
  exact ⟨v, by rw [h1]; exact h3, h4⟩
def oIxS : D → D → Option R
  | .lst xs, .int i => (atI xs i).map .val
  | .tup xs, .int i => (atI xs i).map .val
  | .str z, .int i => if z.length ≤ cap then (atI z.cps.toList i).map fun c => .val (.str ⟨#[c]⟩) else none
  | _, _ => none
def oGet (kvs : List (List Key × D)) : D → Option R
  | .tup ks => (toKey ks).bind fun k => (valD kvs k).map .val
  | _ => none
def oIx : D → D → Option R
  | .dic kvs, y => oGet kvs y
  | x, y => oIxS x y
theorem s_ixSeq : Sound2 K (rIx K) oIxS := fun S H u v x y res ex su sv e Q k => by
  unfold oIxS at e
  split at e
  · obtain ⟨d, h1, rfl⟩ := map_some e
    obtain ⟨a, vs, rfl, h2, h3⟩ := su.lst' ex
    obtain ⟨w, h4, h5⟩ := atI_rep h3 h1
    rw [sv.int]
    exact .inl ⟨a, vs, _, w, rfl, rfl, .inl (.inl h2), h4, k _ _ _ (.flat ex h5)⟩
  · obtain ⟨d, h1, rfl⟩ := map_some e
    obtain ⟨a, vs, rfl, h2, h3⟩ := su.tup ex
    obtain ⟨w, h4, h5⟩ := atI_rep h3 h1
    rw [sv.int]
    exact .inr (.inl ⟨a, vs, _, w, rfl, rfl, h2, h4, k _ _ _ (.flat ex h5)⟩)
  · split at e
    · rename_i hz
      obtain ⟨c, h1, rfl⟩ := map_some e
      rw [su.str, sv.int]
      exact .inr (.inr ⟨_, _, c, rfl, rfl, cap_le hz, h1, k _ _ _ (.flat ex (.str _))⟩)
    · cases e
  · cases e
theorem s_get {u v : V} {y : D} {kvs : List (List Key × D)} {res : R} (ex : Same S H) (su : See K S H u (.dic kvs)) (sv : See K S H v y) (e : oGet kvs y = some res) (Q : VK) (k : ∀ w S' H', Fresh K S H w res S' H' → Q w H') :
    ∃ a w, u = .ref a ∧ DGet H a v (some w) ∧ Q w H := by
  unfold oGet at e
  split at e
  · obtain ⟨ky, h1, h2⟩ := bind_some e
    obtain ⟨d, h3, rfl⟩ := map_some h2
    obtain ⟨a, ks, rfl, h4, h5⟩ := su.dic' ex
    obtain ⟨w, h6, h7⟩ := (valD_rep (k := ky) h5).1 d h3
    cases sv with
    | of r =>
      obtain ⟨b, rfl, hb⟩ := toKey_rep h1 r
      exact ⟨a, w, rfl, .inr ⟨ks, ky, b, h4, rfl, ex _ _ hb, h6.symm⟩, k _ _ _ (.flat ex h7)⟩
  · cases e
end
section
variable {X : Cx} {e a b c : Expr} {es rest : List Expr} {f g h : Ev} {fs : List Ev} {pos : Pos}
theorem ve_sub (hu : X.A.units + 1 < cLine) (ha : VE X a f) (hb : VE X b g) (hs : PlainIx b) : VE X (.Subscript a b pos) (fOp2 oIx f g) :=
  (PE.or (pe_ix ix_seq ha hb hs) (pe_dget hu ha hb hs)).imp fun σ H Q q => by
    obtain ⟨S, ρ, r, ρ', E, e, k⟩ := q
    obtain ⟨p, e1, e2⟩ := bind_some e
    obtain ⟨p2, e3, e4⟩ := bind_some e2
    obtain ⟨x, e5, e6⟩ := bind_some e4
    obtain ⟨y, e7, e8⟩ := bind_some e6
    obtain ⟨r, e9, e10⟩ := map_some e8
    cases e10
    have main : oIxS x y = some r → (tOp (rIx X.K) (tV X.K f) (tV X.K g) σ H Q ∨ tDGet (tV X.K f) (tV X.K g) σ H Q) := fun e9 => by
      refine .inl (bin (G := fun u v H2 => rIx X.K u v H2 Q) E e1 e3 fun u v S2 H2 c => ?_)
      cases c.rep with
      | cons hu _ ht =>
        cases ht with
        | cons hv _ _ => exact s_ixSeq S2 H2 u v x y r c.env.ex (hu.see c.env e5) (hv.see c.env e7) e9 Q fun w S3 H3 fr => k w S3 H3 (c.fin fr)
    cases x with
    | dic kvs =>
      refine .inr (bin (G := fun u v H2 => ∃ a w, u = .ref a ∧ DGet H2 a v (some w) ∧ Q w H2) E e1 e3 fun u v S2 H2 c => ?_)
      cases c.rep with
      | cons hu _ ht =>
        cases ht with
        | cons hv _ _ => exact s_get c.env.ex (hu.see c.env e5) (hv.see c.env e7) e9 Q fun w S3 H3 fr => k w S3 H3 (c.fin fr)
    | non => exact main e9
    | bl _ => exact main e9
    | int _ => exact main e9
    | str _ => exact main e9
    | tup _ => exact main e9
    | lst _ => exact main e9
    | scr _ => exact main e9

/-! ### a dict: in, get, store -/
def oInD (neg : Bool) : D → D → Option R
  | .tup ks, .dic kvs => (toKey ks).map fun k => .val (.bl (if neg then !(valD kvs k).isSome else (valD kvs k).isSome))
  | _, _ => none
def fInD (neg : Bool) (f g : Ev) : Ev := fOp2 (oInD neg) f g
theorem sem_inD {K : PySem.W.Frag} {neg : Bool} {σ : L2.St} {H : Hp} {Q : VK} (q : tV K (fInD neg f g) σ H Q) :
    tV K f σ H fun y H1 => tV K g σ H1 fun x H2 => ∃ a o, x = .ref a ∧ DGet H2 a y o ∧ Q (.bl (if neg then !o.isSome else o.isSome)) H2 := by
  obtain ⟨S, ρ, r, ρ', E, e, k⟩ := q
  obtain ⟨p, e1, e2⟩ := bind_some e
  obtain ⟨p2, e3, e4⟩ := bind_some e2
  obtain ⟨x, e5, e6⟩ := bind_some e4
  obtain ⟨y, e7, e8⟩ := bind_some e6
  obtain ⟨r, e9, e10⟩ := map_some e8
  cases e10
  refine bin (G := fun y x H2 => ∃ a o, x = .ref a ∧ DGet H2 a y o ∧ Q (.bl (if neg then !o.isSome else o.isSome)) H2) E e1 e3 fun u v S2 H2 c => ?_
  cases c.rep with
  | cons hu _ ht =>
    cases ht with
    | cons hv _ _ =>
      have su := hu.see c.env e5
      have sv := hv.see c.env e7
      unfold oInD at e9
      split at e9
      · rename_i ks kvs
        obtain ⟨ky, h1, rfl⟩ := map_some e9
        obtain ⟨a, vs, rfl, h4, h5⟩ := sv.dic' c.env.ex
        cases su with
        | of r =>
          obtain ⟨b, rfl, hb⟩ := toKey_rep h1 r
          have hv2 := valD_rep (k := ky) h5
          refine ⟨a, valV vs ky, rfl, .inr ⟨vs, ky, b, h4, rfl, c.env.ex _ _ hb, rfl⟩, ?_⟩
          have : (valV vs ky).isSome = (valD kvs ky).isSome := by
            cases hd : valD kvs ky with
            | none => rw [hv2.2 hd]; rfl
            | some d => obtain ⟨w, hw, _⟩ := hv2.1 d hd; rw [hw]; rfl
          rw [this]
          exact k _ S2 H2 (c.fin (.flat c.env.ex (.bl _)))
      · cases e9
theorem ve_inD (hu : X.A.units + 1 < cLine) (ha : VE X a f) (hb : VE X b g) (h1 : behindInMarks .In b = false := by rfl) : VE X (.Compare a [.In] [b] pos) (fInD false f g) := (pe_cmp (pc_din hu ha hb) h1).imp fun _ _ _ q => sem_inD q
theorem ve_notInD (hu : X.A.units + 1 < cLine) (ha : VE X a f) (hb : VE X b g) (h1 : behindInMarks .NotIn b = false := by rfl) : VE X (.Compare a [.NotIn] [b] pos) (fInD true f g) := (pe_cmp (pc_dnotin hu ha hb) h1).imp fun _ _ _ q => sem_inD q

/-! ### o[i] = e, o a slot -/
def sSub (i : Nat) (fi f : Ev) : Stm := fun ρ => (f ρ).bind fun p => match p.2[i]? with
  | some (.own _ _) => (fi p.2).bind fun q => match q.1 with
    | .val ix => (take q.2 p.1).bind fun z => match z.2[i]? with
      | some (.own pp (.lst xs)) => match ix with
        | .int k => (ixN xs.length k).map fun j => (.nx, z.2.set i (.own pp (.lst (xs.set j z.1))))
        | _ => none
      | some (.own pp (.dic kvs)) => match ix with
        | .tup ks => (toKey ks).bind fun k => if kvs.length < cap then some (.nx, z.2.set i (.own pp (.dic (putD kvs k z.1)))) else none
        | _ => none
      | _ => none
    | _ => none
  | _ => none
end
section
variable {K : PySem.W.Frag} {S S0 H H0 : Hp} {σ σ0 : L2.St} {ρ ρ0 : List Sl} {i : Nat} {pp : Bool} {d d' : D} {a : Addr} {o : HO}
/-- the object of a slot gets a new content -/
theorem Env.putOwn (E : Env K S σ H ρ) (h : ρ[i]? = some (Sl.own pp d)) (hs : σ[i]? = some (some (V.ref a))) (hn : S a = none) (ho : Own K S (upd H a o) a d') : Env K S σ (upd H a o) (ρ.set i (.own pp d')) := by
  have hl : i < ρ.length := (List.getElem?_eq_some_iff.mp h).1
  have key : ∀ (j : Nat) (s : Sl), (ρ.set i (.own pp d'))[j]? = some s → (j = i ∧ s = .own pp d') ∨ (j ≠ i ∧ ρ[j]? = some s) := by
    intro j s hj
    by_cases hji : j = i
    · subst hji; rw [List.getElem?_set_self hl] at hj; exact .inl ⟨rfl, (Option.some.inj hj).symm⟩
    · rw [List.getElem?_set_ne (Ne.symm hji)] at hj; exact .inr ⟨hji, hj⟩
  refine ⟨fun b u e => by rw [upd_ne (ne_of_none e hn)]; exact E.ex b u e, by rw [List.length_set]; exact E.len, fun j e hj => ?_, fun j q e hj => ?_, fun j l q1 q2 e1 e2 b h1 h2 h3 h4 => ?_⟩
  · rcases key j _ hj with ⟨_, z⟩ | ⟨_, z⟩
    · cases z
    · exact E.val j e z
  · rcases key j _ hj with ⟨rfl, z⟩ | ⟨hji, z⟩
    · cases z; exact ⟨a, hs, ho⟩
    · obtain ⟨b, g1, g2⟩ := E.own j q e z
      have hb : b ≠ a := fun q => hji (E.inj j i _ _ _ _ a z h (by rw [← q]; exact g1) hs)
      exact ⟨b, g1, g2.keep (fun _ _ e => e) g2.1 fun u hu => by rw [upd_ne hb]; exact hu⟩
  · rcases key j _ h1 with ⟨rfl, z⟩ | ⟨hji, z⟩
    · rcases key l _ h2 with ⟨rfl, _⟩ | ⟨_, z2⟩
      · rfl
      · exact E.inj j l _ _ _ _ b h z2 h3 h4
    · rcases key l _ h2 with ⟨rfl, _⟩ | ⟨_, z2⟩
      · exact E.inj j l _ _ _ _ b z h h3 h4
      · exact E.inj j l _ _ _ _ b z z2 h3 h4
theorem Go.putOwn (G : Go σ0 ρ0 S0 H0 σ ρ S H) (h : ρ[i]? = some (Sl.own pp d)) (hs : σ[i]? = some (some (V.ref a))) : Go σ0 ρ0 S0 H0 σ (ρ.set i (.own pp d')) S (upd H a o) := by
  have hl : i < ρ.length := (List.getElem?_eq_some_iff.mp h).1
  have hw : Owns σ0 ρ0 a ∨ H0 a = none := G.own a ⟨i, pp, d, h, hs⟩
  have key : ∀ (j : Nat) (q : Bool) (e : D), (ρ.set i (.own pp d'))[j]? = some (Sl.own q e) → ∃ e', ρ[j]? = some (Sl.own q e') := by
    intro j q e hj
    by_cases hji : j = i
    · subst hji; rw [List.getElem?_set_self hl] at hj; cases hj; exact ⟨d, h⟩
    · rw [List.getElem?_set_ne (Ne.symm hji)] at hj; exact ⟨e, hj⟩
  have G2 := G.mut (o := o) hw
  exact ⟨G2.st, G2.keep, G2.dom, G2.new, fun b ⟨j, q, e, h1, h2⟩ => let ⟨e', h3⟩ := key j q e h1; G.own b ⟨j, q, e', h3, h2⟩, fun j e hj => let ⟨e', h3⟩ := key j true e hj; G.pin j e' h3, G2.len⟩
end
section
variable {X : Cx} {e a b c : Expr} {es rest : List Expr} {f g h : Ev} {fs : List Ev} {pos : Pos}
def rSetA : TSet := fun o i v H Q => rSetL o i v H Q ∨ rSetD o i v H Q
theorem set_any (hu : X.A.units + 1 < cLine) : PSet X rSetA := fun pins s σ H o i v ov iv u Q I ro ri rv h => h.elim (set_list pins s σ H o i v ov iv u Q I ro ri rv) (set_dict hu pins s σ H o i v ov iv u Q I ro ri rv)
theorem vs_sub {i : Nat} {o ix : Expr} {tpos : Pos} {fi : Ev} (hu : X.A.units + 1 < cLine) (ho : PE X o (tVar i)) (hi : VE X ix fi) (he : VE X e f)
    (ha : ∀ v, assign (.Subscript o ix tpos) X.env v = (do
      let ov ← holding [v] (eval o X.env)
      let iv ← holding [v, ov] (eval ix X.env)
      standAt tpos
      holding [v, ov, iv] (setItem ov iv v)
      release [v, ov, iv] []) := by intro _; rfl)
    (hs : swapsWithSole [.Subscript o ix tpos] e pos.line X.env = pure false := by rfl) (hw : swappedStores [.Subscript o ix tpos] e X.env = pure none := by rfl)
    (h1 : (assignEach [.Subscript o ix tpos] X.env).map (·.2) = [assign (.Subscript o ix tpos) X.env] := by rfl) : VS X (.Assign [.Subscript o ix tpos] e pos) (sSub i fi f) :=
  (ps_asg he (pg_sub ho hi (set_any hu) ha) hs hw h1).imp fun D σ H q => by
    obtain ⟨S, ρ, oo, ρ', E, e, k⟩ := q
    obtain ⟨p, e1, e2⟩ := bind_some e
    refine ⟨S, ρ, p.1, p.2, E, e1, fun v S1 H1 c1 => ?_⟩
    split at e2
    · rename_i pp0 d0 ho0
      obtain ⟨q, e3, e4⟩ := bind_some e2
      split at e4
      · rename_i ixd hix
        obtain ⟨z, e5, e6⟩ := bind_some e4
        obtain ⟨a0, hσ, ow0⟩ := c1.env.own i _ _ ho0
        refine ⟨_, hσ, S1, p.2, q.1, q.2, c1.env, e3, fun w S2 H2 c2 => ?_⟩
        have c := c1.cons c2
        obtain ⟨S3, s23, r3, c3⟩ := c.take e5
        have rw0 : Rep X.K S3 w ixd := by
          have := c2.rep1
          rw [hix] at this
          exact Rep.mono s23 this
        split at e6
        · rename_i pp xs hz
          split at e6
          · rename_i kk
            obtain ⟨j, e7, e8⟩ := map_some e6
            cases e8
            obtain ⟨a1, g1, ow⟩ := c3.env.own i _ _ hz
            rw [hσ] at g1; cases g1
            obtain ⟨hn, vs, hv, hr⟩ := ow
            cases rw0
            refine .inl ⟨a0, vs, kk, j, rfl, rfl, hv, by rw [hr.length]; exact e7, ?_⟩
            refine k S3 σ _ (c3.env.putOwn hz hσ hn ⟨hn, _, upd_same, hr.set j r3⟩) (c3.go.putOwn hz hσ)
          · cases e6
        · rename_i pp kvs hz
          split at e6
          · rename_i ks
            obtain ⟨ky, e7, e8⟩ := bind_some e6
            split at e8
            · rename_i hcap
              cases e8
              obtain ⟨a1, g1, ow⟩ := c3.env.own i _ _ hz
              rw [hσ] at g1; cases g1
              obtain ⟨hn, vs, hv, hr⟩ := ow
              obtain ⟨b, rfl, hb⟩ := toKey_rep e7 rw0
              refine .inr ⟨a0, _, rfl, .inr ⟨vs, ky, b, hv, rfl, c3.env.ex _ _ hb, by rw [hr.length]; exact cap_lt hcap, rfl⟩, ?_⟩
              exact k S3 σ _ (c3.env.putOwn hz hσ hn ⟨hn, _, upd_same, hr.put r3⟩) (c3.go.putOwn hz hσ)
            · cases e8
          · cases e6
        · cases e6
      · cases e4
    · cases e2

/-! ### methods that change the list of a slot -/
def fMutL (i : Nat) (o : List D → List D → Option (D × List D)) (fs : List Ev) : Ev := fun ρ => match ρ[i]? with
  | some (.own _ (.lst _)) => (evs fs ρ).bind fun p => (takes p.2 p.1).bind fun z => match z.2[i]? with
    | some (.own pp (.lst xs)) => (o xs z.1).map fun t => (.val t.1, z.2.set i (.own pp (.lst t.2)))
    | _ => none
  | _ => none
def SoundM (K : PySem.W.Frag) (r : V → List V → Hp → VK → Prop) (o : List D → List D → Option (D × List D)) : Prop := ∀ S H a vs xs us ds res xs', H a = some (.lst vs) → Reps K S vs xs → Reps K S us ds → o xs ds = some (res, xs') →
  ∀ Q : VK, (∀ v vs', Rep K S v res → Reps K S vs' xs' → Q v (upd H a (.lst vs'))) → r (.ref a) us H Q
theorem sem_mutL {K : PySem.W.Frag} {i : Nat} {r : V → List V → Hp → VK → Prop} {o : List D → List D → Option (D × List D)} (so : SoundM K r o) {σ : L2.St} {H : Hp} {Q : VK} (q : tV K (fMutL i o fs) σ H Q) : tBM K "list" r (tVar i) (tVA K fs) σ H Q := by
  obtain ⟨S, ρ, rr, ρ', E, e, k⟩ := q
  unfold fMutL at e
  split at e
  · rename_i pp0 xs0 h0
    obtain ⟨p, e1, e2⟩ := bind_some e
    obtain ⟨z, e3, e4⟩ := bind_some e2
    obtain ⟨a, hσ, hn0, vs0, hv0, hr0⟩ := E.own i _ _ h0
    refine ⟨_, hσ, .inl ⟨rfl, vs0, .inl (.inl hv0)⟩, S, ρ, p.1, p.2, E, e1, fun us S1 H1 c1 => ?_⟩
    obtain ⟨S2, s12, ru, c2⟩ := c1.takes e3
    split at e4
    · rename_i pp xs hz
      obtain ⟨t, e5, e6⟩ := map_some e4
      cases e6
      obtain ⟨a1, g1, hn, vs, hv, hr⟩ := c2.env.own i _ _ hz
      rw [hσ] at g1; cases g1
      refine so S2 H1 a vs xs us z.1 t.1 t.2 hv hr ru e5 Q fun v vs' rv rvs => k v S2 _ ?_
      have E3 := c2.env.putOwn hz hσ hn (d' := .lst t.2) (o := .lst vs') ⟨hn, vs', upd_same, rvs⟩
      exact ⟨E3, c2.go.putOwn hz hσ, .cons rv (fun _ _ _ _ _ h => nomatch h) .nil, fun b d hm => by simp at hm⟩
    · cases e4
  · cases e
theorem ve_mutL {i : Nat} {name : Str} {apos : Pos} {id : String} {r : V → List V → Hp → VK → Prop} {o : Expr} {oo : List D → List D → Option (D × List D)} (slot : Slot "list" name id) (hty : typeOf (.builtin id) = pure (.type "method_descriptor")) (hm : MtR X id r) (so : SoundM X.K r oo)
    (ho : PE X o (tVar i)) (ha : VA X (e :: es) fs)
    (hbase : attributeBase o name X.env (eval o X.env) = eval o X.env := by rfl)
    (hfew : ((backTo pos (starEach (e :: es) X.env)).all (fun x => !x.1) && (backToKw pos (keywordEach [] X.env)).all (fun x => x.1.isSome)
      && decide ((e :: es).length + ([] : List Keyword).length + (if ([] : List Keyword).isEmpty then 0 else 1) < 30)) = true := by rfl)
    (hline : (apos.endLine == pos.line) = true := by rfl) (hs : starEach (e :: es) X.env = (false, eval e X.env) :: starEach es X.env := by rfl) (hplain : (backTo pos (starEach es X.env)).any (·.1) = false := by rfl) :
    VE X (.Call (.Attribute o name apos) (e :: es) [] pos) (fMutL i oo fs) :=
  (pe_bm PySem.F.plainAttrs_list slot hty hm ho ha hbase hfew hline hs hplain).imp fun _ _ _ q => sem_mutL so q
def oApp (xs : List D) : List D → Option (D × List D)
  | [y] => if xs.length < cap then some (.non, xs ++ [y]) else none
  | _ => none
theorem s_app {K : PySem.W.Frag} : SoundM K rAppend oApp := fun S H a vs xs us ds res xs' hv hr ru e Q k => by
  unfold oApp at e
  split at e
  · split at e
    · rename_i hc
      cases e
      cases ru with
      | cons r1 rt => cases rt; exact ⟨a, vs, _, rfl, rfl, hv, by rw [hr.length]; exact cap_lt hc, k _ _ .non (hr.append (.one r1))⟩
    · cases e
  · cases e
def oIns (xs : List D) : List D → Option (D × List D)
  | [.int i, y] => if xs.length < cap ∧ 0 ≤ i ∧ i < big / 2 then some (.non, xs.take i.toNat ++ [y] ++ xs.drop i.toNat) else none
  | _ => none
theorem s_ins {K : PySem.W.Frag} : SoundM K (fun x vs H Q => ∃ (l : Addr) (xs : List V) (i : Int) (y : V), x = .ref l ∧ vs = [.int i, y] ∧ H l = some (.lst xs) ∧ xs.length < sizeLine ∧ 0 ≤ i ∧ i < 2 ^ 63 ∧ Q .non (upd H l (.lst (xs.take i.toNat ++ [y] ++ xs.drop i.toNat)))) oIns := fun S H a vs xs us ds res xs' hv hr ru e Q k => by
  unfold oIns at e
  split at e
  · split at e
    · rename_i hc
      cases e
      cases ru with
      | cons r1 rt =>
        cases r1
        cases rt with
        | cons r2 rt =>
          cases rt
          refine ⟨a, vs, _, _, rfl, rfl, hv, by rw [hr.length]; exact cap_lt hc.1, hc.2.1, ?_, k _ _ .non ?_⟩
          · have := hc.2.2; unfold big at this; omega
          · exact ((hr.take _).append (.one r2)).append (hr.drop _)
    · cases e
  · cases e
def oPopAt (xs : List D) : List D → Option (D × List D)
  | [.int i] => if 0 ≤ i ∧ i < xs.length ∧ i < big / 2 then (xs[i.toNat]?).map fun y => (y, xs.eraseIdx i.toNat) else none
  | _ => none
theorem Reps.erase {K : PySem.W.Frag} {S : Hp} : ∀ {vs : List V} {ds : List D} (n : Nat), Reps K S vs ds → Reps K S (vs.eraseIdx n) (ds.eraseIdx n)
  | _, _, _, .nil => .nil
  | _, _, 0, .cons _ t => t
  | _, _, n + 1, .cons r t => .cons r (Reps.erase n t)
theorem s_popAt {K : PySem.W.Frag} : SoundM K rPopAt oPopAt := fun S H a vs xs us ds res xs' hv hr ru e Q k => by
  unfold oPopAt at e
  split at e
  · split at e
    · rename_i i hc
      obtain ⟨y, e1, e2⟩ := map_some e
      cases e2
      cases ru with
      | cons r1 rt =>
        cases r1
        cases rt
        obtain ⟨v, hv1, hv2⟩ := hr.get e1
        have hb := hc.2.2
        unfold big at hb
        refine ⟨a, vs, i, i.toNat, v, rfl, rfl, hv, by omega, by omega, ?_, hv1, k _ _ hv2 (hr.erase _)⟩
        rw [seqIndex_of hc.1 (by rw [hr.length]; exact hc.2.1)]
    · cases e
  · cases e
end
end FL
namespace FL
open PySem L2 PySem.Spec PyProof.Rows

/-! ### iterators that give new tuples, over sources that stand -/
def Jt (n : Nat) (SH : Hp → Prop) (ys : Nat → List V) : It :=
  ⟨fun i H => i < n ∧ SH H, fun i H v H' => ∃ T, v = .ref T ∧ H T = none ∧ H' = upd H T (.tup (ys i)), fun i H => i = n ∧ SH H⟩
theorem turn_gn {ι : Type} {P : Program} {w : World} {K : PySem.W.Frag} {tg : Expr} {I : Addr} {wc wr : List Addr} {n : Nat} {It : Nat → Heap → Prop} {Src : ι → Heap → Prop} {SH : Hp → Prop} {ys : Nat → List V} {fp : ι → List Addr} {Y : ι → Nat → Heap → Value → Heap → Prop}
    (hI : I ∈ wc) (hsub : ∀ b ∈ wr, b ∈ wc)
    (obj : ∀ i h, It i h → ∀ b ∈ wc, ∃ o, h.get? b = some o ∧ ∀ v, o.data ≠ .cell v)
    (keep : ∀ i h h', It i h → (∀ b ∈ wc, ∀ o, h.get? b = some o → h'.get? b = some o) → It i h')
    (src : ∀ (X : Cx) (pins : List (Addr × Obj)) (s : Shared) (σ : L2.St) (H : Hp), X.prog = P → X.w = w → X.K = K → Inv X pins σ H s → SH H → ∃ z, Src z s.heap ∧
      (∀ A : Around, A.handled = none → GoesN P w A tg I (fp z) wr n (Y z) (fun i h => It i h ∧ Src z h)) ∧
      (∀ i v h0 h', i < n → Y z i h0 v h' → ∃ T vals, v = .ref T ∧ h0.objs.size ≤ T ∧ h'.IsTuple T vals ∧ Vals (ys i) vals.toList))
    (self : ∀ (A : Around) (i : Nat) (s : Shared) (Q : Value → Shared → Prop) (E : Value → Shared → Prop), It i s.heap → Q (.ref I) s → wpAny (model P w) A (pyIter (.ref I)) Q E s)
    (hl : ∀ i, (ys i).length ≤ sizeLine) : Turn P w K tg (Jt n SH ys) wc I It where
  mem := hI
  obj := obj
  keep := keep
  self := self
  item := by
    intro X hP hw hK hc i pins s σ H E IV hf st hg
    obtain ⟨hi, hsh⟩ := hg
    obtain ⟨z, hz, hG, hY⟩ := src X pins s σ H hP hw hK IV hsh
    subst hP hw hK
    refine (hG X.A (IV.ok.hd hc)).goes i s (fun u s2 => ∃ x H', Inv X pins σ H' s2 ∧ RelV x u ∧ (Jt n SH ys).yld i H x H' ∧ It (i + 1) s2.heap ∧ ∀ b ∈ wc, H' b = none) E hi ⟨st, hz⟩ fun v h' tk hy ⟨st', _⟩ hk htk => ?_
    obtain ⟨T, vals, rfl, hT, hTup, rv⟩ := hY i v s.heap h' hi hy
    have new : ObjOk X.prog X.w (upd H T (.tup (ys i))) h' T (.tup (ys i)) := ⟨hl i, vals.toList, rv, hTup⟩
    have I1 : Inv X pins σ (upd H T (.tup (ys i))) { s with heap := h', toks := tk } :=
      IV.turnedNew (t' := tk) (ch := wr) (fun b o hb q => hk b o hb q) (fun b hb => hf b (hsub b hb)) hT new
    have hTn : H T = none := IV.hok.fresh hT
    refine ⟨.ref T, _, I1, rfl, ⟨T, rfl, hTn, rfl⟩, st', fun b hb => ?_⟩
    obtain ⟨o, ho, _⟩ := obj i s.heap st b hb
    rw [upd_ne (Nat.ne_of_lt (Nat.lt_of_lt_of_le (Heap.lt_size ho) hT))]
    exact (hf b hb).1
  done := by
    intro X hP hw hK hc i pins s σ H E IV hf st hg
    obtain ⟨hi, hsh⟩ := hg
    subst hi
    obtain ⟨z, hz, hG, hY⟩ := src X pins s σ H hP hw hK IV hsh
    subst hP hw hK
    refine (hG X.A (IV.ok.hd hc)).stops s (fun s1 => Inv X pins σ H s1) E ⟨st, hz⟩ fun h' tk hk htk => ?_
    exact IV.turnedL (t' := tk) (ch := wr) (fun b o hb q => hk b o hb q) fun b hb => hf b (hsub b hb)

/-- a list or a tuple that is walked -/
structure SrcD (P : Program) (w : World) (K : PySem.W.Frag) (a : Addr) (xs : List V) (SH : Hp → Prop) (o : Obj) (ItI : Addr → Nat → Heap → Prop) (Src : Array Value → Heap → Prop) : Prop where
  begins : ∀ its, Begins (.ref a) o (Src its)
  draws : ∀ A : Around, A.handled = none → ∀ it, a ≠ it → ∀ its, Draws P w A it [it, a] its.size (fun i v => its[i]? = some v) (fun i h => ItI it i h ∧ Src its h)
  init : ∀ it h, h.get? it = some o → ItI it 0 h
  obj : ∀ it i h, ItI it i h → ∃ o, h.get? it = some o ∧ ∀ v, o.data ≠ .cell v
  keep : ∀ it i h h', ItI it i h → (∀ o, h.get? it = some o → h'.get? it = some o) → ItI it i h'
  src : ∀ (X : Cx) (pins : List (Addr × Obj)) (s : Shared) (σ : L2.St) (H : Hp), X.prog = P → X.w = w → X.K = K → Inv X pins σ H s → SH H → ∃ its, Src its s.heap ∧ Vals xs its.toList
  lt : ∀ its h, Src its h → a < h.objs.size
theorem srcD_list {P : Program} {w : World} {K : PySem.W.Frag} {a : Addr} {xs : List V} : SrcD P w K a xs (fun H => SqL K H a xs) { cls := .type "list_iterator", data := .fields #[.ref a, .int 0 0] } (fun it i h => h.IsListIter it a i) (fun its h => h.IsList a its) where
  begins := fun its => begins_list a its
  draws := fun A hh it hne its => Draws.list hh it a hne its
  init := fun it h e => ⟨_, e, rfl, rfl⟩
  obj := fun it i h ⟨o, ho, hc, hd⟩ => ⟨o, ho, fun v q => by rw [hd] at q; cases q⟩
  keep := fun it i h h' x k => x.at fun o e => k o e
  src := fun X pins s σ H hP hw hK I q => by subst hK; obtain ⟨its, rv, p, _⟩ := I.list q; exact ⟨its.toArray, p.isList, by simpa using rv⟩
  lt := fun its h ⟨o, ho, _⟩ => Heap.lt_size ho
theorem srcD_tup {P : Program} {w : World} {K : PySem.W.Frag} {a : Addr} {xs : List V} : SrcD P w K a xs (fun H => SqT K H a xs) { cls := .type "tuple_iterator", data := .fields #[.ref a, .int 0 0] } (fun it i h => h.IsTupleIter it a i) (fun its h => h.IsTuple a its) where
  begins := fun its => begins_tuple a its
  draws := fun A hh it hne its => Draws.tuple hh it a hne its
  init := fun it h e => ⟨_, e, rfl, rfl⟩
  obj := fun it i h ⟨o, ho, hc, hd⟩ => ⟨o, ho, fun v q => by rw [hd] at q; cases q⟩
  keep := fun it i h h' x k => x.at fun o e => k o e
  src := fun X pins s σ H hP hw hK I q => by subst hK; obtain ⟨its, rv, p, _⟩ := I.tuple q; exact ⟨its.toArray, p, by simpa using rv⟩
  lt := fun its h ⟨o, ho, _⟩ => Heap.lt_size ho

theorem goesN_st {prog : Program} {w : World} {A : Around} {target : Expr} {I : Addr} {fp wr : List Addr} {n : Nat} {Y : Nat → Heap → Value → Heap → Prop} {St St' : Nat → Heap → Prop} (W : GoesN prog w A target I fp wr n Y St) (h : ∀ i h, St i h ↔ St' i h) : GoesN prog w A target I fp wr n Y St' := by
  have e : St = St' := by funext i h'; exact propext (h i h')
  rw [← e]; exact W

/-! ### enumerate -/
set_option maxHeartbeats 1000000 in
theorem meets_enum1 {v : Value} {o : Obj} {H : Heap → Prop} (B : Begins v o H) :
    Meets (Builtin.«enumerate.__new__» ⟨[.type "enumerate", v], []⟩) (fun _ R s => H s.heap ∧
      R (.ok (.ret (.ref (s.heap.push o).objs.size))) { s with heap := (s.heap.push o).push { cls := .type "enumerate", data := .fields #[.none, .bool false, .ref s.heap.objs.size, rawInt 0, .none, .none] } }) :=
  .of_wp fun prog w A R s h => by
    obtain ⟨hp, g, d, tk, os⟩ := s; obtain ⟨h1, h⟩ := h
    have hsub := sub_enumerate
    have q1 : ∀ {A' : Around} {E : Value → Shared → Prop} {Q : Value → Shared → Prop}, Q (.ref hp.objs.size) ⟨hp.push o, g, d, tk, os⟩ → wpAny (model prog w) A' (pyIter v) Q E ⟨hp, g, d, tk, os⟩ :=
      fun q => B.iter prog w _ _ ⟨hp, g, d, tk, os⟩ _ h1 q
    wp_walk using q1
    refine wpAny_stack_any fun st => wpAny_pure ?_
    split
    · rename_i c _ _ _ _ _
      cases (c == Value.type "enumerate")
      · wp_walk using q1
        exact ⟨_, rfl, h⟩
      · wp_walk using q1
        exact ⟨_, rfl, h⟩
    · wp_walk using q1
      exact ⟨_, rfl, h⟩
theorem enum_begins1 {prog : Program} {w : World} {A : Around} {E : Value → Shared → Prop} {s : Shared} {v : Value} {o : Obj} {H : Heap → Prop} {Q : Value → Shared → Prop} (B : Begins v o H) (h1 : H s.heap)
    (h : ∀ h', IsEnum h' (s.heap.objs.size + 1) s.heap.objs.size 0 .none → h'.get? s.heap.objs.size = some o → h'.objs.size = s.heap.objs.size + 2 →
      (∀ b o, s.heap.get? b = some o → h'.get? b = some o) → Q (.ref (s.heap.objs.size + 1)) { s with heap := h' }) :
    wpAny (model prog w) A (call (.type "enumerate") [v]) Q E s := by
  refine callType_new F.called_enumerate (by decide) (F.typeCall_enumerate_1 _) (F.newCall_enumerate_1 _) (fun obj => F.args_object_init_2 obj _) F.entry_enumerate_new
    (meets_enum1 B) ⟨h1, ?_⟩
  have hz : (s.heap.push o).objs.size = s.heap.objs.size + 1 := Heap.size_push ..
  show _ ∧ _
  rw [hz]
  have he : IsEnum ((s.heap.push o).push { cls := .type "enumerate", data := .fields #[.none, .bool false, .ref s.heap.objs.size, rawInt 0, .none, .none] }) (s.heap.objs.size + 1) s.heap.objs.size 0 .none := by
    have := Heap.get?_push_size (s.heap.push o) (o := { cls := .type "enumerate", data := .fields #[.none, .bool false, .ref s.heap.objs.size, rawInt 0, .none, .none] }) rfl
    rw [hz] at this; exact this
  refine ⟨⟨_, he, rfl⟩, h _ he (Heap.get?_push_of_some _ (Heap.get?_push_size _ B.free)) (by rw [Heap.size_push, hz]) fun b o x => Heap.get?_push_of_some _ (Heap.get?_push_of_some _ x)⟩
def yEnum (xs : List V) (i : Nat) : List V := [.int (i : Nat), xs.getD i .non]
theorem turn_enumS {P : Program} {w : World} {K : PySem.W.Frag} {elts : List Expr} {kk : Nat} {tpos : Pos} {a e it : Addr} {xs : List V} {SH : Hp → Prop} {o : Obj} {ItI : Addr → Nat → Heap → Prop} {Src : Array Value → Heap → Prop}
    (D : SrcD P w K a xs SH o ItI Src) (h1 : e ≠ it) (h2 : a ≠ e) (h3 : a ≠ it) :
    Turn P w K (.Tuple elts kk tpos) (Jt xs.length SH (yEnum xs)) [e, it] e (fun i h => (∃ old, IsEnum h e it ((0 : Int) + (i : Int)) old) ∧ ItI it i h) :=
  turn_gn (ι := Array Value) (Src := Src) (fp := fun _ => [e, it, a]) (wr := [e, it]) (Y := fun its i h₀ v h => ∃ T t x, v = .ref T ∧ h₀.objs.size ≤ T ∧ its[i]? = some x ∧ h.IsTuple T #[.int ((0 : Int) + (i : Int)) t, x]) (by simp) (fun b hb => hb)
    (fun i h st b hb => by
      obtain ⟨⟨old, he⟩, hi⟩ := st
      have e' : b = e ∨ b = it := by simpa using hb
      rcases e' with z | z
      · rw [z]; exact ⟨_, he, fun v q => nomatch q⟩
      · rw [z]; exact D.obj it i h hi)
    (fun i h h' st k => let ⟨⟨old, he⟩, hi⟩ := st; ⟨⟨old, k e (by simp) _ he⟩, D.keep it i h h' hi fun o q => k it (by simp) o q⟩)
    (fun X pins s σ H hP hw hK I q => by
      obtain ⟨its, hs, rv⟩ := D.src X pins s σ H hP hw hK I q
      have hl : its.size = xs.length := by rw [rv.length]; simp
      refine ⟨its, hs, fun A hh => ?_, fun i v h0 h' hi hy => ?_⟩
      · have G := GoesN.enumFrom (elts := elts) (x1 := kk) (pos := tpos) (0 : Int) (D.draws A.in1 hh it h3 its) e h1 (by simp [h1, Ne.symm h2]) (by simp)
        rw [hl] at G
        exact goesN_st G fun i h => ⟨fun ⟨a, b, c⟩ => ⟨⟨a, b⟩, c⟩, fun ⟨⟨a, b⟩, c⟩ => ⟨a, b, c⟩⟩
      · obtain ⟨T, t, x, rfl, hT, hx, hTup⟩ := hy
        have hxs : xs[i]? = some xs[i] := List.getElem?_eq_getElem hi
        obtain ⟨u, hu, ru⟩ := rv.get hxs
        have : u = x := by
          have : its[i]? = some u := by simpa using hu
          rw [this] at hx; exact Option.some.inj hx
        subst this
        refine ⟨T, _, rfl, hT, hTup, .cons ⟨t, by rw [Int.zero_add]⟩ (.cons ?_ .nil)⟩
        rw [List.getD_eq_getElem?_getD, hxs]
        exact ru)
    (fun A i s Q E st h => let ⟨⟨_, he⟩, _⟩ := st; wpAny_pyIter_enum he h)
    (fun i => by show 2 ≤ sizeLine; decide)
/-- what an iterator over one object owes -/
def iOver (K : PySem.W.Frag) (ta : TA) (J : List V → (Hp → Prop) → It) : TI := fun σ H R => ta σ H fun vs H1 => ∃ a xs, vs = [.ref a] ∧ ((SqL K H1 a xs ∧ R (J xs fun H => SqL K H a xs) H1) ∨ (SqT K H1 a xs ∧ R (J xs fun H => SqT K H a xs) H1))
theorem pie_enum {X : Cx} {pins : List (Addr × Obj)} {σ : L2.St} {H1 : Hp} {s1 : Shared} {a : Addr} {xs : List V} {SH : Hp → Prop} {o : Obj} {ItI : Addr → Nat → Heap → Prop} {Src : Array Value → Heap → Prop} {elts : List Expr} {kk : Nat} {tpos : Pos} {R : It → Hp → Prop}
    (D : SrcD X.prog X.w X.K a xs SH o ItI Src) (I1 : Inv X pins σ H1 s1) (q : SH H1) (r : R (Jt xs.length SH (yEnum xs)) H1) :
    wpAny (model X.prog X.w) X.A (call (.type "enumerate") [.ref a]) (fun v s2 => wpAny (model X.prog X.w) X.A (pyIter v) (PIE X pins σ (.Tuple elts kk tpos) R) X.xe s2) X.xe s1 := by
  obtain ⟨its, hs, rv⟩ := D.src X pins s1 σ H1 rfl rfl rfl I1 q
  have hlt := D.lt its _ hs
  refine enum_begins1 (D.begins its) hs fun h' he hit hsz hk => wpAny_pyIter_enum he ?_
  have I2 : Inv X pins σ H1 { s1 with heap := h' } := I1.kept (t' := s1.toks) hk
  refine ⟨s1.heap.objs.size + 1, [s1.heap.objs.size + 1, s1.heap.objs.size], _, _, H1, rfl, I2, turn_enumS D (Nat.succ_ne_self _) (Nat.ne_of_lt (Nat.lt_succ_of_lt hlt)) (Nat.ne_of_lt hlt), ⟨⟨.none, he⟩, D.init _ _ hit⟩, fun b hb => ?_, r⟩
  have e' : b = s1.heap.objs.size + 1 ∨ b = s1.heap.objs.size := by simpa using hb
  have hle : s1.heap.objs.size ≤ b := by
    rcases e' with z | z
    · rw [z]; exact Nat.le_add_right _ _
    · rw [z]; exact Nat.le_refl _
  exact I1.fpOk hle (I1.hok.fresh hle)
theorem pi_enumA {X : Cx} {e : Expr} {ta : TA} {p pos tpos : Pos} {elts : List Expr} {kk : Nat} (hg : Gl X "enumerate") (hm : X.mg "enumerate" = none) (ha : PA X [e] ta) (hs : starEach [e] X.env = [(false, eval e X.env)] := by rfl) :
    PI X (.Tuple elts kk tpos) (.Call (.Name "enumerate" p) [e] [] pos) (iOver X.K ta fun xs SH => Jt xs.length SH (yEnum xs)) := by
  refine ⟨fun pins s σ H R I h => ?_⟩
  refine Call_ (ld_blt I hg hm boot_enumerate (PyProof.Rows.callWith_type1 (thn (ha.run pos pins s σ H _ I h) fun us s1 ⟨vs, H1, I1, r1, q1⟩ => ?_) hs rfl))
  obtain ⟨a, xs, ex, hq⟩ := q1
  subst ex
  cases r1 with
  | cons r rr =>
    cases rr
    cases r
    rcases hq with ⟨h1, h2⟩ | ⟨h1, h2⟩
    · exact pie_enum srcD_list I1 h1 h2
    · exact pie_enum srcD_tup I1 h1 h2

/-! ### zip of two -/
def yZip (xs ys : List V) (i : Nat) : List V := [xs.getD i .non, ys.getD i .non]
theorem turn_zipS {P : Program} {w : World} {K : PySem.W.Frag} {elts : List Expr} {kk : Nat} {tpos : Pos} {a b N : Addr} {xs ys : List V} {SH SH' : Hp → Prop} {o o' : Obj} {ItI ItI' : Addr → Nat → Heap → Prop} {Src Src' : Array Value → Heap → Prop}
    (D : SrcD P w K a xs SH o ItI Src) (D' : SrcD P w K b ys SH' o' ItI' Src') (h1 : a < N) (h2 : b < N) :
    Turn P w K (.Tuple elts kk tpos) (Jt (min xs.length ys.length) (fun H => SH H ∧ SH' H) (yZip xs ys)) [N + 4, N + 2, N + 3, N, N + 1] (N + 4)
      (fun i h => IsZip h (N + 4) (N + 2) (N + 3) .none ∧ IsTupOf2 h (N + 2) (.ref N) (.ref (N + 1)) ∧ (∃ a1 a2, IsTupOf2 h (N + 3) a1 a2) ∧ ItI N i h ∧ ItI' (N + 1) i h) :=
  turn_gn (ι := Array Value × Array Value) (Src := fun z h => Src z.1 h ∧ Src' z.2 h) (fp := fun _ => (N + 4) :: (N + 2) :: (N + 3) :: ([N, a] ++ [N + 1, b])) (wr := [N + 4, N + 3, N, N + 1]) (Y := fun z i h₀ v h => ∃ T x y, v = .ref T ∧ h₀.objs.size ≤ T ∧ z.1[i]? = some x ∧ z.2[i]? = some y ∧ h.IsTuple T #[x, y]) (by simp) (fun b hb => by simp at hb ⊢; rcases hb with z | z | z | z <;> simp [z])
    (fun i h st c hb => by
      obtain ⟨hz, hT, ⟨a1, a2, hO⟩, i1, i2⟩ := st
      have e' : c = N + 4 ∨ c = N + 2 ∨ c = N + 3 ∨ c = N ∨ c = N + 1 := by simpa using hb
      rcases e' with z | z | z | z | z
      · rw [z]; exact ⟨_, hz, fun v q => nomatch q⟩
      · rw [z]; exact ⟨_, hT, fun v q => nomatch q⟩
      · rw [z]; exact ⟨_, hO, fun v q => nomatch q⟩
      · rw [z]; exact D.obj N i h i1
      · rw [z]; exact D'.obj (N + 1) i h i2)
    (fun i h h' st k => by
      obtain ⟨hz, hT, ⟨a1, a2, hO⟩, i1, i2⟩ := st
      exact ⟨k _ (by simp) _ hz, k _ (by simp) _ hT, ⟨a1, a2, k _ (by simp) _ hO⟩, D.keep N i h h' i1 fun o q => k N (by simp) o q, D'.keep (N + 1) i h h' i2 fun o q => k (N + 1) (by simp) o q⟩)
    (fun X pins s σ H hP hw hK I q => by
      obtain ⟨its, hs, rv⟩ := D.src X pins s σ H hP hw hK I q.1
      obtain ⟨its', hs', rv'⟩ := D'.src X pins s σ H hP hw hK I q.2
      have hl : its.size = xs.length := by rw [rv.length]; simp
      have hl' : its'.size = ys.length := by rw [rv'.length]; simp
      refine ⟨(its, its'), ⟨hs, hs'⟩, fun A hh => ?_, fun i v h0 h' hi hy => ?_⟩
      · have G := GoesN.zip2 (elts := elts) (x1 := kk) (pos := tpos) (zip_sep2 (N := N) (fp1 := [a]) (fp2 := [b]) (by simpa using h1) (by simpa using h2)) (D.draws A.in1 hh N (Nat.ne_of_lt h1) its) (D'.draws A.in1 hh (N + 1) (Nat.ne_of_lt (Nat.lt_succ_of_lt h2)) its')
        rw [hl, hl'] at G
        exact goesN_st G fun i h => ⟨fun ⟨a, b, c, ⟨d1, d2⟩, e1, e2⟩ => ⟨⟨a, b, c, d1, e1⟩, d2, e2⟩, fun ⟨⟨a, b, c, d1, e1⟩, d2, e2⟩ => ⟨a, b, c, ⟨d1, d2⟩, e1, e2⟩⟩
      · obtain ⟨T, x, y, rfl, hT, hx, hy', hTup⟩ := hy
        have hi1 : i < xs.length := by omega
        have hi2 : i < ys.length := by omega
        have hxs : xs[i]? = some xs[i] := List.getElem?_eq_getElem hi1
        have hys : ys[i]? = some ys[i] := List.getElem?_eq_getElem hi2
        obtain ⟨u, hu, ru⟩ := rv.get hxs
        obtain ⟨u', hu', ru'⟩ := rv'.get hys
        have e1 : u = x := by
          have : its[i]? = some u := by simpa using hu
          rw [this] at hx; exact Option.some.inj hx
        have e2 : u' = y := by
          have : its'[i]? = some u' := by simpa using hu'
          rw [this] at hy'; exact Option.some.inj hy'
        subst e1 e2
        refine ⟨T, _, rfl, hT, hTup, .cons ?_ (.cons ?_ .nil)⟩
        · rw [List.getD_eq_getElem?_getD, hxs]; exact ru
        · rw [List.getD_eq_getElem?_getD, hys]; exact ru')
    (fun A i s Q E st h => wpAny_pyIter_zip st.1 h)
    (fun i => by show 2 ≤ sizeLine; decide)
def SeqAny (K : PySem.W.Frag) (a : Addr) (xs : List V) (H1 : Hp) (k : (Hp → Prop) → Prop) : Prop := (SqL K H1 a xs ∧ k fun H => SqL K H a xs) ∨ (SqT K H1 a xs ∧ k fun H => SqT K H a xs)
def iOver2 (K : PySem.W.Frag) (ta : TA) (J : List V → List V → (Hp → Prop) → It) : TI := fun σ H R => ta σ H fun vs H1 => ∃ a b xs ys, vs = [.ref a, .ref b] ∧ SeqAny K a xs H1 fun SH => SeqAny K b ys H1 fun SH' => R (J xs ys fun H => SH H ∧ SH' H) H1
theorem pie_zip {X : Cx} {pins : List (Addr × Obj)} {σ : L2.St} {H1 : Hp} {s1 : Shared} {a b : Addr} {xs ys : List V} {SH SH' : Hp → Prop} {o o' : Obj} {ItI ItI' : Addr → Nat → Heap → Prop} {Src Src' : Array Value → Heap → Prop} {elts : List Expr} {kk : Nat} {tpos : Pos} {R : It → Hp → Prop}
    (D : SrcD X.prog X.w X.K a xs SH o ItI Src) (D' : SrcD X.prog X.w X.K b ys SH' o' ItI' Src') (I1 : Inv X pins σ H1 s1) (q : SH H1) (q' : SH' H1) (r : R (Jt (min xs.length ys.length) (fun H => SH H ∧ SH' H) (yZip xs ys)) H1) :
    wpAny (model X.prog X.w) X.A (call (.type "zip") [.ref a, .ref b]) (fun v s2 => wpAny (model X.prog X.w) X.A (pyIter v) (PIE X pins σ (.Tuple elts kk tpos) R) X.xe s2) X.xe s1 := by
  obtain ⟨its, hs, rv⟩ := D.src X pins s1 σ H1 rfl rfl rfl I1 q
  obtain ⟨its', hs', rv'⟩ := D'.src X pins s1 σ H1 rfl rfl rfl I1 q'
  have hlt := D.lt its _ hs
  have hlt' := D'.lt its' _ hs'
  refine zip_begins2 (D.begins its) (D'.begins its') hs hs' fun h' hz hT hO i1 i2 hsz hk => wpAny_pyIter_zip hz ?_
  have I2 : Inv X pins σ H1 { s1 with heap := h' } := I1.kept (t' := s1.toks) hk
  refine ⟨s1.heap.objs.size + 4, [s1.heap.objs.size + 4, s1.heap.objs.size + 2, s1.heap.objs.size + 3, s1.heap.objs.size, s1.heap.objs.size + 1], _, _, H1, rfl, I2, turn_zipS D D' hlt hlt', ⟨hz, hT, ⟨_, _, hO⟩, D.init _ _ i1, D'.init _ _ i2⟩, fun c hb => ?_, r⟩
  have e' : c = s1.heap.objs.size + 4 ∨ c = s1.heap.objs.size + 2 ∨ c = s1.heap.objs.size + 3 ∨ c = s1.heap.objs.size ∨ c = s1.heap.objs.size + 1 := by simpa using hb
  have hle : s1.heap.objs.size ≤ c := by
    rcases e' with z | z | z | z | z
    · rw [z]; exact Nat.le_add_right _ _
    · rw [z]; exact Nat.le_add_right _ _
    · rw [z]; exact Nat.le_add_right _ _
    · rw [z]; exact Nat.le_refl _
    · rw [z]; exact Nat.le_add_right _ _
  exact I1.fpOk hle (I1.hok.fresh hle)
theorem pi_zipS {X : Cx} {e e2 : Expr} {ta : TA} {p pos tpos : Pos} {elts : List Expr} {kk : Nat} (hg : Gl X "zip") (hm : X.mg "zip" = none) (ha : PA X [e, e2] ta)
    (hs : starEach [e, e2] X.env = (false, eval e X.env) :: starEach [e2] X.env := by rfl) (hpl : (backTo pos (starEach [e2] X.env)).any (·.1) = false := by rfl) :
    PI X (.Tuple elts kk tpos) (.Call (.Name "zip" p) [e, e2] [] pos) (iOver2 X.K ta fun xs ys SH => Jt (min xs.length ys.length) SH (yZip xs ys)) := by
  refine ⟨fun pins s σ H R I h => ?_⟩
  refine Call_ (ld_blt I hg hm PyProof.Rows.boot_zip (PyProof.Rows.callWith_type1 (thn (ha.run pos pins s σ H _ I h) fun us s1 ⟨vs, H1, I1, r1, q1⟩ => ?_) hs hpl))
  obtain ⟨a, b, xs, ys, ex, hq⟩ := q1
  subst ex
  cases r1 with
  | cons r rr =>
    cases rr with
    | cons r' rr =>
      cases rr
      cases r
      cases r'
      rcases hq with ⟨h1, h2⟩ | ⟨h1, h2⟩
      · rcases h2 with ⟨h3, h4⟩ | ⟨h3, h4⟩
        · exact pie_zip srcD_list srcD_list I1 h1 h3 h4
        · exact pie_zip srcD_list srcD_tup I1 h1 h3 h4
      · rcases h2 with ⟨h3, h4⟩ | ⟨h3, h4⟩
        · exact pie_zip srcD_tup srcD_list I1 h1 h3 h4
        · exact pie_zip srcD_tup srcD_tup I1 h1 h3 h4
end FL
namespace FL
open PySem L2

section
variable {K : PySem.W.Frag} {S0 S H : Hp}
/-! ### walks over what stands -/
theorem walks_list {a : Addr} {vs : List V} {ds : List D} (h : S0 a = some (.lst vs)) (r : Reps K S0 vs ds) : Walks K (Itl K a) S0 ds where
  goes := fun S H i s1 s2 hi => ⟨vs, vs[i]'(by rw [r.length]; exact hi), .inl (.inl (s2 _ _ (s1 _ _ h))), by simp⟩
  stops := fun S H s1 s2 => ⟨vs, .inl (.inl (s2 _ _ (s1 _ _ h))), by rw [r.length]; exact Nat.le_refl _⟩
  gives := fun S H i x H' s1 s2 hi ⟨e, hy⟩ => by
    subst e
    obtain ⟨d, h1, h2⟩ := r.getV (hy vs (.inl (.inl (s2 _ _ (s1 _ _ h)))))
    exact ⟨S, d, h1, h2.mono s1, fun _ _ e => e, fun _ _ e => e, s2, fun _ e _ => e⟩
theorem walks_tup {a : Addr} {ds : List D} (r : Rep K S0 (.ref a) (.tup ds)) : Walks K (Itt K a) S0 ds where
  goes := fun S H i s1 s2 hi => by
    obtain ⟨b, vs, e, h1, h2⟩ := See.tup (.of (r.mono s1)) s2
    cases e
    exact ⟨vs, vs[i]'(by rw [h2.length]; exact hi), h1, by simp⟩
  stops := fun S H s1 s2 => by
    obtain ⟨b, vs, e, h1, h2⟩ := See.tup (.of (r.mono s1)) s2
    cases e
    exact ⟨vs, h1, by rw [h2.length]; exact Nat.le_refl _⟩
  gives := fun S H i x H' s1 s2 hi ⟨e, hy⟩ => by
    subst e
    obtain ⟨b, vs, e, h1, h2⟩ := See.tup (.of (r.mono s1)) s2
    cases e
    obtain ⟨d, h3, h4⟩ := h2.getV (hy vs h1)
    exact ⟨S, d, h3, h4, fun _ _ e => e, fun _ _ e => e, s2, fun _ e _ => e⟩
def signs (z : Str) : List D := z.cps.toList.map fun c => .str ⟨#[c]⟩
theorem walks_str {z : Str} : Walks K (Its z) S0 (signs z) where
  goes := fun S H i s1 s2 hi => by simpa [signs, Its] using hi
  stops := fun S H s1 s2 => by simp [signs, Its]
  gives := fun S H i x H' s1 s2 hi ⟨e, c, h1, h2⟩ => by
    subst e h2
    refine ⟨S, .str ⟨#[c]⟩, ?_, .str _, fun _ _ e => e, fun _ _ e => e, s2, fun _ e _ => e⟩
    simp [signs, h1]
def rgD (lo c : Int) (n : Nat) : List D := (List.range n).map fun (i : Nat) => D.int (lo + (i : Int) * c)
def rg1 (n : Nat) : List D := (List.range n).map fun (i : Nat) => D.int (i : Int)
def rg2 (lo : Int) (n : Nat) : List D := (List.range n).map fun (i : Nat) => D.int (lo + (i : Int))
theorem walks_range {lo : Int} {n : Nat} {ds : List D} (hl : ds.length = n) (hd : ∀ i, i < n → ds[i]? = some (.int (lo + (i : Int)))) : Walks K (Itr lo n) S0 ds where
  goes := fun S H i s1 s2 hi => by rw [hl] at hi; exact hi
  stops := fun S H s1 s2 => by rw [hl]; exact Nat.le_refl _
  gives := fun S H i x H' s1 s2 hi ⟨e, h1⟩ => by
    subst e h1
    exact ⟨S, _, hd i (by rw [← hl]; exact hi), .int _, fun _ _ e => e, fun _ _ e => e, s2, fun _ e _ => e⟩
theorem walks_rangeC {lo c : Int} {n : Nat} : Walks K (Itc lo c n) S0 (rgD lo c n) where
  goes := fun S H i s1 s2 hi => by simpa [rgD, Itc] using hi
  stops := fun S H s1 s2 => by simp [rgD, Itc]
  gives := fun S H i x H' s1 s2 hi ⟨e, h1⟩ => by
    subst e h1
    refine ⟨S, .int (lo + (i : Int) * c), ?_, .int _, fun _ _ e => e, fun _ _ e => e, s2, fun _ e _ => e⟩
    have hi' : i < n := by simpa [rgD] using hi
    simp [rgD, hi']
/-- new tuples -/
theorem walks_new {n : Nat} {SH : Hp → Prop} {ys : Nat → List V} {ds : List D} (hl : ds.length = n) (hs : ∀ S H, Same S0 S → Same S H → SH H) (hd : ∀ i, i < n → ∃ es, ds[i]? = some (.tup es) ∧ Reps K S0 (ys i) es) : Walks K (Jt n SH ys) S0 ds where
  goes := fun S H i s1 s2 hi => ⟨by rw [← hl]; exact hi, hs S H s1 s2⟩
  stops := fun S H s1 s2 => ⟨hl, hs S H s1 s2⟩
  gives := fun S H i x H' s1 s2 hi ⟨T, e1, hT, e2⟩ => by
    subst e1 e2
    obtain ⟨es, h1, h2⟩ := hd i (by rw [← hl]; exact hi)
    have hST : S T = none := none_of s2 hT
    exact ⟨upd S T (.tup (ys i)), .tup es, h1, .tup upd_same ((h2.mono s1).mono (same_new hST)), same_new hST, same_new hT, same_both s2, fun b e n => by rw [upd_ne (fun z => n.ne (by rw [z]; exact hT))]; exact e⟩
end

def itSeq (f : Ev) : Iv := fun ρ => (f ρ).bind fun p => (take p.2 p.1).bind fun z => match z.1 with
  | .lst ds => some (ds, z.2)
  | .tup ds => some (ds, z.2)
  | .str x => some (signs x, z.2)
  | _ => none
def itRg1 (f : Ev) : Iv := fun ρ => (f ρ).bind fun p => match p.1 with
  | .val (.int n) => if -1000000 ≤ n ∧ n ≤ 1000000 then some (rg1 n.toNat, p.2) else none
  | _ => none
def itRg2 (f g : Ev) : Iv := fun ρ => (f ρ).bind fun p => (g p.2).bind fun q => match p.1, q.1 with
  | .val (.int m), .val (.int n) => if -1000000 ≤ m ∧ m ≤ 1000000 ∧ -1000000 ≤ n ∧ n ≤ 1000000 then some (rg2 m (n - m).toNat, q.2) else none
  | _, _ => none
def itRg3 (f g h : Ev) : Iv := fun ρ => (f ρ).bind fun p => (g p.2).bind fun q => (h q.2).bind fun t => match p.1, q.1, t.1 with
  | .val (.int m), .val (.int n), .val (.int c) => if c ≠ 0 ∧ c.natAbs < 1073741824 ∧ Builtin.Range.small m n c = true ∧ 0 ≤ Builtin.Range.rangeSize m n c then some (rgD m c (Builtin.Range.rangeSize m n c).toNat, t.2) else none
  | _, _, _ => none
def seqOf : D → Option (List D)
  | .lst ds => some ds
  | .tup ds => some ds
  | _ => none
def enumD (ds : List D) : List D := (List.range ds.length).map fun (i : Nat) => D.tup [.int (i : Int), ds.getD i .non]
theorem enumD_get {ds : List D} {i : Nat} (h : i < ds.length) : (enumD ds)[i]? = some (.tup [.int (i : Int), ds.getD i .non]) := by
  unfold enumD; rw [List.getElem?_map, List.getElem?_range h]; rfl
def itEnum (f : Ev) : Iv := fun ρ => (f ρ).bind fun p => (take p.2 p.1).bind fun z => (seqOf z.1).map fun ds => (enumD ds, z.2)
def zipD (xs ys : List D) : List D := (List.range (min xs.length ys.length)).map fun (i : Nat) => D.tup [xs.getD i .non, ys.getD i .non]
theorem zipD_get {xs ys : List D} {i : Nat} (h : i < min xs.length ys.length) : (zipD xs ys)[i]? = some (.tup [xs.getD i .non, ys.getD i .non]) := by
  unfold zipD; rw [List.getElem?_map, List.getElem?_range h]; rfl
def itZip (f g : Ev) : Iv := fun ρ => (evs [f, g] ρ).bind fun p => (takes p.2 p.1).bind fun z => match z.1 with
  | [x, y] => (seqOf x).bind fun xs => (seqOf y).map fun ys => (zipD xs ys, z.2)
  | _ => none

section
variable {X : Cx} {e a b c tg : Expr} {es rest : List Expr} {f g h : Ev} {fs : List Ev} {pos p : Pos}
theorem vi_seq (he : VE X e f) : VI X tg e (itSeq f) := (PI.or (pi_list he) (PI.or (pi_tup he) (pi_str he))).imp fun σ H R q => by
  obtain ⟨S, ρ, ds, ρ', E, e, k⟩ := q
  obtain ⟨p, e1, e2⟩ := bind_some e
  obtain ⟨z, e3, e4⟩ := bind_some e2
  have key : ∀ v S1 H1, Cur X.K σ ρ S H [v] [p.1] p.2 S1 H1 → ∃ S2, Same S1 S2 ∧ Rep X.K S2 v z.1 ∧ Env X.K S2 σ H1 z.2 ∧ Go σ ρ S H σ z.2 S2 H1 := fun v S1 H1 c => by
    obtain ⟨S2, s12, r, c2⟩ := c.take (d := z.1) (ρ2 := z.2) e3
    exact ⟨S2, s12, r, c2.env, c2.go⟩
  split at e4
  · rename_i ds' hz
    cases e4
    refine .inl ⟨S, ρ, p.1, p.2, E, e1, fun v S1 H1 c => ?_⟩
    obtain ⟨S2, s12, r, E2, G2⟩ := key v S1 H1 c
    rw [hz] at r
    cases r with
    | lst h1 h2 => exact ⟨_, rfl, ⟨_, .inl (.inl (E2.ex _ _ h1))⟩, k S2 H1 _ E2 G2 (walks_list h1 h2)⟩
  · rename_i ds' hz
    cases e4
    refine .inr (.inl ⟨S, ρ, p.1, p.2, E, e1, fun v S1 H1 c => ?_⟩)
    obtain ⟨S2, s12, r, E2, G2⟩ := key v S1 H1 c
    rw [hz] at r
    obtain ⟨a, vs, rfl, h1, h2⟩ := See.tup (.of r) E2.ex
    exact ⟨a, rfl, ⟨vs, h1⟩, k S2 H1 _ E2 G2 (walks_tup r)⟩
  · rename_i x hz
    cases e4
    refine .inr (.inr ⟨S, ρ, p.1, p.2, E, e1, fun v S1 H1 c => ?_⟩)
    obtain ⟨S2, s12, r, E2, G2⟩ := key v S1 H1 c
    rw [hz] at r
    cases r
    exact ⟨x, rfl, k S2 H1 _ E2 G2 walks_str⟩
  · cases e4
theorem vi_rg1 {x : Expr} (hg : Gl X "range") (hm : X.mg "range" = none) (ha : VE X x f) (hs : starEach [x] X.env = [(false, eval x X.env)] := by rfl) : VI X tg (.Call (.Name "range" p) [x] [] pos) (itRg1 f) :=
  (pi_range1 hg hm (pa_cons ha pa_nil hs) hs).imp fun σ H R q => by
    obtain ⟨S, ρ, ds, ρ', E, e, k⟩ := q
    obtain ⟨p, e1, e2⟩ := bind_some e
    refine ⟨S, ρ, p.1, p.2, E, e1, fun v S1 H1 c => ?_⟩
    split at e2
    · rename_i n h1
      split at e2
      · rename_i hb
        cases e2
        have q := c.rep1
        rw [h1] at q
        cases q
        refine ⟨n, rfl, by omega, by omega, k S1 H1 _ c.env c.go (walks_range (by simp [rg1]) fun i hi => ?_)⟩
        simp [rg1, hi]
      · cases e2
    · cases e2
theorem vi_rg2 {x y : Expr} (hg : Gl X "range") (hm : X.mg "range" = none) (ha : VE X x f) (hb : VE X y g) (hs : starEach [x, y] X.env = [(false, eval x X.env), (false, eval y X.env)] := by rfl) (hs2 : starEach [y] X.env = [(false, eval y X.env)] := by rfl) :
    VI X tg (.Call (.Name "range" p) [x, y] [] pos) (itRg2 f g) :=
  (pi_range2 hg hm (pa_cons ha (pa_cons hb pa_nil hs2) (by rw [hs, hs2])) hs hs2).imp fun σ H R q => by
    obtain ⟨S, ρ, ds, ρ', E, e, k⟩ := q
    obtain ⟨p, e1, e2⟩ := bind_some e
    obtain ⟨p2, e3, e4⟩ := bind_some e2
    refine bin (G := fun u v H2 => ∃ i j : Int, [u, v] = [V.int i, V.int j] ∧ (-(2 ^ 62) ≤ i ∧ i < 2 ^ 62 ∧ -(2 ^ 62) ≤ j ∧ j < 2 ^ 62) ∧ R (Itr i (j - i).toNat) H2) E e1 e3 fun u v S2 H2 c => ?_
    split at e4
    · rename_i m n h1 h2
      split at e4
      · rename_i hb
        cases e4
        cases c.rep with
        | cons hu _ ht =>
          cases ht with
          | cons hv _ _ =>
            rw [h1] at hu
            rw [h2] at hv
            cases hu
            cases hv
            refine ⟨m, n, rfl, ⟨by omega, by omega, by omega, by omega⟩, k S2 H2 _ c.env c.go (walks_range (by simp [rg2]) fun i hi => ?_)⟩
            simp [rg2, hi]
      · cases e4
    · cases e4
theorem vi_rg3 {x y z : Expr} (hg : Gl X "range") (hm : X.mg "range" = none) (ha : VE X x f) (hb : VE X y g) (hc : VE X z h)
    (hs : starEach [x, y, z] X.env = (false, eval x X.env) :: starEach [y, z] X.env := by rfl) (hs2 : starEach [y, z] X.env = (false, eval y X.env) :: starEach [z] X.env := by rfl) (hs3 : starEach [z] X.env = (false, eval z X.env) :: starEach [] X.env := by rfl)
    (hpl : (backTo pos (starEach [y, z] X.env)).any (·.1) = false := by rfl) : VI X tg (.Call (.Name "range" p) [x, y, z] [] pos) (itRg3 f g h) :=
  (pi_range3 hg hm (pa_cons ha (pa_cons hb (pa_cons hc pa_nil hs3) hs2) hs) hs hpl).imp fun σ H R q => by
    obtain ⟨S, ρ, ds, ρ', E, e, k⟩ := q
    obtain ⟨p, e1, e2⟩ := bind_some e
    obtain ⟨p2, e3, e4⟩ := bind_some e2
    obtain ⟨p3, e5, e6⟩ := bind_some e4
    refine bin (G := fun u v H2 => tV X.K h σ H2 fun w H3 => ∃ (i j c : Int) (n : Nat), [u, v, w] = [V.int i, V.int j, V.int c] ∧ RgC i j c n ∧ R (Itc i c n) H3) E e1 e3 fun u v S2 H2 c => ?_
    refine ⟨S2, p2.2, p3.1, p3.2, c.env, e5, fun w S3 H3 c3 => ?_⟩
    split at e6
    · rename_i m n cc h1 h2 h3
      split at e6
      · rename_i hb
        cases e6
        cases c.rep with
        | cons hu _ ht =>
          cases ht with
          | cons hv _ _ =>
            rw [h1] at hu
            rw [h2] at hv
            have hw := c3.rep1
            rw [h3] at hw
            cases hu
            cases hv
            cases hw
            exact ⟨m, n, cc, _, rfl, ⟨hb.1, hb.2.1, hb.2.2.1, (Int.toNat_of_nonneg hb.2.2.2).symm⟩, k S3 H3 _ c3.env (c.go.trans c3.go) walks_rangeC⟩
      · cases e6
    · cases e6
theorem getD_some {α : Type} {xs : List α} {i : Nat} {d : α} (h : i < xs.length) : xs[i]? = some (xs.getD i d) := by
  rw [List.getD_eq_getElem?_getD, List.getElem?_eq_getElem h]; rfl
theorem reps_getD {K : PySem.W.Frag} {S : Hp} {vs : List V} {ds : List D} (r : Reps K S vs ds) {i : Nat} (h : i < ds.length) : Rep K S (vs.getD i .non) (ds.getD i .non) := by
  obtain ⟨v, h1, h2⟩ := r.get (getD_some (d := .non) h)
  rw [List.getD_eq_getElem?_getD, h1]
  exact h2
theorem seq_any {K : PySem.W.Frag} {S : Hp} {v : V} {d : D} {ds : List D} (h : seqOf d = some ds) (r : Rep K S v d) : ∃ a vs, v = .ref a ∧ Reps K S vs ds ∧ ∀ (H : Hp) (k : (Hp → Prop) → Prop), Same S H → (∀ SH : Hp → Prop, (∀ S' H', Same S S' → Same S' H' → SH H') → k SH) → SeqAny K a vs H k := by
  cases d with
  | lst ds' =>
    cases h
    cases r with
    | lst e q => exact ⟨_, _, rfl, q, fun H k ex hk => .inl ⟨.inl (.inl (ex _ _ e)), hk _ fun S' H' s1 s2 => .inl (.inl (s2 _ _ (s1 _ _ e)))⟩⟩
  | tup ds' =>
    cases h
    cases r with
    | tup e q => exact ⟨_, _, rfl, q, fun H k ex hk => .inr ⟨.inl (.inl (ex _ _ e)), hk _ fun S' H' s1 s2 => .inl (.inl (s2 _ _ (s1 _ _ e)))⟩⟩
    | con e =>
      have up : ∀ H, SqT K H _ overV := fun H => e.elim (fun z => by rcases z with z | ⟨_, z⟩ <;> exact absurd z (by simp)) .inr
      exact ⟨_, _, rfl, over_reps, fun H k ex hk => .inr ⟨up H, hk _ fun S' H' s1 s2 => up H'⟩⟩
  | _ => cases h
theorem vi_enum {x : Expr} {tpos : Pos} {elts : List Expr} {kk : Nat} (hg : Gl X "enumerate") (hm : X.mg "enumerate" = none) (ha : VE X x f) (hs : starEach [x] X.env = [(false, eval x X.env)] := by rfl) :
    VI X (.Tuple elts kk tpos) (.Call (.Name "enumerate" p) [x] [] pos) (itEnum f) := (pi_enumA hg hm (pa_cons ha pa_nil hs) hs).imp fun σ H R q => by
  obtain ⟨S, ρ, ds, ρ', E, e, k⟩ := q
  obtain ⟨p, e1, e2⟩ := bind_some e
  obtain ⟨z, e3, e4⟩ := bind_some e2
  obtain ⟨ds', e5, e6⟩ := map_some e4
  cases e6
  refine ⟨S, ρ, p.1, p.2, E, e1, fun v S1 H1 c => ?_⟩
  obtain ⟨S2, s12, r, c2⟩ := c.take (d := z.1) (ρ2 := z.2) e3
  obtain ⟨a, vs, rfl, hr, hq⟩ := seq_any e5 r
  have fin : ∀ SH : Hp → Prop, (∀ S' H', Same S2 S' → Same S' H' → SH H') → R (Jt vs.length SH (yEnum vs)) H1 := fun SH hSH => k S2 H1 _ c2.env c2.go (walks_new (by simp [enumD, hr.length]) hSH fun i hi => by
    rw [hr.length] at hi
    exact ⟨_, enumD_get hi, .cons (.int _) (.cons (reps_getD hr hi) .nil)⟩)
  exact ⟨a, vs, rfl, hq H1 _ c2.env.ex fin⟩
theorem vi_zip {x y : Expr} {tpos : Pos} {elts : List Expr} {kk : Nat} (hg : Gl X "zip") (hm : X.mg "zip" = none) (ha : VE X x f) (hb : VE X y g)
    (hs : starEach [x, y] X.env = (false, eval x X.env) :: starEach [y] X.env := by rfl) (hs2 : starEach [y] X.env = (false, eval y X.env) :: starEach [] X.env := by rfl) (hpl : (backTo pos (starEach [y] X.env)).any (·.1) = false := by rfl) :
    VI X (.Tuple elts kk tpos) (.Call (.Name "zip" p) [x, y] [] pos) (itZip f g) := (pi_zipS hg hm (va_cons ha (va_cons hb va_nil hs2) hs) hs hpl).imp fun σ H R q => by
  obtain ⟨S, ρ, ds, ρ', E, e, k⟩ := q
  obtain ⟨p, e1, e2⟩ := bind_some e
  obtain ⟨z, e3, e4⟩ := bind_some e2
  refine ⟨S, ρ, p.1, p.2, E, e1, fun vs S1 H1 c => ?_⟩
  obtain ⟨S2, s12, r, c2⟩ := c.takes e3
  split at e4
  · rename_i d1 d2 hz
    obtain ⟨xs, e5, e6⟩ := bind_some e4
    obtain ⟨ys, e7, e8⟩ := map_some e6
    cases e8
    rw [hz] at r
    cases r with
    | cons r1 rt =>
      cases rt with
      | cons r2 rn =>
        cases rn
        obtain ⟨a, us, rfl, hr, hq⟩ := seq_any e5 r1
        obtain ⟨b, ws, rfl, hr', hq'⟩ := seq_any e7 r2
        refine ⟨a, b, us, ws, rfl, hq H1 _ c2.env.ex fun SH hSH => hq' H1 _ c2.env.ex fun SH' hSH' => ?_⟩
        refine k S2 H1 _ c2.env c2.go (walks_new (by simp [zipD, hr.length, hr'.length]) (fun S' H' s1 s2 => ⟨hSH S' H' s1 s2, hSH' S' H' s1 s2⟩) fun i hi => ?_)
        rw [hr.length, hr'.length] at hi
        have h1 := reps_getD hr (i := i) (by omega)
        have h2 := reps_getD hr' (i := i) (by omega)
        exact ⟨_, zipD_get hi, .cons h1 (.cons h2 .nil)⟩
  · cases e4
end

/-! ### built-ins -/
def intsOf : List D → Option (List Int)
  | [] => some []
  | .int i :: ds => (intsOf ds).map fun ns => i :: ns
  | _ => none
def maxI : List Int → Int
  | [] => 0
  | [x] => x
  | x :: y :: r => max x (maxI (y :: r))
def minI : List Int → Int
  | [] => 0
  | [x] => x
  | x :: y :: r => min x (minI (y :: r))
theorem maxI_mem : ∀ {ns : List Int}, ns ≠ [] → maxI ns ∈ ns ∧ ∀ y ∈ ns, y ≤ maxI ns
  | [x], _ => ⟨by simp [maxI], by simp [maxI]⟩
  | x :: y :: r, _ => by
    obtain ⟨h1, h2⟩ := maxI_mem (ns := y :: r) (by simp)
    rw [maxI]
    refine ⟨?_, fun z hz => ?_⟩
    · rcases Int.le_total x (maxI (y :: r)) with h | h
      · rw [Int.max_eq_right h]; exact List.mem_cons_of_mem _ h1
      · rw [Int.max_eq_left h]; exact List.mem_cons_self
    · rcases List.mem_cons.mp hz with rfl | hz
      · exact Int.le_max_left _ _
      · exact Int.le_trans (h2 z hz) (Int.le_max_right _ _)
theorem minI_mem : ∀ {ns : List Int}, ns ≠ [] → minI ns ∈ ns ∧ ∀ y ∈ ns, minI ns ≤ y
  | [x], _ => ⟨by simp [minI], by simp [minI]⟩
  | x :: y :: r, _ => by
    obtain ⟨h1, h2⟩ := minI_mem (ns := y :: r) (by simp)
    rw [minI]
    refine ⟨?_, fun z hz => ?_⟩
    · rcases Int.le_total x (minI (y :: r)) with h | h
      · rw [Int.min_eq_left h]; exact List.mem_cons_self
      · rw [Int.min_eq_right h]; exact List.mem_cons_of_mem _ h1
    · rcases List.mem_cons.mp hz with rfl | hz
      · exact Int.min_le_left _ _
      · exact Int.le_trans (Int.min_le_right _ _) (h2 z hz)
def sortI (ns : List Int) : List Int := ns.mergeSort fun a b => decide (a ≤ b)
theorem sortI_perm (ns : List Int) : (sortI ns).Perm ns := List.mergeSort_perm _ _
theorem sortI_sorted (ns : List Int) : (sortI ns).Pairwise (· ≤ ·) := (List.pairwise_mergeSort (fun a b c h1 h2 => by simp at *; omega) (fun a b => by simp; omega) ns).imp fun h => by simpa using h
section
variable {K : PySem.W.Frag} {S H : Hp}
theorem intsOf_rep : ∀ {ds : List D} {ns : List Int} {vs : List V}, intsOf ds = some ns → Reps K S vs ds → vs = ns.map V.int
  | [], _, _, h, r => by cases h; cases r; rfl
  | .int i :: ds, _, _, h, r => by
    rw [intsOf] at h
    obtain ⟨ns', h1, rfl⟩ := map_some h
    cases r with
    | cons r1 rt => cases r1; rw [List.map_cons, intsOf_rep h1 rt]
  | .non :: _, _, _, h, _ => by cases h
  | .bl _ :: _, _, _, h, _ => by cases h
  | .str _ :: _, _, _, h, _ => by cases h
  | .tup _ :: _, _, _, h, _ => by cases h
  | .lst _ :: _, _, _, h, _ => by cases h
  | .dic _ :: _, _, _, h, _ => by cases h
  | .scr _ :: _, _, _, h, _ => by cases h
theorem Sees.one {vs : List V} {d : D} (h : Sees K S H vs [d]) : ∃ v, vs = [v] ∧ See K S H v d := by
  cases h with | cons a t => cases t; exact ⟨_, rfl, a⟩
theorem Sees.two {vs : List V} {d e : D} (h : Sees K S H vs [d, e]) : ∃ v u, vs = [v, u] ∧ See K S H v d ∧ See K S H u e := by
  cases h with | cons a t => cases t with | cons b t => cases t; exact ⟨_, _, rfl, a, b⟩
def oLen : List D → Option R
  | [.lst ds] => some (.val (.int ds.length))
  | [.tup ds] => some (.val (.int ds.length))
  | [.str x] => if x.length ≤ cap then some (.val (.int x.length)) else none
  | _ => none
def rLenA (K : PySem.W.Frag) : List V → Hp → VK → Prop := fun xs H Q => (∃ p ys, xs = [.ref p] ∧ (SqL K H p ys ∨ SqT K H p ys) ∧ Q (.int ys.length) H) ∨ ∃ z, xs = [.str z] ∧ z.length ≤ sizeLine ∧ Q (.int z.length) H
theorem c_len {X : Cx} : CallR X (.builtin "len") (rLenA X.K) := CallR.or call_len_seq call_len_str
theorem s_len : SoundN K (rLenA K) oLen := fun S H vs ds res ex s e Q k => by
  unfold oLen at e
  split at e
  · cases e
    obtain ⟨v, rfl, s1⟩ := s.one
    obtain ⟨a, us, rfl, h1, h2⟩ := s1.lst' ex
    refine .inl ⟨a, us, rfl, .inl (.inl (.inl h1)), ?_⟩
    rw [h2.length]; exact k _ _ _ (.flat ex (.int _))
  · cases e
    obtain ⟨v, rfl, s1⟩ := s.one
    obtain ⟨a, us, rfl, h1, h2⟩ := s1.tup ex
    refine .inl ⟨a, us, rfl, .inr h1, ?_⟩
    rw [h2.length]; exact k _ _ _ (.flat ex (.int _))
  · split at e
    · rename_i hz
      cases e
      obtain ⟨v, rfl, s1⟩ := s.one
      rw [s1.str]
      exact .inr ⟨_, rfl, cap_le hz, k _ _ _ (.flat ex (.int _))⟩
    · cases e
  · cases e
def oSum : List D → Option R
  | [.lst ds] => (intsOf ds).map fun ns => .val (.int ns.sum)
  | _ => none
theorem s_sum : SoundN K (rSum K) oSum := fun S H vs ds res ex s e Q k => by
  unfold oSum at e
  split at e
  · obtain ⟨ns, h, rfl⟩ := map_some e
    obtain ⟨v, rfl, s1⟩ := s.one
    obtain ⟨a, us, rfl, h1, h2⟩ := s1.lst' ex
    exact ⟨a, ns, rfl, by rw [← intsOf_rep h h2]; exact .inl (.inl h1), k _ _ _ (.flat ex (.int _))⟩
  · cases e
/-- sum of a tuple: the same by the tuple's own rule -/
def oMax : List D → Option R
  | [.int i, .int j] => some (.val (.int (if j > i then j else i)))
  | [.lst ds] => (intsOf ds).bind fun ns => if ns.isEmpty then none else some (.val (.int (maxI ns)))
  | _ => none
def rMaxA (K : PySem.W.Frag) : List V → Hp → VK → Prop := fun xs H Q => (∃ i j, xs = [.int i, .int j] ∧ Q (.int (if j > i then j else i)) H) ∨ rMax K xs H Q
theorem c_max {X : Cx} (hc : X.calm = true) : CallR X (.builtin "max") (rMaxA X.K) := CallR.or (call_max2 hc) (cr_max hc)
theorem s_max : SoundN K (rMaxA K) oMax := fun S H vs ds res ex s e Q k => by
  unfold oMax at e
  split at e
  · cases e
    obtain ⟨v, u, rfl, s1, s2⟩ := s.two
    rw [s1.int, s2.int]
    exact .inl ⟨_, _, rfl, k _ _ _ (.flat ex (.int _))⟩
  · obtain ⟨ns, h, e2⟩ := bind_some e
    split at e2
    · cases e2
    · rename_i hne
      cases e2
      have hne' : ns ≠ [] := by simpa using hne
      obtain ⟨v, rfl, s1⟩ := s.one
      obtain ⟨a, us, rfl, h1, h2⟩ := s1.lst' ex
      refine .inr ⟨a, ns, rfl, by rw [← intsOf_rep h h2]; exact .inl (.inl h1), List.length_pos_iff.mpr hne', fun m hm hle => ?_⟩
      obtain ⟨q1, q2⟩ := maxI_mem hne'
      have : m = maxI ns := Int.le_antisymm (q2 m hm) (hle _ q1)
      rw [this]; exact k _ _ _ (.flat ex (.int _))
  · cases e
def oMin : List D → Option R
  | [.int i, .int j] => some (.val (.int (if j < i then j else i)))
  | [.lst ds] => (intsOf ds).bind fun ns => if ns.isEmpty then none else some (.val (.int (minI ns)))
  | _ => none
def rMinA (K : PySem.W.Frag) : List V → Hp → VK → Prop := fun xs H Q => (∃ i j, xs = [.int i, .int j] ∧ Q (.int (if j < i then j else i)) H) ∨ rMin K xs H Q
theorem c_min {X : Cx} (hc : X.calm = true) : CallR X (.builtin "min") (rMinA X.K) := CallR.or (call_min2 hc) (cr_min hc)
theorem s_min : SoundN K (rMinA K) oMin := fun S H vs ds res ex s e Q k => by
  unfold oMin at e
  split at e
  · cases e
    obtain ⟨v, u, rfl, s1, s2⟩ := s.two
    rw [s1.int, s2.int]
    exact .inl ⟨_, _, rfl, k _ _ _ (.flat ex (.int _))⟩
  · obtain ⟨ns, h, e2⟩ := bind_some e
    split at e2
    · cases e2
    · rename_i hne
      cases e2
      have hne' : ns ≠ [] := by simpa using hne
      obtain ⟨v, rfl, s1⟩ := s.one
      obtain ⟨a, us, rfl, h1, h2⟩ := s1.lst' ex
      refine .inr ⟨a, ns, rfl, by rw [← intsOf_rep h h2]; exact .inl (.inl h1), List.length_pos_iff.mpr hne', fun m hm hle => ?_⟩
      obtain ⟨q1, q2⟩ := minI_mem hne'
      have : m = minI ns := Int.le_antisymm (hle _ q1) (q2 m hm)
      rw [this]; exact k _ _ _ (.flat ex (.int _))
  · cases e
def oSort : List D → Option R
  | [.lst ds] => (intsOf ds).map fun ns => .own (.lst ((sortI ns).map .int))
  | _ => none
theorem s_sort : SoundN K (rSortedI K) oSort := fun S H vs ds res ex s e Q k => by
  unfold oSort at e
  split at e
  · obtain ⟨ns, h, rfl⟩ := map_some e
    obtain ⟨v, rfl, s1⟩ := s.one
    obtain ⟨a, us, rfl, h1, h2⟩ := s1.lst' ex
    refine ⟨a, ns, rfl, by rw [← intsOf_rep h h2]; exact .inl (.inl h1), fun ns' p hp hs hn => ?_⟩
    rw [PySem.W.ksm_same (hp.trans (sortI_perm ns).symm) hs (sortI_sorted ns)]
    exact k _ _ _ (.lst ex hn (Reps.ints _))
  · cases e
def oList : List D → Option R
  | [.lst ds] => some (.own (.lst ds))
  | [.tup ds] => some (.own (.lst ds))
  | [.scr ns] => some (.own (.lst (ns.map .int)))
  | _ => none
theorem s_list : SoundN K (fun xs H Q => ∃ p ys, xs = [.ref p] ∧ (SqL K H p ys ∨ SqT K H p ys) ∧ ∀ l, H l = none → Q (.ref l) (upd H l (.lst ys))) oList := fun S H vs ds res ex s e Q k => by
  unfold oList at e
  split at e
  · cases e
    obtain ⟨v, rfl, s1⟩ := s.one
    obtain ⟨a, us, rfl, h1, h2⟩ := s1.lst' ex
    exact ⟨a, us, rfl, .inl (.inl (.inl h1)), fun l hl => k _ _ _ (.lst ex hl h2)⟩
  · cases e
    obtain ⟨v, rfl, s1⟩ := s.one
    obtain ⟨a, us, rfl, h1, h2⟩ := s1.tup ex
    exact ⟨a, us, rfl, .inr h1, fun l hl => k _ _ _ (.lst ex hl h2)⟩
  · cases e
    obtain ⟨v, rfl, s1⟩ := s.one
    obtain ⟨a, rfl, h1⟩ := s1.scr ex
    exact ⟨a, _, rfl, .inl h1, fun l hl => k _ _ _ (.lst ex hl (Reps.ints _))⟩
  · cases e
def oTuple : List D → Option R
  | [.lst ds] => some (.val (.tup ds))
  | [.tup ds] => some (.val (.tup ds))
  | _ => none
theorem s_tuple : SoundN K (fun xs H Q => ∃ p ys, xs = [.ref p] ∧ ((SqL K H p ys ∧ ∀ l, H l = none → Q (.ref l) (upd H l (.tup ys))) ∨ (SqT K H p ys ∧ Q (.ref p) H))) oTuple := fun S H vs ds res ex s e Q k => by
  unfold oTuple at e
  split at e
  · cases e
    obtain ⟨v, rfl, s1⟩ := s.one
    obtain ⟨a, us, rfl, h1, h2⟩ := s1.lst' ex
    exact ⟨a, us, rfl, .inl ⟨.inl (.inl h1), fun l hl => k _ _ _ (.tup ex hl h2)⟩⟩
  · cases e
    obtain ⟨v, rfl, s1⟩ := s.one
    have s2 := s1
    obtain ⟨a, us, rfl, h1, h2⟩ := s1.tup ex
    refine ⟨a, us, rfl, .inr ⟨h1, k _ _ _ (.flat ex ?_)⟩⟩
    cases s2 with | of r => exact r
  · cases e
def oInt : List D → Option R
  | [.int i] => some (.val (.int i))
  | [.bl b] => some (.val (.int (if b then 1 else 0)))
  | _ => none
theorem s_int : SoundN K (fun xs H Q => (∃ i, xs = [.int i] ∧ Q (.int i) H) ∨ ∃ k, xs = [.bl k] ∧ Q (.int (if k then 1 else 0)) H) oInt := fun S H vs ds res ex s e Q k => by
  unfold oInt at e
  split at e
  · cases e
    obtain ⟨v, rfl, s1⟩ := s.one
    rw [s1.int]; exact .inl ⟨_, rfl, k _ _ _ (.flat ex (.int _))⟩
  · cases e
    obtain ⟨v, rfl, s1⟩ := s.one
    rw [s1.bl]; exact .inr ⟨_, rfl, k _ _ _ (.flat ex (.int _))⟩
  · cases e
end
end FL
namespace FL
open PySem L2

theorem hu65 {A : Around} {k : Nat} (hr : Room k A) : A.units + 65 < cLine := by have := hr.un; omega
theorem hu64 {A : Around} {k : Nat} (hr : Room k A) : A.units + 64 < cLine := by have := hr.un; omega
theorem hu1 {A : Around} {k : Nat} (hr : Room k A) : A.units + 1 < cLine := by have := hr.un; omega

/-! ### isinstance with built-in classes -/
def tyName : D → String
  | .non => "NoneType" | .bl _ => "bool" | .int _ => "int" | .str _ => "str" | .tup _ => "tuple" | .lst _ => "list" | .dic _ => "dict" | .scr _ => "list"
def isTy (T : String) : D → Option Bool
  | .dic _ => none
  | .scr _ => none
  | .bl _ => some (T == "bool" || T == "int")
  | d => some (T == tyName d)
theorem kit_all : ∀ n ∈ ["NoneType", "bool", "int", "str", "tuple", "list"], ∀ T ∈ ["int", "bool", "tuple", "list", "str"], kitB n T = some (T == n || (n == "bool" && T == "int")) := by decide +kernel
theorem isTy_kit {d : D} {T : String} {b : Bool} (h : isTy T d = some b) (hT : T ∈ ["int", "bool", "tuple", "list", "str"]) : kitB (tyName d) T = some b := by
  cases d with
  | dic _ => cases h
  | scr _ => cases h
  | non => cases h; rw [tyName, kit_all _ (by decide) _ hT]; simp
  | bl c => cases h; rw [tyName, kit_all _ (by decide) _ hT]; simp
  | int c => cases h; rw [tyName, kit_all _ (by decide) _ hT]; simp
  | str c => cases h; rw [tyName, kit_all _ (by decide) _ hT]; simp
  | tup c => cases h; rw [tyName, kit_all _ (by decide) _ hT]; simp
  | lst c => cases h; rw [tyName, kit_all _ (by decide) _ hT]; simp
theorem See.ty {K : PySem.W.Frag} {S H H' : Hp} {v : V} {d : D} (s : See K S H v d) (ex : Same S H) (hh : Same H H') {T : String} {b : Bool} (h : isTy T d = some b) : TyX K H' v (.type (tyName d)) := by
  cases d with
  | dic _ => cases h
  | scr _ => cases h
  | non => rw [s.non]; exact .base .non
  | bl c => rw [s.bl]; exact .base (.bl c)
  | int c => rw [s.int]; exact .base (.int c)
  | str c => rw [s.str]; exact .base (.str c)
  | tup ds =>
    cases s with
    | of r => cases r with
      | tup e _ => exact .base (.tup (hh _ _ (ex _ _ e)))
      | con e =>
        rcases e with z | ⟨o, its, n, h1, h2, _⟩
        · rcases z with z | ⟨_, z⟩ <;> cases z
        · exact .kTuple h1 h2
  | lst ds =>
    obtain ⟨a, vs, rfl, h1, _⟩ := s.lst' ex
    exact .base (.lst (hh _ _ h1))
def fIsi (T : String) (f : Ev) : Ev := fun ρ => (f ρ).bind fun p => (see p.2 p.1).bind fun d => (isTy T d).map fun b => (.val (.bl b), p.2)
def fIsi2 (T U : String) (f : Ev) : Ev := fun ρ => (f ρ).bind fun p => (see p.2 p.1).bind fun d => (isTy T d).bind fun b => (isTy U d).map fun c => (.val (.bl (b || c)), p.2)
section
variable {X : Cx} {e a b c tg : Expr} {es rest : List Expr} {f g h : Ev} {fs : List Ev} {pos p p2 p3 tpos : Pos}
theorem ve_isi {T : String} {x : Str} (hT : T ∈ ["int", "bool", "tuple", "list", "str"]) (hg : Gl X "isinstance") (hm : X.mg "isinstance" = none) (he : VE X e f) (ht : PE X (.Name x p2) (tC (.ty T)))
    (hs : starEach [e, .Name x p2] X.env = (false, eval e X.env) :: starEach [.Name x p2] X.env := by rfl) (hs2 : starEach [.Name x p2] X.env = (false, eval (.Name x p2) X.env) :: starEach [] X.env := by rfl)
    (hpl : (backTo pos (starEach [.Name x p2] X.env)).any (·.1) = false := by rfl) : VE X (.Call (.Name "isinstance" p) [e, .Name x p2] [] pos) (fIsi T f) :=
  (pe_callB call_isi hg hm PyProof.Rows.boot_isinstance (pa_cons he (pa_cons ht pa_nil hs2) hs) (by decide) (by decide) hs hpl).imp fun σ H Q q => by
    obtain ⟨S, ρ, r, ρ', E, e, k⟩ := q
    obtain ⟨p1, e1, e2⟩ := bind_some e
    obtain ⟨d, e3, e4⟩ := bind_some e2
    obtain ⟨b, e5, e6⟩ := map_some e4
    cases e6
    refine ⟨S, ρ, p1.1, p1.2, E, e1, fun v S1 H1 c => ?_⟩
    exact ⟨v, .ty T, .type (tyName d), .type T, b, rfl, .ty T, (c.rep1.see c.env e3).ty c.env.ex (fun _ _ e => e) e5, kit_ty (isTy_kit e5 hT), k _ S1 H1 (c.fin (.flat c.env.ex (.bl b)))⟩
theorem ve_isi2 {T U : String} {x y : Str} {kk : Nat} (hT : T ∈ ["int", "bool", "tuple", "list", "str"]) (hU : U ∈ ["int", "bool", "tuple", "list", "str"]) (hg : Gl X "isinstance") (hm : X.mg "isinstance" = none) (he : VE X e f) (ht : PE X (.Name x p2) (tC (.ty T))) (hu : PE X (.Name y p3) (tC (.ty U)))
    (hs : starEach [e, .Tuple [.Name x p2, .Name y p3] kk tpos] X.env = (false, eval e X.env) :: starEach [.Tuple [.Name x p2, .Name y p3] kk tpos] X.env := by rfl)
    (hs2 : starEach [.Tuple [.Name x p2, .Name y p3] kk tpos] X.env = (false, eval (.Tuple [.Name x p2, .Name y p3] kk tpos) X.env) :: starEach [] X.env := by rfl)
    (hs3 : starEach [.Name x p2, .Name y p3] X.env = (false, eval (.Name x p2) X.env) :: starEach [.Name y p3] X.env := by rfl) (hs4 : starEach [.Name y p3] X.env = (false, eval (.Name y p3) X.env) :: starEach [] X.env := by rfl)
    (hpl : (backTo pos (starEach [.Tuple [.Name x p2, .Name y p3] kk tpos] X.env)).any (·.1) = false := by rfl) : VE X (.Call (.Name "isinstance" p) [e, .Tuple [.Name x p2, .Name y p3] kk tpos] [] pos) (fIsi2 T U f) :=
  (pe_callB call_isiT hg hm PyProof.Rows.boot_isinstance (pa_cons he (pa_cons (pe_tup (pa_cons ht (pa_cons hu pa_nil hs4) hs3)) pa_nil hs2) hs) (by decide) (by decide) hs hpl).imp fun σ H Q q => by
    obtain ⟨S, ρ, r, ρ', E, e, k⟩ := q
    obtain ⟨p1, e1, e2⟩ := bind_some e
    obtain ⟨d, e3, e4⟩ := bind_some e2
    obtain ⟨b, e5, e6⟩ := bind_some e4
    obtain ⟨b2, e7, e8⟩ := map_some e6
    cases e8
    refine ⟨S, ρ, p1.1, p1.2, E, e1, fun v S1 H1 c => ⟨by show 2 ≤ sizeLine; decide, fun q hq => ?_⟩⟩
    have sv := c.rep1.see c.env e3
    refine ⟨v, q, [.ty T, .ty U], .type (tyName d), [.type T, .type U], b || b2, rfl, upd_same, .cons (.ty T) (.cons (.ty U) .nil), sv.ty c.env.ex (same_new hq) e5, ?_, k _ S1 _ (c.fin ⟨fun _ _ e => e, same_new hq, fun _ e _ => e, fun x o e => same_new hq x o (c.env.ex x o e), .bl _⟩)⟩
    refine kitAny_cons (b := b) (kit_ty (isTy_kit e5 hT)) (fun hb => kitAny_cons (b := b2) (kit_ty (isTy_kit e7 hU)) (fun hb2 => ?_) fun hb2 => ?_) fun hb => ?_
    · rw [hb, hb2]; exact kitAny_nil
    · rw [hb, hb2]; rfl
    · rw [hb]; rfl
/-! ### comparisons as tests -/
theorem vt_of {t : TE} (hp : PT X e (tTest t)) (h : ∀ σ H Q, tV X.K f σ H Q → t σ H Q) : VT X e f := hp.imp fun σ H Q q => by
  obtain ⟨S, ρ, b, ρ', E, e, k⟩ := q
  refine h σ H _ ⟨S, ρ, _, ρ', E, e, fun v S' H' c => ?_⟩
  have := c.rep1
  cases this
  exact ⟨b, rfl, k S' H' c.drop⟩
theorem vt_cmp {op : CmpOp} {r : R2} {o : D → D → Option R} (ho : OpR X (compareOp op) r) (so : Sound2 X.K r o) (ha : VE X a f) (hb : VE X b g) (hm : behindInMarks op b = false) : VT X (.Compare a [op] [b] pos) (fOp2 o f g) :=
  vt_of (pt_cmpR ho ha hb hm) fun _ _ _ q => sem2 so q
theorem vt_chain {op op' : CmpOp} {r r' : R2} {o o' : D → D → Option Bool} (ho : OpR X (compareOp op) r) (ho' : OpR X (compareOp op') r') (so : SoundB X.K r o) (so' : SoundB X.K r' o') (ha : VE X a f) (hb : VE X b g) (hc : VE X c h)
    (hm : lastMarks [op, op'] [b, c] = false := by with_unfolding_all rfl) : VT X (.Compare a [op, op'] [b, c] pos) (fChain o o' f g h) := vt_of (pt_chain ho ho' ha hb hc hm) fun _ _ _ q => sem_chain so so' q
theorem vt_inD (hu : X.A.units + 1 < cLine) (ha : VE X a f) (hb : VE X b g) (h1 : behindInMarks .In b = false := by rfl) : VT X (.Compare a [.In] [b] pos) (fInD false f g) := vt_of (pt_cmp (pc_din hu ha hb) h1) fun _ _ _ q => sem_inD q
theorem vt_notInD (hu : X.A.units + 1 < cLine) (ha : VE X a f) (hb : VE X b g) (h1 : behindInMarks .NotIn b = false := by rfl) : VT X (.Compare a [.NotIn] [b] pos) (fInD true f g) := vt_of (pt_cmp (pc_dnotin hu ha hb) h1) fun _ _ _ q => sem_inD q
end
end FL
namespace FL
open PySem.Spec PySem.Calls PyProof.Rows PyProof.V
open PySem L2

/-! ### sum of a tuple -/
section
variable {prog : Program} {w : World} {A : Around} {E : Value → Shared → Prop} {s : Shared} {l : Addr} {its : List Value} {ns : List Int} {Q : Value → Shared → Prop}
theorem sum_rawT (hh : A.handled = none) (hl : s.heap.IsTuple l its.toArray) (hi : IntsAre its ns)
    (h : ∀ h' tk t', (∀ b o, s.heap.get? b = some o → h'.get? b = some o) → Q (.int ns.sum t') { s with heap := h', toks := tk }) : wpAny (model prog w) A (call (.builtin "sum") [.ref l]) Q E s := by
  obtain ⟨xs, e⟩ := hi.allInts.items
  have hn : numsOf (intItems xs).toList = ns := by rw [← e]; exact hi.numsOf
  rw [nums_intItems] at hn
  rw [e] at hl
  refine PySem.W.ktm_sumG hh hl fun h' tk t' hk => ?_
  have := h h' tk t' hk
  rw [preSum_eq, List.take_of_length_le (by simp), hn]; exact this
end
def rSumT (K : PySem.W.Frag) : List V → Hp → VK → Prop := fun vs H Q => ∃ (a : Addr) (ns : List Int), vs = [V.ref a] ∧ SqT K H a (ns.map V.int) ∧ Q (.int ns.sum) H
theorem cr_sumT {X : Cx} (hc : X.calm = true) : CallR X (.builtin "sum") (rSumT X.K) := by
  intro pins s σ H vs us Q I r h
  obtain ⟨a, ns, rfl, hs, q⟩ := h
  obtain ⟨its, rv, hl, _⟩ := I.tuple hs
  rw [Vals.ref1 r]
  exact sum_rawT (I.ok.hd hc) hl rv.ints fun h' tk t' hk => ⟨.int _, H, I.kept hk, ⟨_, rfl⟩, q⟩
def rSumA (K : PySem.W.Frag) : List V → Hp → VK → Prop := fun xs H Q => rSum K xs H Q ∨ rSumT K xs H Q
theorem c_sum {X : Cx} (hc : X.calm = true) : CallR X (.builtin "sum") (rSumA X.K) := CallR.or (cr_sum hc) (cr_sumT hc)
def oSumA : List D → Option R
  | [.lst ds] => (intsOf ds).map fun ns => .val (.int ns.sum)
  | [.tup ds] => (intsOf ds).map fun ns => .val (.int ns.sum)
  | _ => none
section
variable {K : PySem.W.Frag} {S H : Hp}
theorem s_sumA : SoundN K (rSumA K) oSumA := fun S H vs ds res ex s e Q k => by
  unfold oSumA at e
  split at e
  · obtain ⟨ns, h, rfl⟩ := map_some e
    obtain ⟨v, rfl, s1⟩ := s.one
    obtain ⟨a, us, rfl, h1, h2⟩ := s1.lst' ex
    exact .inl ⟨a, ns, rfl, by rw [← intsOf_rep h h2]; exact .inl (.inl h1), k _ _ _ (.flat ex (.int _))⟩
  · obtain ⟨ns, h, rfl⟩ := map_some e
    obtain ⟨v, rfl, s1⟩ := s.one
    obtain ⟨a, us, rfl, h1, h2⟩ := s1.tup ex
    exact .inr ⟨a, ns, rfl, by rw [← intsOf_rep h h2]; exact h1, k _ _ _ (.flat ex (.int _))⟩
  · cases e
end

/-! ### xs[::-1] of a list -/
def oRev : D → Option R
  | .lst xs => some (.own (.lst xs.reverse))
  | _ => none
def fRev (f : Ev) : Ev := fOp1 oRev f
theorem ve_rev {X : Cx} {e : Expr} {f : Ev} {k : Nat} {p1 p2 p3 pos : Pos} (he : VE X e f) : VE X (.Subscript e (.Slice none none (some (.UnaryOp .USub (.Constant (.int 1) k p1) p2)) p3) pos) (fRev f) :=
  (pe_revL he).imp fun σ H Q q => by
    obtain ⟨S, ρ, r, ρ', E, e, k⟩ := q
    obtain ⟨p, e1, e2⟩ := bind_some e
    obtain ⟨x, e3, e4⟩ := bind_some e2
    obtain ⟨r, e5, e6⟩ := map_some e4
    cases e6
    refine ⟨S, ρ, p.1, p.2, E, e1, fun v S1 H1 c => ?_⟩
    have s := c.rep1.see c.env e3
    cases x with
    | lst xs =>
      cases e5
      obtain ⟨a, vs, rfl, h1, h2⟩ := s.lst' c.env.ex
      exact ⟨a, vs, rfl, .inl (.inl h1), fun p hp => k _ _ _ (c.fin (.lst c.env.ex hp h2.reverse))⟩
    | _ => cases e5
end FL
namespace FL
open PySem L2

theorem sp_law {K : PySem.W.Frag} {H : Hp} {a : Addr} {ns : List Int} {F : Fn} {ρ' : List Sl} {E : XK} (h : SqL K H a (ns.map V.int)) (e : F [.val (.scr ns)] = some (.val (.bl true), ρ')) :
    spV K 1 F [.ref a] H (fun v _ => v = .bl true) E := by
  refine ⟨rfl, H, [.val (.scr ns)], .val (.bl true), ρ', ⟨fun _ _ e => e, rfl, fun i d q => ?_, fun i p d q => ?_, fun i j p q d e a h1 _ _ _ => ?_⟩, e, fun v S' H' c => ?_⟩
  · cases i with
    | zero => simp at q; subst q; exact ⟨_, rfl, .scr h⟩
    | succ i => simp at q
  · cases i with
    | zero => simp at q
    | succ i => simp at q
  · cases i with
    | zero => simp at h1
    | succ i => simp at h1
  · have := c.rep1
    cases this; rfl
theorem over_at {K : PySem.W.Frag} {mg : Str → Option Value} {h : Heap} {a : Addr} {od : Option Addr} {n : Nat} {sl : Array (Option Value)} {t1 t2 t3 t4 t5 : Tok} (X : K.In h) (G : h.Ns mainGlobals mg)
    (e : PySem.W.nsIn K mainGlobals "OVER" = some (some (.ref a))) (l : K.lookup a = some ⟨.type "tuple", od, .seq #[.int 0 t1, .int 0 t2, .int 0 t3, .str "over" t4, .int 0 t5] n, sl⟩) :
    ∃ a, mg "OVER" = some (.ref a) ∧ SqT K (fun _ => none) a overV :=
  ⟨a, PySem.W.mg_of X G e, .inr ⟨_, _, n, l, rfl, rfl, (by show 5 ≤ sizeLine; decide), .cons ⟨t1, rfl⟩ (.cons ⟨t2, rfl⟩ (.cons ⟨t3, rfl⟩ (.cons ⟨t4, rfl⟩ (.cons ⟨t5, rfl⟩ .nil))))⟩⟩
end FL
namespace FL
open PySem L2
open PySem.Spec PyProof.Rows PySem.W
/-! # sorted(xs), xs tuples of ints of any lengths, any number of them -/
def lexI : List Int → List Int → Bool
  | [], [] => false
  | [], _ :: _ => true
  | _ :: _, [] => false
  | x :: r, y :: t => decide (x < y) || (!decide (y < x) && lexI r t)
theorem lexI_lt : ∀ a b : List Int, lexI a b = lexLt itemOrd (a.map Sum.inl) (b.map Sum.inl)
  | [], [] => rfl
  | [], _ :: _ => rfl
  | _ :: _, [] => rfl
  | x :: r, y :: t => by
    rw [lexI, lexI_lt r t]
    rfl
theorem lexI_irrefl (a : List Int) : lexI a a = false := by rw [lexI_lt]; exact lex_irrefl _
theorem lexI_asym {a b : List Int} (h : lexI a b = true) : lexI b a = false := by
  cases e : lexI b a with
  | false => rfl
  | true =>
    rw [lexI_lt] at h e
    have := lex_trans _ _ _ h e
    rw [lex_irrefl] at this
    cases this
theorem lexI_tr {x y z : List Int} (h1 : lexI y x = false) (h2 : lexI z y = false) : lexI z x = false := by
  cases e : lexI z x with
  | false => rfl
  | true =>
    rw [lexI_lt] at h1 h2 e
    rcases lex_negTrans _ (y.map Sum.inl) _ e with h | h
    · rw [h2] at h; cases h
    · rw [h1] at h; cases h
theorem inl_inj : ∀ {a b : List Int}, (a.map Sum.inl : List (Int ⊕ List Nat)) = b.map Sum.inl → a = b
  | [], [], _ => rfl
  | [], _ :: _, h => by cases h
  | _ :: _, [], h => by cases h
  | x :: r, y :: t, h => by
    rw [List.map_cons, List.map_cons, List.cons.injEq] at h
    rw [inl_inj h.2, Sum.inl.inj h.1]
theorem lexI_total {a b : List Int} (h1 : lexI a b = false) (h2 : lexI b a = false) : a = b := by
  rw [lexI_lt] at h1 h2
  exact inl_inj (lex_total _ _ h1 h2)
theorem swo_lexI (k : Value → List Int) : SrtO.Swo fun v u => lexI (k v) (k u) := ⟨fun _ _ h => lexI_asym h, fun _ _ _ h1 h2 => lexI_tr h1 h2⟩
theorem items_ints : ∀ {vs : List Value} {ns : List Int} (i : Nat), IntsAre vs ns → tupItems (fun _ => false) i vs = some (ns.map Sum.inl)
  | _, _, i, .nil => by simp [tupItems]
  | _, _, i, .cons n t h => by
    rw [tupItems, items_ints (i + 1) h]
    simp
section
variable {prog : Program} {w : World} {A : Around} {E : Value → Shared → Prop} {s : Shared}
theorem tups_cmp {vs : List Value} {k : Value → List Int} (hp : ∀ v ∈ vs, TS.TupInts s.heap v (k v)) : SrtO.Cmp prog w A s (tuples' true) (fun p => p.1 ∈ vs) (SrtO.lt2 fun v u => lexI (k v) (k u)) := by
  intro p q hm hm'
  have h1 := hp _ hm
  have h2 := hp _ hm'
  show wpAny (model prog w) A (keyLt' (tuples' true) p.1 q.1) (fun r s' => s' = s ∧ r = lexI (k p.1) (k q.1)) (fun _ _ => False) s
  generalize k p.1 = ns at h1 ⊢
  generalize k q.1 = ms at h2 ⊢
  obtain ⟨a, xs, e, ⟨o, ho, hc, n, hd⟩, i⟩ := h1
  obtain ⟨a', xs', e', ⟨o', ho', hc', n', hd'⟩, i'⟩ := h2
  rw [e, e']
  exact kat_lt ho hd ho' hd' (tup_lex (shape := fun _ => false) xs.toList xs'.toList 0 _ _ (items_ints 0 i) (items_ints 0 i') (by rw [Array.length_toList, Array.length_toList]) ⟨rfl, (lexI_lt _ _).symm⟩)
theorem tups_of {h : Heap} {k : Value → List Int} : ∀ {vs : List Value}, (∀ v ∈ vs, TS.TupInts h v (k v) ∧ k v ≠ []) → ∃ fs, TupsOf h (fun _ => false) vs fs
  | [], _ => ⟨[], .nil⟩
  | v :: vs, hv => by
    obtain ⟨fs, r⟩ := tups_of (vs := vs) fun u hu => hv u (List.mem_cons_of_mem _ hu)
    obtain ⟨⟨a, xs, e, ⟨o, ho, hc, n, hd⟩, i⟩, hne⟩ := hv v List.mem_cons_self
    have : ∃ f t, xs[0]? = some (.int f t) := by
      rcases xs with ⟨l⟩
      generalize k v = ns at i hne
      cases i with
      | nil => exact absurd rfl hne
      | cons f t _ => exact ⟨f, t, rfl⟩
    obtain ⟨f, t, hf⟩ := this
    exact ⟨_, .cons ⟨a, o, xs, n, e, ho, hc, hd, hf, fun _ => ⟨f, t, rfl⟩, fun z => by cases z⟩ r⟩
theorem tups_sortable {a : Addr} {vs : List Value} {k : Value → List Int} (h0 : 0 < vs.length) (hp : ∀ v ∈ vs, TS.TupInts s.heap v (k v) ∧ k v ≠ []) (ha : ∀ o, s.heap.get? a = some o → o.cls ≠ .type "tuple") : SrtO.SortableO prog w A s a vs fun v u => lexI (k v) (k u) := by
  intro h' keep
  have hp' : ∀ v ∈ vs, TS.TupInts h' v (k v) ∧ k v ≠ [] := fun v hm => ⟨(hp v hm).1.keeps fun b o e c => keep b o (fun z => by subst z; exact ha o e c) e, (hp v hm).2⟩
  obtain ⟨fs, ht⟩ := tups_of hp'
  have hl : ∀ {vs fs : List Value}, TupsOf h' (fun _ => false) vs fs → fs.length = vs.length := by
    intro vs fs r
    induction r with
    | nil => rfl
    | cons _ _ ih => rw [List.length_cons, List.length_cons, ih]
  refine ⟨tuples' true, fun Q E hq => ?_, tups_cmp (s := { s with heap := h' }) fun v hm => (hp' v hm).1⟩
  exact tup_kind (s := { s with heap := h' }) (by rw [hl ht]; exact h0) ht hq
theorem sorted_tupsO {l : Addr} {vs : List Value} {k : Value → List Int} {Q : Value → Shared → Prop} (hl : s.heap.IsList l vs.toArray) (hz : vs.length ≤ sizeLine) (hp : ∀ v ∈ vs, TS.TupInts s.heap v (k v)) (hne : 2 ≤ vs.length → ∀ v ∈ vs, k v ≠ [])
    (h : ∀ out : List Value, SrtO.Srtd (fun v u => lexI (k v) (k u)) out → SrtO.Stb (fun v u => lexI (k v) (k u)) out vs → Q (.ref (s.heap.objs.size + 1)) { s with heap := sortedAll s.heap vs out.toArray }) :
    wpAny (model prog w) A (call (.builtin "sorted") [.ref l]) Q E s := by
  refine SrtO.sorted_ord (swo_lexI k) hl hz (fun h2 h₁ a ha kk => ?_) h
  refine tups_sortable (s := { s with heap := h₁ }) (by omega) (fun v hm => ⟨(hp v hm).keeps fun b o e _ => (kk b o e).2, hne h2 v hm⟩) fun o e => ?_
  have e' : some o = some (seqObj "list" vs.toArray 0) := e.symm.trans ha
  cases e'
  intro c
  exact absurd (Value.type.inj c) (by decide)
end
def rSortTI (K : PySem.W.Frag) : List V → Hp → VK → Prop := fun vs H Q => ∃ (a : Addr) (xs : List V), vs = [V.ref a] ∧ SqL K H a xs ∧ (∀ x ∈ xs, ∃ ns, TupI K H x ns ∧ (2 ≤ xs.length → ns ≠ [])) ∧
  ∀ (ys : List V) (p : Addr), ys.Perm xs → ys.Pairwise (fun x y => ∀ n m, TupI K H x n → TupI K H y m → lexI m n = false) → H p = none → Q (.ref p) (upd H p (.lst ys))
theorem cr_sortTI {X : Cx} : CallR X (.builtin "sorted") (rSortTI X.K) := by
  intro pins s σ H vs us Q I r h
  obtain ⟨a, xs, rfl, hs, hx, q⟩ := h
  obtain ⟨its, rv, hl, hz⟩ := I.list hs
  rw [Vals.ref1 r]
  obtain ⟨e1, e2⟩ := bkV_refs rv fun x m => by
    obtain ⟨ns, ⟨t, e, _⟩, _⟩ := hx x m
    exact ⟨t, e⟩
  have hlen : its.length = xs.length := by rw [e1, List.length_map]
  have key : ∀ v ∈ its, ∃ ns, TS.TupInts s.heap v ns ∧ (2 ≤ xs.length → ns ≠ []) := fun v hv => by
    obtain ⟨t, rfl⟩ := e2 v hv
    have hm : V.ref t ∈ xs := by
      rw [e1]
      exact List.mem_map.mpr ⟨_, hv, rfl⟩
    obtain ⟨ns, ⟨t', e, ht⟩, hn⟩ := hx _ hm
    cases e
    exact ⟨ns, tupI_raw I ht, hn⟩
  refine sorted_tupsO (k := TS.intsOf s.heap) hl.isList (by rw [← rv.length]; exact hz) (fun v hv => ?_) (fun h2 v hv => ?_) fun out h1 h2 => ?_
  · obtain ⟨ns, h1, _⟩ := key v hv
    rw [h1.ints]; exact h1
  · obtain ⟨ns, h1, h3⟩ := key v hv
    rw [h1.ints]; exact h3 (by rw [← hlen]; exact h2)
  · have hperm : out.Perm its := h2.perm
    obtain ⟨ep, he'⟩ := PyProof.Rows.sortedAll_at s.heap its out.toArray
    have h3 : ∀ u ∈ out, ∃ a, u = Value.ref a := fun u hu => e2 u (hperm.mem_iff.mp hu)
    have hp : (out.map bkV).Perm xs := by
      rw [e1]
      exact hperm.map bkV
    have hlen : (out.map bkV).length ≤ sizeLine := by
      rw [hp.length_eq]
      exact hz
    refine ⟨.ref _, upd H (s.heap.objs.size + 1) (.lst (out.map bkV)), I.laid (t' := s.toks) (fun _ _ => PyProof.Rows.sortedAll_old) (Nat.le_succ _) ⟨hlen, out, ep, bkV_vals h3, he'⟩, rfl, q _ _ hp ?_ (I.hok.fresh (Nat.le_succ _))⟩
    rw [List.pairwise_map]
    refine List.Pairwise.imp (fun {u v} huv n m hn hm => ?_) h1
    obtain ⟨t, et, ht⟩ := hn
    obtain ⟨t', et', ht'⟩ := hm
    have eu := bkV_ref et
    have ev := bkV_ref et'
    have i1 : TS.intsOf s.heap u = n := by
      rw [eu]
      exact (tupI_raw I ht).ints
    have i2 : TS.intsOf s.heap v = m := by
      rw [ev]
      exact (tupI_raw I ht').ints
    rw [← i1, ← i2]
    exact huv
/-! ### data -/
def sortT (nss : List (List Int)) : List (List Int) := nss.mergeSort fun a b => !lexI b a
theorem sortT_perm (nss : List (List Int)) : (sortT nss).Perm nss := List.mergeSort_perm _ _
theorem sortT_sorted (nss : List (List Int)) : (sortT nss).Pairwise fun a b => lexI b a = false :=
  (List.pairwise_mergeSort (le := fun a b => !lexI b a) (fun a b c h1 h2 => by
    simp only [Bool.not_eq_true'] at *
    exact lexI_tr h1 h2) (fun a b => by
    cases h : lexI b a with
    | false => rfl
    | true => rw [lexI_asym h]; rfl) nss).imp fun h => by simpa using h
def tupsI : List D → Option (List (List Int))
  | [] => some []
  | .tup ds :: r => (intsOf ds).bind fun ns => (tupsI r).map fun nss => ns :: nss
  | _ => none
def oSortA : List D → Option R
  | [.lst ds] => match intsOf ds with
    | some ns => some (.own (.lst ((sortI ns).map .int)))
    | none => (tupsI ds).bind fun nss => if nss.length < 2 ∨ nss.all (fun ns => !ns.isEmpty) = true then some (.own (.lst ((sortT nss).map fun ns => .tup (ns.map .int)))) else none
  | _ => none
section
variable {K : PySem.W.Frag} {S H : Hp}
theorem intsOf_eq : ∀ {ds : List D} {ns : List Int}, intsOf ds = some ns → ds = ns.map D.int
  | [], _, h => by cases h; rfl
  | .int i :: ds, _, h => by
    rw [intsOf] at h
    obtain ⟨ns', h1, rfl⟩ := map_some h
    rw [List.map_cons, ← intsOf_eq h1]
  | .non :: _, _, h => by cases h
  | .bl _ :: _, _, h => by cases h
  | .str _ :: _, _, h => by cases h
  | .tup _ :: _, _, h => by cases h
  | .lst _ :: _, _, h => by cases h
  | .dic _ :: _, _, h => by cases h
  | .scr _ :: _, _, h => by cases h
theorem tupsI_eq : ∀ {ds : List D} {nss : List (List Int)}, tupsI ds = some nss → ds = nss.map fun ns => D.tup (ns.map .int)
  | [], _, h => by cases h; rfl
  | .tup es :: ds, _, h => by
    rw [tupsI] at h
    obtain ⟨ns, h1, h2⟩ := bind_some h
    obtain ⟨nss, h3, rfl⟩ := map_some h2
    rw [List.map_cons, ← tupsI_eq h3, intsOf_eq h1]
  | .non :: _, _, h => by cases h
  | .bl _ :: _, _, h => by cases h
  | .int _ :: _, _, h => by cases h
  | .str _ :: _, _, h => by cases h
  | .lst _ :: _, _, h => by cases h
  | .dic _ :: _, _, h => by cases h
  | .scr _ :: _, _, h => by cases h
theorem ints_vals : ∀ {vs : List V} {ns : List Int}, Reps K S vs (ns.map D.int) → vs = ns.map V.int
  | _, [], r => by cases r; rfl
  | _, n :: ns, r => by
    cases r with
    | cons r1 rt => cases r1; rw [List.map_cons, ints_vals rt]
theorem rep_tupI {x : V} {ns : List Int} (ex : Same S H) (r : Rep K S x (.tup (ns.map .int))) : TupI K H x ns := by
  obtain ⟨a, vs, rfl, h1, h2⟩ := See.tup (.of r) ex
  rw [ints_vals h2] at h1
  exact ⟨a, rfl, h1⟩
theorem perm_reps {ys us : List V} (hp : ys.Perm us) : ∀ {nss : List (List Int)}, Reps K S us (nss.map fun ns => D.tup (ns.map .int)) → ∃ nss' : List (List Int), nss'.Perm nss ∧ Reps K S ys (nss'.map fun ns => D.tup (ns.map .int)) := by
  induction hp with
  | nil => intro nss r; cases nss with | nil => exact ⟨[], .refl _, .nil⟩ | cons _ _ => cases r
  | cons x _ ih =>
    intro nss r
    cases nss with
    | nil => cases r
    | cons n nss =>
      cases r with
      | cons r1 rt =>
        obtain ⟨nss', h1, h2⟩ := ih rt
        exact ⟨n :: nss', h1.cons n, .cons r1 h2⟩
  | swap x y l =>
    intro nss r
    cases nss with
    | nil => cases r
    | cons n nss =>
      cases r with
      | cons r1 rt =>
        cases nss with
        | nil => cases rt
        | cons m nss =>
          cases rt with
          | cons r2 rt => exact ⟨m :: n :: nss, .swap n m nss, .cons r2 (.cons r1 rt)⟩
  | trans _ _ ih1 ih2 =>
    intro nss r
    obtain ⟨n1, p1, r1⟩ := ih2 r
    obtain ⟨n2, p2, r2⟩ := ih1 r1
    exact ⟨n2, p2.trans p1, r2⟩
theorem pair_reps (ex : Same S H) : ∀ {ys : List V} {nss : List (List Int)}, Reps K S ys (nss.map fun ns => D.tup (ns.map .int)) → ys.Pairwise (fun x y => ∀ n m, TupI K H x n → TupI K H y m → lexI m n = false) → nss.Pairwise fun a b => lexI b a = false
  | _, [], _, _ => .nil
  | _, n :: nss, r, h => by
    cases r with
    | cons r1 rt =>
      rw [List.pairwise_cons] at h
      refine .cons (fun m hm => ?_) (pair_reps ex rt h.2)
      obtain ⟨i, hi⟩ := List.mem_iff_getElem?.mp hm
      obtain ⟨v, h1, h2⟩ := rt.get (i := i) (d := .tup (m.map .int)) (by rw [List.getElem?_map, hi]; rfl)
      exact h.1 v (List.mem_of_getElem? h1) n m (rep_tupI ex r1) (rep_tupI ex h2)
def rSortA (K : PySem.W.Frag) : List V → Hp → VK → Prop := fun xs H Q => rSortedI K xs H Q ∨ rSortTI K xs H Q
theorem c_sort {X : Cx} : CallR X (.builtin "sorted") (rSortA X.K) := CallR.or cr_sortedI cr_sortTI
theorem s_sortA : SoundN K (rSortA K) oSortA := fun S H vs ds res ex s e Q k => by
  unfold oSortA at e
  split at e
  · rename_i es
    obtain ⟨v, rfl, s1⟩ := s.one
    obtain ⟨a, us, rfl, h1, h2⟩ := s1.lst' ex
    split at e
    · rename_i ns h
      cases e
      refine .inl ⟨a, ns, rfl, by rw [← intsOf_rep h h2]; exact .inl (.inl h1), fun ns' p hp hs hn => ?_⟩
      rw [PySem.W.ksm_same (hp.trans (sortI_perm ns).symm) hs (sortI_sorted ns)]
      exact k _ _ _ (.lst ex hn (Reps.ints _))
    · obtain ⟨nss, h3, h4⟩ := bind_some e
      split at h4
      · rename_i hc
        cases h4
        rw [tupsI_eq h3] at h2
        have hlen : us.length = nss.length := by rw [h2.length]; simp
        refine .inr ⟨a, us, rfl, .inl (.inl h1), fun x hx => ?_, fun ys p hp hs hn => ?_⟩
        · obtain ⟨i, hi⟩ := List.mem_iff_getElem?.mp hx
          obtain ⟨d, h5, h6⟩ := h2.getV hi
          rw [List.getElem?_map] at h5
          cases hn : nss[i]? with
          | none => rw [hn] at h5; cases h5
          | some n =>
            rw [hn] at h5
            cases h5
            refine ⟨n, rep_tupI ex h6, fun h7 => ?_⟩
            rcases hc with hc | hc
            · omega
            · have := List.all_eq_true.mp hc n (List.mem_of_getElem? hn)
              intro z
              rw [z] at this; cases this
        · obtain ⟨nss', hp', hr⟩ := perm_reps hp h2
          have hsrt := pair_reps ex hr hs
          have : nss' = sortT nss := (hp'.trans (sortT_perm nss).symm).eq_of_pairwise (fun x y _ _ h1 h2 => lexI_total h2 h1) hsrt (sortT_sorted nss)
          rw [this] at hr
          exact k _ _ _ (.lst ex hn hr)
      · cases h4
  · cases e
end
end FL
namespace FL
open PySem L2
open PySem.Spec PyProof.Rows PySem.W
/-! # list(range(a, b, c)) -/
theorem vals_rgC {i c : Int} {n : Nat} {acc : Array Value} (h : ItemsOf (fun j v => ∃ t, v = .int (i + j * c) t) acc n) : Vals ((List.range n).map fun (j : Nat) => V.int (i + (j : Int) * c)) acc.toList := by
  have e : acc.toList.length = n := by rw [Array.length_toList]; exact h.1
  rw [← e]
  refine vals_of_get acc.toList _ fun j u hj => ?_
  obtain ⟨t, rfl⟩ := h.2 j u (by rw [← hj, Array.getElem?_toList])
  exact ⟨t, rfl⟩
def tLstRgC (ta : TA) : TE := fun σ H Q => ta σ H fun vs H1 => ∃ (i j c : Int) (n : Nat), vs = [.int i, .int j, .int c] ∧ RgC i j c n ∧ n ≤ 1000000 ∧ ∀ q, H1 q = none → Q (.ref q) (upd H1 q (.lst ((List.range n).map fun (k : Nat) => V.int (i + (k : Int) * c))))
section
variable {X : Cx} {a b c : Expr} {ta : TA} {f g h : Ev}
theorem pe_listRgC {p pos p2 pos2 : Pos} (hc : X.calm = true) (hgl : Gl X "list") (hml : X.mg "list" = none) (hg : Gl X "range") (hm : X.mg "range" = none) (ha : PA X [a, b, c] ta)
    (hs : starEach [a, b, c] X.env = (false, eval a X.env) :: starEach [b, c] X.env := by rfl) (hpl : (backTo pos2 (starEach [b, c] X.env)).any (·.1) = false := by rfl)
    (na : starEach [.Call (.Name "range" p2) [a, b, c] [] pos2] X.env = (false, eval (.Call (.Name "range" p2) [a, b, c] [] pos2) X.env) :: starEach [] X.env := by rfl) :
    PE X (.Call (.Name "list" p) [.Call (.Name "range" p2) [a, b, c] [] pos2] [] pos) (tLstRgC ta) := by
  refine ⟨fun pins s σ H Q I h => ?_⟩
  have inner : wpAny (model X.prog X.w) X.A (eval (.Call (.Name "range" p2) [a, b, c] [] pos2) X.env) (fun x s' => ∃ r i j k n t u v H', x = .ref r ∧ IsRange s'.heap r i j k t u v ∧ Inv X pins σ H' s' ∧ RgC i j k n ∧ n ≤ 1000000 ∧ ∀ q, H' q = none → Q (.ref q) (upd H' q (.lst ((List.range n).map fun (m : Nat) => V.int (i + (m : Int) * k))))) X.xe s := by
    refine Call_ (ld_blt I hg hm boot_range (PyProof.Rows.callWith_type1 (thn (ha.run pos2 pins s σ H _ I h) fun us s1 ⟨vs, H1, I1, r1, q1⟩ => ?_) hs hpl))
    obtain ⟨i, j, k, n, e, ⟨c0, c1, c2, c3⟩, hn, q⟩ := q1
    subst e
    cases r1 with
    | cons r rr =>
      cases rr with
      | cons r' rr =>
        cases rr with
        | cons r'' rr =>
          cases rr
          obtain ⟨t, rfl⟩ := r
          obtain ⟨t', rfl⟩ := r'
          obtain ⟨t'', rfl⟩ := r''
          refine call_range_3 c0 ?_ (.inl (PyProof.noPylong_small c1))
          exact ⟨_, i, j, k, n, _, _, _, H1, rfl, IsRange.new .., I1.kept (t' := s1.toks) fun b o e => Heap.get?_push_of_some _ e, ⟨c0, c1, c2, c3⟩, hn, q⟩
  refine Call_ (ld_blt I hgl hml boot_list (PyProof.Rows.callWith_type1 (args_cons (thn inner fun x s1 ⟨r, i, j, k, n, t, u, v, H1, ex, hr, I1, ⟨c0, c1, c2, c3⟩, hn, q⟩ => args_nil ?_) na) na))
  subst ex
  refine call_list_range (n := n) (I1.ok.hd hc) hr c2 c3 (Nat.le_trans hn (by decide)) fun h' tk acc c' hk e' hi => ?_
  refine ⟨.ref s1.heap.objs.size, upd H1 s1.heap.objs.size (.lst ((List.range n).map fun (m : Nat) => V.int (i + (m : Int) * k))), I1.laid hk (Nat.le_refl _) (show ObjOk X.prog X.w _ _ _ (.lst _) from ⟨?_, acc.toList, c', vals_rgC hi, ?_⟩), rfl, q _ (I1.hok.fresh (Nat.le_refl _))⟩
  · rw [List.length_map, List.length_range, sizeLine_eq]; omega
  · rw [Array.toArray_toList]; exact e'
def fListIt (it : Iv) : Ev := fun ρ => (it ρ).bind fun p => if p.1.length ≤ cap then some (.own (.lst p.1), p.2) else none
theorem ve_listRg3 {p pos p2 pos2 : Pos} (hcalm : X.calm = true) (hgl : Gl X "list") (hml : X.mg "list" = none) (hg : Gl X "range") (hm : X.mg "range" = none) (ha : VE X a f) (hb : VE X b g) (hc : VE X c h)
    (hs : starEach [a, b, c] X.env = (false, eval a X.env) :: starEach [b, c] X.env := by rfl) (hs2 : starEach [b, c] X.env = (false, eval b X.env) :: starEach [c] X.env := by rfl) (hs3 : starEach [c] X.env = (false, eval c X.env) :: starEach [] X.env := by rfl)
    (hpl : (backTo pos2 (starEach [b, c] X.env)).any (·.1) = false := by rfl)
    (na : starEach [.Call (.Name "range" p2) [a, b, c] [] pos2] X.env = (false, eval (.Call (.Name "range" p2) [a, b, c] [] pos2) X.env) :: starEach [] X.env := by rfl) :
    VE X (.Call (.Name "list" p) [.Call (.Name "range" p2) [a, b, c] [] pos2] [] pos) (fListIt (itRg3 f g h)) :=
  (pe_listRgC hcalm hgl hml hg hm (pa_cons ha (pa_cons hb (pa_cons hc pa_nil hs3) hs2) hs) hs hpl na).imp fun σ H Q q => by
    obtain ⟨S, ρ, r, ρ', E, e, k⟩ := q
    obtain ⟨z, e0, e00⟩ := bind_some e
    obtain ⟨p, e1, e2⟩ := bind_some e0
    obtain ⟨p2, e3, e4⟩ := bind_some e2
    obtain ⟨p3, e5, e6⟩ := bind_some e4
    refine bin (G := fun u v H2 => tV X.K h σ H2 fun w H3 => ∃ (i j c : Int) (n : Nat), [u, v, w] = [V.int i, V.int j, V.int c] ∧ RgC i j c n ∧ n ≤ 1000000 ∧ ∀ q, H3 q = none → Q (.ref q) (upd H3 q (.lst ((List.range n).map fun (k : Nat) => V.int (i + (k : Int) * c))))) E e1 e3 fun u v S2 H2 c => ?_
    refine ⟨S2, p2.2, p3.1, p3.2, c.env, e5, fun w S3 H3 c3 => ?_⟩
    split at e6
    · rename_i m n cc h1 h2 h3
      split at e6
      · rename_i hb
        cases e6
        split at e00
        · rename_i hcap
          cases e00
          cases c.rep with
          | cons hu _ ht =>
            cases ht with
            | cons hv _ _ =>
              rw [h1] at hu
              rw [h2] at hv
              have hw := c3.rep1
              rw [h3] at hw
              cases hu
              cases hv
              cases hw
              refine ⟨m, n, cc, _, rfl, ⟨hb.1, hb.2.1, hb.2.2.1, (Int.toNat_of_nonneg hb.2.2.2).symm⟩, ?_, fun q hq => ?_⟩
              · simp only [rgD, List.length_map, List.length_range] at hcap
                exact hcap
              · refine k _ _ _ (Cur.fin (c.then c3) (.lst c3.env.ex hq ?_))
                have : rgD m cc (Builtin.Range.rangeSize m n cc).toNat = ((List.range (Builtin.Range.rangeSize m n cc).toNat).map fun (i : Nat) => m + (i : Int) * cc).map D.int := by
                  rw [List.map_map]; rfl
                rw [this]
                have h4 : ((List.range (Builtin.Range.rangeSize m n cc).toNat).map fun (k : Nat) => V.int (m + (k : Int) * cc)) = ((List.range (Builtin.Range.rangeSize m n cc).toNat).map fun (i : Nat) => m + (i : Int) * cc).map V.int := by
                  rw [List.map_map]; rfl
                rw [h4]
                exact Reps.ints _
        · cases e00
      · cases e6
    · cases e6
end
end FL
namespace FL
open PySem PySem.Spec PySem.Calls PyProof PyProof.Rows
open L2
section
variable {P : Program} {w : World} {A : Around} {E : Value → Shared → Prop} {s : Shared}
theorem call_set_lstI {l : Addr} {vals : Array Value} (ns : List Int) {Q : Value → Shared → Prop} (hh : A.handled = none) (hl : s.heap.IsList l vals) (hit : IntsAre vals.toList ns) (hb : ns.length + 1 < scanBound)
    (h : ∀ (h' : Heap) (tk c : Nat), SetR w h' s.heap.objs.size (fun j => decide (j ∈ ns)) c → c ≤ ns.length → (∀ b o, s.heap.get? b = some o → h'.get? b = some o) → Q (.ref s.heap.objs.size) { s with heap := h', toks := tk }) :
    wpAny (model P w) A (call (.type "set") [.ref l]) Q E s := by
  have hsz : vals.size = ns.length := by
    have q := IntsAre.length hit
    rw [Array.length_toList] at q
    exact q
  obtain ⟨c, tl, hmro⟩ := F.called_set.mro
  have hmade := F.called_set.made
  have hsub := F.called_set.sub
  refine wpAny_call (codeAny_of_tree ?_)
  show wpAny _ _ (callAny (.type "set") _) _ _ _
  refine wpAny_pure ⟨Code.quiet_builtin _ (by decide +kernel), codeAny_builtin F.entry_type_call ?_⟩
  rw [Around.under_plain (weight_type_call_type "set" [.ref l] []) rfl]
  have h1 := F.called_set.notType
  have h2 := F.called_set.canCreate
  have hct := F.typeCall_set_1 (.ref l)
  repeat (any_goals (first | assumption | wp_step))

  refine codeAny_mono (code_set_led1 (.ref l) (E := E) (Q₁ := fun obj s₁ => obj = .ref s.heap.objs.size ∧ s₁ = { s with heap := s.heap.push { cls := .type "set", dict := none, data := .set #[] 0 (.fresh 0 0 (!w.params.followText "set-order")) } }) ⟨rfl, rfl⟩) fun r s₁ hr => ?_
  cases r with
  | error e => exact hr
  | ok fl =>
    cases fl with
    | ret obj =>
      obtain ⟨rfl, rfl⟩ := hr
      have hSet : (s.heap.push { cls := .type "set", dict := none, data := .set #[] 0 (.fresh 0 0 (!w.params.followText "set-order")) }).get? s.heap.objs.size = some { cls := .type "set", dict := none, data := .set #[] 0 (.fresh 0 0 (!w.params.followText "set-order")) } := Heap.get?_push_size _ rfl
      have hT : Shared.TypeIs { s with heap := s.heap.push { cls := .type "set", dict := none, data := .set #[] 0 (.fresh 0 0 (!w.params.followText "set-order")) } } (.ref s.heap.objs.size) "set" := ⟨_, hSet, rfl⟩
      have hli := F.called_set.init.lookup
      have hbi := F.called_set.init.bind (.ref s.heap.objs.size)
      repeat (any_goals (first | assumption | wp_step))

      refine codeAny_mono (codeAny_call_builtin (R := wants (fun r s₂ => r = .none ∧ ∃ h' tk c, s₂ = { s with heap := h', toks := tk } ∧ SetR w h' s.heap.objs.size (fun j => decide (j ∈ ns)) c ∧ c ≤ ns.length ∧
          (∀ b o, s.heap.get? b = some o → h'.get? b = some o)) E) F.called_set.init.plain F.entry_set_init (check_set_init_1 hT ?_)) fun r₂ s₂ hr₂ => ?_
      · obtain ⟨ol, hobj, hcl, nl, hdl⟩ := hl
        obtain ⟨ocls, odict, odata, oslots⟩ := ol
        simp only at hcl hdl
        subst hcl; subst hdl
        have hobj' : (s.heap.push { cls := .type "set", dict := none, data := .set #[] 0 (.fresh 0 0 (!w.params.followText "set-order")) }).get? l = some { cls := .type "list", dict := odict, data := .seq vals nl, slots := oslots } := Heap.get?_push_of_some _ hobj
        have hsls := F.sub_list_set
        have hslf := F.sub_list_frozenset
        have hne : (Value.type "list" == Value.type "dict") = false := by decide
        have hL1 : (s.heap.push { cls := .type "set", dict := none, data := .set #[] 0 (.fresh 0 0 (!w.params.followText "set-order")) }).IsList l vals := ⟨_, hobj', rfl, nl, rfl⟩
        unfold Builtin.«set.__init__» noKeywords Builtin.Frozenset.updateFrom
        generalize hPI : pyIter = PI
        wp_walk
        subst hPI

        refine wpAny_pyIter_list hL1 ?_
        refine wpAny_bind (wpAny_runValue ?_)
        have hLt : l < s.heap.objs.size := Heap.lt_size hobj
        have hh3 : A.in1.in1.in1.handled = none := by simp [hh]
        have hz : (s.heap.push { cls := .type "set", dict := none, data := .set #[] 0 (.fresh 0 0 (!w.params.followText "set-order")) }).objs.size = s.heap.objs.size + 1 := Heap.size_push ..
        have hNe : l ≠ (s.heap.push { cls := .type "set", dict := none, data := .set #[] 0 (.fresh 0 0 (!w.params.followText "set-order")) }).objs.size := by
          rw [Heap.size_push]; exact Nat.ne_of_lt (Nat.lt_succ_of_lt hLt)
        have hSf : s.heap.objs.size ∉ [(s.heap.push { cls := .type "set", dict := none, data := .set #[] 0 (.fresh 0 0 (!w.params.followText "set-order")) }).objs.size, l] := by
          rw [Heap.size_push]; simp only [List.mem_cons, List.mem_singleton, List.not_mem_nil, or_false, not_or]
          exact ⟨Nat.ne_of_lt (Nat.lt_succ_self _), Nat.ne_of_gt hLt⟩
        have hVals : ∀ (i : Nat) (v : Value), vals[i]? = some v → ∃ k t, ns[i]? = some k ∧ v = .int k t := fun i v hv => by
          have hi : i < ns.length := by rw [← hsz]; exact (Array.getElem?_eq_some_iff.mp hv).1
          obtain ⟨t, e⟩ := PyProof.Rows.IntsAre.int_at hit i v (by rw [Array.getElem?_toList]; exact hv)
          refine ⟨ns[i], t, List.getElem?_eq_getElem hi, ?_⟩
          rw [e, List.getD_eq_getElem?_getD, List.getElem?_eq_getElem hi] <;> rfl
        refine set_update_ints ((Walks.list hh3 _ l hNe vals).toS) s.heap.objs.size
          hSf ns hsz hb hVals (vals.size - 0) 0 _ (by omega) (Nat.zero_le _)
          ⟨⟨_, Heap.get?_push_size _ rfl, rfl, rfl⟩, (hL1.push _)⟩ ?hS0 ?hR
        case hS0 =>
          have hget : ((s.heap.push { cls := .type "set", dict := none, data := .set #[] 0 (.fresh 0 0 (!w.params.followText "set-order")) }).push { cls := .type "list_iterator", data := .fields #[.ref l, .int 0 0] }).get? s.heap.objs.size
              = some { cls := .type "set", dict := none, data := .set #[] 0 (.fresh 0 0 (!w.params.followText "set-order")) } := Heap.get?_push_of_some _ hSet
          exact ⟨0, Nat.le_refl 0, setR_new_at hget⟩
        case hR =>
          intro s' c' hm hc' hSet'
          obtain ⟨h', g2, d', tk', os'⟩ := s'
          have eg : g2 = s.gens := hm.gens
          have ed : d' = s.drawn := hm.drawn
          have eo : os' = s.os := hm.os
          subst eg; subst ed; subst eo
          show wpAny _ _ _ _ _ _
          refine wpAny_pure ?_
          show wpAny _ _ (ret Value.none) _ _ _
          rw [hsz] at hc'
          refine wpAny_pure ⟨rfl, h', tk', c', rfl, hSet', hc', fun b o e => ?_⟩
          have hb0 : b < s.heap.objs.size := Heap.lt_size e
          have hb1 : b ≠ s.heap.objs.size := Nat.ne_of_lt hb0
          have hb2 : b ≠ (s.heap.push { cls := .type "set", dict := none, data := .set #[] 0 (.fresh 0 0 (!w.params.followText "set-order")) }).objs.size := by
            rw [Heap.size_push]; exact Nat.ne_of_lt (Nat.lt_succ_of_lt hb0)
          exact hm.heap b o (by simp only [List.mem_cons, List.mem_singleton, List.not_mem_nil, or_false, not_or]; exact ⟨hb1, hb2⟩) (Heap.get?_push_of_some _ (Heap.get?_push_of_some _ e))

      · cases r₂ with
        | error e => exact hr₂
        | ok fl₂ =>
          cases fl₂ with
          | ret r =>
            obtain ⟨rfl, h', tk, c', rfl, hSet', hc', hk'⟩ := hr₂
            repeat (any_goals (first | assumption | wp_step))
            exact h _ _ _ hSet' hc' hk'
          | _ => exact hr₂.elim
    | _ => exact hr.elim
end
end FL
namespace FL
open PySem L2 PyProof.Rows

/-! ### xs[i] += e, xs the list of a slot -/
theorem get_list {X : Cx} : PGet X (rIxL X.K) := by
  intro pins s σ H o i ov iv Q I ro ri h
  obtain ⟨p, xs, k, z, rfl, rfl, hq, he, q⟩ := h
  cases ro
  obtain ⟨t, rfl⟩ := ri
  obtain ⟨its, r, pl, hz⟩ := I.list hq
  obtain ⟨j, h1, h2, h3, h4, h5⟩ := atI_get he
  obtain ⟨w, ew, rw'⟩ := r.get h2
  have hl := r.length
  have hn := line63
  by_cases h0 : 0 ≤ k
  · have hj : k.toNat = j := by
      rw [seqIndex_of h0 h5] at h1
      exact Option.some.inj h1
    exact wpAny_getItem_list (Q := EP X pins σ Q) pl.isList h0 (by omega) (by rw [hj]; simpa using ew) ⟨z, H, I, rw', q⟩
  · have hj : (k + (its.toArray.size : Int)).toNat = j := by
      rw [seqIndex_neg (by omega) h4] at h1
      rw [List.size_toArray, ← hl]
      exact Option.some.inj h1
    exact wpAny_getItem_list_neg (Q := EP X pins σ Q) pl.isList (by omega) (by rw [List.size_toArray] <;> omega) (by omega) (by rw [hj]; simpa using ew) ⟨z, H, I, rw', q⟩

section
variable {X : Cx} {e a b c : Expr} {f g : Ev} {fi : Ev} {pos tpos : Pos}
def sAugL (i : Nat) (fi f : Ev) : Stm := fun ρ => match ρ[i]? with
  | some (.own _ _) => (fi ρ).bind fun p => match p.1 with
    | .val (.int k) => match p.2[i]? with
      | some (.own _ (.lst xs)) => match atI xs k with
        | some (.int m) => (f p.2).bind fun q => match q.1 with
          | .val (.int n) => match q.2[i]? with
            | some (.own pp (.lst ys)) => (ixN ys.length k).map fun j => (.nx, q.2.set i (.own pp (.lst (ys.set j (.int (m + n))))))
            | _ => none
          | _ => none
        | _ => none
      | _ => none
    | _ => none
  | _ => none
theorem vs_augL {i : Nat} {o ix : Expr} (ho : PE X o (tVar i)) (hi : VE X ix fi) (he : VE X e f)
    (ha : ∀ ov iv new, augStore ix ov iv new = (do holding [new, ov, iv] (setItem ov iv new); release [new, ov, iv] []; pure .next) := by intros; rfl) : VS X (.AugAssign (.Subscript o ix tpos) .Add e pos) (sAugL i fi f) :=
  (ps_augS ho hi get_list he ip_add set_list ha).imp fun D σ H q => by
    obtain ⟨S, ρ, oo, ρ', E, e, k⟩ := q
    unfold sAugL at e
    split at e
    · rename_i pp0 d0 h0
      obtain ⟨p, e1, e2⟩ := bind_some e
      obtain ⟨a0, hσ, ow0⟩ := E.own i _ _ h0
      refine ⟨_, hσ, S, ρ, p.1, p.2, E, e1, fun w S1 H1 c1 => ?_⟩
      split at e2
      · rename_i kk hk
        split at e2
        · rename_i pp1 xs hxs
          split at e2
          · rename_i m hat
            obtain ⟨q, e3, e4⟩ := bind_some e2
            have r1 := c1.rep1
            rw [hk] at r1
            cases r1
            obtain ⟨a1, g1, hn, vs, hv, hr⟩ := c1.env.own i _ _ hxs
            rw [hσ] at g1; cases g1
            obtain ⟨v, hv1, hv2⟩ := atI_rep hr hat
            cases hv2
            refine ⟨a0, vs, kk, _, rfl, rfl, .inl (.inl hv), hv1, S1, p.2, q.1, q.2, c1.env, e3, fun y S2 H2 c2 => ?_⟩
            split at e4
            · rename_i n hb
              split at e4
              · rename_i pp2 ys hys
                obtain ⟨j, e5, e6⟩ := map_some e4
                cases e6
                have r2 := c2.rep1
                rw [hb] at r2
                cases r2
                obtain ⟨a2, g2, hn2, us, hu, hru⟩ := c2.env.own i _ _ hys
                rw [hσ] at g2; cases g2
                refine ⟨_, _, rfl, rfl, a0, us, kk, j, rfl, rfl, hu, by rw [hru.length]; exact e5, ?_⟩
                exact k S2 σ _ (c2.env.putOwn hys hσ hn2 ⟨hn2, _, upd_same, hru.set j (.int _)⟩) ((c1.go.trans c2.go).putOwn hys hσ)
              · cases e4
            · cases e4
          · cases e2
        · cases e2
      · cases e2
    · cases e

/-! ### sorted(set(xs)), xs a list of ints -/
def insU (x : Int) : List Int → List Int
  | [] => [x]
  | y :: ys => if x < y then x :: y :: ys else if x = y then y :: ys else y :: insU x ys
def setI : List Int → List Int
  | [] => []
  | x :: xs => insU x (setI xs)
theorem mem_insU {x v : Int} : ∀ {l : List Int}, v ∈ insU x l ↔ v = x ∨ v ∈ l
  | [] => by simp [insU]
  | y :: ys => by
    rw [insU]
    split
    · simp
    · split
      · rename_i h; subst h; simp
      · rw [List.mem_cons, mem_insU, List.mem_cons]
        constructor
        · rintro (h | h | h)
          · exact .inr (.inl h)
          · exact .inl h
          · exact .inr (.inr h)
        · rintro (h | h | h)
          · exact .inr (.inl h)
          · exact .inl h
          · exact .inr (.inr h)
theorem mem_setI {v : Int} : ∀ {l : List Int}, v ∈ setI l ↔ v ∈ l
  | [] => Iff.rfl
  | x :: xs => by rw [setI, mem_insU, mem_setI, List.mem_cons]
theorem asc_insU {x : Int} : ∀ {l : List Int}, l.Pairwise (· < ·) → (insU x l).Pairwise (· < ·)
  | [], _ => by simp [insU]
  | y :: ys, h => by
    rw [List.pairwise_cons] at h
    rw [insU]
    split
    · rename_i hxy
      rw [List.pairwise_cons, List.pairwise_cons]
      refine ⟨fun z hz => ?_, h⟩
      rcases List.mem_cons.mp hz with rfl | hz
      · exact hxy
      · have := h.1 z hz; omega
    · split
      · rw [List.pairwise_cons]; exact h
      · rw [List.pairwise_cons]
        refine ⟨fun z hz => ?_, asc_insU h.2⟩
        rcases mem_insU.mp hz with rfl | hz
        · omega
        · exact h.1 z hz
theorem asc_setI : ∀ l : List Int, (setI l).Pairwise (· < ·)
  | [] => .nil
  | x :: xs => asc_insU (asc_setI xs)
theorem asc_uniq {a b : List Int} (ha : a.Pairwise (· < ·)) (hb : b.Pairwise (· < ·)) (h : ∀ v, v ∈ a ↔ v ∈ b) : a = b := by
  have na : a.Nodup := ha.imp fun h => by omega
  have nb : b.Nodup := hb.imp fun h => by omega
  have hp : a.Perm b := (List.perm_ext_iff_of_nodup na nb).mpr h
  exact hp.eq_of_pairwise (fun x y _ _ h1 h2 => by omega) ha hb
def tSortSet (K : PySem.W.Frag) (ta : TE) : TE := fun σ H Q => ta σ H fun x H1 => ∃ (l : Addr) (ns : List Int), x = .ref l ∧ SqL K H1 l (ns.map V.int) ∧ ns.length ≤ 4000 ∧ (setI ns).length < 64 ∧ ∀ p, H1 p = none → Q (.ref p) (upd H1 p (.lst ((setI ns).map V.int)))
theorem scan_big : 4000 + 1 < scanBound := by decide
theorem pe_sortSet {a : Expr} {ta : TE} {p p2 q pos : Pos} (hg : Gl X "sorted") (hm : X.mg "sorted" = none) (hg2 : Gl X "set") (hm2 : X.mg "set" = none) (ha : PE X a ta) (hc : X.calm = true := by rfl)
    (na : starEach [a] X.env = (false, eval a X.env) :: starEach [] X.env := by rfl) : PE X (.Call (.Name "sorted" p) [.Call (.Name "set" p2) [a] [] q] [] pos) (tSortSet X.K ta) := by
  refine ⟨fun pins s σ H Q I h => ?_⟩
  refine Call_ (ld_blt I hg hm (by decide +kernel : bootBuiltins "sorted" = some (.builtin "sorted")) ?_)
  refine PyProof.Rows.callWith_builtin1 (PyProof.Rows.args_cons ?_ rfl) rfl rfl
  refine Call_ (ld_blt I hg2 hm2 boot_set ?_)
  refine PyProof.Rows.callWith_type1 (PyProof.Rows.args_cons (thn (ha.run pins s σ H _ I h) fun v s1 ⟨x, H1, I1, r1, q1⟩ => PyProof.Rows.args_nil ?_) na) na rfl
  obtain ⟨l, ns, rfl, hq, hl, h64, q1⟩ := q1
  cases r1
  obtain ⟨its, r, pl, hz⟩ := I1.list hq
  refine call_set_lstI ns (I1.ok.hd hc) pl.isList (by simpa using ints_of_vals r) (by have := scan_big; omega) fun h' tk c R hcn hk => ?_
  refine PyProof.Rows.args_nil ?_
  have I2 : Inv X pins σ H1 { s1 with heap := h', toks := tk } := I1.kept fun b o e => hk b o e
  have hlen : c = (setI ns).length := by
    obtain ⟨o, es, ep, t, ho, hex, hd, g, nd, hm, hb, hf, hn, hr, hl2⟩ := R
    have hp : (es.toList.map L2.keyOf).Perm (setI ns) := (List.perm_ext_iff_of_nodup nd ((asc_setI ns).imp fun h => by omega)).mpr fun k => by
      rw [← hm k, decide_eq_true_eq, mem_setI]
    have := hp.length_eq
    rw [← this, ← hn]; simp
  refine sorted_set R (I2.ok.hd hc) (by omega) fun s' p' out c' ms k g o hp hg' hi hs hm' hl' => ?_
  have hms : ms = setI ns := asc_uniq hs (asc_setI ns) fun k => by rw [hm' k, decide_eq_true_eq, mem_setI]
  subst hms
  have hlen' : ((setI ns).map V.int).length ≤ sizeLine := by rw [List.length_map, sizeLine_eq]; omega
  have hn : H1 p' = none := I2.hok.fresh hp
  have J : Inv X pins σ (upd H1 p' (.lst ((setI ns).map V.int))) { ({ s1 with heap := h', toks := tk } : Shared) with heap := s'.heap, gens := s'.gens, drawn := s'.drawn, toks := s'.toks } :=
    I2.call (ch := []) (Un.laid k hp hn) (I2.hok.laid k hp ⟨hlen', out.toList, c', vals_of_ints hi, hg'⟩) (by rw [g]; exact I2.bare) (fun _ z => nomatch z)
  have e : s' = { ({ s1 with heap := h', toks := tk } : Shared) with heap := s'.heap, gens := s'.gens, drawn := s'.drawn, toks := s'.toks } := by
    cases s'
    cases s1
    cases o
    rfl
  rw [e]
  exact ⟨.ref p', _, J, rfl, q1 p' hn⟩
def fSortSet (f : Ev) : Ev := fun ρ => (f ρ).bind fun p => (see p.2 p.1).bind fun d => match d with
  | .lst ds => (intsOf ds).bind fun ns => if ns.length ≤ 4000 ∧ (setI ns).length < 64 then some (.own (.lst ((setI ns).map .int)), p.2) else none
  | _ => none
theorem ve_sortSet {a : Expr} {p p2 q pos : Pos} (hg : Gl X "sorted") (hm : X.mg "sorted" = none) (hg2 : Gl X "set") (hm2 : X.mg "set" = none) (ha : VE X a f) (hc : X.calm = true := by rfl)
    (na : starEach [a] X.env = (false, eval a X.env) :: starEach [] X.env := by rfl) : VE X (.Call (.Name "sorted" p) [.Call (.Name "set" p2) [a] [] q] [] pos) (fSortSet f) :=
  (pe_sortSet hg hm hg2 hm2 ha hc na).imp fun σ H Q q => by
    obtain ⟨S, ρ, r, ρ', E, e, k⟩ := q
    obtain ⟨p, e1, e2⟩ := bind_some e
    obtain ⟨d, e3, e4⟩ := bind_some e2
    refine ⟨S, ρ, p.1, p.2, E, e1, fun v S1 H1 c => ?_⟩
    split at e4
    · rename_i ds
      obtain ⟨ns, e5, e6⟩ := bind_some e4
      split at e6
      · rename_i hl
        cases e6
        obtain ⟨a, us, rfl, h1, h2⟩ := (c.rep1.see c.env e3).lst' c.env.ex
        rw [intsOf_rep e5 h2] at h1
        exact ⟨a, ns, rfl, .inl (.inl h1), hl.1, hl.2, fun p hp => k _ _ _ (c.fin (.lst c.env.ex hp (.ints _)))⟩
      · cases e6
    · cases e4
end
end FL
namespace FL
open PySem L2 PyProof.Rows
section
variable {K : PySem.W.Frag} {S H : Hp} {X : Cx} {e a b c o : Expr} {f g : Ev} {pos tpos apos : Pos}
/-! ### texts -/
def strsOf : List D → Option (List Str)
  | [] => some []
  | .str x :: ds => (strsOf ds).map fun xs => x :: xs
  | _ :: _ => none
theorem strsOf_rep : ∀ {ds : List D} {xs : List Str} {vs : List V}, strsOf ds = some xs → Reps K S vs ds → vs = xs.map V.str
  | [], _, _, h, r => by cases h; cases r; rfl
  | .str x :: ds, xs, vs, h, r => by
    rw [strsOf] at h
    obtain ⟨ys, h1, rfl⟩ := map_some h
    cases r with
    | cons r1 rt => cases r1; rw [List.map_cons, strsOf_rep h1 rt]
  | .non :: _, _, _, h, _ => by cases h
  | .bl _ :: _, _, _, h, _ => by cases h
  | .int _ :: _, _, _, h, _ => by cases h
  | .tup _ :: _, _, _, h, _ => by cases h
  | .lst _ :: _, _, _, h, _ => by cases h
  | .dic _ :: _, _, _, h, _ => by cases h
  | .scr _ :: _, _, _, h, _ => by cases h
theorem reps_strs : ∀ (xs : List Str), Reps K S (xs.map V.str) (xs.map D.str)
  | [] => .nil
  | x :: xs => .cons (.str x) (reps_strs xs)
@[simp] theorem strsOf_map : ∀ xs : List Str, strsOf (xs.map D.str) = some xs
  | [] => rfl
  | x :: xs => by rw [List.map_cons, strsOf, strsOf_map xs]; rfl
/-- sep.join(xs), xs a list of texts -/
def oJoin : D → D → Option R
  | .str z, .lst ds => (strsOf ds).bind fun ys => if (ys.map (·.length)).sum + ys.length * z.length ≤ 1000000 then some (.val (.str (Txt.join z ys))) else none
  | _, _ => none
def fJoin (f g : Ev) : Ev := fOp2 oJoin f g
theorem see_strTy {σ : L2.St} {ρ0 ρ ρ1 ρ2 : List Sl} {S0 S1 S2 H0 H1 H2 : Hp} {v : V} {r : R} {z : Str} (c : Cur K σ ρ0 S0 H0 [v] [r] ρ1 S1 H1) (g : Go σ ρ1 S1 H1 σ ρ2 S2 H2) (E2 : Env K S2 σ H2 ρ2) (h : see ρ2 r = some (.str z)) : v = .str z :=
  ((c.rep1.go c.env g).see E2 h).str
theorem ve_join (ho : VE X o f) (he : VE X e g) (hv : ∀ ρ p, f ρ = some p → ∃ z, p.1 = .val (.str z)) (hs : starEach [e] X.env = [(false, eval e X.env)] := by rfl) (hbase : attributeBase o "join" X.env (eval o X.env) = eval o X.env := by rfl) (hline : (apos.endLine == pos.line) = true := by rfl) :
    VE X (.Call (.Attribute o "join" apos) [e] [] pos) (fJoin f g) := (pe_join ho he hs hbase hline).imp fun σ H Q q => by
  obtain ⟨S, ρ, r, ρ', E, e, k⟩ := q
  obtain ⟨p, e1, e2⟩ := bind_some e
  obtain ⟨p2, e3, e4⟩ := bind_some e2
  obtain ⟨x, e5, e6⟩ := bind_some e4
  obtain ⟨y, e7, e8⟩ := bind_some e6
  obtain ⟨r, e9, e10⟩ := map_some e8
  cases e10
  obtain ⟨z0, hz0⟩ := hv ρ p e1
  refine ⟨S, ρ, p.1, p.2, E, e1, fun u S1 H1 c1 => ⟨?_, S1, p.2, p2.1, p2.2, c1.env, e3, fun v S2 H2 c2 => ?_⟩⟩
  · have q := c1.rep1
    rw [hz0] at q
    cases q
    exact ⟨z0, rfl⟩
  · have cc := c1.cons c2
    cases cc.rep with
    | cons hu _ ht =>
      cases ht with
      | cons hv2 _ _ =>
        have su := hu.see cc.env e5
        have sv := hv2.see cc.env e7
        unfold oJoin at e9
        split at e9
        · rename_i z ds
          obtain ⟨ys, h1, h2⟩ := bind_some e9
          split at h2
          · rename_i hl
            cases h2
            obtain ⟨a, us, rfl, g1, g2⟩ := sv.lst' cc.env.ex
            rw [strsOf_rep h1 g2] at g1
            exact ⟨z, a, ys, su.str, rfl, .inl (.inl (.inl g1)), Nat.le_trans hl (by decide), k _ S2 H2 (cc.fin (.flat cc.env.ex (.str _)))⟩
          · cases h2
        · cases e9
/-- xs.count(n), xs a list of ints -/
def oCount : D → D → Option R
  | .lst ds, .int n => (intsOf ds).map fun ns => .val (.int (ns.count n : Nat))
  | _, _ => none
def fCount (i : Nat) (f : Ev) : Ev := fun ρ => match ρ[i]? with
  | some (.own _ (.lst _)) => (f ρ).bind fun q => match q.2[i]? with
    | some (.own _ (.lst ys)) => match q.1 with
      | .val y => (oCount (.lst ys) y).map fun r => (r, q.2)
      | _ => none
    | _ => none
  | _ => none
theorem ve_count {i : Nat} (ho : PE X o (tVar i)) (he : VE X e f) (hs : starEach [e] X.env = (false, eval e X.env) :: starEach [] X.env := by rfl) (hbase : attributeBase o "count" X.env (eval o X.env) = eval o X.env := by rfl)
    (hfew : ((backTo pos (starEach [e] X.env)).all (fun x => !x.1) && (backToKw pos (keywordEach [] X.env)).all (fun x => x.1.isSome)
      && decide (([e] : List Expr).length + ([] : List Keyword).length + (if ([] : List Keyword).isEmpty then 0 else 1) < 30)) = true := by rfl)
    (hline : (apos.endLine == pos.line) = true := by rfl) (hplain : (backTo pos (starEach [] X.env)).any (·.1) = false := by rfl) :
    VE X (.Call (.Attribute o "count" apos) [e] [] pos) (fCount i f) :=
  (pe_bm PySem.F.plainAttrs_list PySem.F.slot_list_count PySem.F.type_list_count mt_lcount ho (va_cons he va_nil hs) hbase hfew hline hs hplain).imp fun σ H Q q => by
    obtain ⟨S, ρ, r, ρ', E, e, k⟩ := q
    unfold fCount at e
    split at e
    · rename_i pp0 xs0 h0
      obtain ⟨q, e1, e2⟩ := bind_some e
      obtain ⟨a, hσ, hn0, vs0, hv0, hr0⟩ := E.own i _ _ h0
      refine ⟨_, hσ, .inl ⟨rfl, vs0, .inl (.inl hv0)⟩, S, ρ, [q.1], q.2, E, ?_, fun us S1 H1 c1 => ?_⟩
      · show (f ρ).bind _ = _
        rw [e1]; rfl
      · split at e2
        · rename_i pp ys hys
          split at e2
          · rename_i y hy
            obtain ⟨r, e3, e4⟩ := map_some e2
            cases e4
            obtain ⟨a1, g1, hn, vs, hv, hr⟩ := c1.env.own i _ _ hys
            rw [hσ] at g1; cases g1
            unfold oCount at e3
            split at e3
            · rename_i ds n hd
              obtain ⟨ns, h1, rfl⟩ := map_some e3
              cases hd
              cases c1.rep with
              | cons hu hd ht =>
                cases ht
                rw [hy] at hu
                cases hu
                rw [intsOf_rep h1 hr] at hv
                exact ⟨a, ns, n, rfl, rfl, .inl (.inl hv), k _ S1 H1 (c1.fin (.flat c1.env.ex (.int _)))⟩
            · cases e3
          · cases e2
        · cases e2
    · cases e
/-! ### a written table of texts, looked up at once -/
def tabLook (tbl : List (Str × Str)) (z : Str) : Option Str := (tbl.find? fun kv => decide (kv.1 = z)).map (·.2)
def fLook (tbl : List (Str × Str)) (f : Ev) : Ev := fun ρ => (f ρ).bind fun p => match p.1 with
  | .val (.str z) => (tabLook tbl z).map fun v => (.val (.str v), p.2)
  | _ => none
def trsOf (tbl : List (Str × Str)) : List (TE × TE) := tbl.map fun kv => (tC (.str kv.1), tC (.str kv.2))
theorem tPairs_trs (tbl : List (Str × Str)) (σ : L2.St) (H : Hp) (Q : List (V × V) → Hp → Prop) (h : Q (tbl.map fun kv => (V.str kv.1, V.str kv.2)) H) : tPairs (trsOf tbl) σ H Q := by
  induction tbl generalizing Q with
  | nil => exact h
  | cons kv tbl ih => exact ih _ h
def kvsOf (tbl : List (Str × Str)) : List (Key × V) := tbl.map fun kv => (.inr kv.1, .str kv.2)
def isStr : Option V → Str → Bool
  | some (.str y), z => decide (y = z)
  | _, _ => false
theorem isStr_eq {o : Option V} {z : Str} (h : isStr o z = true) : o = some (.str z) := by
  unfold isStr at h
  split at h
  · rw [of_decide_eq_true h]
  · cases h
theorem look_ok (tbl : List (Str × Str)) (h : (tbl.all fun kv => isStr (valV (mergeK [] (kvsOf tbl)) (.inr kv.1)) kv.2) = true) : ∀ z v, tabLook tbl z = some v → valV (mergeK [] (kvsOf tbl)) (.inr z) = some (.str v) := by
  intro z v hz
  unfold tabLook at hz
  obtain ⟨kv, h1, rfl⟩ := map_some hz
  have h2 := List.find?_some h1
  have h3 := List.mem_of_find?_eq_some h1
  have h4 : kv.1 = z := of_decide_eq_true h2
  rw [← h4]
  exact isStr_eq (List.all_eq_true.mp h kv h3)
theorem ve_look {tbl : List (Str × Str)} {keys : List (Option Expr)} {values : List Expr} {dpos : Pos} (hu : X.A.units + 1 < cLine) (hp : PPs X dpos keys values (trsOf tbl)) (hall : keys.all (·.isSome) = true) (hl : keys.length = values.length) (h0 : keys ≠ []) (h15 : keys.length ≤ 15) (ht : tbl.length ≤ 15)
    (hm : ∀ z v, tabLook tbl z = some v → valV (mergeK [] (kvsOf tbl)) (.inr z) = some (.str v)) (hb : VE X b f) (hs : PlainIx b) : VE X (.Subscript (.Dict keys values dpos) b pos) (fLook tbl f) :=
  (pe_dget hu (pe_disp hp hall hl h0 h15) hb hs).imp fun σ H Q q => by
    obtain ⟨S, ρ, r, ρ', E, e, k⟩ := q
    obtain ⟨p, e1, e2⟩ := bind_some e
    split at e2
    · rename_i z hz
      obtain ⟨v, e3, e4⟩ := map_some e2
      cases e4
      intro d hd
      refine tPairs_trs tbl σ _ _ ⟨upd_same, kvsOf tbl, ?_, by unfold kvsOf; simpa using ht, ?_⟩
      · unfold kvsOf
        rw [List.map_map]; rfl
      · have hSd : S d = none := none_of E.ex hd
        have nd : ¬ Owns σ ρ d := fun h => (E.there h).1 hd
        have E1 : Env X.K S σ (upd H d (.dK (mergeK [] (kvsOf tbl)))) ρ := E.mut hSd nd
        have e0 : upd (upd H d (.dK [])) d (.dK (mergeK [] (kvsOf tbl))) = upd H d (.dK (mergeK [] (kvsOf tbl))) := by
          funext x
          by_cases hx : x = d
          · subst hx; rw [upd_same, upd_same]
          · rw [upd_ne hx, upd_ne hx, upd_ne hx]
        rw [e0]
        refine ⟨S, ρ, p.1, p.2, E1, e1, fun u S1 H1 c1 => ?_⟩
        have hd1 : H1 d = some (.dK (mergeK [] (kvsOf tbl))) := c1.go.keep d _ upd_same nd
        have q := c1.rep1
        rw [hz] at q
        cases q
        refine ⟨d, .str v, rfl, ?_, ?_⟩
        · rw [← hm z v e3]
          exact DGet.k (k := .inr z) hd1
        · refine k _ S1 H1 ?_
          have c2 : Cur X.K σ ρ S H [] [] p.2 S1 H1 := by
            refine ⟨c1.env, (Go.refl.mut (.inr hd)).trans c1.go, .nil, fun _ _ h => nomatch h⟩
          exact c2.fin (.flat c2.env.ex (.str _))
    · cases e2
/-! ### sorted(xs), xs a list of texts -/
def sortStr (xs : List Str) : List Str := xs.mergeSort fun a b => !Spec.ltCps b.cps.toList a.cps.toList
theorem str_ext {a b : Str} (h : a.cps.toList = b.cps.toList) : a = b := by
  obtain ⟨x⟩ := a
  obtain ⟨y⟩ := b
  have : x = y := Array.toList_inj.mp h
  rw [this]
theorem le_cps (a b : Str) : (!Spec.ltCps b.cps.toList a.cps.toList) = true ↔ a.cps.toList ≤ b.cps.toList := by
  rw [ltCps_eq]
  simp
theorem sortStr_pw (xs : List Str) : (sortStr xs).Pairwise fun a b => a.cps.toList ≤ b.cps.toList :=
  (List.pairwise_mergeSort (fun a b c h1 h2 => (le_cps a c).mpr (List.le_trans ((le_cps a b).mp h1) ((le_cps b c).mp h2))) (fun a b => by
    rw [Bool.or_eq_true, le_cps, le_cps]
    exact List.le_total _ _) xs).imp fun h => (le_cps _ _).mp h
theorem risingS_pw : ∀ {xs : List Str} {p : Str}, risingS p xs = true → (p :: xs).Pairwise fun a b => a.cps.toList ≤ b.cps.toList
  | [], p, _ => by simp
  | x :: xs, p, h => by
    rw [risingS, Bool.and_eq_true] at h
    have ih := risingS_pw h.2
    rw [List.pairwise_cons]
    refine ⟨fun z hz => ?_, ih⟩
    have h1 := (le_cps p x).mp h.1
    rcases List.mem_cons.mp hz with rfl | hz
    · exact h1
    · exact List.le_trans h1 ((List.pairwise_cons.mp ih).1 z hz)
theorem sortedS_pw {xs : List Str} (h : sortedS xs = true) : xs.Pairwise fun a b => a.cps.toList ≤ b.cps.toList := by
  cases xs with
  | nil => exact .nil
  | cons x xs => exact risingS_pw h
theorem sortStr_uniq {xs ys : List Str} (hp : ys.Perm xs) (h : sortedS ys = true) : ys = sortStr xs :=
  (hp.trans (List.mergeSort_perm _ _).symm).eq_of_pairwise (fun a b _ _ h1 h2 => str_ext (List.le_antisymm h1 h2)) (sortedS_pw h) (sortStr_pw xs)
def oSortB (ds : List D) : Option R := match ds with
  | [.lst xs] => match strsOf xs with
    | some ss => if xs ≠ [] ∧ ss.length < 64 then some (.own (.lst ((sortStr ss).map .str))) else oSortA ds
    | none => oSortA ds
  | _ => oSortA ds
def rSortB (K : PySem.W.Frag) : List V → Hp → VK → Prop := fun xs H Q => rSortedS K xs H Q ∨ rSortA K xs H Q
theorem c_sortB {X : Cx} : CallR X (.builtin "sorted") (rSortB X.K) := CallR.or cr_sortedS c_sort
theorem s_sortB : SoundN K (rSortB K) oSortB := fun S H vs ds res ex s e Q k => by
  unfold oSortB at e
  split at e
  · rename_i xs
    split at e
    · rename_i ss hss
      split at e
      · rename_i hc
        cases e
        obtain ⟨v, rfl, s1⟩ := s.one
        obtain ⟨a, us, rfl, h1, h2⟩ := s1.lst' ex
        rw [strsOf_rep hss h2] at h1
        refine .inl ⟨a, ss, rfl, .inl (.inl h1), hc.2, fun ys p hp hs hn => ?_⟩
        rw [sortStr_uniq hp hs]
        exact k _ _ _ (.lst ex hn (reps_strs _))
      · exact .inr (s_sortA S H vs _ res ex s e Q k)
    · exact .inr (s_sortA S H vs _ res ex s e Q k)
  · exact .inr (s_sortA S H vs _ res ex s e Q k)
end
end FL
namespace FL
open PySem L2
/-! # Meanings evaluated by simp -/
/-! ### slots -/
def varO (i : Nat) (ρ : List Sl) : Option Sl → Option (R × List Sl)
  | some (.val d) => some (.val d, ρ)
  | some (.own _ _) => some (.al i, ρ)
  | _ => none
@[simp] theorem varO_val (i : Nat) (ρ : List Sl) (d : D) : varO i ρ (some (.val d)) = some (.val d, ρ) := rfl
@[simp] theorem varO_own (i : Nat) (ρ : List Sl) (p : Bool) (d : D) : varO i ρ (some (.own p d)) = some (.al i, ρ) := rfl
@[simp] theorem ev_var (i : Nat) (ρ : List Sl) : fVar i ρ = varO i ρ ρ[i]? := by
  unfold fVar varO; rfl
def seeO : Option Sl → Option D
  | some (.own _ d) => some d
  | some (.val d) => some d
  | _ => none
@[simp] theorem seeO_val (d : D) : seeO (some (.val d)) = some d := rfl
@[simp] theorem seeO_own (p : Bool) (d : D) : seeO (some (.own p d)) = some d := rfl
@[simp] theorem see_val (ρ : List Sl) (d : D) : see ρ (.val d) = some d := rfl
@[simp] theorem see_own (ρ : List Sl) (d : D) : see ρ (.own d) = some d := rfl
@[simp] theorem see_al (ρ : List Sl) (i : Nat) : see ρ (.al i) = seeO ρ[i]? := by unfold see seeO; rfl
def takeO (i : Nat) (ρ : List Sl) : Option Sl → Option (D × List Sl)
  | some (.own _ d) => some (d, ρ.set i (.val d))
  | some (.val d) => some (d, ρ)
  | _ => none
@[simp] theorem takeO_val (i : Nat) (ρ : List Sl) (d : D) : takeO i ρ (some (.val d)) = some (d, ρ) := rfl
@[simp] theorem takeO_own (i : Nat) (ρ : List Sl) (p : Bool) (d : D) : takeO i ρ (some (.own p d)) = some (d, ρ.set i (.val d)) := rfl
@[simp] theorem take_val (ρ : List Sl) (d : D) : take ρ (.val d) = some (d, ρ) := rfl
@[simp] theorem take_own (ρ : List Sl) (d : D) : take ρ (.own d) = some (d, ρ) := rfl
@[simp] theorem take_al (ρ : List Sl) (i : Nat) : take ρ (.al i) = takeO i ρ ρ[i]? := by unfold take takeO; rfl
@[simp] theorem takes_nil (ρ : List Sl) : takes ρ [] = some ([], ρ) := rfl
@[simp] theorem takes_cons (ρ : List Sl) (r : R) (rs : List R) : takes ρ (r :: rs) = (FL.take ρ r).bind fun p => (takes p.2 rs).map fun q => (p.1 :: q.1, q.2) := rfl
@[simp] theorem sees_nil (ρ : List Sl) : sees ρ [] = some [] := rfl
@[simp] theorem sees_cons (ρ : List Sl) (r : R) (rs : List R) : sees ρ (r :: rs) = (see ρ r).bind fun d => (sees ρ rs).map fun ds => d :: ds := rfl
@[simp] theorem evs_nil (ρ : List Sl) : evs [] ρ = some ([], ρ) := rfl
@[simp] theorem evs_cons (f : Ev) (fs : List Ev) (ρ : List Sl) : evs (f :: fs) ρ = (f ρ).bind fun p => (evs fs p.2).map fun q => (p.1 :: q.1, q.2) := rfl
/-! ### expressions -/
@[simp] theorem ev_c (d : D) (ρ : List Sl) : fC d ρ = some (.val d, ρ) := rfl
@[simp] theorem ev_op1 (o : D → Option R) (f : Ev) (ρ : List Sl) : fOp1 o f ρ = (f ρ).bind fun p => (see p.2 p.1).bind fun x => (o x).map fun r => (r, p.2) := rfl
@[simp] theorem ev_op2 (o : D → D → Option R) (f g : Ev) (ρ : List Sl) : fOp2 o f g ρ = (f ρ).bind fun p => (g p.2).bind fun q => (see q.2 p.1).bind fun x => (see q.2 q.1).bind fun y => (o x y).map fun r => (r, q.2) := rfl
@[simp] theorem ev_opN (o : List D → Option R) (fs : List Ev) (ρ : List Sl) : fOpN o fs ρ = (evs fs ρ).bind fun p => (sees p.2 p.1).bind fun ds => (o ds).map fun r => (r, p.2) := rfl
@[simp] theorem ev_chain (o o' : D → D → Option Bool) (f g h : Ev) (ρ : List Sl) : fChain o o' f g h ρ = (f ρ).bind fun p => (g p.2).bind fun q => (see q.2 p.1).bind fun x => (see q.2 q.1).bind fun y => (o x y).bind fun b =>
  if b = true then (h q.2).bind fun r => (see r.2 q.1).bind fun y' => (see r.2 r.1).bind fun z => (o' y' z).map fun c => (.val (.bl c), r.2) else some (.val (.bl false), q.2) := rfl
def condO {α : Type} (f g : List Sl → Option α) : Option (R × List Sl) → Option α
  | some (.val (.bl b), ρ) => if b = true then f ρ else g ρ
  | _ => none
@[simp] theorem condO_bl {α : Type} (f g : List Sl → Option α) (b : Bool) (ρ : List Sl) : condO f g (some (.val (.bl b), ρ)) = if b = true then f ρ else g ρ := rfl
theorem cond_eq {α : Type} (f g : List Sl → Option α) (x : Option (R × List Sl)) : (x.bind fun p => match p.1 with
  | .val (.bl true) => f p.2
  | .val (.bl false) => g p.2
  | _ => none) = condO f g x := by
  rcases x with _ | ⟨r, ρ⟩
  · rfl
  · rcases r with d | d | i
    · cases d with
      | bl b => cases b <;> rfl
      | _ => rfl
    · rfl
    · rfl
@[simp] theorem ev_and (f g : Ev) (ρ : List Sl) : fAnd f g ρ = condO g (fun ρ => some (.val (.bl false), ρ)) (f ρ) := cond_eq g (fun ρ => some (.val (.bl false), ρ)) (f ρ)
@[simp] theorem ev_or (f g : Ev) (ρ : List Sl) : fOr f g ρ = condO (fun ρ => some (.val (.bl true), ρ)) g (f ρ) := by
  unfold fOr
  rcases f ρ with _ | ⟨r, ρ⟩
  · rfl
  · rcases r with d | d | i
    · cases d with
      | bl b => cases b <;> rfl
      | _ => rfl
    · rfl
    · rfl
@[simp] theorem ev_if (c f g : Ev) (ρ : List Sl) : fIf c f g ρ = condO f g (c ρ) := cond_eq _ _ _
@[simp] theorem ev_not (f : Ev) (ρ : List Sl) : fNot f ρ = condO (fun ρ => some (.val (.bl false), ρ)) (fun ρ => some (.val (.bl true), ρ)) (f ρ) := by
  rw [← cond_eq]
  unfold fNot
  congr 1
  funext p
  rcases p with ⟨r, ρ⟩
  rcases r with d | d | i
  · cases d with
    | bl b => cases b <;> rfl
    | _ => rfl
  · rfl
  · rfl
@[simp] theorem ev_tru (f : Ev) (ρ : List Sl) : fTru f ρ = (f ρ).bind fun p => (see p.2 p.1).bind fun d => (tru d).map fun b => (.val (.bl b), p.2) := rfl
@[simp] theorem ev_tup (fs : List Ev) (ρ : List Sl) : fTup fs ρ = (evs fs ρ).bind fun p => (takes p.2 p.1).bind fun q => if q.1.length ≤ cap then some (.val (.tup q.1), q.2) else none := rfl
@[simp] theorem ev_lst (fs : List Ev) (ρ : List Sl) : fLst fs ρ = (evs fs ρ).bind fun p => (takes p.2 p.1).bind fun q => if q.1.length ≤ cap then some (.own (.lst q.1), q.2) else none := rfl
@[simp] theorem ev_dic (ρ : List Sl) : fDic ρ = some (.own (.dic []), ρ) := rfl
def starO (q : Option (List D × List Sl)) (r : R) : Option (List D × List Sl) := match r with
  | .val (.tup ds) => q.map fun q => (ds ++ q.1, q.2)
  | _ => none
@[simp] theorem starO_tup (q : Option (List D × List Sl)) (ds : List D) : starO q (.val (.tup ds)) = q.map fun q => (ds ++ q.1, q.2) := rfl
def consO (q : Option (List D × List Sl)) (r : R) : Option (List D × List Sl) := q.bind fun q => match r with
  | .val d => some (d :: q.1, q.2)
  | _ => none
@[simp] theorem consO_val (q : Option (List D × List Sl)) (d : D) : consO q (.val d) = q.map fun q => (d :: q.1, q.2) := by cases q <;> rfl
@[simp] theorem evsS_nil (ρ : List Sl) : evsS [] ρ = some ([], ρ) := rfl
@[simp] theorem evsS_cons (f : Ev) (fs : List (Bool × Ev)) (ρ : List Sl) : evsS ((false, f) :: fs) ρ = (f ρ).bind fun p => consO (evsS fs p.2) p.1 := rfl
@[simp] theorem evsS_star (f : Ev) (fs : List (Bool × Ev)) (ρ : List Sl) : evsS ((true, f) :: fs) ρ = (f ρ).bind fun p => starO (evsS fs p.2) p.1 := rfl
@[simp] theorem ev_tupS (fs : List (Bool × Ev)) (ρ : List Sl) : fTupS fs ρ = (evsS fs ρ).bind fun p => if p.1.length ≤ cap then some (.val (.tup p.1), p.2) else none := rfl
def partO (ρ : List Sl) : R → Option (Option Int × List Sl)
  | .val (.int i) => some (some i, ρ)
  | _ => none
@[simp] theorem partO_int (ρ : List Sl) (i : Int) : partO ρ (.val (.int i)) = some (some i, ρ) := rfl
@[simp] theorem part_none (ρ : List Sl) : fPart none ρ = some (none, ρ) := rfl
@[simp] theorem part_some (f : Ev) (ρ : List Sl) : fPart (some f) ρ = (f ρ).bind fun p => partO p.2 p.1 := rfl
@[simp] theorem ev_slice (f : Ev) (lo hi : Option Ev) (ρ : List Sl) : fSlice f lo hi ρ = (f ρ).bind fun p => (fPart lo p.2).bind fun q => (fPart hi q.2).bind fun t => (see t.2 p.1).bind fun x => (oSlice x q.1 t.1).map fun r => (r, t.2) := rfl
@[simp] theorem ev_isi (T : String) (f : Ev) (ρ : List Sl) : fIsi T f ρ = (f ρ).bind fun p => (see p.2 p.1).bind fun d => (isTy T d).map fun b => (.val (.bl b), p.2) := rfl
@[simp] theorem ev_isi2 (T U : String) (f : Ev) (ρ : List Sl) : fIsi2 T U f ρ = (f ρ).bind fun p => (see p.2 p.1).bind fun d => (isTy T d).bind fun b => (isTy U d).map fun c => (.val (.bl (b || c)), p.2) := rfl
@[simp] theorem ev_rev (f : Ev) (ρ : List Sl) : fRev f ρ = fOp1 oRev f ρ := rfl
@[simp] theorem ev_inD (b : Bool) (f g : Ev) (ρ : List Sl) : fInD b f g ρ = fOp2 (oInD b) f g ρ := rfl
/-! ### calls -/
def argO : Option Sl → Option Sl
  | some (.own _ d) => some (.own false d)
  | some (.val d) => some (.val d)
  | _ => none
@[simp] theorem argO_own (p : Bool) (d : D) : argO (some (.own p d)) = some (.own false d) := rfl
@[simp] theorem argO_val (d : D) : argO (some (.val d)) = some (.val d) := rfl
@[simp] theorem argOf_val (ρ : List Sl) (d : D) : argOf ρ (.val d) = some (.val d) := rfl
@[simp] theorem argOf_own (ρ : List Sl) (d : D) : argOf ρ (.own d) = some (.own false d) := rfl
@[simp] theorem argOf_al (ρ : List Sl) (i : Nat) : argOf ρ (.al i) = argO ρ[i]? := by unfold argOf argO; rfl
@[simp] theorem argsOf_nil (ρ : List Sl) : argsOf ρ [] = some [] := rfl
@[simp] theorem argsOf_cons (ρ : List Sl) (r : R) (rs : List R) : argsOf ρ (r :: rs) = (argOf ρ r).bind fun a => (argsOf ρ rs).map fun as => a :: as := rfl
def alO (i : Nat) (l : List Nat) : Option Sl → List Nat
  | some (.own _ _) => i :: l
  | _ => l
@[simp] theorem alO_own (i : Nat) (l : List Nat) (p : Bool) (d : D) : alO i l (some (.own p d)) = i :: l := rfl
@[simp] theorem alO_val (i : Nat) (l : List Nat) (d : D) : alO i l (some (.val d)) = l := rfl
@[simp] theorem als_nil (ρ : List Sl) : als ρ [] = [] := rfl
@[simp] theorem als_val (ρ : List Sl) (d : D) (rs : List R) : als ρ (.val d :: rs) = als ρ rs := rfl
@[simp] theorem als_own (ρ : List Sl) (d : D) (rs : List R) : als ρ (.own d :: rs) = als ρ rs := rfl
@[simp] theorem als_al (ρ : List Sl) (i : Nat) (rs : List R) : als ρ (.al i :: rs) = alO i (als ρ rs) ρ[i]? := by rw [als]; unfold alO; rfl
@[simp] theorem flagAs_own (p q : Bool) (d : D) : flagAs p (.own q d) = .own p d := rfl
@[simp] theorem flagAs_val (p : Bool) (d : D) : flagAs p (.val d) = .val d := rfl
@[simp] theorem flagAs_no (p : Bool) : flagAs p .no = .no := rfl
def backO (ρ0 : List Sl) (i : Nat) (rs : List R) (a : Sl) (as ρ : List Sl) : Option Sl → List Sl
  | some (.own p _) => back ρ0 rs as (ρ.set i (flagAs p a))
  | _ => back ρ0 rs as ρ
@[simp] theorem backO_own (ρ0 : List Sl) (i : Nat) (rs : List R) (a : Sl) (as ρ : List Sl) (p : Bool) (d : D) : backO ρ0 i rs a as ρ (some (.own p d)) = back ρ0 rs as (ρ.set i (flagAs p a)) := rfl
@[simp] theorem backO_val (ρ0 : List Sl) (i : Nat) (rs : List R) (a : Sl) (as ρ : List Sl) (d : D) : backO ρ0 i rs a as ρ (some (.val d)) = back ρ0 rs as ρ := rfl
@[simp] theorem back_nil (ρ0 as ρ : List Sl) : back ρ0 [] as ρ = ρ := by cases as <;> rfl
@[simp] theorem back_val (ρ0 : List Sl) (d : D) (rs : List R) (a : Sl) (as ρ : List Sl) : back ρ0 (.val d :: rs) (a :: as) ρ = back ρ0 rs as ρ := rfl
@[simp] theorem back_own (ρ0 : List Sl) (d : D) (rs : List R) (a : Sl) (as ρ : List Sl) : back ρ0 (.own d :: rs) (a :: as) ρ = back ρ0 rs as ρ := rfl
@[simp] theorem back_al (ρ0 : List Sl) (i : Nat) (rs : List R) (a : Sl) (as ρ : List Sl) : back ρ0 (.al i :: rs) (a :: as) ρ = backO ρ0 i rs a as ρ ρ0[i]? := by rw [back]; unfold backO; rfl
def callO (ρ : List Sl) (rs : List R) : R × List Sl → Option (R × List Sl)
  | (.al _, _) => none
  | (r, as) => some (r, back ρ rs as ρ)
@[simp] theorem callO_val (ρ : List Sl) (rs : List R) (d : D) (as : List Sl) : callO ρ rs (.val d, as) = some (.val d, back ρ rs as ρ) := rfl
@[simp] theorem callO_own (ρ : List Sl) (rs : List R) (d : D) (as : List Sl) : callO ρ rs (.own d, as) = some (.own d, back ρ rs as ρ) := rfl
@[simp] theorem ev_call (F : Fn) (fs : List Ev) (ρ : List Sl) : fCall F fs ρ = (evs fs ρ).bind fun p => (argsOf p.2 p.1).bind fun args => if (als p.2 p.1).Nodup then (F args).bind (callO p.2 p.1) else none := by
  unfold fCall
  congr 1
  funext p
  congr 1
  funext args
  split
  · congr 1
    funext q
    rcases q with ⟨r, as⟩
    cases r <;> rfl
  · rfl
/-! ### statements -/
def seqO (g : Stm) : Option (Out × List Sl) → Option (Out × List Sl)
  | some (.nx, ρ) => g ρ
  | some (o, ρ) => some (o, ρ)
  | none => none
@[simp] theorem seqO_nx (g : Stm) (ρ : List Sl) : seqO g (some (.nx, ρ)) = g ρ := rfl
@[simp] theorem seqO_rt (g : Stm) (r : R) (ρ : List Sl) : seqO g (some (.rt r, ρ)) = some (.rt r, ρ) := rfl
@[simp] theorem seqO_bk (g : Stm) (ρ : List Sl) : seqO g (some (.bk, ρ)) = some (.bk, ρ) := rfl
@[simp] theorem seqO_ct (g : Stm) (ρ : List Sl) : seqO g (some (.ct, ρ)) = some (.ct, ρ) := rfl
@[simp] theorem st_seq (f g : Stm) (ρ : List Sl) : sSeq f g ρ = seqO g (f ρ) := by
  unfold sSeq
  rcases f ρ with _ | ⟨o, ρ⟩
  · rfl
  · cases o <;> rfl
@[simp] theorem st_nx (ρ : List Sl) : sNx ρ = some (.nx, ρ) := rfl
@[simp] theorem st_bk (ρ : List Sl) : sBk ρ = some (.bk, ρ) := rfl
@[simp] theorem st_ct (ρ : List Sl) : sCt ρ = some (.ct, ρ) := rfl
@[simp] theorem st_if (c : Ev) (f g : Stm) (ρ : List Sl) : sIf c f g ρ = condO f g (c ρ) := cond_eq _ _ _
@[simp] theorem st_drop (f : Ev) (ρ : List Sl) : sDrop f ρ = (f ρ).map fun p => (.nx, p.2) := rfl
def retI (i : Nat) (ρ : List Sl) : Option Sl → Option (Out × List Sl)
  | some (.own _ d) => some (.rt (.own d), ρ.set i .no)
  | some (.val d) => some (.rt (.val d), ρ)
  | _ => none
@[simp] theorem retI_own (i : Nat) (ρ : List Sl) (p : Bool) (d : D) : retI i ρ (some (.own p d)) = some (.rt (.own d), ρ.set i .no) := rfl
@[simp] theorem retI_val (i : Nat) (ρ : List Sl) (d : D) : retI i ρ (some (.val d)) = some (.rt (.val d), ρ) := rfl
def retO : R × List Sl → Option (Out × List Sl)
  | (.al i, ρ) => retI i ρ ρ[i]?
  | (r, ρ) => some (.rt r, ρ)
@[simp] theorem retO_al (i : Nat) (ρ : List Sl) : retO (.al i, ρ) = retI i ρ ρ[i]? := rfl
@[simp] theorem retO_val (d : D) (ρ : List Sl) : retO (.val d, ρ) = some (.rt (.val d), ρ) := rfl
@[simp] theorem retO_own (d : D) (ρ : List Sl) : retO (.own d, ρ) = some (.rt (.own d), ρ) := rfl
@[simp] theorem st_ret (f : Ev) (ρ : List Sl) : sRet f ρ = (f ρ).bind retO := by
  unfold sRet
  congr 1
  funext p
  rcases p with ⟨r, ρ⟩
  cases r with
  | al i => simp only [retO_al]; unfold retI; rfl
  | _ => rfl
def okO : Option Sl → Bool
  | some s => FL.stored s
  | none => false
@[simp] theorem okO_some (s : Sl) : okO (some s) = FL.stored s := rfl
@[simp] theorem okAt_eq (ρ : List Sl) (i : Nat) : okAt ρ i = okO ρ[i]? := by unfold okAt okO; rfl
@[simp] theorem stored_no : FL.stored .no = true := rfl
@[simp] theorem stored_val (d : D) : FL.stored (.val d) = true := rfl
@[simp] theorem stored_own (d : D) : FL.stored (.own false d) = true := rfl
@[simp] theorem putR_val (i : Nat) (d : D) (ρ : List Sl) : putR i (.val d) ρ = if okO ρ[i]? = true then some (ρ.set i (.val d)) else none := by unfold putR; rw [okAt_eq]
@[simp] theorem putR_own (i : Nat) (d : D) (ρ : List Sl) : putR i (.own d) ρ = if okO ρ[i]? = true then some (ρ.set i (.own false d)) else none := by unfold putR; rw [okAt_eq]
@[simp] theorem putR_al (i j : Nat) (ρ : List Sl) : putR i (.al j) ρ = if okO ρ[i]? = true then (takeO j ρ ρ[j]?).bind fun q => if okO q.2[i]? = true then some (q.2.set i (.val q.1)) else none else none := by
  unfold putR; simp only [okAt_eq, take_al]
@[simp] theorem st_asg (i : Nat) (f : Ev) (ρ : List Sl) : sAsg i f ρ = (f ρ).bind fun p => (putR i p.1 p.2).map fun ρ1 => (.nx, ρ1) := rfl
@[simp] theorem asg_nm (i : Nat) (d : D) (ρ : List Sl) : asg (.nm i) d ρ = if okO ρ[i]? = true then some (ρ.set i (.val d)) else none := by rw [asg, okAt_eq]
@[simp] theorem asg_tp (ts : List Tg) (ds : List D) (ρ : List Sl) : asg (.tp ts) (.tup ds) ρ = asgs ts ds ρ := by rw [asg]
@[simp] theorem asgs_nil (ρ : List Sl) : asgs [] [] ρ = some ρ := by rw [asgs]
@[simp] theorem asgs_cons (t : Tg) (ts : List Tg) (d : D) (ds : List D) (ρ : List Sl) : asgs (t :: ts) (d :: ds) ρ = (asg t d ρ).bind fun ρ1 => asgs ts ds ρ1 := by rw [asgs]
def unpO (t : Tg) : R × List Sl → Option (Out × List Sl)
  | (.val d, ρ) => (asg t d ρ).map fun ρ1 => (.nx, ρ1)
  | _ => none
@[simp] theorem unpO_val (t : Tg) (d : D) (ρ : List Sl) : unpO t (.val d, ρ) = (asg t d ρ).map fun ρ1 => (.nx, ρ1) := rfl
@[simp] theorem st_unp (t : Tg) (f : Ev) (ρ : List Sl) : sUnp t f ρ = (f ρ).bind (unpO t) := by
  unfold sUnp
  congr 1
  funext p
  rcases p with ⟨r, ρ⟩
  cases r <;> rfl
@[simp] theorem put1_val (i : Nat) (d : D) (ρ : List Sl) : put1 i (.val d) ρ = if okO ρ[i]? = true then some (ρ.set i (.val d)) else none := by unfold put1; rw [okAt_eq]
@[simp] theorem put1_own (i : Nat) (d : D) (ρ : List Sl) : put1 i (.own d) ρ = if okO ρ[i]? = true then some (ρ.set i (.own false d)) else none := by unfold put1; rw [okAt_eq]
@[simp] theorem puts_nil (ρ : List Sl) : puts [] [] ρ = some ρ := rfl
@[simp] theorem puts_cons (i : Nat) (is : List Nat) (r : R) (rs : List R) (ρ : List Sl) : puts (i :: is) (r :: rs) ρ = (put1 i r ρ).bind fun ρ1 => puts is rs ρ1 := rfl
@[simp] theorem st_par (is : List Nat) (fs : List Ev) (ρ : List Sl) : sPar is fs ρ = (evs fs ρ).bind fun p => (puts is p.1 p.2).map fun ρ1 => (.nx, ρ1) := rfl
@[simp] theorem st_for (it : Iv) (t : Tg) (b : Stm) (ρ : List Sl) : sFor it t b ρ = (it ρ).bind fun p => forL t b p.1 p.2 := rfl
theorem st_while (n : Nat) (c : Ev) (b : Stm) (ρ : List Sl) : sWhile n c b ρ = whileL c b n ρ := rfl
/-- xs[i] = v -/
def subL (z : D × List Sl) (i : Nat) (ix : D) : Option Sl → Option (Out × List Sl)
  | some (.own pp (.lst xs)) => match ix with
    | .int k => (ixN xs.length k).map fun j => (.nx, z.2.set i (.own pp (.lst (xs.set j z.1))))
    | _ => none
  | some (.own pp (.dic kvs)) => match ix with
    | .tup ks => (toKey ks).bind fun k => if kvs.length < cap then some (.nx, z.2.set i (.own pp (.dic (putD kvs k z.1)))) else none
    | _ => none
  | _ => none
@[simp] theorem subL_lst (z : D × List Sl) (i : Nat) (k : Int) (pp : Bool) (xs : List D) : subL z i (.int k) (some (.own pp (.lst xs))) = (ixN xs.length k).map fun j => (.nx, z.2.set i (.own pp (.lst (xs.set j z.1)))) := rfl
@[simp] theorem subL_dic (z : D × List Sl) (i : Nat) (ks : List D) (pp : Bool) (kvs : List (List Key × D)) : subL z i (.tup ks) (some (.own pp (.dic kvs))) = (toKey ks).bind fun k => if kvs.length < cap then some (.nx, z.2.set i (.own pp (.dic (putD kvs k z.1)))) else none := rfl
def subV (r : R) (i : Nat) : R × List Sl → Option (Out × List Sl)
  | (.val ix, ρ) => (take ρ r).bind fun z => subL z i ix z.2[i]?
  | _ => none
@[simp] theorem subV_val (r : R) (i : Nat) (ix : D) (ρ : List Sl) : subV r i (.val ix, ρ) = (take ρ r).bind fun z => subL z i ix z.2[i]? := rfl
def subO (fi : Ev) (r : R) (i : Nat) (ρ : List Sl) : Option Sl → Option (Out × List Sl)
  | some (.own _ _) => (fi ρ).bind (subV r i)
  | _ => none
@[simp] theorem subO_own (fi : Ev) (r : R) (i : Nat) (ρ : List Sl) (p : Bool) (d : D) : subO fi r i ρ (some (.own p d)) = (fi ρ).bind (subV r i) := rfl
@[simp] theorem st_sub (i : Nat) (fi f : Ev) (ρ : List Sl) : sSub i fi f ρ = (f ρ).bind fun p => subO fi p.1 i p.2 p.2[i]? := by
  unfold sSub
  congr 1
  funext p
  rcases p with ⟨r, ρ⟩
  show _ = subO fi r i ρ ρ[i]?
  rcases ρ[i]? with _ | s
  · rfl
  · cases s with
    | own p d =>
      simp only [subO_own]
      congr 1
      funext q
      rcases q with ⟨q, ρ'⟩
      cases q with
      | val ix => rfl
      | _ => rfl
    | _ => rfl
def mutK (i : Nat) (o : List D → List D → Option (D × List D)) (z : List D × List Sl) : Option Sl → Option (R × List Sl)
  | some (.own pp (.lst xs)) => (o xs z.1).map fun t => (.val t.1, z.2.set i (.own pp (.lst t.2)))
  | _ => none
@[simp] theorem mutK_lst (i : Nat) (o : List D → List D → Option (D × List D)) (z : List D × List Sl) (pp : Bool) (xs : List D) : mutK i o z (some (.own pp (.lst xs))) = (o xs z.1).map fun t => (.val t.1, z.2.set i (.own pp (.lst t.2))) := rfl
def mutO (i : Nat) (o : List D → List D → Option (D × List D)) (fs : List Ev) (ρ : List Sl) : Option Sl → Option (R × List Sl)
  | some (.own _ (.lst _)) => (evs fs ρ).bind fun p => (takes p.2 p.1).bind fun z => mutK i o z z.2[i]?
  | _ => none
@[simp] theorem mutO_lst (i : Nat) (o : List D → List D → Option (D × List D)) (fs : List Ev) (ρ : List Sl) (pp : Bool) (xs : List D) : mutO i o fs ρ (some (.own pp (.lst xs))) = (evs fs ρ).bind fun p => (takes p.2 p.1).bind fun z => mutK i o z z.2[i]? := rfl
@[simp] theorem ev_mutL (i : Nat) (o : List D → List D → Option (D × List D)) (fs : List Ev) (ρ : List Sl) : fMutL i o fs ρ = mutO i o fs ρ ρ[i]? := by
  unfold fMutL mutO
  rcases ρ[i]? with _ | s
  · rfl
  · cases s with
    | own p d => cases d <;> rfl
    | _ => rfl
/-! ### a def -/
@[simp] theorem pinS_own (p : Bool) (d : D) : pinS (.own p d) = .own true d := rfl
@[simp] theorem pinS_val (d : D) : pinS (.val d) = .val d := rfl
@[simp] theorem outA_own (p : Bool) (d d' : D) : outA (.own p d) (.own true d') = .own p d' := rfl
@[simp] theorem outA_no (p : Bool) (d : D) : outA (.own p d) .no = .no := rfl
@[simp] theorem outA_frz (p : Bool) (d d' : D) : outA (.own p d) (.val d') = .no := rfl
@[simp] theorem outA_val (d : D) (s : Sl) : outA (.val d) s = .val d := rfl
@[simp] theorem outs_nil (ρ : List Sl) : outs [] ρ = [] := rfl
@[simp] theorem outs_cons (a b : Sl) (as ρ : List Sl) : outs (a :: as) (b :: ρ) = outA a b :: outs as ρ := rfl
def defO (args : List Sl) : Out × List Sl → Option (R × List Sl)
  | (.rt r, ρ) => some (r, outs args ρ)
  | (.nx, ρ) => some (.val .non, outs args ρ)
  | _ => none
@[simp] theorem defO_rt (args : List Sl) (r : R) (ρ : List Sl) : defO args (.rt r, ρ) = some (r, outs args ρ) := rfl
@[simp] theorem defO_nx (args : List Sl) (ρ : List Sl) : defO args (.nx, ρ) = some (.val .non, outs args ρ) := rfl
theorem defF_eq (m : Nat) (g : Stm) (args : List Sl) : defF m g args = (g (args.map pinS ++ List.replicate m .no)).bind (defO args) := by
  unfold defF
  congr 1
  funext p
  rcases p with ⟨o, ρ⟩
  cases o <;> rfl
/-- a def, at once -/
theorem def_of {m : Nat} {g : Stm} {args ρ : List Sl} {r : R} (h : g (args.map pinS ++ List.replicate m .no) = some (.rt r, ρ)) : defF m g args = some (r, outs args ρ) := by
  rw [defF_eq, h]; rfl
/-! ### operators at data -/
@[simp] theorem addI (i j : Int) : oAdd (.int i) (.int j) = some (.val (.int (i + j))) := rfl
@[simp] theorem addT (xs ys : List D) : oAdd (.tup xs) (.tup ys) = if xs.length + ys.length ≤ cap then some (.val (.tup (xs ++ ys))) else none := rfl
@[simp] theorem addL (xs ys : List D) : oAdd (.lst xs) (.lst ys) = if xs.length + ys.length ≤ cap then some (.own (.lst (xs ++ ys))) else none := rfl
@[simp] theorem addS (x y : Str) : oAdd (.str x) (.str y) = if x.length + y.length ≤ cap then some (.val (.str (x ++ y))) else none := rfl
@[simp] theorem subI (i j : Int) : oSub (.int i) (.int j) = some (.val (.int (i - j))) := rfl
@[simp] theorem mulI (i j : Int) : oMul (.int i) (.int j) = if mulOk i j = true then some (.val (.int (i * j))) else none := rfl
@[simp] theorem mulL (xs : List D) (k : Int) : oMul (.lst xs) (.int k) = if 0 ≤ k ∧ k ≤ 1000 ∧ xs.length ≤ 1000 then some (.own (.lst (List.replicate k.toNat xs).flatten)) else none := rfl
@[simp] theorem mulT (xs : List D) (k : Int) : oMul (.tup xs) (.int k) = if 2 ≤ k ∧ k ≤ 1000 ∧ xs.length ≤ 1000 ∧ 0 < xs.length then some (.val (.tup (List.replicate k.toNat xs).flatten)) else none := rfl
@[simp] theorem modI (i j : Int) : oMod (.int i) (.int j) = if 0 < j then some (.val (.int (i % j))) else none := rfl
@[simp] theorem fdivI (i j : Int) : oFDiv (.int i) (.int j) = if 0 < j ∧ j < big then some (.val (.int (i / j))) else none := rfl
@[simp] theorem powI (i j : Int) : oPow (.int i) (.int j) = if 0 ≤ j ∧ j ≤ 1000 ∧ -1000000 < i ∧ i < 1000000 then some (.val (.int (i ^ j.toNat))) else none := rfl
@[simp] theorem negI (i : Int) : oNeg (.int i) = some (.val (.int (-i))) := rfl
@[simp] theorem oB_eq (o : D → D → Option Bool) (x y : D) : oB o x y = (o x y).map fun b => .val (.bl b) := rfl
@[simp] theorem bI_int (p : Int → Int → Bool) (i j : Int) : bI p (.int i) (.int j) = some (p i j) := rfl
@[simp] theorem eqD_int (i j : Int) : eqD (.int i) (.int j) = decide (i = j) := by
  unfold eqD; rw [D.py, D.py, PyData.eqv]; rfl
@[simp] theorem bEq_int (i j : Int) : bEq (.int i) (.int j) = some (decide (i = j)) := by
  unfold bEq
  rw [show (lev 20 (.int i) && lev 20 (.int j)) = true from rfl, if_pos rfl, eqD_int]
@[simp] theorem bNe_int (i j : Int) : bNe (.int i) (.int j) = some (!decide (i = j)) := by
  unfold bNe
  rw [show (lev 20 (.int i) && lev 20 (.int j)) = true from rfl, if_pos rfl, eqD_int]
@[simp] theorem bIs_non (x : D) : bIs x .non = some (isNon x) := by cases x <;> rfl
@[simp] theorem bIsNot_non (x : D) : bIsNot x .non = some (!isNon x) := by cases x <;> rfl
@[simp] theorem bIs_bl (a b : Bool) : bIs (.bl a) (.bl b) = some (decide (a = b)) := rfl
@[simp] theorem isNon_non : isNon .non = true := rfl
@[simp] theorem isNon_lst (xs : List D) : isNon (.lst xs) = false := rfl
@[simp] theorem isNon_tup (xs : List D) : isNon (.tup xs) = false := rfl
@[simp] theorem isNon_int (i : Int) : isNon (.int i) = false := rfl
@[simp] theorem isNon_str (i : Str) : isNon (.str i) = false := rfl
@[simp] theorem isNon_bl (i : Bool) : isNon (.bl i) = false := rfl
@[simp] theorem ixL (xs : List D) (i : Int) : oIx (.lst xs) (.int i) = (atI xs i).map .val := rfl
@[simp] theorem ixT (xs : List D) (i : Int) : oIx (.tup xs) (.int i) = (atI xs i).map .val := rfl
theorem atI_nat {α : Type} {xs : List α} {i : Int} (h0 : 0 ≤ i) (h1 : i < xs.length) : atI xs i = xs[i.toNat]? := by
  unfold atI ixN; rw [if_pos h0, if_pos h1]; rfl
@[simp] theorem atI0 {α : Type} (x : α) (xs : List α) : atI (x :: xs) 0 = some x := by
  unfold atI ixN; simp
@[simp] theorem atI1 {α : Type} (x y : α) (xs : List α) : atI (x :: y :: xs) 1 = some y := by
  rw [atI_nat (by decide) (by simp only [List.length_cons]; omega)]; rfl
@[simp] theorem atI2 {α : Type} (x y z : α) (xs : List α) : atI (x :: y :: z :: xs) 2 = some z := by
  rw [atI_nat (by decide) (by simp only [List.length_cons]; omega)]; rfl
@[simp] theorem atI3 {α : Type} (x y z u : α) (xs : List α) : atI (x :: y :: z :: u :: xs) 3 = some u := by
  rw [atI_nat (by decide) (by simp only [List.length_cons]; omega)]; rfl
@[simp] theorem atI4 {α : Type} (x y z u v : α) (xs : List α) : atI (x :: y :: z :: u :: v :: xs) 4 = some v := by
  rw [atI_nat (by decide) (by simp only [List.length_cons]; omega)]; rfl
@[simp] theorem atI5 {α : Type} (x y z u v w : α) (xs : List α) : atI (x :: y :: z :: u :: v :: w :: xs) 5 = some w := by
  rw [atI_nat (by decide) (by simp only [List.length_cons]; omega)]; rfl
@[simp] theorem atI6 {α : Type} (x y z u v w a : α) (xs : List α) : atI (x :: y :: z :: u :: v :: w :: a :: xs) 6 = some a := by
  rw [atI_nat (by decide) (by simp only [List.length_cons]; omega)]; rfl
theorem atI_get {α : Type} {xs : List α} {i : Nat} (h1 : i < xs.length) : atI xs (i : Int) = some xs[i] := by
  rw [atI_nat (by omega) (by omega)]; simp
theorem atI_last {α : Type} (xs : List α) (x : α) : atI (xs ++ [x]) (-1) = some x := by
  unfold atI ixN
  have h : (xs ++ [x]).length = xs.length + 1 := by simp
  rw [h, if_neg (by omega), if_pos (by omega)]
  have : ((-1 : Int) + ((xs.length + 1 : Nat) : Int)).toNat = xs.length := by omega
  rw [this]; simp
@[simp] theorem len1L (xs : List D) : oLen [.lst xs] = some (.val (.int xs.length)) := rfl
@[simp] theorem len1T (xs : List D) : oLen [.tup xs] = some (.val (.int xs.length)) := rfl
@[simp] theorem max2 (i j : Int) : oMax [.int i, .int j] = some (.val (.int (if j > i then j else i))) := rfl
@[simp] theorem min2 (i j : Int) : oMin [.int i, .int j] = some (.val (.int (if j < i then j else i))) := rfl
@[simp] theorem list1 (xs : List D) : oList [.lst xs] = some (.own (.lst xs)) := rfl
@[simp] theorem list2 (xs : List D) : oList [.tup xs] = some (.own (.lst xs)) := rfl
@[simp] theorem list3 (xs : List Int) : oList [.scr xs] = some (.own (.lst (xs.map .int))) := rfl
@[simp] theorem tuple1 (xs : List D) : oTuple [.lst xs] = some (.val (.tup xs)) := rfl
@[simp] theorem tuple2 (xs : List D) : oTuple [.tup xs] = some (.val (.tup xs)) := rfl
@[simp] theorem sum1 (xs : List D) : oSumA [.lst xs] = (intsOf xs).map fun ns => .val (.int ns.sum) := rfl
@[simp] theorem sum2 (xs : List D) : oSumA [.tup xs] = (intsOf xs).map fun ns => .val (.int ns.sum) := rfl
@[simp] theorem sliceT (xs : List D) (lo hi : Option Int) : oSlice (.tup xs) lo hi = some (.val (.tup (cutD xs lo hi))) := rfl
@[simp] theorem sliceL (xs : List D) (lo hi : Option Int) : oSlice (.lst xs) lo hi = some (.own (.lst (cutD xs lo hi))) := rfl
@[simp] theorem app1 (xs : List D) (y : D) : oApp xs [y] = if xs.length < cap then some (.non, xs ++ [y]) else none := rfl
@[simp] theorem intsOf_map (ns : List Int) : intsOf (ns.map D.int) = some ns := by
  induction ns with
  | nil => rfl
  | cons n ns ih => rw [List.map_cons, intsOf, ih]; rfl
@[simp] theorem isTy_non (T : String) : isTy T .non = some (T == "NoneType") := rfl
@[simp] theorem isTy_bl (T : String) (b : Bool) : isTy T (.bl b) = some (T == "bool" || T == "int") := rfl
@[simp] theorem isTy_int (T : String) (b : Int) : isTy T (.int b) = some (T == "int") := rfl
@[simp] theorem isTy_str (T : String) (b : Str) : isTy T (.str b) = some (T == "str") := rfl
@[simp] theorem isTy_tup (T : String) (b : List D) : isTy T (.tup b) = some (T == "tuple") := rfl
@[simp] theorem isTy_lst (T : String) (b : List D) : isTy T (.lst b) = some (T == "list") := rfl
/-! ### what is walked -/
def rgI1 : R × List Sl → Option (List D × List Sl)
  | (.val (.int n), ρ) => if -1000000 ≤ n ∧ n ≤ 1000000 then some (rg1 n.toNat, ρ) else none
  | _ => none
@[simp] theorem rgI1_int (n : Int) (ρ : List Sl) : rgI1 (.val (.int n), ρ) = if -1000000 ≤ n ∧ n ≤ 1000000 then some (rg1 n.toNat, ρ) else none := rfl
@[simp] theorem it_rg1 (f : Ev) (ρ : List Sl) : itRg1 f ρ = (f ρ).bind rgI1 := by
  unfold itRg1
  congr 1
  funext p
  rcases p with ⟨r, ρ⟩
  rcases r with d | d | i
  · cases d <;> rfl
  · rfl
  · rfl
def rgI2 : R → R × List Sl → Option (List D × List Sl)
  | .val (.int m), (.val (.int n), ρ) => if -1000000 ≤ m ∧ m ≤ 1000000 ∧ -1000000 ≤ n ∧ n ≤ 1000000 then some (rg2 m (n - m).toNat, ρ) else none
  | _, _ => none
@[simp] theorem rgI2_int (m n : Int) (ρ : List Sl) : rgI2 (.val (.int m)) (.val (.int n), ρ) = if -1000000 ≤ m ∧ m ≤ 1000000 ∧ -1000000 ≤ n ∧ n ≤ 1000000 then some (rg2 m (n - m).toNat, ρ) else none := rfl
@[simp] theorem it_rg2 (f g : Ev) (ρ : List Sl) : itRg2 f g ρ = (f ρ).bind fun p => (g p.2).bind (rgI2 p.1) := by
  unfold itRg2
  congr 1
  funext p
  congr 1
  funext q
  rcases p with ⟨r, ρ⟩
  rcases q with ⟨r', ρ'⟩
  rcases r with d | d | i
  · cases d <;> first | rfl | (rcases r' with d | d | i <;> first | rfl | (cases d <;> rfl))
  · rfl
  · rfl
def seqI : D × List Sl → Option (List D × List Sl)
  | (.lst ds, ρ) => some (ds, ρ)
  | (.tup ds, ρ) => some (ds, ρ)
  | (.str x, ρ) => some (signs x, ρ)
  | _ => none
@[simp] theorem seqI_lst (ds : List D) (ρ : List Sl) : seqI (.lst ds, ρ) = some (ds, ρ) := rfl
@[simp] theorem seqI_tup (ds : List D) (ρ : List Sl) : seqI (.tup ds, ρ) = some (ds, ρ) := rfl
@[simp] theorem it_seq (f : Ev) (ρ : List Sl) : itSeq f ρ = (f ρ).bind fun p => (take p.2 p.1).bind seqI := by
  unfold itSeq
  congr 1
  funext p
  congr 1
  funext z
  rcases z with ⟨d, ρ⟩
  cases d <;> rfl
@[simp] theorem seqOf_lst (ds : List D) : seqOf (.lst ds) = some ds := rfl
@[simp] theorem seqOf_tup (ds : List D) : seqOf (.tup ds) = some ds := rfl
@[simp] theorem it_enum (f : Ev) (ρ : List Sl) : itEnum f ρ = (f ρ).bind fun p => (take p.2 p.1).bind fun z => (seqOf z.1).map fun ds => (enumD ds, z.2) := rfl
def zipI : List D × List Sl → Option (List D × List Sl)
  | ([x, y], ρ) => (seqOf x).bind fun xs => (seqOf y).map fun ys => (zipD xs ys, ρ)
  | _ => none
@[simp] theorem zipI_two (x y : D) (ρ : List Sl) : zipI ([x, y], ρ) = (seqOf x).bind fun xs => (seqOf y).map fun ys => (zipD xs ys, ρ) := rfl
@[simp] theorem it_zip (f g : Ev) (ρ : List Sl) : itZip f g ρ = (evs [f, g] ρ).bind fun p => (takes p.2 p.1).bind zipI := by
  unfold itZip
  congr 1
  funext p
  congr 1
  funext z
  rcases z with ⟨ds, ρ⟩
  rcases ds with _ | ⟨x, _ | ⟨y, _ | _⟩⟩ <;> rfl
@[simp] theorem forL_nil (t : Tg) (b : Stm) (ρ : List Sl) : forL t b [] ρ = some (.nx, ρ) := rfl
def forO (t : Tg) (b : Stm) (ds : List D) : Option (Out × List Sl) → Option (Out × List Sl)
  | some (.nx, ρ) => forL t b ds ρ
  | some (.ct, ρ) => forL t b ds ρ
  | some (.bk, ρ) => some (.nx, ρ)
  | some (.rt r, ρ) => some (.rt r, ρ)
  | none => none
@[simp] theorem forO_nx (t : Tg) (b : Stm) (ds : List D) (ρ : List Sl) : forO t b ds (some (.nx, ρ)) = forL t b ds ρ := rfl
@[simp] theorem forO_ct (t : Tg) (b : Stm) (ds : List D) (ρ : List Sl) : forO t b ds (some (.ct, ρ)) = forL t b ds ρ := rfl
@[simp] theorem forO_bk (t : Tg) (b : Stm) (ds : List D) (ρ : List Sl) : forO t b ds (some (.bk, ρ)) = some (.nx, ρ) := rfl
@[simp] theorem forO_rt (t : Tg) (b : Stm) (ds : List D) (r : R) (ρ : List Sl) : forO t b ds (some (.rt r, ρ)) = some (.rt r, ρ) := rfl
theorem forL_cons (t : Tg) (b : Stm) (d : D) (ds : List D) (ρ : List Sl) : forL t b (d :: ds) ρ = (asg t d ρ).bind fun ρ1 => forO t b ds (b ρ1) := by
  rw [forL]
  congr 1
  funext ρ1
  rcases b ρ1 with _ | ⟨o, ρ⟩
  · rfl
  · cases o <;> rfl
/-- a loop that is walked to its end -/
theorem forL_inv {t : Tg} {b : Stm} (I : List D → List Sl → Prop) (h : ∀ d ds ρ, I (d :: ds) ρ → ∃ ρ1 ρ2, asg t d ρ = some ρ1 ∧ (b ρ1 = some (.nx, ρ2) ∨ b ρ1 = some (.ct, ρ2)) ∧ I ds ρ2) :
    ∀ ds ρ, I ds ρ → ∃ ρ', forL t b ds ρ = some (.nx, ρ') ∧ I [] ρ' := by
  intro ds
  induction ds with
  | nil => exact fun ρ i => ⟨ρ, rfl, i⟩
  | cons d ds ih =>
    intro ρ i
    obtain ⟨ρ1, ρ2, e1, e2, i2⟩ := h d ds ρ i
    obtain ⟨ρ', e3, i3⟩ := ih ρ2 i2
    refine ⟨ρ', ?_, i3⟩
    rw [forL_cons, e1]
    show forO t b ds (b ρ1) = _
    rcases e2 with e2 | e2 <;> rw [e2] <;> exact e3
/-- a loop that may return or break -/
theorem forL_gen {t : Tg} {b : Stm} (I : List D → List Sl → Prop) (Post : Out → List Sl → Prop)
    (h : ∀ d ds ρ, I (d :: ds) ρ → ∃ ρ1 o ρ2, asg t d ρ = some ρ1 ∧ b ρ1 = some (o, ρ2) ∧ (match o with | .nx => I ds ρ2 | .ct => I ds ρ2 | .bk => Post .nx ρ2 | .rt r => Post (.rt r) ρ2))
    (h0 : ∀ ρ, I [] ρ → Post .nx ρ) : ∀ ds ρ, I ds ρ → ∃ o ρ', forL t b ds ρ = some (o, ρ') ∧ Post o ρ' := by
  intro ds
  induction ds with
  | nil => exact fun ρ i => ⟨.nx, ρ, rfl, h0 ρ i⟩
  | cons d ds ih =>
    intro ρ i
    obtain ⟨ρ1, o, ρ2, e1, e2, i2⟩ := h d ds ρ i
    cases o with
    | nx =>
      obtain ⟨o', ρ', e3, i3⟩ := ih ρ2 i2
      refine ⟨o', ρ', ?_, i3⟩
      rw [forL_cons, e1]
      show forO t b ds (b ρ1) = _
      rw [e2]; exact e3
    | ct =>
      obtain ⟨o', ρ', e3, i3⟩ := ih ρ2 i2
      refine ⟨o', ρ', ?_, i3⟩
      rw [forL_cons, e1]
      show forO t b ds (b ρ1) = _
      rw [e2]; exact e3
    | bk =>
      refine ⟨_, ρ2, ?_, i2⟩
      rw [forL_cons, e1]
      show forO t b ds (b ρ1) = _
      rw [e2]; rfl
    | rt r =>
      refine ⟨_, ρ2, ?_, i2⟩
      rw [forL_cons, e1]
      show forO t b ds (b ρ1) = _
      rw [e2]; rfl
/-! ### list displays by a loop -/
@[simp] theorem wipeR_nil (ρ : List Sl) : wipeR ρ [] = ρ := rfl
@[simp] theorem wipeR_cons (ρ : List Sl) (v : Nat) (vs : List Nat) : wipeR ρ (v :: vs) = (wipeR ρ vs).set v .no := rfl
@[simp] theorem unwipe_nil (o ρ : List Sl) : unwipe o ρ [] = ρ := rfl
@[simp] theorem unwipe_cons (o ρ : List Sl) (v : Nat) (vs : List Nat) : unwipe o ρ (v :: vs) = (unwipe o ρ vs).set v (o.getD v .no) := rfl
def notOwn : Option Sl → Bool
  | some (.own _ _) => false
  | _ => true
@[simp] theorem notOwn_val (d : D) : notOwn (some (.val d)) = true := rfl
@[simp] theorem notOwn_no : notOwn (some .no) = true := rfl
@[simp] theorem noOwn_nil (ρ : List Sl) : noOwn ρ [] = true := rfl
@[simp] theorem noOwn_cons (ρ : List Sl) (v : Nat) (vs : List Nat) : noOwn ρ (v :: vs) = (notOwn ρ[v]? && noOwn ρ vs) := by
  unfold noOwn
  rw [List.all_cons]
  congr 1
@[simp] theorem ev_lc (it : Iv) (t : Tg) (c e : Ev) (vs : List Nat) (ρ : List Sl) : fLc it t c e vs ρ = (it ρ).bind fun p => if noOwn p.2 vs = true then (lcL t c e vs p.1 [] (wipeR p.2 vs)).map fun q => (.own (.lst q.1), unwipe p.2 q.2 vs) else none := rfl
@[simp] theorem lcL_nil (t : Tg) (c e : Ev) (vs : List Nat) (acc : List D) (ρ : List Sl) : lcL t c e vs [] acc ρ = some (acc, ρ) := rfl
theorem lcL_cons (t : Tg) (c e : Ev) (vs : List Nat) (d : D) (ds acc : List D) (ρ : List Sl) : lcL t c e vs (d :: ds) acc ρ = (asg t d ρ).bind fun ρ1 =>
    condO (fun ρ2 => (e ρ2).bind fun q => (take q.2 q.1).bind fun z => if acc.length < cap then lcL t c e vs ds (acc ++ [z.1]) (wipeR z.2 vs) else none) (fun ρ2 => lcL t c e vs ds acc (wipeR ρ2 vs)) (c ρ1) := by
  rw [lcL]
  congr 1
  funext ρ1
  exact cond_eq (fun ρ2 => (e ρ2).bind fun q => (take q.2 q.1).bind fun z => if acc.length < cap then lcL t c e vs ds (acc ++ [z.1]) (wipeR z.2 vs) else none) (fun ρ2 => lcL t c e vs ds acc (wipeR ρ2 vs)) (c ρ1)
/-- each item gives one, or none; the slots stay -/
theorem lcL_map {t : Tg} {c e : Ev} {vs : List Nat} {ρ : List Sl} (g : D → Option D) : ∀ (ds acc : List D), acc.length + ds.length ≤ cap →
    (∀ d ∈ ds, ∃ ρ1, asg t d ρ = some ρ1 ∧ ((∃ y ρ2 r ρ3 ρ4, g d = some y ∧ c ρ1 = some (.val (.bl true), ρ2) ∧ e ρ2 = some (r, ρ3) ∧ take ρ3 r = some (y, ρ4) ∧ wipeR ρ4 vs = ρ) ∨ (∃ ρ2, g d = none ∧ c ρ1 = some (.val (.bl false), ρ2) ∧ wipeR ρ2 vs = ρ))) →
    lcL t c e vs ds acc ρ = some (acc ++ ds.filterMap g, ρ) := by
  intro ds
  induction ds with
  | nil => intro acc _ _; simp
  | cons d ds ih =>
    intro acc hl h
    obtain ⟨ρ1, e1, q⟩ := h d List.mem_cons_self
    have hl' : acc.length + (ds.length + 1) ≤ cap := by simpa using hl
    rw [lcL_cons, e1]
    show condO _ _ (c ρ1) = _
    rcases q with ⟨y, ρ2, r, ρ3, ρ4, g1, e2, e3, e4, e5⟩ | ⟨ρ2, g1, e2, e5⟩
    · rw [e2, condO_bl, if_pos rfl, e3]
      show (FL.take ρ3 r).bind _ = _
      rw [e4]
      show (if acc.length < cap then _ else _) = _
      rw [if_pos (by omega), e5, ih _ (by simp; omega) fun d hd => h d (List.mem_cons_of_mem _ hd), List.filterMap_cons_some g1]
      simp
    · rw [e2, condO_bl, if_neg Bool.false_ne_true, e5, ih _ (by omega) fun d hd => h d (List.mem_cons_of_mem _ hd), List.filterMap_cons_none g1]
end FL
namespace FL
open PySem L2
/-! # Games: states, frames, the tape -/
inductive Part | first | second | two | one | over
  deriving DecidableEq
def Part.s : Part → Str
  | .first => "first" | .second => "second" | .two => "two" | .one => "one" | .over => "over"
structure Gs where
  left : Int
  more : Int
  later : Int
  part : Part
  stand : Int
  deriving DecidableEq
def stD (s : Gs) : D := .tup [.int s.left, .int s.more, .int s.later, .str s.part.s, .int s.stand]
def Gs.OVER : Gs := ⟨0, 0, 0, .over, 0⟩
theorem overD_eq : D.tup overD = stD Gs.OVER := rfl
theorem bEq_part (p q : Part) : bEq (.str p.s) (.str q.s) = some (decide (p = q)) := by cases p <;> cases q <;> decide +kernel
@[simp] theorem bEq_first (p : Part) : bEq (.str p.s) (.str "first") = some (decide (p = .first)) := bEq_part p .first
@[simp] theorem bEq_second (p : Part) : bEq (.str p.s) (.str "second") = some (decide (p = .second)) := bEq_part p .second
@[simp] theorem bEq_two (p : Part) : bEq (.str p.s) (.str "two") = some (decide (p = .two)) := bEq_part p .two
@[simp] theorem bEq_one (p : Part) : bEq (.str p.s) (.str "one") = some (decide (p = .one)) := bEq_part p .one
theorem lev_strE (n : Nat) (x : Str) : lev n (.str x) = PyData.strOk x := by cases n <;> rfl
theorem lev_str (p : Part) (n : Nat) : lev n (.str p.s) = true := by rw [lev_strE]; cases p <;> decide +kernel
theorem lev_int (n : Nat) (i : Int) : lev n (.int i) = true := by cases n <;> rfl
theorem lev_bl (n : Nat) (i : Bool) : lev n (.bl i) = true := by cases n <;> rfl
theorem lev_non (n : Nat) : lev n .non = true := by cases n <;> rfl
theorem lev_tup (n : Nat) (xs : List D) : lev (n + 1) (.tup xs) = xs.all (lev n) := rfl
theorem lev_lst (n : Nat) (xs : List D) : lev (n + 1) (.lst xs) = xs.all (lev n) := rfl
theorem lev_stD (s : Gs) (n : Nat) : lev (n + 1) (stD s) = true := by
  unfold stD; rw [lev_tup]; simp [lev_int, lev_str]
theorem eqD_str (x y : Str) : eqD (.str x) (.str y) = decide (x = y) := by
  unfold eqD; rw [D.py, D.py, PyData.eqv]; rfl
theorem Part.s_inj {p q : Part} : p.s = q.s ↔ p = q := by
  constructor
  · intro h
    have := bEq_part p q
    unfold bEq at this
    rw [lev_str, lev_str] at this
    simp only [Bool.and_self, if_true, eqD_str, Option.some.injEq] at this
    have h2 : decide (p.s = q.s) = true := decide_eq_true h
    rw [h2] at this
    exact of_decide_eq_true this.symm
  · rintro rfl; rfl
@[simp] theorem bEq_stD (s t : Gs) : bEq (stD s) (stD t) = some (decide (s = t)) := by
  unfold bEq
  rw [lev_stD, lev_stD, Bool.and_self, if_pos rfl]
  congr 1
  unfold stD
  rw [eqD_tup]
  simp only [eqDs, eqD_int, eqD_str, Part.s_inj]
  rw [Bool.eq_iff_iff]
  simp only [Bool.and_eq_true, decide_eq_true_eq]
  constructor
  · rintro ⟨h1, h2, h3, h4, h5, _⟩; cases s; cases t; simp_all
  · rintro rfl; simp
/-- the state after a roll -/
def nextS (pins : Int) (s : Gs) (roll : Int) : Gs :=
  if s.part = .one then Gs.OVER
  else if s.part = .two then ⟨s.left, s.later, 0, .one, if roll < s.stand then pins - roll else pins⟩
  else if roll < s.stand then
    if s.part = .first then ⟨s.left, s.later, 0, .second, s.stand - roll⟩
    else if 1 < s.left then ⟨s.left - 1, s.later, 0, .first, pins⟩ else Gs.OVER
  else if s.left = 1 then ⟨s.left, s.later, 0, if s.part = .first then .two else .one, pins⟩
  else if s.part = .first then ⟨s.left - 1, s.later + 1, 1, .first, pins⟩
  else ⟨s.left - 1, s.later + 1, 0, .first, pins⟩
def beginS (f p : Int) : Gs := ⟨f, 0, 0, .first, p⟩
def afterS (p : Int) (s : Gs) (rolls : List Int) : Gs := rolls.foldl (nextS p) s
abbrev rulesD (f p : Int) : D := .tup [.int f, .int p]
abbrev tI (ns : List Int) : D := .tup (ns.map .int)
abbrev lI (ns : List Int) : D := .lst (ns.map .int)
/-! ### the tape -/
structure Tape where
  ns : List Int
  pos : Int
  cell : Int
def Tape.d (t : Tape) : D := .lst [.lst (t.ns.map .int), .int t.pos, .int t.cell]
abbrev prime : Int := 2305843009213693951
def Tape.item (t : Tape) : Int := if 0 < (t.ns.length : Int) then (t.ns[(t.pos % (t.ns.length : Int)).toNat]?).getD 0 else 0
def mix1 (pos cell : Int) : Int := (cell + 1000003 * pos) % prime
def mix2 (c : Int) : Int := (c * c + 1181783497276652981 * c + 2049848353892358983) % prime
def mix3 (c : Int) : Int := (c * c + 1442695040888963407) % prime
def Tape.fresh (t : Tape) : Int := if (t.ns.length : Int) ≤ t.pos ∨ t.item < 1000000000000000000 then mix3 (mix2 (mix1 t.pos t.item)) else t.item
def Tape.full (t : Tape) (m : Int) : Tape := if t.cell < m then ⟨t.ns, t.pos + 1, t.fresh⟩ else t
def Tape.out (t : Tape) (m : Int) : Int := (t.full m).cell % m
def Tape.rest (t : Tape) (m : Int) : Tape := ⟨t.ns, (t.full m).pos, (t.full m).cell / m⟩
theorem Tape.out_lo (t : Tape) {m : Int} (h : 0 < m) : 0 ≤ t.out m := Int.emod_nonneg _ (by omega)
theorem Tape.out_hi (t : Tape) {m : Int} (h : 0 < m) : t.out m < m := Int.emod_lt_of_pos _ h
/-! ### frames -/
def standsF (p : Int) (frame : List Int) : Int := frame.foldl (fun st r => if st - r = 0 then p else st - r) p
def neededF (p : Int) (last : Bool) (frame : List Int) : Int :=
  if frame = [] then 0
  else if last = false then (if frame.headD 0 = p ∨ frame.length = 2 then frame.length else 0)
  else if frame.length = 3 ∨ frame.length = 2 ∧ frame.headD 0 < p ∧ frame.sum < p then frame.length else 0
abbrev Fr := List (List Int) × List Int
def stepF (f p : Int) (x : Fr) (r : Int) : Option Fr :=
  if f < (x.1.length : Int) + 1 then none
  else if 0 ≤ r ∧ r ≤ standsF p x.2 then
    (if 0 < neededF p (decide ((x.1.length : Int) + 1 = f)) (x.2 ++ [r]) then some (x.1 ++ [x.2 ++ [r]], []) else some (x.1, x.2 ++ [r]))
  else none
def splitS (f p : Int) : Fr → List Int → Option Fr
  | x, [] => some x
  | x, r :: rs => (stepF f p x r).bind fun y => splitS f p y rs
theorem splitS_append (f p : Int) (as bs : List Int) : ∀ x : Fr, splitS f p x (as ++ bs) = (splitS f p x as).bind fun y => splitS f p y bs := by
  induction as with
  | nil => intro x; rfl
  | cons r rs ih =>
    intro x
    rw [List.cons_append, splitS, splitS]
    cases h : stepF f p x r with
    | none => rfl
    | some y => exact ih y
theorem splitS_one (f p : Int) (r : Int) (x : Fr) : splitS f p x [r] = stepF f p x r := by
  rw [splitS]; cases stepF f p x r <;> rfl
/-- how often the next rolls count more, behind whole frames -/
def bonF (p : Int) : List (List Int) → Int × Int
  | [] => (0, 0)
  | fr :: rest => match fr with   -- the last frame first
    | [_] => ((bonF p rest).2 + 1, 1)
    | [a, b] => if a + b = p then (1, 0) else (0, 0)
    | _ => (0, 0)
/-- the state behind whole frames and some rolls of one more -/
def stOf (f p : Int) (done : List (List Int)) (cur : List Int) : Gs :=
  if f ≤ (done.length : Int) then Gs.OVER
  else match cur with
    | [] => ⟨f - done.length, (bonF p done.reverse).1, (bonF p done.reverse).2, .first, p⟩
    | [a] => if a < p then ⟨f - done.length, (bonF p done.reverse).2, 0, .second, p - a⟩ else ⟨f - done.length, (bonF p done.reverse).2, 0, .two, p⟩
    | [a, c] => ⟨f - done.length, 0, 0, .one, if a < p then p else if c < p then p - c else p⟩
    | _ => Gs.OVER
/-- rolls of a frame that goes on -/
def curOk (f p : Int) (done : List (List Int)) : List Int → Prop
  | [] => (done.length : Int) ≤ f
  | [a] => (done.length : Int) < f ∧ 0 ≤ a ∧ a ≤ p ∧ (a < p ∨ (done.length : Int) + 1 = f)
  | [a, c] => (done.length : Int) + 1 = f ∧ 0 ≤ a ∧ a ≤ p ∧ 0 ≤ c ∧ c ≤ p ∧ (a = p ∨ a + c = p)
  | _ => False
theorem stOf_stand {f p : Int} {done : List (List Int)} {cur : List Int} (hp : 0 < p) (hf : (done.length : Int) < f) (h : curOk f p done cur) : (stOf f p done cur).stand = standsF p cur ∧ stOf f p done cur ≠ Gs.OVER := by
  unfold stOf
  rw [if_neg (by omega)]
  match cur, h with
  | [], _ => exact ⟨rfl, by simp [Gs.OVER]⟩
  | [a], h =>
    obtain ⟨h1, h2, h3, h4⟩ := h
    simp only [standsF, List.foldl]
    by_cases ha : a < p
    · rw [if_pos ha]
      refine ⟨?_, by simp [Gs.OVER]⟩
      show p - a = _
      rw [if_neg (by omega)]
    · rw [if_neg ha]
      refine ⟨?_, by simp [Gs.OVER]⟩
      show p = _
      rw [if_pos (by omega)]
  | [a, c], h =>
    obtain ⟨h1, h2, h3, h4, h5, h6⟩ := h
    simp only [standsF, List.foldl]
    refine ⟨?_, by simp [Gs.OVER]⟩
    by_cases ha : a < p
    · rw [if_pos ha, if_neg (show ¬ p - a = 0 by omega), if_pos (by omega)]
    · rw [if_neg ha, if_pos (show p - a = 0 by omega)]
      by_cases hc : c < p
      · rw [if_pos hc, if_neg (by omega)]
      · rw [if_neg hc, if_pos (by omega)]
theorem stOf_over {f p : Int} {done : List (List Int)} {cur : List Int} (hf : f ≤ (done.length : Int)) : stOf f p done cur = Gs.OVER := by
  unfold stOf; rw [if_pos hf]
/-- one roll -/
theorem step_ok {f p r : Int} {done : List (List Int)} {cur : List Int} (hp : 0 < p) (hf : (done.length : Int) < f) (h : curOk f p done cur) (h0 : 0 ≤ r) (h1 : r ≤ standsF p cur) :
    if 0 < neededF p (decide ((done.length : Int) + 1 = f)) (cur ++ [r]) then nextS p (stOf f p done cur) r = stOf f p (done ++ [cur ++ [r]]) [] ∧ curOk f p (done ++ [cur ++ [r]]) []
    else nextS p (stOf f p done cur) r = stOf f p done (cur ++ [r]) ∧ curOk f p done (cur ++ [r]) := by
  have hl : ∀ fr : List Int, ((done ++ [fr]).length : Int) = done.length + 1 := fun fr => by simp
  match cur, h with
  | [], h =>
    have h1' : r ≤ p := h1
    rw [List.nil_append] at *
    by_cases hl1 : (done.length : Int) + 1 = f
    · rw [decide_eq_true hl1]
      have hn : ¬ 0 < neededF p true [r] := by simp [neededF]
      rw [if_neg hn]
      refine ⟨?_, ⟨hf, h0, h1', .inr hl1⟩⟩
      unfold stOf
      rw [if_neg (by omega), if_neg (by omega)]
      simp only [nextS]
      by_cases hr : r < p
      · simp [hr]
      · have : f - (done.length : Int) = 1 := by omega
        simp [hr, this]
    · rw [decide_eq_false hl1]
      by_cases hr : r < p
      · have hn : ¬ 0 < neededF p false [r] := by simp [neededF]; omega
        rw [if_neg hn]
        refine ⟨?_, ⟨hf, h0, h1', .inl hr⟩⟩
        unfold stOf
        rw [if_neg (by omega), if_neg (by omega)]
        simp [nextS, hr]
      · have hr' : r = p := by omega
        subst hr'
        have hn : 0 < neededF r false [r] := by simp [neededF]
        rw [if_pos hn]
        refine ⟨?_, by show ((done ++ [[r]]).length : Int) ≤ f; rw [hl]; omega⟩
        unfold stOf
        rw [if_neg (by omega), if_neg (by rw [hl]; omega), hl]
        have h2 : ¬ f - (done.length : Int) = 1 := by omega
        simp [nextS, h2, bonF]
        omega
  | [a], h =>
    obtain ⟨g1, g2, g3, g4⟩ := h
    have hs : standsF p [a] = if a < p then p - a else p := by
      simp only [standsF, List.foldl]
      by_cases ha : a < p
      · rw [if_pos ha, if_neg (by omega)]
      · rw [if_neg ha, if_pos (by omega)]
    rw [hs] at h1
    show if 0 < neededF p _ [a, r] then _ ∧ _ else _ ∧ _
    have hap : [a] ++ [r] = [a, r] := rfl
    rw [hap] at *
    by_cases hl1 : (done.length : Int) + 1 = f
    · rw [decide_eq_true hl1]
      have hleft : f - (done.length : Int) = 1 := by omega
      by_cases ha : a < p
      · rw [if_pos ha] at h1
        by_cases hr : r < p - a
        · have hn : 0 < neededF p true [a, r] := by
            have : a + r < p := by omega
            simp [neededF, ha, this]
          rw [if_pos hn]
          refine ⟨?_, by show ((done ++ [[a, r]]).length : Int) ≤ f; rw [hl]; omega⟩
          rw [stOf_over (done := done ++ [[a, r]]) (by rw [hl]; omega)]
          unfold stOf
          rw [if_neg (by omega)]
          simp [nextS, ha, hr, hleft]
        · have hn : ¬ 0 < neededF p true [a, r] := by
            have : ¬ a + r < p := by omega
            simp [neededF, this]
          rw [if_neg hn]
          refine ⟨?_, ⟨hl1, g2, g3, h0, by omega, .inr (by omega)⟩⟩
          unfold stOf
          rw [if_neg (by omega), if_neg (by omega)]
          simp [nextS, ha, hr, hleft]
      · rw [if_neg ha] at h1
        have hn : ¬ 0 < neededF p true [a, r] := by simp [neededF, ha]
        rw [if_neg hn]
        refine ⟨?_, ⟨hl1, g2, g3, h0, h1, .inl (by omega)⟩⟩
        unfold stOf
        rw [if_neg (by omega), if_neg (by omega)]
        simp [nextS, ha]
    · rw [decide_eq_false hl1]
      have ha : a < p := by omega
      rw [if_pos ha] at h1
      have hn : 0 < neededF p false [a, r] := by simp [neededF]
      rw [if_pos hn]
      refine ⟨?_, by show ((done ++ [[a, r]]).length : Int) ≤ f; rw [hl]; omega⟩
      unfold stOf
      rw [if_neg (by omega), if_neg (by rw [hl]; omega), hl]
      have h2 : ¬ f - (done.length : Int) = 1 := by omega
      have h3 : 1 < f - (done.length : Int) := by omega
      have h4 : f - ((done.length : Int) + 1) = f - done.length - 1 := by omega
      by_cases hr : r < p - a
      · have : ¬ a + r = p := by omega
        simp [nextS, ha, hr, h2, h3, bonF, this, h4]
      · have : a + r = p := by omega
        simp [nextS, ha, hr, h2, h3, bonF, this, h4]
  | [a, c], h =>
    obtain ⟨g1, g2, g3, g4, g5, g6⟩ := h
    rw [decide_eq_true g1]
    have hn : 0 < neededF p true ([a, c] ++ [r]) := by simp [neededF]
    rw [if_pos hn]
    refine ⟨?_, by show ((done ++ [[a, c] ++ [r]]).length : Int) ≤ f; rw [hl]; omega⟩
    rw [stOf_over (done := done ++ [[a, c] ++ [r]]) (by rw [hl]; omega)]
    unfold stOf
    rw [if_neg (by omega)]
    simp [nextS]

/-- the state and the frames go side by side -/
def Lock (f p : Int) (s : Gs) (x : Fr) : Prop := s = stOf f p x.1 x.2 ∧ curOk f p x.1 x.2 ∧ (x.1.length : Int) ≤ f
theorem curOk_le {f p : Int} {done : List (List Int)} : ∀ {cur : List Int}, curOk f p done cur → (done.length : Int) ≤ f
  | [], h => h
  | [_], h => by have := h.1; omega
  | [_, _], h => by have := h.1; omega
theorem curOk_len {f p : Int} {done : List (List Int)} : ∀ {cur : List Int}, curOk f p done cur → cur.length ≤ 2
  | [], _ => by simp
  | [_], _ => by simp
  | [_, _], _ => by simp
theorem Lock.begin {f p : Int} (hf : 0 < f) : Lock f p (beginS f p) ([], []) := by
  refine ⟨?_, ?_, ?_⟩
  · unfold stOf beginS
    rw [if_neg (by simp; omega)]
    simp [bonF]
  · show ((List.length [] : Nat) : Int) ≤ f
    simp; omega
  · simp; omega
theorem Lock.full {f p : Int} {s : Gs} {x : Fr} (hp : 0 < p) (h : Lock f p s x) : s = Gs.OVER ↔ f < (x.1.length : Int) + 1 := by
  obtain ⟨rfl, h1, h2⟩ := h
  by_cases hf : (x.1.length : Int) < f
  · have := (stOf_stand hp hf h1).2
    constructor
    · intro z; exact absurd z this
    · intro z; omega
  · rw [stOf_over (by omega)]
    constructor
    · intro _; omega
    · intro _; rfl
theorem Lock.stand {f p : Int} {s : Gs} {x : Fr} (hp : 0 < p) (h : Lock f p s x) (hf : ¬ f < (x.1.length : Int) + 1) : s.stand = standsF p x.2 := by
  obtain ⟨rfl, h1, h2⟩ := h
  exact (stOf_stand hp (by omega) h1).1
theorem Lock.step {f p r : Int} {s : Gs} {x y : Fr} (hp : 0 < p) (h : Lock f p s x) (e : stepF f p x r = some y) : Lock f p (nextS p s r) y := by
  obtain ⟨rfl, h1, h2⟩ := h
  unfold stepF at e
  split at e
  · cases e
  · rename_i hf
    split at e
    · rename_i hr
      have q := step_ok hp (by omega : (x.1.length : Int) < f) h1 hr.1 hr.2
      split at e
      · rename_i hn
        rw [if_pos hn] at q
        cases e
        exact ⟨q.1, q.2, q.2⟩
      · rename_i hn
        rw [if_neg hn] at q
        cases e
        exact ⟨q.1, q.2, h2⟩
    · cases e
theorem Lock.steps {f p : Int} (hp : 0 < p) : ∀ {rolls : List Int} {s : Gs} {x y : Fr}, Lock f p s x → splitS f p x rolls = some y → Lock f p (afterS p s rolls) y
  | [], _, _, _, h, e => by cases e; exact h
  | r :: rs, s, x, y, h, e => by
    rw [splitS] at e
    cases h1 : stepF f p x r with
    | none => rw [h1] at e; cases e
    | some z =>
      rw [h1] at e
      exact Lock.steps (s := nextS p s r) (rolls := rs) hp (h.step hp h1) e
/-- a roll can be, seen from the state -/
theorem Lock.can {f p r : Int} {s : Gs} {x : Fr} (hp : 0 < p) (h : Lock f p s x) : (stepF f p x r).isSome = true ↔ s ≠ Gs.OVER ∧ 0 ≤ r ∧ r ≤ s.stand := by
  by_cases hf : f < (x.1.length : Int) + 1
  · have := (h.full hp).mpr hf
    unfold stepF
    rw [if_pos hf]
    constructor
    · intro z; cases z
    · intro z; exact absurd this z.1
  · have h1 : s ≠ Gs.OVER := fun z => hf ((h.full hp).mp z)
    rw [h.stand hp hf]
    unfold stepF
    rw [if_neg hf]
    constructor
    · intro z
      split at z
      · rename_i q; exact ⟨h1, q⟩
      · cases z
    · rintro ⟨_, q⟩
      rw [if_pos q]
      split <;> rfl
/-- rolls that are a start -/
def Valid (f p : Int) (rolls : List Int) : Prop := ∃ y, splitS f p ([], []) rolls = some y
theorem stepF_fit {f p r : Int} {x y : Fr} (e : stepF f p x r = some y) : y.1.length + y.2.length ≤ x.1.length + x.2.length + 1 := by
  unfold stepF at e
  split at e
  · cases e
  · split at e
    · split at e
      · cases e; simp only [List.length_append, List.length_singleton, List.length_nil]; omega
      · cases e; simp only [List.length_append, List.length_singleton]; omega
    · cases e
end FL
namespace FL
open PySem L2
/-! # Scores by frames -/
def enumF (n : Int) : List D → List D
  | [] => []
  | d :: ds => .tup [.int n, d] :: enumF (n + 1) ds
theorem enumF_len : ∀ (ds : List D) (n : Int), (enumF n ds).length = ds.length
  | [], _ => rfl
  | _ :: ds, n => by rw [enumF, List.length_cons, List.length_cons, enumF_len ds]
theorem enumF_get : ∀ (ds : List D) (n : Int) (i : Nat), i < ds.length → (enumF n ds)[i]? = some (.tup [.int (n + (i : Int)), ds.getD i .non])
  | [], _, _, h => by simp at h
  | d :: ds, n, 0, _ => by simp [enumF]
  | d :: ds, n, i + 1, h => by
    rw [enumF, List.getElem?_cons_succ, enumF_get ds (n + 1) i (by simpa using h)]
    simp
    omega
theorem enumD_eq (ds : List D) : enumD ds = enumF 0 ds := by
  apply List.ext_getElem?
  intro i
  by_cases h : i < ds.length
  · rw [enumD_get h, enumF_get ds 0 i h]; simp
  · rw [List.getElem?_eq_none (by simp [enumD]; omega), List.getElem?_eq_none (by rw [enumF_len]; omega)]
def zipF : List D → List D → List D
  | x :: xs, y :: ys => .tup [x, y] :: zipF xs ys
  | _, _ => []
theorem zipF_len : ∀ xs ys : List D, (zipF xs ys).length = min xs.length ys.length
  | [], _ => by simp [zipF]
  | _ :: _, [] => by simp [zipF]
  | x :: xs, y :: ys => by rw [zipF, List.length_cons, List.length_cons, List.length_cons, zipF_len xs ys]; omega
theorem zipF_get : ∀ (xs ys : List D) (i : Nat), i < min xs.length ys.length → (zipF xs ys)[i]? = some (.tup [xs.getD i .non, ys.getD i .non])
  | [], _, _, h => by simp at h
  | _ :: _, [], _, h => by simp at h
  | x :: xs, y :: ys, 0, _ => by simp [zipF]
  | x :: xs, y :: ys, i + 1, h => by
    rw [zipF, List.getElem?_cons_succ, zipF_get xs ys i (by simp at h ⊢; omega)]
    simp
theorem zipD_eq (xs ys : List D) : zipD xs ys = zipF xs ys := by
  apply List.ext_getElem?
  intro i
  by_cases h : i < min xs.length ys.length
  · rw [zipD_get h, zipF_get xs ys i h]
  · rw [List.getElem?_eq_none (by simp [zipD]; omega), List.getElem?_eq_none (by rw [zipF_len]; omega)]
/-! ### weights and scores by states -/
def wtS (p : Int) : Gs → List Int → List Int
  | _, [] => []
  | s, r :: rs => (1 + s.more) :: wtS p (nextS p s r) rs
def scS (p : Int) : Gs → List Int → Int
  | _, [] => 0
  | s, r :: rs => r * (1 + s.more) + scS p (nextS p s r) rs
theorem wtS_len (p : Int) : ∀ (rs : List Int) (s : Gs), (wtS p s rs).length = rs.length
  | [], _ => rfl
  | r :: rs, s => by rw [wtS, List.length_cons, List.length_cons, wtS_len p rs]
theorem scS_zip (p : Int) : ∀ (rs : List Int) (s : Gs), (List.zipWith (· * ·) rs (wtS p s rs)).sum = scS p s rs
  | [], _ => rfl
  | r :: rs, s => by rw [wtS, scS, List.zipWith_cons_cons, List.sum_cons, scS_zip p rs]
/-! ### whole frames, frames that go on -/
def Whole (p : Int) (last : Bool) : List Int → Prop
  | [a] => last = false ∧ a = p
  | [a, c] => 0 ≤ a ∧ a < p ∧ 0 ≤ c ∧ (if last then a + c < p else a + c ≤ p)
  | [a, c, d] => last = true ∧ 0 ≤ a ∧ a ≤ p ∧ 0 ≤ c ∧ c ≤ p ∧ 0 ≤ d ∧ d ≤ p ∧ (a = p ∧ (c = p ∨ c + d ≤ p) ∨ a < p ∧ a + c = p)
  | _ => False
def Going (p : Int) (last : Bool) : List Int → Prop
  | [] => True
  | [a] => 0 ≤ a ∧ a ≤ p ∧ (a < p ∨ last = true)
  | [a, c] => last = true ∧ 0 ≤ a ∧ a ≤ p ∧ 0 ≤ c ∧ c ≤ p ∧ (a = p ∨ a + c = p)
  | _ => False
/-- frames from the n-th on -/
def FrOk (f p : Int) : Int → List (List Int) → Prop
  | n, [] => n = f
  | n, fr :: more => n < f ∧ ((more = [] ∧ Going p (decide (n + 1 = f)) fr) ∨ (Whole p (decide (n + 1 = f)) fr ∧ FrOk f p (n + 1) more))
def DoneOk (f p : Int) : Int → List (List Int) → Prop
  | _, [] => True
  | n, fr :: more => n < f ∧ Whole p (decide (n + 1 = f)) fr ∧ DoneOk f p (n + 1) more
theorem DoneOk.snoc {f p : Int} {fr : List Int} : ∀ {done : List (List Int)} {n : Int}, DoneOk f p n done → n + (done.length : Int) < f → Whole p (decide (n + (done.length : Int) + 1 = f)) fr → DoneOk f p n (done ++ [fr])
  | [], n, _, h1, h2 => by
    simp only [List.length_nil, Int.ofNat_zero, Int.add_zero] at h1 h2
    exact ⟨by simpa using h1, by simpa using h2, trivial⟩
  | g :: more, n, h, h1, h2 => by
    obtain ⟨a, b, c⟩ := h
    have e : n + 1 + (more.length : Int) = n + ((g :: more).length : Int) := by simp; omega
    exact ⟨a, b, DoneOk.snoc c (by rw [e]; exact h1) (by rw [e]; exact h2)⟩
theorem DoneOk.fr {f p : Int} {cur : List Int} : ∀ {done : List (List Int)} {n : Int}, DoneOk f p n done → n + (done.length : Int) < f → Going p (decide (n + (done.length : Int) + 1 = f)) cur → FrOk f p n (done ++ [cur])
  | [], n, _, h1, h2 => by
    simp only [List.length_nil, Int.ofNat_zero, Int.add_zero] at h1 h2
    exact ⟨by simpa using h1, .inl ⟨rfl, by simpa using h2⟩⟩
  | g :: more, n, h, h1, h2 => by
    obtain ⟨a, b, c⟩ := h
    have e : n + 1 + (more.length : Int) = n + ((g :: more).length : Int) := by simp; omega
    exact ⟨a, .inr ⟨b, DoneOk.fr c (by rw [e]; exact h1) (by rw [e]; exact h2)⟩⟩
theorem DoneOk.full {f p : Int} : ∀ {done : List (List Int)} {n : Int}, DoneOk f p n done → n + (done.length : Int) = f → FrOk f p n done
  | [], n, _, h1 => by
    show n = f
    simpa using h1
  | g :: more, n, h, h1 => by
    obtain ⟨a, b, c⟩ := h
    exact ⟨a, .inr ⟨b, DoneOk.full c (by simp at h1; omega)⟩⟩
theorem whole_of {f p r : Int} {done : List (List Int)} {cur : List Int} (hp : 0 < p) (h : curOk f p done cur) (hf : (done.length : Int) < f) (h0 : 0 ≤ r) (h1 : r ≤ standsF p cur) (hn : 0 < neededF p (decide ((done.length : Int) + 1 = f)) (cur ++ [r])) :
    Whole p (decide ((done.length : Int) + 1 = f)) (cur ++ [r]) := by
  match cur, h with
  | [], h =>
    have h1' : r ≤ p := h1
    by_cases hl : (done.length : Int) + 1 = f
    · rw [decide_eq_true hl] at hn; simp [neededF] at hn
    · rw [decide_eq_false hl] at hn ⊢
      simp [neededF] at hn
      split at hn
      · rename_i h; exact ⟨rfl, h⟩
      · omega
  | [a], h =>
    obtain ⟨g1, g2, g3, g4⟩ := h
    have hs : standsF p [a] = if a < p then p - a else p := by
      simp only [standsF, List.foldl]
      by_cases ha : a < p
      · rw [if_pos ha, if_neg (by omega)]
      · rw [if_neg ha, if_pos (by omega)]
    rw [hs] at h1
    by_cases hl : (done.length : Int) + 1 = f
    · rw [decide_eq_true hl] at hn ⊢
      have hn' : a < p ∧ a + r < p := by
        simp [neededF] at hn
        split at hn
        · rename_i h; exact h
        · omega
      exact ⟨g2, hn'.1, h0, hn'.2⟩
    · rw [decide_eq_false hl]
      have ha : a < p := by omega
      rw [if_pos ha] at h1
      exact ⟨g2, ha, h0, by show a + r ≤ p; omega⟩
  | [a, c], h =>
    obtain ⟨g1, g2, g3, g4, g5, g6⟩ := h
    rw [decide_eq_true g1]
    have h1' := h1
    simp only [standsF, List.foldl] at h1'
    by_cases ha : a < p
    · rw [if_neg (show ¬ p - a = 0 by omega), if_pos (by omega)] at h1'
      exact ⟨rfl, g2, g3, g4, g5, h0, h1', .inr ⟨ha, by omega⟩⟩
    · rw [if_pos (show p - a = 0 by omega)] at h1'
      by_cases hc : c < p
      · rw [if_neg (by omega)] at h1'
        exact ⟨rfl, g2, g3, g4, g5, h0, by omega, .inl ⟨by omega, .inr (by omega)⟩⟩
      · rw [if_pos (by omega)] at h1'
        exact ⟨rfl, g2, g3, g4, g5, h0, h1', .inl ⟨by omega, .inl (by omega)⟩⟩
theorem going_of {f p : Int} {done : List (List Int)} : ∀ {cur : List Int}, curOk f p done cur → Going p (decide ((done.length : Int) + 1 = f)) cur
  | [], _ => trivial
  | [a], h => ⟨h.2.1, h.2.2.1, h.2.2.2.imp_right fun h => decide_eq_true h⟩
  | [a, c], h => ⟨decide_eq_true h.1, h.2.1, h.2.2.1, h.2.2.2.1, h.2.2.2.2.1, h.2.2.2.2.2⟩
theorem done_step {f p r : Int} {x y : Fr} (hp : 0 < p) (hc : curOk f p x.1 x.2) (hd : DoneOk f p 0 x.1) (e : stepF f p x r = some y) : DoneOk f p 0 y.1 := by
  unfold stepF at e
  split at e
  · cases e
  · rename_i hf
    split at e
    · rename_i hr
      split at e
      · rename_i hn
        cases e
        exact hd.snoc (by omega) (by rw [Int.zero_add]; exact whole_of hp hc (by omega) hr.1 hr.2 hn)
      · cases e; exact hd
    · cases e
theorem done_steps {f p : Int} (hp : 0 < p) : ∀ {rs : List Int} {x y : Fr}, Lock f p (stOf f p x.1 x.2) x → DoneOk f p 0 x.1 → splitS f p x rs = some y → DoneOk f p 0 y.1
  | [], x, y, _, h, e => by cases e; exact h
  | r :: rs, x, y, hL, h, e => by
    rw [splitS] at e
    cases hz : stepF f p x r with
    | none => rw [hz] at e; cases e
    | some z =>
      rw [hz] at e
      have hL2 := hL.step hp hz
      exact done_steps hp (rs := rs) (x := z) ⟨rfl, hL2.2⟩ (done_step hp hL.2.1 h hz) e
/-- the frames that a game shows -/
def shown (f : Int) (x : Fr) : List (List Int) := (x.1 ++ [x.2]).take f.toNat
theorem shown_over {f : Int} {x : Fr} (h : (x.1.length : Int) = f) : shown f x = x.1 := by
  unfold shown
  have : f.toNat = x.1.length := by omega
  rw [this, List.take_left']
  rfl
theorem shown_on {f : Int} {x : Fr} (h : (x.1.length : Int) < f) : shown f x = x.1 ++ [x.2] := by
  unfold shown
  rw [List.take_of_length_le (by simp; omega)]
/-- the rolls are those of the frames -/
theorem flat_steps {f p : Int} : ∀ {rs : List Int} {x y : Fr}, splitS f p x rs = some y → x.1.flatten ++ x.2 ++ rs = y.1.flatten ++ y.2
  | [], x, y, e => by cases e; simp
  | r :: rs, x, y, e => by
    rw [splitS] at e
    cases hz : stepF f p x r with
    | none => rw [hz] at e; cases e
    | some z =>
      rw [hz] at e
      rw [← flat_steps (rs := rs) (x := z) e]
      unfold stepF at hz
      split at hz
      · cases hz
      · split at hz
        · split at hz
          · cases hz; simp
          · cases hz; simp
        · cases hz
end FL
namespace FL
open PySem L2
theorem whole_needed {p : Int} {last : Bool} {fr : List Int} (h : Whole p last fr) : 0 < neededF p last fr := by
  match fr, h with
  | [a], h => obtain ⟨rfl, rfl⟩ := h; simp [neededF]
  | [a, c], h =>
    obtain ⟨h1, h2, h3, h4⟩ := h
    cases last with
    | false => simp [neededF]
    | true =>
      have h4' : a + c < p := h4
      simp [neededF, h2, h4']
  | [a, c, d], h => obtain ⟨rfl, h⟩ := h; simp [neededF]
theorem going_needed {p : Int} (hp : 0 < p) {last : Bool} {fr : List Int} (h : Going p last fr) : ¬ 0 < neededF p last fr := by
  match fr, h with
  | [], _ => simp [neededF]
  | [a], h =>
    obtain ⟨h1, h2, h3⟩ := h
    cases last with
    | false =>
      have : a < p := h3.elim id fun z => by cases z
      simp [neededF]; omega
    | true => simp [neededF]
  | [a, c], h =>
    obtain ⟨rfl, h2, h3, h4, h5, h6⟩ := h
    have : ¬ (a < p ∧ a + c < p) := by omega
    simp [neededF, this]
theorem whole_not_going {p : Int} (hp : 0 < p) {last : Bool} {fr : List Int} (h : Whole p last fr) (g : Going p last fr) : False := going_needed hp g (whole_needed h)
theorem whole_ne {p : Int} {last : Bool} {fr : List Int} (h : Whole p last fr) : fr ≠ [] := by rintro rfl; exact h
/-- the size of the part that belongs to a frame -/
def sizeF (f p n : Int) (fr : List Int) : Nat := if n < f - 1 ∧ fr.sum = p then 3 else fr.length
def partsF (f p : Int) : Int → List (List Int) → List (List Int × Bool)
  | _, [] => []
  | n, fr :: more => (if fr = [] then [] else [((fr ++ more.flatten).take (sizeF f p n fr), decide (0 < neededF p (decide (n = f - 1)) fr) && decide (sizeF f p n fr ≤ (fr ++ more.flatten).length))]) ++ partsF f p (n + 1) more
def pointsF (f p : Int) (n : Int) (fs : List (List Int)) : Int := ((partsF f p n fs).map fun x => x.1.sum).sum
def settledF (f p : Int) (n : Int) (fs : List (List Int)) : List Int := (partsF f p n fs).filterMap fun x => if x.2 = true then some x.1.sum else none
theorem last_eq (n f : Int) : decide (n = f - 1) = decide (n + 1 = f) := by
  by_cases h : n = f - 1
  · rw [decide_eq_true h, decide_eq_true (by omega)]
  · rw [decide_eq_false h, decide_eq_false (by omega)]
theorem points_cons (f p n : Int) (fr : List Int) (more : List (List Int)) (h : fr ≠ []) : pointsF f p n (fr :: more) = ((fr ++ more.flatten).take (sizeF f p n fr)).sum + pointsF f p (n + 1) more := by
  unfold pointsF
  rw [partsF, if_neg h]; simp
theorem points_nil (f p n : Int) (more : List (List Int)) : pointsF f p n ([] :: more) = pointsF f p (n + 1) more := by
  unfold pointsF
  rw [partsF, if_pos rfl]; simp
theorem take2_sum (M : List Int) : (M.take 2).sum = M.getD 0 0 + M.getD 1 0 := by
  match M with
  | [] => rfl
  | [a] => simp
  | a :: b :: r => simp
theorem take1_sum (M : List Int) : (M.take 1).sum = M.getD 0 0 := by
  match M with
  | [] => rfl
  | a :: r => simp
theorem whole_last_nil {f p n : Int} {more : List (List Int)} (h : n = f) (g : FrOk f p n more) : more = [] := by
  cases more with
  | nil => rfl
  | cons a r => have := g.1; omega
/-- the score, each roll with its weight, is the points of the frames -/
theorem score_points {f p : Int} (hp : 0 < p) : ∀ {fs : List (List Int)} {n : Int} (m l : Int), FrOk f p n fs →
    scS p ⟨f - n, m, l, .first, p⟩ fs.flatten = m * fs.flatten.getD 0 0 + l * fs.flatten.getD 1 0 + pointsF f p n fs
  | [], n, m, l, _ => by simp [scS, pointsF, partsF]
  | fr :: more, n, m, l, h => by
    obtain ⟨hn, h⟩ := h
    rcases h with ⟨rfl, hg⟩ | ⟨hw, hm⟩
    · match fr, hg with
      | [], _ => rw [points_nil]; simp [scS, pointsF, partsF]
      | [a], hg =>
        obtain ⟨h1, h2, h3⟩ := hg
        have hsz : sizeF f p n [a] = 1 := by
          unfold sizeF
          rw [if_neg]; rfl
          rintro ⟨q1, q2⟩
          simp at q2
          rcases h3 with h3 | h3
          · omega
          · have := of_decide_eq_true h3; omega
        rw [points_cons _ _ _ _ _ (by simp), hsz]
        simp [scS, pointsF, partsF]
        rw [Int.mul_add, Int.mul_comm m a]; omega
      | [a, c], hg =>
        obtain ⟨h0, h1, h2, h3, h4, h5⟩ := hg
        have hl := of_decide_eq_true h0
        have hsz : sizeF f p n [a, c] = 2 := by
          unfold sizeF
          rw [if_neg]; rfl
          rintro ⟨q1, q2⟩; omega
        rw [points_cons _ _ _ _ _ (by simp), hsz]
        have hleft : f - n = 1 := by omega
        simp only [List.flatten_cons, List.flatten_nil, List.append_nil, scS]
        by_cases ha : a < p <;> simp [nextS, ha, hleft, pointsF, partsF] <;> rw [Int.mul_add, Int.mul_add, Int.mul_comm m a, Int.mul_comm l c] <;> omega
    · by_cases hl : n + 1 = f
      · rw [decide_eq_true hl] at hw
        have := whole_last_nil hl hm
        subst this
        have hleft : f - n = 1 := by omega
        match fr, hw with
        | [a], hw => cases hw.1
        | [a, c], hw =>
          obtain ⟨h1, h2, h3, h4⟩ := hw
          have h4' : a + c < p := h4
          have hsz : sizeF f p n [a, c] = 2 := by
            unfold sizeF
            rw [if_neg]; rfl
            rintro ⟨q1, q2⟩; omega
          rw [points_cons _ _ _ _ _ (by simp), hsz]
          simp only [List.flatten_cons, List.flatten_nil, List.append_nil, scS]
          simp [nextS, h2, hleft, pointsF, partsF]
          rw [Int.mul_add, Int.mul_add, Int.mul_comm m a, Int.mul_comm l c]; omega
        | [a, c, d], hw =>
          obtain ⟨_, h1, h2, h3, h4, h5, h6, h7⟩ := hw
          have hsz : sizeF f p n [a, c, d] = 3 := by
            unfold sizeF
            rw [if_neg]; rfl
            rintro ⟨q1, q2⟩; omega
          rw [points_cons _ _ _ _ _ (by simp), hsz]
          simp only [List.flatten_cons, List.flatten_nil, List.append_nil, scS]
          by_cases ha : a < p
          · have hc : ¬ c < p - a := by omega
            simp [nextS, ha, hc, hleft, pointsF, partsF]
            rw [Int.mul_add, Int.mul_add, Int.mul_comm m a, Int.mul_comm l c]; omega
          · by_cases hc : c < p <;> simp [nextS, ha, hc, hleft, pointsF, partsF] <;> rw [Int.mul_add, Int.mul_add, Int.mul_comm m a, Int.mul_comm l c] <;> omega
      · rw [decide_eq_false hl] at hw
        have hn2 : n < f - 1 := by omega
        have e1 : f - n - 1 = f - (n + 1) := by omega
        match fr, hw with
        | [a], hw =>
          obtain ⟨_, rfl⟩ := hw
          have hsz : sizeF f a n [a] = 3 := by unfold sizeF; rw [if_pos ⟨hn2, by simp⟩]
          have hleft : ¬ f - n = 1 := by omega
          rw [points_cons _ _ _ _ _ (by simp), hsz]
          simp only [List.flatten_cons, scS, List.cons_append, List.nil_append]
          have ih := score_points hp (l + 1) 1 hm
          simp only [nextS, Int.lt_irrefl, if_false, hleft, if_true, e1]
          rw [if_neg (by simp), if_neg (by simp), ih]
          simp only [List.take_succ_cons, List.sum_cons, take2_sum, List.getD_cons_zero, List.getD_cons_succ]
          simp only [Int.mul_add, Int.add_mul, Int.mul_one, Int.one_mul]
          rw [Int.mul_comm m a]; omega
        | [a, c], hw =>
          obtain ⟨h1, h2, h3, h4⟩ := hw
          have h4' : a + c ≤ p := h4
          have hleft : ¬ f - n = 1 := by omega
          have hleft2 : 1 < f - n := by omega
          simp only [List.flatten_cons, scS, List.cons_append, List.nil_append]
          by_cases hs : a + c = p
          · have hsz : sizeF f p n [a, c] = 3 := by unfold sizeF; rw [if_pos ⟨hn2, by simpa using hs⟩]
            have hc : ¬ c < p - a := by omega
            have ih := score_points hp 1 0 hm
            rw [points_cons _ _ _ _ _ (by simp), hsz]
            simp [nextS, h2, hc, hleft, e1, ih, take1_sum]
            simp only [Int.mul_add, Int.mul_one]
            rw [Int.mul_comm m a, Int.mul_comm l c]; omega
          · have hsz : sizeF f p n [a, c] = 2 := by
              unfold sizeF
              rw [if_neg]; rfl
              rintro ⟨q1, q2⟩; simp at q2; omega
            have hc : c < p - a := by omega
            have ih := score_points hp 0 0 hm
            rw [points_cons _ _ _ _ _ (by simp), hsz]
            simp [nextS, h2, hc, hleft2, e1, ih]
            simp only [Int.mul_add, Int.mul_one]
            rw [Int.mul_comm m a, Int.mul_comm l c]; omega
        | [a, c, d], hw => cases hw.1
end FL
namespace FL
open PySem L2
/-- the scores of the settled frames, as the program finds them -/
def fscF (f p : Int) (over : Bool) : Int → List (List Int) → List Int
  | _, [] => []
  | n, fr :: more =>
    if n + 1 < f then
      (if fr.sum = p then (if (fr ++ more.flatten).length < 3 then [] else ((fr ++ more.flatten).take 3).sum :: fscF f p over (n + 1) more)
       else if fr.length < 2 then [] else fr.sum :: fscF f p over (n + 1) more)
    else if over = true then fr.sum :: fscF f p over (n + 1) more else []
theorem settled_cons (f p n : Int) (fr : List Int) (more : List (List Int)) (h : fr ≠ []) : settledF f p n (fr :: more) =
    (if 0 < neededF p (decide (n = f - 1)) fr ∧ sizeF f p n fr ≤ (fr ++ more.flatten).length then [((fr ++ more.flatten).take (sizeF f p n fr)).sum] else []) ++ settledF f p (n + 1) more := by
  unfold settledF
  rw [partsF, if_neg h, List.filterMap_append]
  congr 1
  by_cases h1 : 0 < neededF p (decide (n = f - 1)) fr ∧ sizeF f p n fr ≤ (fr ++ more.flatten).length
  · rw [if_pos h1]
    simp only [List.filterMap_cons, List.filterMap_nil, decide_eq_true h1.1, decide_eq_true h1.2, Bool.and_self, if_true]
  · rw [if_neg h1]
    have : (decide (0 < neededF p (decide (n = f - 1)) fr) && decide (sizeF f p n fr ≤ (fr ++ more.flatten).length)) = false := by
      rw [← Bool.not_eq_true, Bool.and_eq_true, decide_eq_true_eq, decide_eq_true_eq]; exact h1
    simp only [List.filterMap_cons, this, List.filterMap_nil, Bool.false_eq_true, if_false]
theorem settled_nil (f p n : Int) (more : List (List Int)) : settledF f p n ([] :: more) = settledF f p (n + 1) more := by
  unfold settledF
  rw [partsF, if_pos rfl, List.nil_append]
/-- nothing is settled where at most one roll is left -/
theorem settled_few {f p : Int} (hp : 0 < p) : ∀ {fs : List (List Int)} {n : Int}, FrOk f p n fs → fs.flatten.length ≤ 1 → settledF f p n fs = []
  | [], _, _, _ => rfl
  | fr :: more, n, h, hl => by
    obtain ⟨hn, h⟩ := h
    rcases h with ⟨rfl, hg⟩ | ⟨hw, hm⟩
    · by_cases hfr : fr = []
      · subst hfr; rw [settled_nil]; rfl
      · rw [settled_cons _ _ _ _ _ hfr, if_neg]
        · rfl
        · rintro ⟨h1, _⟩
          rw [last_eq] at h1
          exact going_needed hp hg h1
    · have hfr := whole_ne hw
      have hl' : fr.length + more.flatten.length ≤ 1 := by simpa using hl
      match fr, hw, hl', hfr with
      | [a], hw, hl', hfr =>
        obtain ⟨h1, rfl⟩ := hw
        have h1' := of_decide_eq_false h1
        have hm0 : more.flatten = [] := List.eq_nil_of_length_eq_zero (by simp only [List.length_singleton] at hl'; omega)
        have hsz : sizeF f a n [a] = 3 := by unfold sizeF; rw [if_pos ⟨by omega, by simp⟩]
        rw [settled_cons _ _ _ _ _ hfr, if_neg, settled_few hp hm (by rw [hm0]; simp)]
        · rfl
        · rintro ⟨_, h2⟩
          rw [hsz, hm0] at h2
          simp at h2
      | [a, c], _, hl', _ => simp only [List.length_cons, List.length_nil] at hl'; omega
      | [a, c, d], _, hl', _ => simp only [List.length_cons, List.length_nil] at hl'; omega
theorem fsc_settled {f p : Int} (hp : 0 < p) {over : Bool} : ∀ {fs : List (List Int)} {n : Int}, FrOk f p n fs → (over = true ↔ (DoneOk f p n fs ∧ n + (fs.length : Int) = f)) → fscF f p over n fs = settledF f p n fs
  | [], _, _, _ => rfl
  | fr :: more, n, h, ho => by
    obtain ⟨hn, h⟩ := h
    rcases h with ⟨rfl, hg⟩ | ⟨hw, hm⟩
    · have hov : over = false := by
        rw [← Bool.not_eq_true]
        intro z
        exact whole_not_going hp (ho.mp z).1.2.1 hg
      have hset : settledF f p n [fr] = [] := by
        by_cases hfr : fr = []
        · subst hfr; rw [settled_nil]; rfl
        · rw [settled_cons _ _ _ _ _ hfr, if_neg]
          · rfl
          · rintro ⟨h1, _⟩
            rw [last_eq] at h1
            exact going_needed hp hg h1
      rw [hset, fscF, hov]
      by_cases hl : n + 1 < f
      · rw [if_pos hl]
        have hlast : decide (n + 1 = f) = false := decide_eq_false (by omega)
        rw [hlast] at hg
        match fr, hg with
        | [], _ => rw [if_neg (by simp; omega), if_pos (by simp)]
        | [a], hg =>
          have : a < p := hg.2.2.elim id fun z => by cases z
          rw [if_neg (by simp; omega), if_pos (by simp)]
        | [a, c], hg => cases hg.1
      · rw [if_neg hl, if_neg Bool.false_ne_true]
    · have hfr := whole_ne hw
      have hnd := whole_needed hw
      rw [← last_eq] at hnd
      rw [fscF, settled_cons _ _ _ _ _ hfr]
      by_cases hl : n + 1 < f
      · have ho' : over = true ↔ (DoneOk f p (n + 1) more ∧ n + 1 + (more.length : Int) = f) := by
          rw [ho]
          constructor
          · rintro ⟨⟨_, _, h1⟩, h2⟩; exact ⟨h1, by simp at h2; omega⟩
          · rintro ⟨h1, h2⟩; exact ⟨⟨hn, hw, h1⟩, by simp; omega⟩
        have ih := fsc_settled hp hm ho'
        rw [if_pos hl]
        have hlast : decide (n + 1 = f) = false := decide_eq_false (by omega)
        rw [hlast] at hw
        by_cases hs : fr.sum = p
        · rw [if_pos hs]
          have hsz : sizeF f p n fr = 3 := by unfold sizeF; rw [if_pos ⟨by omega, hs⟩]
          rw [hsz, ih]
          by_cases h3 : (fr ++ more.flatten).length < 3
          · have hone : 1 ≤ fr.length := by
              cases fr with
              | nil => exact absurd rfl hfr
              | cons a r => simp
            rw [if_pos h3, if_neg (by rintro ⟨_, z⟩; omega), settled_few hp hm (by rw [List.length_append] at h3; omega)]
            rfl
          · rw [if_neg h3, if_pos ⟨hnd, by omega⟩]
            rfl
        · rw [if_neg hs]
          match fr, hw, hs with
          | [a], hw, hs => exact absurd (by simpa using hw.2) hs
          | [a, c], hw, hs =>
            have hsz : sizeF f p n [a, c] = 2 := by
              unfold sizeF
              rw [if_neg]; rfl
              rintro ⟨_, z⟩; exact hs z
            rw [if_neg (by simp), hsz, if_pos ⟨hnd, by simp⟩, ih]
            simp
          | [a, c, d], hw, hs => cases hw.1
      · have hl1 : n + 1 = f := by omega
        have := whole_last_nil hl1 hm
        subst this
        have hov : over = true := ho.mpr ⟨⟨hn, hw, trivial⟩, by simp; omega⟩
        have hsz : sizeF f p n fr = fr.length := by
          unfold sizeF
          rw [if_neg]
          rintro ⟨z, _⟩; omega
        rw [if_neg hl, if_pos hov, hsz, if_pos ⟨hnd, by simp⟩]
        simp [fscF, settledF, partsF]
/-- a whole game: each frame is settled -/
theorem done_two {f p : Int} : ∀ {fs : List (List Int)} {n : Int}, DoneOk f p n fs → n + (fs.length : Int) = f → n < f → 2 ≤ fs.flatten.length
  | [], n, _, h, h2 => by simp at h; omega
  | [fr], n, h, h2, _ => by
    obtain ⟨h1, hw, _⟩ := h
    have hl : decide (n + 1 = f) = true := decide_eq_true (by simp at h2; omega)
    rw [hl] at hw
    match fr, hw with
    | [a], hw => cases hw.1
    | [a, c], _ => simp
    | [a, c, d], _ => simp
  | fr :: g :: r, n, h, h2, h3 => by
    obtain ⟨h1, hw, hd⟩ := h
    have := done_two (fs := g :: r) hd (by simp at h2 ⊢; omega) hd.1
    rw [List.flatten_cons, List.length_append]; omega
theorem settled_all {f p : Int} : ∀ {fs : List (List Int)} {n : Int}, DoneOk f p n fs → n + (fs.length : Int) = f → (settledF f p n fs).length = fs.length ∧ (settledF f p n fs).sum = pointsF f p n fs
  | [], n, _, _ => ⟨rfl, rfl⟩
  | fr :: more, n, h, h2 => by
    obtain ⟨hn, hw, hd⟩ := h
    have hfr := whole_ne hw
    have hnd := whole_needed hw
    rw [← last_eq] at hnd
    have h2' : n + 1 + (more.length : Int) = f := by simp at h2; omega
    obtain ⟨i1, i2⟩ := settled_all hd h2'
    have hsize : sizeF f p n fr ≤ (fr ++ more.flatten).length := by
      unfold sizeF
      rw [List.length_append]
      split
      · rename_i hs
        have h3 := done_two hd h2' (by omega)
        have : 1 ≤ fr.length := by
          cases fr with
          | nil => exact absurd rfl hfr
          | cons a r => simp
        omega
      · omega
    rw [settled_cons _ _ _ _ _ hfr, if_pos ⟨hnd, hsize⟩, points_cons _ _ _ _ _ hfr]
    constructor
    · rw [List.length_append, i1]; simp; omega
    · rw [List.sum_append, i2]; simp
end FL
namespace FL
open PySem L2
/-! # Data: equality, slices -/
theorem mul_ok (i j : Int) (h : -18446744073709551616 < i ∧ i < 18446744073709551616) : mulOk i j = true := by
  unfold mulOk big
  rw [decide_eq_true h]; rfl
theorem eqDs_ints : ∀ a b : List Int, eqDs (a.map D.int) (b.map D.int) = decide (a = b)
  | [], [] => rfl
  | [], _ :: _ => rfl
  | _ :: _, [] => rfl
  | x :: xs, y :: ys => by
    rw [List.map_cons, List.map_cons, eqDs, eqDs_ints xs ys, eqD_int]
    by_cases h : x = y <;> by_cases h2 : xs = ys <;> simp [h, h2]
theorem all_ints (n : Nat) (a : List Int) : (a.map D.int).all (lev n) = true := by
  rw [List.all_eq_true]
  intro d hd
  obtain ⟨i, _, rfl⟩ := List.mem_map.mp hd
  exact lev_int n i
theorem bEq_tI (a b : List Int) : bEq (tI a) (tI b) = some (decide (a = b)) := by
  unfold bEq
  rw [lev_tup, lev_tup, all_ints, all_ints, Bool.and_self, if_pos rfl, eqD_tup, eqDs_ints]
theorem bEq_tI0 (a : List Int) : bEq (tI a) (.tup []) = some (decide (a = [])) := bEq_tI a []
theorem bNe_tI0 (a : List Int) : bNe (tI a) (.tup []) = some (!decide (a = [])) := by
  unfold bNe
  have h := eqDs_ints a []
  rw [lev_tup, lev_tup, all_ints, List.all_nil, Bool.and_self, if_pos rfl, eqD_tup]
  exact congrArg (fun b => some (!b)) h
theorem bEq_lI (a b : List Int) : bEq (lI a) (lI b) = some (decide (a = b)) := by
  unfold bEq
  rw [lev_lst, lev_lst, all_ints, all_ints, Bool.and_self, if_pos rfl, eqD_lst, eqDs_ints]
theorem bNe_lI (a : List Int) : bNe (lI a) (lI a) = some false := by
  unfold bNe
  rw [lev_lst, all_ints, Bool.and_self, if_pos rfl, eqD_lst, eqDs_ints]
  simp
theorem eqDs_nil (xs : List D) : eqDs xs [] = xs.isEmpty := by cases xs <;> rfl
theorem bNe_nil (xs : List D) (h : xs.all (lev 19) = true) : bNe (.lst xs) (.lst []) = some (!xs.isEmpty) := by
  unfold bNe
  rw [lev_lst, lev_lst, h, List.all_nil, Bool.and_self, if_pos rfl, eqD_lst, eqDs_nil]
theorem bEq_nil (xs : List D) (h : xs.all (lev 19) = true) : bEq (.lst xs) (.lst []) = some (xs.isEmpty) := by
  unfold bEq
  rw [lev_lst, lev_lst, h, List.all_nil, Bool.and_self, if_pos rfl, eqD_lst, eqDs_nil]
@[simp] theorem bEq_bl (a b : Bool) : bEq (.bl a) (.bl b) = some (a == b) := by cases a <;> cases b <;> decide +kernel
@[simp] theorem bNe_bl (a b : Bool) : bNe (.bl a) (.bl b) = some (a != b) := by cases a <;> cases b <;> decide +kernel
def notInt : D → Bool
  | .int _ => false
  | .dic _ => false
  | .scr _ => false
  | _ => true
theorem lev_cases {n : Nat} {d : D} (h : lev n d = true) : (∃ i, d = .int i) ∨ notInt d = true := by
  cases d with
  | int i => exact .inl ⟨i, rfl⟩
  | dic _ => cases n <;> cases h
  | scr _ => cases n <;> cases h
  | _ => exact .inr rfl
theorem lev_mono : ∀ {m n : Nat} {d : D}, m ≤ n → lev m d = true → lev n d = true := by
  intro m
  induction m with
  | zero =>
    intro n d _ h
    cases d with
    | tup _ => cases h
    | lst _ => cases h
    | dic _ => cases h
    | scr _ => cases h
    | str x => rw [lev_strE] at h ⊢; exact h
    | _ => cases n <;> rfl
  | succ m ih =>
    intro n d hn h
    cases n with
    | zero => omega
    | succ n =>
      cases d with
      | tup xs =>
        rw [lev_tup, List.all_eq_true] at h ⊢
        exact fun d hd => ih (by omega) (h d hd)
      | lst xs =>
        rw [lev_lst, List.all_eq_true] at h ⊢
        exact fun d hd => ih (by omega) (h d hd)
      | dic _ => cases h
      | scr _ => cases h
      | str x => rw [lev_strE] at h ⊢; exact h
      | _ => rfl
theorem tI_lev (rolls : List Int) (n : Nat) : lev (n + 1) (tI rolls) = true := by rw [lev_tup]; exact all_ints _ _
theorem tI_at (rolls : List Int) {k : Int} (h0 : 0 ≤ k) (h1 : k < rolls.length) : ∃ i, atI (rolls.map D.int) k = some (.int i) ∧ (rolls.map D.int)[k.toNat]? = some (.int i) := by
  have h2 : k.toNat < rolls.length := by omega
  rw [atI_nat h0 (by simpa using h1), List.getElem?_map, List.getElem?_eq_getElem h2]
  exact ⟨_, rfl, rfl⟩
theorem all_set {q : D → Bool} {xs : List D} {d : D} (k : Nat) (h : xs.all q = true) (hd : q d = true) : (xs.set k d).all q = true := by
  rw [List.all_eq_true] at h ⊢
  intro x hx
  rcases List.mem_or_eq_of_mem_set hx with hx | rfl
  · exact h x hx
  · exact hd
theorem ixN_in {n : Nat} {k : Int} (h0 : 0 ≤ k) (h1 : k < n) : ixN n k = some k.toNat := by unfold ixN; rw [if_pos h0, if_pos h1]
@[simp] theorem ix_last (n : Nat) : ixN (n + 1) (-1) = some n := by
  unfold ixN
  rw [if_neg (by omega), if_pos (by omega)]
  congr 1; omega
@[simp] theorem set_last {α β : Type} (g : α → β) (xs : List α) (x y : β) : (xs.map g ++ [x]).set xs.length y = xs.map g ++ [y] := by
  rw [List.set_append_right _ _ (by simp)]; simp
@[simp high] theorem add_tI (a b : List Int) : oAdd (tI a) (tI b) = if a.length + b.length ≤ cap then some (.val (tI (a ++ b))) else none := by
  rw [addT]; simp [tI]
@[simp high] theorem add_tI1 (a : List Int) (r : Int) : oAdd (tI a) (.tup [.int r]) = if a.length + 1 ≤ cap then some (.val (tI (a ++ [r]))) else none := by
  rw [addT]; simp [tI]
theorem cut_mid {α : Type} (xs : List α) (b k : Nat) : cutD xs (some (b : Int)) (some ((b : Int) + (k : Int))) = (xs.drop b).take k := by
  unfold cutD
  rw [show ((b : Int) + (k : Int)) = ((b + k : Nat) : Int) by omega, HT.sIx_nat, HT.sIx_nat]
  by_cases hb : b ≤ xs.length
  · rw [Nat.min_eq_left hb]
    by_cases hk : b + k ≤ xs.length
    · rw [Nat.min_eq_left hk]
      congr 1; omega
    · rw [Nat.min_eq_right (by omega), List.take_of_length_le (by simp), List.take_of_length_le (by simp; omega)]
  · rw [List.drop_eq_nil_of_le (show xs.length ≤ min b xs.length by omega), List.drop_eq_nil_of_le (by omega), List.take_nil, List.take_nil]
theorem cut_take {α : Type} (xs : List α) {k : Int} (h : 0 ≤ k) : cutD xs none (some k) = xs.take k.toNat := by
  unfold cutD HT.sIx
  simp only [if_neg (show ¬ k < 0 by omega), List.drop_zero, Nat.sub_zero]
  rw [Nat.min_def]
  split
  · rfl
  · rw [List.take_of_length_le (Nat.le_refl _), List.take_of_length_le (by omega)]
theorem cut_drop {α : Type} (xs : List α) {k : Int} (h : 0 ≤ k) : cutD xs (some k) none = xs.drop k.toNat := by
  unfold cutD HT.sIx
  simp only [if_neg (show ¬ k < 0 by omega)]
  rw [List.take_of_length_le (by simp)]
  rw [Nat.min_def]
  split
  · rfl
  · rw [List.drop_eq_nil_of_le (Nat.le_refl _), List.drop_eq_nil_of_le (by omega)]
theorem cut_init {α : Type} (xs : List α) (x : α) : cutD (xs ++ [x]) none (some (-1)) = xs := by
  unfold cutD HT.sIx
  have h : (xs ++ [x]).length = xs.length + 1 := by simp
  rw [h]
  simp only [List.drop_zero, Nat.sub_zero]
  rw [if_pos (by decide)]
  have : ((-1 : Int) + ((xs.length + 1 : Nat) : Int)).toNat = xs.length := by omega
  rw [this, List.take_left' rfl]
theorem slice_mid (ns : List Int) (b k : Nat) : oSlice (tI ns) (some (b : Int)) (some ((b : Int) + (k : Int))) = some (.val (tI ((ns.drop b).take k))) := by
  rw [sliceT, cut_mid, ← List.map_drop, ← List.map_take]
theorem slice_take (ns : List Int) {k : Int} (h : 0 ≤ k) : oSlice (tI ns) none (some k) = some (.val (tI (ns.take k.toNat))) := by
  rw [sliceT, cut_take _ h, ← List.map_take]
theorem slice_drop (ns : List Int) {k : Int} (h : 0 ≤ k) : oSlice (tI ns) (some k) none = some (.val (tI (ns.drop k.toNat))) := by
  rw [sliceT, cut_drop _ h, ← List.map_drop]
theorem sum_tI (ns : List Int) : oSumA [tI ns] = some (.val (.int ns.sum)) := by rw [sum2, intsOf_map]; rfl
end FL
namespace FL
open PySem L2
/-! # Weights by frames -/
/-- how often the j-th roll belongs to a frame's score -/
def cntF (f p : Int) : Int → List (List Int) → Nat → Int
  | _, [], _ => 0
  | n, fr :: more, j => (if j < sizeF f p n fr then 1 else 0) + (if j < fr.length then 0 else cntF f p (n + 1) more (j - fr.length))
theorem size_last {f p n : Int} (fr : List Int) (h : n + 1 = f) : sizeF f p n fr = fr.length := by
  unfold sizeF
  rw [if_neg]
  rintro ⟨q, _⟩; omega
theorem size_open {f p n : Int} {fr : List Int} (h : fr.sum ≠ p) : sizeF f p n fr = fr.length := by
  unfold sizeF
  rw [if_neg]
  rintro ⟨_, q⟩; exact h q
theorem size_three {f p n : Int} {fr : List Int} (h : n + 1 < f) (h2 : fr.sum = p) : sizeF f p n fr = 3 := by
  unfold sizeF
  rw [if_pos ⟨by omega, h2⟩]
theorem weights_cnt {f p : Int} (hp : 0 < p) : ∀ {fs : List (List Int)} {n : Int} (m l : Int), FrOk f p n fs → ∀ j, j < fs.flatten.length →
    (wtS p ⟨f - n, m, l, .first, p⟩ fs.flatten)[j]? = some (cntF f p n fs j + (if j = 0 then m else 0) + (if j = 1 then l else 0))
  | [], n, m, l, _, j, hj => by simp at hj
  | fr :: more, n, m, l, h, j, hj => by
    obtain ⟨hn, h⟩ := h
    rcases h with ⟨rfl, hg⟩ | ⟨hw, hm⟩
    · match fr, hg with
      | [], _ => simp at hj
      | [a], hg =>
        obtain ⟨h1, h2, h3⟩ := hg
        have hj0 : j = 0 := by simp at hj; omega
        subst hj0
        have hs : sizeF f p n [a] = 1 := by
          by_cases hl : n + 1 = f
          · rw [size_last _ hl]; rfl
          · rw [size_open]; rfl
            rw [decide_eq_false hl] at h3
            have : a < p := h3.elim id fun z => by cases z
            simp; omega
        simp [wtS, cntF, hs]
      | [a, c], hg =>
        obtain ⟨h0, h1, h2, h3, h4, h5⟩ := hg
        have hl := of_decide_eq_true h0
        have hs : sizeF f p n [a, c] = 2 := by rw [size_last _ hl]; rfl
        have hleft : f - n = 1 := by omega
        have hj2 : j = 0 ∨ j = 1 := by simp at hj; omega
        rcases hj2 with rfl | rfl
        · simp [wtS, cntF, hs]
        · by_cases ha : a < p <;> simp [wtS, cntF, hs, nextS, ha, hleft]
    · by_cases hl : n + 1 = f
      · rw [decide_eq_true hl] at hw
        have := whole_last_nil hl hm
        subst this
        have hleft : f - n = 1 := by omega
        have hs := size_last (p := p) fr hl
        match fr, hw with
        | [a], hw => cases hw.1
        | [a, c], hw =>
          obtain ⟨h1, h2, h3, h4⟩ := hw
          have hj2 : j = 0 ∨ j = 1 := by simp at hj; omega
          rcases hj2 with rfl | rfl
          · simp [wtS, cntF, hs]
          · simp [wtS, cntF, hs, nextS, h2, hleft]
        | [a, c, d], hw =>
          obtain ⟨_, h1, h2, h3, h4, h5, h6, h7⟩ := hw
          have hj2 : j = 0 ∨ j = 1 ∨ j = 2 := by simp at hj; omega
          rcases hj2 with rfl | rfl | rfl
          · simp [wtS, cntF, hs]
          · by_cases ha : a < p <;> simp [wtS, cntF, hs, nextS, ha, hleft]
          · by_cases ha : a < p
            · have hc : ¬ c < p - a := by omega
              simp [wtS, cntF, hs, nextS, ha, hc, hleft]
            · by_cases hc : c < p <;> simp [wtS, cntF, hs, nextS, ha, hc, hleft]
      · rw [decide_eq_false hl] at hw
        have hn2 : n + 1 < f := by omega
        have e1 : f - n - 1 = f - (n + 1) := by omega
        have hleft : ¬ f - n = 1 := by omega
        match fr, hw with
        | [a], hw =>
          obtain ⟨_, rfl⟩ := hw
          have hs := size_three (p := a) (fr := [a]) hn2 (by simp)
          cases j with
          | zero => simp [wtS, cntF, hs]
          | succ j =>
            have ih := weights_cnt hp (l + 1) 1 hm j (by simpa using hj)
            simp only [List.flatten_cons, List.cons_append, List.nil_append, wtS, List.getElem?_cons_succ]
            have e2 : nextS a ⟨f - n, m, l, .first, a⟩ a = ⟨f - (n + 1), l + 1, 1, .first, a⟩ := by simp [nextS, hleft, e1]
            rw [e2, ih, cntF, hs]
            congr 1
            simp only [List.length_singleton, Nat.add_sub_cancel]
            rcases j with _ | _ | j
            · simp; omega
            · simp; omega
            · have k1 : ¬ j + 1 + 1 + 1 < 3 := by omega
              simp [k1]
        | [a, c], hw =>
          obtain ⟨h1, h2, h3, h4⟩ := hw
          have h4' : a + c ≤ p := h4
          have hleft2 : 1 < f - n := by omega
          by_cases hsm : a + c = p
          · have hs := size_three (f := f) (n := n) (p := p) (fr := [a, c]) hn2 (by simpa using hsm)
            have hc : ¬ c < p - a := by omega
            rcases j with _ | _ | j
            · simp [wtS, cntF, hs]
            · simp [wtS, cntF, hs, nextS, h2]
            · have ih := weights_cnt hp 1 0 hm j (by simp at hj ⊢; omega)
              simp only [List.flatten_cons, List.cons_append, List.nil_append, wtS, List.getElem?_cons_succ]
              have e2 : nextS p (nextS p ⟨f - n, m, l, .first, p⟩ a) c = ⟨f - (n + 1), 1, 0, .first, p⟩ := by simp [nextS, h2, hc, hleft, e1]
              rw [e2, ih, cntF, hs]
              congr 1
              have e3 : j + 1 + 1 - [a, c].length = j := by simp
              rw [e3]
              rcases j with _ | j
              · simp; omega
              · have k1 : ¬ j + 1 + 1 + 1 < 3 := by omega
                have k2 : ¬ j + 1 + 1 + 1 < 2 := by omega
                simp [k1, k2]
          · have hs : sizeF f p n [a, c] = 2 := by rw [size_open]; rfl; simpa using hsm
            have hc : c < p - a := by omega
            rcases j with _ | _ | j
            · simp [wtS, cntF, hs]
            · simp [wtS, cntF, hs, nextS, h2]
            · have ih := weights_cnt hp 0 0 hm j (by simp at hj ⊢; omega)
              simp only [List.flatten_cons, List.cons_append, List.nil_append, wtS, List.getElem?_cons_succ]
              have e2 : nextS p (nextS p ⟨f - n, m, l, .first, p⟩ a) c = ⟨f - (n + 1), 0, 0, .first, p⟩ := by simp [nextS, h2, hc, hleft2, e1]
              rw [e2, ih, cntF, hs]
              congr 1
              have e3 : j + 1 + 1 - [a, c].length = j := by simp
              rw [e3]
              have k1 : ¬ j + 1 + 1 < 2 := by omega
              simp [k1]
        | [a, c, d], hw => cases hw.1
/-- a roll counts one to three times -/
theorem wt_range (p : Int) : ∀ (rs : List Int) (s : Gs), 0 ≤ s.more → s.more ≤ 2 → 0 ≤ s.later → s.later ≤ 1 → ∀ w ∈ wtS p s rs, 1 ≤ w ∧ w ≤ 3
  | [], _, _, _, _, _, w, h => by cases h
  | r :: rs, s, h1, h2, h3, h4, w, h => by
    rw [wtS] at h
    rcases List.mem_cons.mp h with rfl | h
    · omega
    · refine wt_range p rs (nextS p s r) ?_ ?_ ?_ ?_ w h <;> unfold nextS <;> (repeat' split) <;> (try simp [Gs.OVER]) <;> (try omega)
theorem wt_init (p : Int) : ∀ (rs : List Int) (s : Gs), wtS p s rs.dropLast = (wtS p s rs).dropLast
  | [], _ => rfl
  | [r], s => rfl
  | r :: q :: rs, s => by
    have := wt_init p (q :: rs) (nextS p s r)
    have e1 : (r :: q :: rs).dropLast = r :: (q :: rs).dropLast := rfl
    have e2 : wtS p s (r :: q :: rs) = (1 + s.more) :: wtS p (nextS p s r) (q :: rs) := rfl
    have e3 : wtS p (nextS p s r) (q :: rs) = (1 + (nextS p s r).more) :: wtS p (nextS p (nextS p s r) q) rs := rfl
    rw [e1, wtS, this, e2, e3]
    rfl
end FL
namespace FL
open PySem L2
/-! # Totals that can still be -/
/-- rolls that end a game from a state -/
def Ends (p : Int) : Gs → List Int → Prop
  | s, [] => s = Gs.OVER
  | s, r :: rs => s ≠ Gs.OVER ∧ 0 ≤ r ∧ r ≤ s.stand ∧ Ends p (nextS p s r) rs
/-- a number that can be added -/
def Reach (p : Int) (s : Gs) (v : Int) : Prop := ∃ rs, Ends p s rs ∧ scS p s rs = v
theorem reach_over (p v : Int) : Reach p Gs.OVER v ↔ v = 0 := by
  constructor
  · rintro ⟨rs, h, e⟩
    cases rs with
    | nil => exact e.symm
    | cons r rs => exact absurd rfl h.1
  · rintro rfl; exact ⟨[], rfl, rfl⟩
theorem reach_step {p v : Int} {s : Gs} (hs : s ≠ Gs.OVER) : Reach p s v ↔ ∃ r, 0 ≤ r ∧ r ≤ s.stand ∧ Reach p (nextS p s r) (v - r * (1 + s.more)) := by
  constructor
  · rintro ⟨rs, h, e⟩
    cases rs with
    | nil => exact absurd h hs
    | cons r rs =>
      obtain ⟨_, h0, h1, h2⟩ := h
      rw [scS] at e
      exact ⟨r, h0, h1, rs, h2, by omega⟩
  · rintro ⟨r, h0, h1, rs, h2, e⟩
    exact ⟨r :: rs, ⟨hs, h0, h1, h2⟩, by rw [scS]; omega⟩
/-! ### the last frame -/
theorem reach_one {p t v : Int} : Reach p ⟨1, 0, 0, .one, t⟩ v ↔ 0 ≤ v ∧ v ≤ t := by
  rw [reach_step (by simp [Gs.OVER])]
  have e : ∀ r, nextS p ⟨1, 0, 0, .one, t⟩ r = Gs.OVER := fun r => by simp [nextS]
  simp only [e, reach_over]
  constructor
  · rintro ⟨r, h0, h1, h2⟩; omega
  · rintro ⟨h0, h1⟩; exact ⟨v, h0, h1, by omega⟩
theorem reach_two {p m v : Int} (hp : 0 < p) (hm : m = 0 ∨ m = 1) : Reach p ⟨1, m, 0, .two, p⟩ v ↔ 0 ≤ v ∧ v ≤ p * (1 + m) + p := by
  rw [reach_step (by simp [Gs.OVER])]
  have e : ∀ r, nextS p ⟨1, m, 0, .two, p⟩ r = ⟨1, 0, 0, .one, if r < p then p - r else p⟩ := fun r => by simp [nextS]
  simp only [e, reach_one]
  constructor
  · rintro ⟨r, h0, h1, h2, h3⟩
    rcases hm with rfl | rfl
    · split at h3 <;> omega
    · split at h3 <;> omega
  · rintro ⟨h0, h1⟩
    rcases hm with rfl | rfl
    · by_cases hv : v < p
      · exact ⟨0, by omega, by omega, by omega, by rw [if_pos hp]; omega⟩
      · exact ⟨p, by omega, by omega, by omega, by rw [if_neg (by omega)]; omega⟩
    · by_cases hv : v < p
      · exact ⟨0, by omega, by omega, by omega, by rw [if_pos hp]; omega⟩
      · by_cases hv2 : v < 2 * p
        · exact ⟨v - p, by omega, by show v - p ≤ p; omega, by omega, by rw [if_pos (by omega)]; omega⟩
        · exact ⟨p, by omega, by simp, by omega, by rw [if_neg (by omega)]; omega⟩
theorem reach_second1 {p t m v : Int} (hp : 0 < p) (ht : 1 ≤ t) (htp : t ≤ p) (hm : m = 0 ∨ m = 1) :
    Reach p ⟨1, m, 0, .second, t⟩ v ↔ 0 ≤ v ∧ v ≤ t * (1 + m) + p ∧ ¬ (m = 1 ∧ v < 2 * t ∧ v % 2 = 1) := by
  rw [reach_step (by simp [Gs.OVER])]
  have e1 : ∀ r, r < t → nextS p ⟨1, m, 0, .second, t⟩ r = Gs.OVER := fun r h => by simp [nextS, h]
  have e2 : ∀ r, ¬ r < t → nextS p ⟨1, m, 0, .second, t⟩ r = ⟨1, 0, 0, .one, p⟩ := fun r h => by simp [nextS, h]
  constructor
  · rintro ⟨r, h0, h1, h2⟩
    by_cases hr : r < t
    · rw [e1 r hr, reach_over] at h2
      rcases hm with rfl | rfl
      · simp at h2; omega
      · simp only at h2; omega
    · rw [e2 r hr, reach_one] at h2
      have hrt : r = t := by simp at h1; omega
      subst hrt
      rcases hm with rfl | rfl
      · simp only at h2; omega
      · simp only at h2; omega
  · rintro ⟨h0, h1, h2⟩
    rcases hm with rfl | rfl
    · by_cases hv : v < t
      · exact ⟨v, h0, by simp; omega, by rw [e1 v hv, reach_over]; simp⟩
      · exact ⟨t, by omega, by simp, by rw [e2 t (by omega), reach_one]; simp only; omega⟩
    · by_cases hv : v < 2 * t
      · exact ⟨v / 2, by omega, by simp; omega, by rw [e1 (v / 2) (by omega), reach_over]; simp only; omega⟩
      · exact ⟨t, by omega, by simp, by rw [e2 t (by omega), reach_one]; simp only; omega⟩
/-- the first roll of the last frame -/
def gapsFirst (p m l v : Int) : Prop := (m = 2 ∧ l = 1 ∧ v = 1) ∨ (m = 1 ∧ l = 1 ∧ v < 2 * p ∧ v % 2 = 1)
def Bon (m l : Int) : Prop := (m = 0 ∧ l = 0) ∨ (m = 1 ∧ l = 0) ∨ (m = 1 ∧ l = 1) ∨ (m = 2 ∧ l = 1)
theorem reach_first1 {p m l v : Int} (hp : 2 ≤ p) (hb : Bon m l) : Reach p ⟨1, m, l, .first, p⟩ v ↔ 0 ≤ v ∧ v ≤ p * (3 + m + l) ∧ ¬ gapsFirst p m l v := by
  have hl : l = 0 ∨ l = 1 := by unfold Bon at hb; omega
  rw [reach_step (by simp [Gs.OVER])]
  have e1 : ∀ r, r < p → nextS p ⟨1, m, l, .first, p⟩ r = ⟨1, l, 0, .second, p - r⟩ := fun r h => by simp [nextS, h]
  have e2 : ∀ r, ¬ r < p → nextS p ⟨1, m, l, .first, p⟩ r = ⟨1, l, 0, .two, p⟩ := fun r h => by simp [nextS, h]
  constructor
  · rintro ⟨r, h0, h1, h2⟩
    have h1' : r ≤ p := h1
    by_cases hr : r < p
    · rw [e1 r hr, reach_second1 (by omega) (by omega) (by omega) hl] at h2
      unfold gapsFirst
      have h3 := h2.2.2
      rcases hb with ⟨rfl, rfl⟩ | ⟨rfl, rfl⟩ | ⟨rfl, rfl⟩ | ⟨rfl, rfl⟩ <;> simp only at h2 h3 <;> simp only [true_and, Int.zero_ne_one, false_and, not_false_eq_true, and_true] at h2 h3 <;> omega
    · have : r = p := by omega
      subst this
      rw [e2 r hr, reach_two (by omega) hl] at h2
      unfold gapsFirst
      rcases hb with ⟨rfl, rfl⟩ | ⟨rfl, rfl⟩ | ⟨rfl, rfl⟩ | ⟨rfl, rfl⟩ <;> simp only at h2 <;> omega
  · rintro ⟨h0, h1, h2⟩
    unfold gapsFirst at h2
    rcases hb with ⟨rfl, rfl⟩ | ⟨rfl, rfl⟩ | ⟨rfl, rfl⟩ | ⟨rfl, rfl⟩
    · by_cases hv : v ≤ 2 * p
      · exact ⟨0, by omega, by show (0 : Int) ≤ p; omega, by rw [e1 0 (by omega), reach_second1 (by omega) (by omega) (by omega) (.inl rfl)]; simp only; omega⟩
      · exact ⟨p, by omega, by show p ≤ p; omega, by rw [e2 p (by omega), reach_two (by omega) (.inl rfl)]; simp only; omega⟩
    · by_cases hv : v ≤ 2 * p
      · exact ⟨0, by omega, by show (0 : Int) ≤ p; omega, by rw [e1 0 (by omega), reach_second1 (by omega) (by omega) (by omega) (.inl rfl)]; simp only; omega⟩
      · exact ⟨p, by omega, by show p ≤ p; omega, by rw [e2 p (by omega), reach_two (by omega) (.inl rfl)]; simp only; omega⟩
    · by_cases hv : v ≤ 3 * p
      · exact ⟨0, by omega, by show (0 : Int) ≤ p; omega, by rw [e1 0 (by omega), reach_second1 (by omega) (by omega) (by omega) (.inr rfl)]; simp only; omega⟩
      · exact ⟨p, by omega, by show p ≤ p; omega, by rw [e2 p (by omega), reach_two (by omega) (.inr rfl)]; simp only; omega⟩
    · by_cases hv : v < 2 * p ∧ v % 2 = 1
      · exact ⟨1, by omega, by show (1 : Int) ≤ p; omega, by rw [e1 1 (by omega), reach_second1 (by omega) (by omega) (by omega) (.inr rfl)]; simp only; omega⟩
      · by_cases hv2 : v ≤ 3 * p
        · exact ⟨0, by omega, by show (0 : Int) ≤ p; omega, by rw [e1 0 (by omega), reach_second1 (by omega) (by omega) (by omega) (.inr rfl)]; simp only; omega⟩
        · exact ⟨p, by omega, by show p ≤ p; omega, by rw [e2 p (by omega), reach_two (by omega) (.inr rfl)]; simp only; omega⟩
/-! ### frames before the last one -/
theorem mul_ge {p : Int} {k : Nat} (hp : 0 < p) (hk : 1 ≤ k) : p ≤ p * (k : Int) := by
  have : p * 1 ≤ p * (k : Int) := Int.mul_le_mul_of_nonneg_left (by omega) (by omega)
  omega
theorem reach_second_of {p : Int} {k : Nat} (hp : 2 ≤ p) (hk : 1 ≤ k) (ih : ∀ m l v, Bon m l → (Reach p ⟨(k : Int), m, l, .first, p⟩ v ↔ 0 ≤ v ∧ v ≤ 3 * (p * (k : Int)) + p * (m + l) ∧ ¬ (k = 1 ∧ gapsFirst p m l v))) {t m v : Int} (ht : 1 ≤ t) (htp : t ≤ p) (hm : m = 0 ∨ m = 1) :
    Reach p ⟨(k : Int) + 1, m, 0, .second, t⟩ v ↔ 0 ≤ v ∧ v ≤ t * (1 + m) + 3 * (p * (k : Int)) + p := by
  rw [reach_step (by simp [Gs.OVER])]
  have hpk := mul_ge (p := p) (by omega) hk
  have e1 : ∀ r, r < t → nextS p ⟨(k : Int) + 1, m, 0, .second, t⟩ r = ⟨(k : Int), 0, 0, .first, p⟩ := fun r h => by
    have : 1 < (k : Int) + 1 := by omega
    simp [nextS, h, this]
  have e2 : ∀ r, ¬ r < t → nextS p ⟨(k : Int) + 1, m, 0, .second, t⟩ r = ⟨(k : Int), 1, 0, .first, p⟩ := fun r h => by
    have : ¬ (k : Int) + 1 = 1 := by omega
    simp [nextS, h, this]
  have i0 := fun v => ih 0 0 v (.inl ⟨rfl, rfl⟩)
  have i1 := fun v => ih 1 0 v (.inr (.inl ⟨rfl, rfl⟩))
  have g0 : ∀ v, ¬ gapsFirst p 0 0 v := fun v h => by unfold gapsFirst at h; omega
  have g1 : ∀ v, ¬ gapsFirst p 1 0 v := fun v h => by unfold gapsFirst at h; omega
  generalize p * (k : Int) = Q at *
  constructor
  · rintro ⟨r, h0, h1, h2⟩
    have h1' : r ≤ t := h1
    by_cases hr : r < t
    · rw [e1 r hr, i0] at h2
      rcases hm with rfl | rfl <;> simp only at h2 <;> omega
    · rw [e2 r hr, i1] at h2
      have : r = t := by omega
      subst this
      rcases hm with rfl | rfl <;> simp only at h2 <;> omega
  · rintro ⟨h0, h1⟩
    by_cases hv : v ≤ 3 * Q
    · refine ⟨0, by omega, by show (0 : Int) ≤ t; omega, ?_⟩
      rw [e1 0 (by omega), i0]
      exact ⟨by simp only; omega, by simp only; omega, fun h => g0 _ h.2⟩
    · refine ⟨t, by omega, by show t ≤ t; omega, ?_⟩
      rw [e2 t (by omega), i1]
      rcases hm with rfl | rfl <;> exact ⟨by simp only; omega, by simp only; omega, fun h => g1 _ h.2⟩
theorem reach_first {p : Int} (hp : 2 ≤ p) : ∀ (k : Nat), 1 ≤ k → ∀ m l v, Bon m l → (Reach p ⟨(k : Int), m, l, .first, p⟩ v ↔ 0 ≤ v ∧ v ≤ 3 * (p * (k : Int)) + p * (m + l) ∧ ¬ (k = 1 ∧ gapsFirst p m l v)) := by
  intro k
  induction k with
  | zero => intro h; omega
  | succ k ih =>
    intro _ m l v hb
    by_cases hk : k = 0
    · subst hk
      have h := reach_first1 (v := v) hp hb
      have e : (((0 + 1 : Nat) : Int)) = 1 := rfl
      rw [e, h]
      have e2 : p * (3 + m + l) = 3 * (p * 1) + p * (m + l) := by
        rw [Int.mul_one, Int.add_assoc, Int.mul_add]; omega
      rw [e2]
      simp
    · have hk1 : 1 ≤ k := by omega
      have ih' := ih hk1
      have hl : l = 0 ∨ l = 1 := by unfold Bon at hb; omega
      have hpk := mul_ge (p := p) (by omega) hk1
      have ec : ((k + 1 : Nat) : Int) = (k : Int) + 1 := by omega
      rw [ec, reach_step (by simp [Gs.OVER])]
      have eQ : p * ((k : Int) + 1) = p * (k : Int) + p := by rw [Int.mul_add, Int.mul_one]
      rw [eQ]
      have e1 : ∀ r, r < p → nextS p ⟨(k : Int) + 1, m, l, .first, p⟩ r = ⟨(k : Int) + 1, l, 0, .second, p - r⟩ := fun r h => by simp [nextS, h]
      have e2 : ∀ r, ¬ r < p → nextS p ⟨(k : Int) + 1, m, l, .first, p⟩ r = ⟨(k : Int), l + 1, 1, .first, p⟩ := fun r h => by
        have : ¬ (k : Int) + 1 = 1 := by omega
        simp [nextS, h, this]
      have s2 := fun (t v : Int) (ht : 1 ≤ t) (htp : t ≤ p) => reach_second_of (v := v) hp hk1 ih' ht htp hl
      have s3 := fun v => ih' (l + 1) 1 v (by unfold Bon; omega)
      have hg : ∀ w, 2 * p ≤ w → ¬ gapsFirst p (l + 1) 1 w := fun w hw h => by unfold gapsFirst at h; omega
      have hk2 : ¬ (k + 1 = 1 ∧ gapsFirst p m l v) := fun h => by omega
      by_cases hkk : k = 1
      · subst hkk
        have eq1 : p * ((1 : Nat) : Int) = p := by simp
        rw [eq1] at s2 s3 hpk ⊢
        constructor
        · rintro ⟨r, h0, h1, h2⟩
          have h1' : r ≤ p := h1
          refine ⟨?_, ?_, hk2⟩ <;>
          · by_cases hr : r < p
            · rw [e1 r hr, s2 _ _ (by omega) (by omega)] at h2
              rcases hb with ⟨rfl, rfl⟩ | ⟨rfl, rfl⟩ | ⟨rfl, rfl⟩ | ⟨rfl, rfl⟩ <;> simp only at h2 <;> omega
            · rw [e2 r hr, s3] at h2
              have : r = p := by omega
              subst this
              have h3 := h2.1
              have h4 := h2.2.1
              rcases hb with ⟨rfl, rfl⟩ | ⟨rfl, rfl⟩ | ⟨rfl, rfl⟩ | ⟨rfl, rfl⟩ <;> simp only at h3 h4 <;> omega
        · rintro ⟨h0, h1, _⟩
          by_cases hv : v ≤ p * (1 + l) + 3 * p + p
          · exact ⟨0, by omega, by show (0 : Int) ≤ p; omega, by rw [e1 0 (by omega), s2 _ _ (by omega) (by omega)]; simp only [Int.sub_zero, Int.zero_mul]; omega⟩
          · refine ⟨p, by omega, by show p ≤ p; omega, ?_⟩
            rw [e2 p (by omega), s3]
            rcases hb with ⟨rfl, rfl⟩ | ⟨rfl, rfl⟩ | ⟨rfl, rfl⟩ | ⟨rfl, rfl⟩ <;> exact ⟨by simp only; omega, by simp only; omega, fun h => hg _ (by simp only; omega) h.2⟩
      · have s3' : ∀ v, Reach p ⟨(k : Int), l + 1, 1, .first, p⟩ v ↔ 0 ≤ v ∧ v ≤ 3 * (p * (k : Int)) + p * (l + 1 + 1) := fun v => by
          rw [s3 v]
          exact ⟨fun h => ⟨h.1, h.2.1⟩, fun h => ⟨h.1, h.2, fun z => hkk z.1⟩⟩
        generalize p * (k : Int) = Q at *
        constructor
        · rintro ⟨r, h0, h1, h2⟩
          have h1' : r ≤ p := h1
          refine ⟨?_, ?_, hk2⟩ <;>
          · by_cases hr : r < p
            · rw [e1 r hr, s2 _ _ (by omega) (by omega)] at h2
              rcases hb with ⟨rfl, rfl⟩ | ⟨rfl, rfl⟩ | ⟨rfl, rfl⟩ | ⟨rfl, rfl⟩ <;> simp only at h2 <;> omega
            · rw [e2 r hr, s3'] at h2
              have : r = p := by omega
              subst this
              rcases hb with ⟨rfl, rfl⟩ | ⟨rfl, rfl⟩ | ⟨rfl, rfl⟩ | ⟨rfl, rfl⟩ <;> simp only at h2 <;> omega
        · rintro ⟨h0, h1, _⟩
          by_cases hv : v ≤ p * (1 + l) + 3 * Q + p
          · exact ⟨0, by omega, by show (0 : Int) ≤ p; omega, by rw [e1 0 (by omega), s2 _ _ (by omega) (by omega)]; simp only [Int.sub_zero, Int.zero_mul]; omega⟩
          · refine ⟨p, by omega, by show p ≤ p; omega, ?_⟩
            rw [e2 p (by omega), s3']
            rcases hb with ⟨rfl, rfl⟩ | ⟨rfl, rfl⟩ | ⟨rfl, rfl⟩ | ⟨rfl, rfl⟩ <;> exact ⟨by simp only; omega, by simp only; omega⟩
end FL
namespace FL
open PySem L2
/-- states of games -/
def GoodS (p : Int) (s : Gs) : Prop := match s.part with
  | .first => 1 ≤ s.left ∧ Bon s.more s.later ∧ s.stand = p
  | .second => 1 ≤ s.left ∧ (s.more = 0 ∨ s.more = 1) ∧ s.later = 0 ∧ 1 ≤ s.stand ∧ s.stand ≤ p
  | .two => s.left = 1 ∧ (s.more = 0 ∨ s.more = 1) ∧ s.later = 0 ∧ s.stand = p
  | .one => s.left = 1 ∧ s.more = 0 ∧ s.later = 0 ∧ 1 ≤ s.stand ∧ s.stand ≤ p
  | .over => s = Gs.OVER
/-- what can be added at most -/
def topS (p : Int) (s : Gs) : Int := match s.part with
  | .first => 3 * (p * s.left) + p * (s.more + s.later)
  | .second => s.stand * (1 + s.more) + 3 * (p * (s.left - 1)) + p
  | .two => p * (1 + s.more) + p
  | .one => s.stand
  | .over => 0
def gapS (p : Int) (s : Gs) (v : Int) : Prop := match s.part with
  | .first => s.left = 1 ∧ gapsFirst p s.more s.later v
  | .second => s.left = 1 ∧ s.more = 1 ∧ v < 2 * s.stand ∧ v % 2 = 1
  | _ => False
theorem reach_iff {p : Int} (hp : 2 ≤ p) {s : Gs} (hs : GoodS p s) (v : Int) : Reach p s v ↔ 0 ≤ v ∧ v ≤ topS p s ∧ ¬ gapS p s v := by
  obtain ⟨n, m, l, part, t⟩ := s
  cases part with
  | first =>
    obtain ⟨h1, h2, h3⟩ := hs
    obtain ⟨k, rfl⟩ : ∃ k : Nat, n = (k : Int) := ⟨n.toNat, by simp only at h1; omega⟩
    simp only at h1 h2 h3
    subst h3
    rw [reach_first hp k (by omega) m l v h2]
    have : (k = 1 ∧ gapsFirst t m l v) ↔ ((k : Int) = 1 ∧ gapsFirst t m l v) := by constructor <;> rintro ⟨a, b⟩ <;> exact ⟨by omega, b⟩
    rw [this]
    exact Iff.rfl
  | second =>
    obtain ⟨h1, h2, h3, h4, h5⟩ := hs
    simp only at h1 h2 h3 h4 h5
    subst h3
    by_cases hn : n = 1
    · subst hn
      rw [reach_second1 (by omega) h4 h5 h2]
      have e : topS p ⟨1, m, 0, .second, t⟩ = t * (1 + m) + p := by simp [topS]
      rw [e]
      have : gapS p ⟨1, m, 0, .second, t⟩ v ↔ (m = 1 ∧ v < 2 * t ∧ v % 2 = 1) := by simp [gapS]
      rw [this]
    · obtain ⟨k, rfl⟩ : ∃ k : Nat, n = (k : Int) + 1 := ⟨(n - 1).toNat, by omega⟩
      rw [reach_second_of hp (by omega) (reach_first hp k (by omega)) h4 h5 h2]
      have e : topS p ⟨(k : Int) + 1, m, 0, .second, t⟩ = t * (1 + m) + 3 * (p * (k : Int)) + p := by simp [topS]
      rw [e]
      have : ¬ gapS p ⟨(k : Int) + 1, m, 0, .second, t⟩ v := fun h => hn h.1
      exact ⟨fun h => ⟨h.1, h.2, this⟩, fun h => ⟨h.1, h.2.1⟩⟩
  | two =>
    obtain ⟨h1, h2, h3, h4⟩ := hs
    simp only at h1 h2 h3 h4
    subst h1 h3 h4
    rw [reach_two (by omega) h2]
    have : ¬ gapS t ⟨1, m, 0, .two, t⟩ v := fun h => h
    exact ⟨fun h => ⟨h.1, h.2, this⟩, fun h => ⟨h.1, h.2.1⟩⟩
  | one =>
    obtain ⟨h1, h2, h3, h4, h5⟩ := hs
    simp only at h1 h2 h3 h4 h5
    subst h1 h2 h3
    rw [reach_one]
    have : ¬ gapS p ⟨1, 0, 0, .one, t⟩ v := fun h => h
    exact ⟨fun h => ⟨h.1, h.2, this⟩, fun h => ⟨h.1, h.2.1⟩⟩
  | over =>
    have hs' : (⟨n, m, l, .over, t⟩ : Gs) = Gs.OVER := hs
    rw [hs', reach_over]
    have e1 : topS p Gs.OVER = 0 := rfl
    have e2 : ¬ gapS p Gs.OVER v := fun h => h
    rw [e1]
    exact ⟨fun h => ⟨by omega, by omega, e2⟩, fun h => by omega⟩
theorem good_begin {f p : Int} (hf : 1 ≤ f) : GoodS p (beginS f p) := ⟨hf, .inl ⟨rfl, rfl⟩, rfl⟩
theorem good_next {p r : Int} (hp : 2 ≤ p) {s : Gs} (hs : GoodS p s) (ho : s ≠ Gs.OVER) (h0 : 0 ≤ r) (h1 : r ≤ s.stand) : GoodS p (nextS p s r) := by
  obtain ⟨n, m, l, part, t⟩ := s
  cases part with
  | first =>
    obtain ⟨g1, g2, g3⟩ := hs
    simp only at g1 g2 g3 h1
    subst g3
    have hl : l = 0 ∨ l = 1 := by unfold Bon at g2; omega
    by_cases hr : r < t
    · have e : nextS t ⟨n, m, l, .first, t⟩ r = ⟨n, l, 0, .second, t - r⟩ := by simp [nextS, hr]
      rw [e]
      exact ⟨g1, hl, rfl, by show 1 ≤ t - r; omega, by show t - r ≤ t; omega⟩
    · by_cases hn : n = 1
      · have e : nextS t ⟨n, m, l, .first, t⟩ r = ⟨1, l, 0, .two, t⟩ := by simp [nextS, hr, hn]
        rw [e]
        exact ⟨rfl, hl, rfl, rfl⟩
      · have e : nextS t ⟨n, m, l, .first, t⟩ r = ⟨n - 1, l + 1, 1, .first, t⟩ := by simp [nextS, hr, hn]
        rw [e]
        exact ⟨by show 1 ≤ n - 1; omega, by show Bon (l + 1) 1; unfold Bon; omega, rfl⟩
  | second =>
    obtain ⟨g1, g2, g3, g4, g5⟩ := hs
    simp only at g1 g2 g3 g4 g5 h1
    subst g3
    by_cases hr : r < t
    · by_cases hn : 1 < n
      · have e : nextS p ⟨n, m, 0, .second, t⟩ r = ⟨n - 1, 0, 0, .first, p⟩ := by simp [nextS, hr, hn]
        rw [e]
        exact ⟨by show 1 ≤ n - 1; omega, .inl ⟨rfl, rfl⟩, rfl⟩
      · have e : nextS p ⟨n, m, 0, .second, t⟩ r = Gs.OVER := by simp [nextS, hr, hn]
        rw [e]; exact rfl
    · by_cases hn : n = 1
      · have e : nextS p ⟨n, m, 0, .second, t⟩ r = ⟨1, 0, 0, .one, p⟩ := by simp [nextS, hr, hn]
        rw [e]
        exact ⟨rfl, rfl, rfl, by show 1 ≤ p; omega, Int.le_refl _⟩
      · have e : nextS p ⟨n, m, 0, .second, t⟩ r = ⟨n - 1, 1, 0, .first, p⟩ := by simp [nextS, hr, hn]
        rw [e]
        exact ⟨by show 1 ≤ n - 1; omega, .inr (.inl ⟨rfl, rfl⟩), rfl⟩
  | two =>
    obtain ⟨g1, g2, g3, g4⟩ := hs
    simp only at g1 g2 g3 g4 h1
    subst g1 g3 g4
    have e : nextS t ⟨1, m, 0, .two, t⟩ r = ⟨1, 0, 0, .one, if r < t then t - r else t⟩ := by simp [nextS]
    rw [e]
    refine ⟨rfl, rfl, rfl, ?_, ?_⟩
    · show 1 ≤ (if r < t then t - r else t); split <;> omega
    · show (if r < t then t - r else t) ≤ t; split <;> omega
  | one =>
    have e : nextS p ⟨n, m, l, .one, t⟩ r = Gs.OVER := by simp [nextS]
    rw [e]; exact rfl
  | over => exact absurd hs ho
end FL
namespace FL
open PySem L2
/-! ### while loops -/
def whileO (c : Ev) (b : Stm) (n : Nat) : Option (Out × List Sl) → Option (Out × List Sl)
  | some (.nx, ρ) => whileL c b n ρ
  | some (.ct, ρ) => whileL c b n ρ
  | some (.bk, ρ) => some (.nx, ρ)
  | some (.rt r, ρ) => some (.rt r, ρ)
  | none => none
@[simp] theorem whileO_nx (c : Ev) (b : Stm) (n : Nat) (ρ : List Sl) : whileO c b n (some (.nx, ρ)) = whileL c b n ρ := rfl
@[simp] theorem whileO_ct (c : Ev) (b : Stm) (n : Nat) (ρ : List Sl) : whileO c b n (some (.ct, ρ)) = whileL c b n ρ := rfl
@[simp] theorem whileO_bk (c : Ev) (b : Stm) (n : Nat) (ρ : List Sl) : whileO c b n (some (.bk, ρ)) = some (.nx, ρ) := rfl
@[simp] theorem whileO_rt (c : Ev) (b : Stm) (n : Nat) (r : R) (ρ : List Sl) : whileO c b n (some (.rt r, ρ)) = some (.rt r, ρ) := rfl
theorem whileL_succ (c : Ev) (b : Stm) (n : Nat) (ρ : List Sl) : whileL c b (n + 1) ρ = condO (fun ρ => whileO c b n (b ρ)) (fun ρ => some (.nx, ρ)) (c ρ) := by
  rw [whileL, ← cond_eq]
  congr 1
  funext p
  rcases p with ⟨r, ρ'⟩
  rcases r with d | d | i
  · cases d with
    | bl k =>
      cases k with
      | true =>
        show (b ρ').bind _ = whileO c b n (b ρ')
        rcases b ρ' with _ | ⟨o, ρ2⟩
        · rfl
        · cases o <;> rfl
      | false => rfl
    | _ => rfl
  · rfl
  · rfl
/-! ### all pins each time -/
def muS (s : Gs) : Nat := match s.part with
  | .first => s.left.toNat + 2
  | .second => s.left.toNat + 2
  | .two => 2
  | .one => 1
  | .over => 0
theorem good_stand {p : Int} (hp : 2 ≤ p) {s : Gs} (hs : GoodS p s) : 0 ≤ s.stand ∧ s.stand ≤ p ∧ 0 ≤ s.more ∧ s.more ≤ 2 := by
  obtain ⟨n, m, l, part, t⟩ := s
  cases part with
  | first =>
    obtain ⟨h1, h2, h3⟩ := hs
    simp only at *
    unfold Bon at h2
    omega
  | second => obtain ⟨h1, h2, h3, h4, h5⟩ := hs; simp only at *; omega
  | two => obtain ⟨h1, h2, h3, h4⟩ := hs; simp only at *; omega
  | one => obtain ⟨h1, h2, h3, h4, h5⟩ := hs; simp only at *; omega
  | over =>
    have hs' : (⟨n, m, l, .over, t⟩ : Gs) = Gs.OVER := hs
    rw [hs']
    simp [Gs.OVER]; omega
theorem top_step {p : Int} (hp : 2 ≤ p) {s : Gs} (hs : GoodS p s) (ho : s ≠ Gs.OVER) : topS p s = s.stand * (1 + s.more) + topS p (nextS p s s.stand) ∧ muS (nextS p s s.stand) < muS s := by
  obtain ⟨n, m, l, part, t⟩ := s
  cases part with
  | first =>
    obtain ⟨g1, g2, g3⟩ := hs
    simp only at g1 g2 g3
    subst g3
    by_cases hn : n = 1
    · have e : nextS t ⟨n, m, l, .first, t⟩ t = ⟨1, l, 0, .two, t⟩ := by simp [nextS, hn]
      rw [e]
      subst hn
      refine ⟨?_, by simp [muS]⟩
      simp only [topS, Int.mul_one, Int.mul_add]; omega
    · have e : nextS t ⟨n, m, l, .first, t⟩ t = ⟨n - 1, l + 1, 1, .first, t⟩ := by simp [nextS, hn]
      rw [e]
      refine ⟨?_, by simp only [muS]; omega⟩
      simp only [topS, Int.mul_one, Int.mul_add, Int.mul_sub]; omega
  | second =>
    obtain ⟨g1, g2, g3, g4, g5⟩ := hs
    simp only at g1 g2 g3 g4 g5
    subst g3
    by_cases hn : n = 1
    · have e : nextS p ⟨n, m, 0, .second, t⟩ t = ⟨1, 0, 0, .one, p⟩ := by simp [nextS, hn]
      rw [e]
      subst hn
      exact ⟨by simp [topS], by simp [muS]⟩
    · have e : nextS p ⟨n, m, 0, .second, t⟩ t = ⟨n - 1, 1, 0, .first, p⟩ := by simp [nextS, hn]
      rw [e]
      refine ⟨?_, by simp only [muS]; omega⟩
      simp only [topS, Int.mul_one, Int.mul_add, Int.mul_sub, Int.mul_zero]; omega
  | two =>
    obtain ⟨g1, g2, g3, g4⟩ := hs
    simp only at g1 g2 g3 g4
    subst g1 g3 g4
    have e : nextS t ⟨1, m, 0, .two, t⟩ t = ⟨1, 0, 0, .one, t⟩ := by simp [nextS]
    rw [e]
    exact ⟨rfl, by simp [muS]⟩
  | one =>
    obtain ⟨g1, g2, g3, g4, g5⟩ := hs
    simp only at g1 g2 g3 g4 g5
    subst g1 g2 g3
    have e : nextS p ⟨1, 0, 0, .one, t⟩ t = Gs.OVER := by simp [nextS]
    rw [e]
    exact ⟨by simp [topS, Gs.OVER], by simp [muS, Gs.OVER]⟩
  | over => exact absurd hs ho
/-- the gaps as the program lists them -/
def gapsL (s : Gs) : List Int :=
  if s.left = 1 ∧ (s.part = .first ∨ s.part = .second) then
    (if s.part = .first ∧ s.more = 2 ∧ s.later = 1 then [1]
     else if (s.part = .first ∧ s.more = 1 ∧ s.later = 1) ∨ (s.part = .second ∧ s.more = 1) then (List.range s.stand.toNat).map fun (i : Nat) => 1 + (i : Int) * 2 else [])
  else []
theorem gapsL_iff {p v : Int} (hp : 2 ≤ p) {s : Gs} (hs : GoodS p s) (hv : 0 ≤ v) : v ∈ gapsL s ↔ gapS p s v := by
  obtain ⟨n, m, l, part, t⟩ := s
  have hodd : ∀ k : Int, 0 ≤ k → (v ∈ (List.range k.toNat).map (fun (i : Nat) => 1 + (i : Int) * 2) ↔ v < 2 * k ∧ v % 2 = 1) := by
    intro k hk
    rw [List.mem_map]
    constructor
    · rintro ⟨i, hi, rfl⟩
      have := List.mem_range.mp hi
      omega
    · rintro ⟨h1, h2⟩
      exact ⟨(v / 2).toNat, List.mem_range.mpr (by omega), by omega⟩
  cases part with
  | first =>
    obtain ⟨g1, g2, g3⟩ := hs
    simp only at g1 g2 g3
    subst g3
    have := hodd t (by omega)
    simp only [gapsL, gapS, gapsFirst]
    by_cases hn : n = 1
    · rcases g2 with ⟨rfl, rfl⟩ | ⟨rfl, rfl⟩ | ⟨rfl, rfl⟩ | ⟨rfl, rfl⟩ <;> simp [hn] at this ⊢ <;> omega
    · simp [hn]
  | second =>
    obtain ⟨g1, g2, g3, g4, g5⟩ := hs
    simp only at g1 g2 g3 g4 g5
    have := hodd t (by omega)
    simp only [gapsL, gapS]
    by_cases hn : n = 1
    · rcases g2 with rfl | rfl <;> simp [hn] at this ⊢ <;> omega
    · simp [hn]
  | two => simp [gapsL, gapS]
  | one => simp [gapsL, gapS]
  | over => simp [gapsL, gapS]
theorem gapsL_len {p : Int} {s : Gs} (hp : 2 ≤ p) (hp2 : p ≤ 10) (hs : GoodS p s) : (gapsL s).length ≤ 10 := by
  have := good_stand hp hs
  unfold gapsL
  split
  · split
    · simp
    · split
      · simp; omega
      · simp
  · simp
end FL
namespace FL
open PySem L2
/-! ### slots whose content is of no matter -/
def Junk (tl : List Sl) : Nat → List Sl → Prop
  | 0, ρ => ρ = tl
  | n + 1, ρ => ∃ s r, ρ = s :: r ∧ FL.stored s = true ∧ Junk tl n r
theorem Junk.cons {tl : List Sl} {n : Nat} {s : Sl} {r : List Sl} (h : FL.stored s = true) (j : Junk tl n r) : Junk tl (n + 1) (s :: r) := ⟨s, r, rfl, h, j⟩
theorem Junk.nil {tl : List Sl} : Junk tl 0 tl := rfl
theorem junk_rep {tl : List Sl} : ∀ n : Nat, Junk tl n (List.replicate n .no ++ tl)
  | 0 => rfl
  | n + 1 => by rw [List.replicate_succ]; exact .cons rfl (junk_rep n)
/-- a slot that no object of a list owns: a comprehension's variable may take it -/
def Loose (s : Sl) : Prop := s = .no ∨ ∃ d, s = .val d
theorem Loose.stored {s : Sl} (h : Loose s) : FL.stored s = true := by rcases h with rfl | ⟨d, rfl⟩ <;> rfl
theorem Loose.notOwn {s : Sl} (h : Loose s) : notOwn (some s) = true := by rcases h with rfl | ⟨d, rfl⟩ <;> rfl
theorem Loose.no : Loose .no := .inl rfl
theorem Loose.val (d : D) : Loose (.val d) := .inr ⟨d, rfl⟩
/-- the turns of a law: for turn in .. (slot 2), each with the tape in slot 1; J: what is known of the other slots -/
theorem turns_gen {b : Stm} {s0 : Sl} {J : List Sl → Prop} (h : ∀ (t : Tape) (d : D) (ρ : List Sl), J ρ → ∃ (t' : Tape) (ρ' : List Sl), J ρ' ∧ b (s0 :: .own false t.d :: .val d :: ρ) = some (.nx, s0 :: .own false t'.d :: .val d :: ρ')) :
    ∀ (ds : List D) (t : Tape) (s2 : Sl) (ρ : List Sl), FL.stored s2 = true → J ρ → ∃ (t' : Tape) (s2' : Sl) (ρ' : List Sl), FL.stored s2' = true ∧ J ρ' ∧ forL (.nm 2) b ds (s0 :: .own false t.d :: s2 :: ρ) = some (.nx, s0 :: .own false t'.d :: s2' :: ρ')
  | [], t, s2, ρ, h2, hj => ⟨t, s2, ρ, h2, hj, rfl⟩
  | d :: ds, t, s2, ρ, h2, hj => by
    obtain ⟨t1, ρ1, hj1, e⟩ := h t d ρ hj
    obtain ⟨t2, u2, ρ2, hu, hj2, e2⟩ := turns_gen h ds t1 (.val d) ρ1 rfl hj1
    refine ⟨t2, u2, ρ2, hu, hj2, ?_⟩
    rw [forL_cons]
    have e0 : asg (.nm 2) d (s0 :: .own false t.d :: s2 :: ρ) = some (s0 :: .own false t.d :: .val d :: ρ) := by simp [h2]
    rw [e0]
    show forO _ _ _ (b _) = _
    rw [e]
    exact e2
/-! ### further words -/
def sortSetO (ρ : List Sl) : D → Option (R × List Sl)
  | .lst ds => (intsOf ds).bind fun ns => if ns.length ≤ 4000 ∧ (setI ns).length < 64 then some (.own (.lst ((setI ns).map .int)), ρ) else none
  | _ => none
@[simp] theorem ev_sortSet (f : Ev) (ρ : List Sl) : fSortSet f ρ = (f ρ).bind fun p => (see p.2 p.1).bind (sortSetO p.2) := by
  unfold fSortSet
  refine congrArg _ (funext fun p => congrArg _ (funext fun d => ?_))
  cases d <;> rfl
@[simp] theorem sortSetO_lst (ρ : List Sl) (ds : List D) : sortSetO ρ (.lst ds) = (intsOf ds).bind fun ns => if ns.length ≤ 4000 ∧ (setI ns).length < 64 then some (.own (.lst ((setI ns).map .int)), ρ) else none := rfl
@[simp] theorem ev_join (f g : Ev) (ρ : List Sl) : fJoin f g ρ = fOp2 oJoin f g ρ := rfl
@[simp] theorem join_strs (z : Str) (ys : List Str) : oJoin (.str z) (.lst (ys.map D.str)) = if (ys.map (·.length)).sum + ys.length * z.length ≤ 1000000 then some (.val (.str (Txt.join z ys))) else none := by
  unfold oJoin
  simp only [strsOf_map, Option.bind_some]
def lookO (tbl : List (Str × Str)) : R × List Sl → Option (R × List Sl)
  | (.val (.str z), ρ) => (tabLook tbl z).map fun v => (.val (.str v), ρ)
  | _ => none
@[simp] theorem lookO_str (tbl : List (Str × Str)) (z : Str) (ρ : List Sl) : lookO tbl (.val (.str z), ρ) = (tabLook tbl z).map fun v => (.val (.str v), ρ) := rfl
@[simp] theorem ev_look (tbl : List (Str × Str)) (f : Ev) (ρ : List Sl) : fLook tbl f ρ = (f ρ).bind (lookO tbl) := by
  unfold fLook
  refine congrArg _ (funext fun p => ?_)
  rcases p with ⟨r, ρ⟩
  rcases r with d | d | i
  · cases d <;> rfl
  · rfl
  · rfl
@[simp] theorem int_bl (b : Bool) : oInt [.bl b] = some (.val (.int (if b then 1 else 0))) := rfl
@[simp] theorem int_int (i : Int) : oInt [.int i] = some (.val (.int i)) := rfl
/-! ### how many rolls are left -/
def restS (s : Gs) : Nat := match s.part with
  | .first => 2 * s.left.toNat + 1
  | .second => 2 * s.left.toNat
  | .two => 2
  | .one => 1
  | .over => 0
theorem rest_step {p r : Int} (hp : 2 ≤ p) {s : Gs} (hs : GoodS p s) (ho : s ≠ Gs.OVER) : restS (nextS p s r) < restS s := by
  obtain ⟨n, m, l, part, t⟩ := s
  have h0 : restS Gs.OVER = 0 := rfl
  cases part with
  | first =>
    obtain ⟨g1, g2, g3⟩ := hs
    simp only at g1 g2 g3
    subst g3
    by_cases hr : r < t
    · have e : nextS t ⟨n, m, l, .first, t⟩ r = ⟨n, l, 0, .second, t - r⟩ := by simp [nextS, hr]
      rw [e]; simp only [restS]; omega
    · by_cases hn : n = 1
      · have e : nextS t ⟨n, m, l, .first, t⟩ r = ⟨1, l, 0, .two, t⟩ := by simp [nextS, hr, hn]
        rw [e]; simp only [restS]; omega
      · have e : nextS t ⟨n, m, l, .first, t⟩ r = ⟨n - 1, l + 1, 1, .first, t⟩ := by simp [nextS, hr, hn]
        rw [e]; simp only [restS]; omega
  | second =>
    obtain ⟨g1, g2, g3, g4, g5⟩ := hs
    simp only at g1 g2 g3 g4 g5
    subst g3
    by_cases hr : r < t
    · by_cases hn : 1 < n
      · have e : nextS p ⟨n, m, 0, .second, t⟩ r = ⟨n - 1, 0, 0, .first, p⟩ := by simp [nextS, hr, hn]
        rw [e]; simp only [restS]; omega
      · have e : nextS p ⟨n, m, 0, .second, t⟩ r = Gs.OVER := by simp [nextS, hr, hn]
        rw [e, h0]; simp only [restS]; omega
    · by_cases hn : n = 1
      · have e : nextS p ⟨n, m, 0, .second, t⟩ r = ⟨1, 0, 0, .one, p⟩ := by simp [nextS, hr, hn]
        rw [e]; simp only [restS]; omega
      · have e : nextS p ⟨n, m, 0, .second, t⟩ r = ⟨n - 1, 1, 0, .first, p⟩ := by simp [nextS, hr, hn]
        rw [e]; simp only [restS]; omega
  | two =>
    have e : nextS p ⟨n, m, l, .two, t⟩ r = ⟨n, l, 0, .one, if r < t then p - r else p⟩ := by simp [nextS]
    rw [e]; simp only [restS]; omega
  | one =>
    have e : nextS p ⟨n, m, l, .one, t⟩ r = Gs.OVER := by simp [nextS]
    rw [e, h0]; simp only [restS]; omega
  | over => exact absurd hs ho
theorem rest_pos {p : Int} {s : Gs} (hs : GoodS p s) (ho : s ≠ Gs.OVER) : 1 ≤ restS s := by
  obtain ⟨n, m, l, part, t⟩ := s
  cases part with
  | first => simp only [restS]; omega
  | second => obtain ⟨g1, _⟩ := hs; simp only at g1; simp only [restS]; omega
  | two => simp only [restS]; omega
  | one => simp only [restS]; omega
  | over => exact absurd hs ho
theorem rest_le {s : Gs} (h : s.left ≤ 10) (h0 : 0 ≤ s.left) : restS s ≤ 21 := by
  obtain ⟨n, m, l, part, t⟩ := s
  simp only at h h0
  cases part <;> simp only [restS] <;> omega
end FL
namespace FL
open PySem L2
/-! # All ways to go on, in ascending order -/
def endsL (p : Int) : Nat → Gs → List (List Int)
  | 0, s => if s = Gs.OVER then [[]] else []
  | n + 1, s => if s = Gs.OVER then [[]] else (List.range (s.stand + 1).toNat).flatMap fun (r : Nat) => (endsL p n (nextS p s (r : Int))).map ((r : Int) :: ·)
def fanL (p : Int) (n : Nat) (s : Gs) (ks : List Nat) : List (List Int) := ks.flatMap fun (r : Nat) => (endsL p n (nextS p s (r : Int))).map ((r : Int) :: ·)
theorem endsL_over (p : Int) (n : Nat) : endsL p n Gs.OVER = [[]] := by cases n <;> rfl
theorem endsL_succ {p : Int} {n : Nat} {s : Gs} (h : s ≠ Gs.OVER) : endsL p (n + 1) s = fanL p n s (List.range (s.stand + 1).toNat) := by
  rw [endsL, if_neg h]; rfl
theorem endsL_mem {p : Int} (hp : 2 ≤ p) : ∀ (n : Nat) {s : Gs} {m : List Int}, GoodS p s → restS s ≤ n → (m ∈ endsL p n s ↔ Ends p s m)
  | n, s, m, hs, hn => by
    by_cases ho : s = Gs.OVER
    · subst ho
      rw [endsL_over, List.mem_singleton]
      cases m with
      | nil => exact ⟨fun _ => rfl, fun _ => rfl⟩
      | cons r rs => exact ⟨fun h => (by cases h), fun h => absurd rfl h.1⟩
    · cases n with
      | zero => have := rest_pos hs ho; omega
      | succ n =>
        rw [endsL_succ ho]
        unfold fanL
        rw [List.mem_flatMap]
        constructor
        · rintro ⟨r, hr, hm⟩
          obtain ⟨m', hm', rfl⟩ := List.mem_map.mp hm
          have hr' := List.mem_range.mp hr
          have h1 : (r : Int) ≤ s.stand := by omega
          have hlt := rest_step (r := (r : Int)) hp hs ho
          exact ⟨ho, by omega, h1, (endsL_mem hp n (good_next hp hs ho (by omega) h1) (by omega)).mp hm'⟩
        · intro h
          cases m with
          | nil => exact absurd h ho
          | cons r m' =>
            obtain ⟨_, h0, h1, h2⟩ := h
            have hlt := rest_step (r := r) hp hs ho
            refine ⟨r.toNat, List.mem_range.mpr (by omega), ?_⟩
            rw [Int.toNat_of_nonneg h0]
            exact List.mem_map.mpr ⟨m', (endsL_mem hp n (good_next hp hs ho h0 h1) (by omega)).mpr h2, rfl⟩
theorem flatMap_same {α β : Type} {f g : α → List β} : ∀ {l : List α}, (∀ a ∈ l, f a = g a) → l.flatMap f = l.flatMap g
  | [], _ => rfl
  | a :: l, h => by rw [List.flatMap_cons, List.flatMap_cons, h a List.mem_cons_self, flatMap_same fun b hb => h b (List.mem_cons_of_mem _ hb)]
/-- more fuel changes nothing -/
theorem endsL_fuel {p : Int} (hp : 2 ≤ p) : ∀ (n k : Nat) {s : Gs}, GoodS p s → restS s ≤ n → restS s ≤ k → endsL p n s = endsL p k s
  | n, k, s, hs, hn, hk => by
    by_cases ho : s = Gs.OVER
    · subst ho; rw [endsL_over, endsL_over]
    · have hpos := rest_pos hs ho
      cases n with
      | zero => omega
      | succ n =>
        cases k with
        | zero => omega
        | succ k =>
          rw [endsL_succ ho, endsL_succ ho]
          exact flatMap_same fun r hr => by
            have hr' := List.mem_range.mp hr
            have hlt := rest_step (r := (r : Int)) hp hs ho
            rw [endsL_fuel hp n k (good_next hp hs ho (by omega) (by omega)) (by omega) (by omega)]
/-- the ways to go on -/
def waysL (p : Int) (s : Gs) : List (List Int) := endsL p (restS s) s
theorem ways_over (p : Int) : waysL p Gs.OVER = [[]] := endsL_over p _
theorem ways_step {p : Int} (hp : 2 ≤ p) {s : Gs} (hs : GoodS p s) (ho : s ≠ Gs.OVER) : waysL p s = (List.range (s.stand + 1).toNat).flatMap fun (r : Nat) => (waysL p (nextS p s (r : Int))).map ((r : Int) :: ·) := by
  have hpos := rest_pos hs ho
  obtain ⟨n, hn⟩ : ∃ n, restS s = n + 1 := ⟨restS s - 1, by omega⟩
  unfold waysL
  rw [hn, endsL_succ ho]
  exact flatMap_same fun r hr => by
    have hr' := List.mem_range.mp hr
    have hlt := rest_step (r := (r : Int)) hp hs ho
    rw [endsL_fuel hp n _ (good_next hp hs ho (by omega) (by omega)) (by omega) (Nat.le_refl _)]
theorem ways_mem {p : Int} (hp : 2 ≤ p) {s : Gs} (hs : GoodS p s) {m : List Int} : m ∈ waysL p s ↔ Ends p s m := endsL_mem hp _ hs (Nat.le_refl _)
/-! ### they ascend -/
theorem lexI_cons (r : Int) (a b : List Int) : lexI (r :: a) (r :: b) = lexI a b := by
  rw [lexI]; simp
theorem pair_flat {α β : Type} {R : β → β → Prop} {f : α → List β} : ∀ {l : List α}, (∀ a ∈ l, (f a).Pairwise R) → l.Pairwise (fun a b => ∀ x ∈ f a, ∀ y ∈ f b, R x y) → (l.flatMap f).Pairwise R
  | [], _, _ => .nil
  | a :: l, h, h2 => by
    rw [List.pairwise_cons] at h2
    rw [List.flatMap_cons, List.pairwise_append]
    refine ⟨h a List.mem_cons_self, pair_flat (fun b hb => h b (List.mem_cons_of_mem _ hb)) h2.2, fun x hx y hy => ?_⟩
    obtain ⟨b, hb, hyb⟩ := List.mem_flatMap.mp hy
    exact h2.1 b hb x hx y hyb
theorem ends_asc {p : Int} : ∀ (n : Nat) (s : Gs), (endsL p n s).Pairwise fun a b => lexI a b = true
  | n, s => by
    by_cases ho : s = Gs.OVER
    · subst ho; rw [endsL_over]; simp
    · cases n with
      | zero => rw [endsL, if_neg ho]; exact .nil
      | succ n =>
        rw [endsL_succ ho]
        unfold fanL
        refine pair_flat (fun r _ => ?_) ?_
        · rw [List.pairwise_map]
          exact (ends_asc n _).imp fun h => by rw [lexI_cons]; exact h
        · refine List.pairwise_lt_range.imp fun {a b} hab x hx y hy => ?_
          obtain ⟨x', _, rfl⟩ := List.mem_map.mp hx
          obtain ⟨y', _, rfl⟩ := List.mem_map.mp hy
          have : (a : Int) < (b : Int) := by omega
          rw [lexI, decide_eq_true this]; rfl
theorem ways_asc (p : Int) (s : Gs) : (waysL p s).Pairwise fun a b => lexI a b = true := ends_asc _ _
theorem ways_nodup (p : Int) (s : Gs) : (waysL p s).Nodup := (ways_asc p s).imp fun h e => by subst e; rw [lexI_irrefl] at h; cases h
theorem ways_uniq {p : Int} (hp : 2 ≤ p) {s : Gs} (hs : GoodS p s) {A : List (List Int)} (hA : ∀ m, m ∈ A ↔ Ends p s m) (hn : A.Nodup) (ha : A.Pairwise fun a b => lexI b a = false) : A = waysL p s := by
  have hp' : A.Perm (waysL p s) := (List.perm_ext_iff_of_nodup hn (ways_nodup p s)).mpr fun m => by rw [hA, ways_mem hp hs]
  exact hp'.eq_of_pairwise (fun a b _ _ h1 h2 => lexI_total h2 h1) ha ((ways_asc p s).imp fun h => lexI_asym h)
/-! ### their number -/
def cntS (p : Int) (s : Gs) : Nat := (waysL p s).length
theorem cnt_over (p : Int) : cntS p Gs.OVER = 1 := by unfold cntS; rw [ways_over]; rfl
theorem cnt_step {p : Int} (hp : 2 ≤ p) {s : Gs} (hs : GoodS p s) (ho : s ≠ Gs.OVER) : cntS p s = ((List.range (s.stand + 1).toNat).map fun (r : Nat) => cntS p (nextS p s (r : Int))).sum := by
  unfold cntS
  rw [ways_step hp hs ho, List.length_flatMap]
  congr 1
  apply List.map_congr_left
  intro r _
  rw [List.length_map]
/-- what a number of ways depends on -/
def core (s : Gs) : Int × Part × Int := (s.left, s.part, s.stand)
theorem core_next {p r : Int} {s s' : Gs} (h : core s = core s') : core (nextS p s r) = core (nextS p s' r) := by
  obtain ⟨n, m, l, part, t⟩ := s
  obtain ⟨n', m', l', part', t'⟩ := s'
  unfold core at h
  simp only [Prod.mk.injEq] at h
  obtain ⟨rfl, rfl, rfl⟩ := h
  unfold nextS core
  simp only
  (repeat' split) <;> rfl
theorem core_over {p : Int} {s s' : Gs} (hs : GoodS p s) (hs' : GoodS p s') (h : core s = core s') : s = Gs.OVER ↔ s' = Gs.OVER := by
  have key : ∀ {q : Gs}, GoodS p q → (q = Gs.OVER ↔ q.part = .over) := fun {q} hq => by
    obtain ⟨n, m, l, part, t⟩ := q
    constructor
    · intro h; rw [h]; rfl
    · intro h
      simp only at h
      subst h
      exact hq
  have hp : s.part = s'.part := congrArg (fun x => x.2.1) h
  rw [key hs, key hs', hp]
theorem rest_core {s s' : Gs} (h : core s = core s') : restS s = restS s' := by
  obtain ⟨n, m, l, part, t⟩ := s
  obtain ⟨n', m', l', part', t'⟩ := s'
  unfold core at h
  simp only [Prod.mk.injEq] at h
  obtain ⟨rfl, rfl, rfl⟩ := h
  rfl
theorem cnt_core {p : Int} (hp : 2 ≤ p) : ∀ (k : Nat) {s s' : Gs}, restS s ≤ k → GoodS p s → GoodS p s' → core s = core s' → cntS p s = cntS p s' := by
  intro k
  induction k with
  | zero =>
    intro s s' hk hs hs' h
    have ho : s = Gs.OVER := by
      by_cases ho : s = Gs.OVER
      · exact ho
      · have := rest_pos hs ho; omega
    rw [ho, (core_over hs hs' h).mp ho]
  | succ k ih =>
    intro s s' hk hs hs' h
    by_cases ho : s = Gs.OVER
    · rw [ho, (core_over hs hs' h).mp ho]
    · have ho' : s' ≠ Gs.OVER := fun z => ho ((core_over hs hs' h).mpr z)
      rw [cnt_step hp hs ho, cnt_step hp hs' ho']
      have hst : s.stand = s'.stand := congrArg (fun x => x.2.2) h
      rw [hst]
      congr 1
      apply List.map_congr_left
      intro r hr
      have hr' := List.mem_range.mp hr
      have hlt := rest_step (r := (r : Int)) hp hs ho
      exact ih (by omega) (good_next hp hs ho (by omega) (by omega)) (good_next hp hs' ho' (by omega) (by omega)) (core_next h)
theorem cnt_pos {p : Int} (hp : 2 ≤ p) : ∀ (k : Nat) {s : Gs}, restS s ≤ k → GoodS p s → 0 < cntS p s := by
  intro k
  induction k with
  | zero =>
    intro s hk hs
    have ho : s = Gs.OVER := by
      by_cases ho : s = Gs.OVER
      · exact ho
      · have := rest_pos hs ho; omega
    rw [ho, cnt_over]; omega
  | succ k ih =>
    intro s hk hs
    by_cases ho : s = Gs.OVER
    · rw [ho, cnt_over]; omega
    · obtain ⟨g1, g2, g3, g4⟩ := good_stand hp hs
      have hlt := rest_step (r := 0) hp hs ho
      have h0 := ih (s := nextS p s 0) (by omega) (good_next hp hs ho (Int.le_refl _) g1)
      rw [cnt_step hp hs ho]
      have hsz : (s.stand + 1).toNat = s.stand.toNat + 1 := by omega
      rw [hsz, List.range_succ_eq_map, List.map_cons, List.sum_cons]
      have : cntS p (nextS p s ((0 : Nat) : Int)) = cntS p (nextS p s 0) := rfl
      omega
/-! ### a list looked at in pieces -/
theorem flat_at {α β : Type} (f : α → List β) (a : α) (l : List α) (k : Nat) : ((a :: l).flatMap f)[k]? = if k < (f a).length then (f a)[k]? else (l.flatMap f)[k - (f a).length]? := by
  rw [List.flatMap_cons, List.getElem?_append]
end FL
/-! # d.items(), d.values() of dicts whose keys are tuples: the dict is locked when the walk starts, and stays so -/
namespace FL
open PySem L2 PyProof.Rows
section
variable {X : Cx} {pins : List (Addr × Obj)} {σ : L2.St} {H : Hp} {s : Shared} {d : Addr} {o : Obj}
theorem frzTV {kvs : List (List Key × V)} (I : Inv X pins σ H s) (h : H d = some (.frz o (.dT kvs))) :
    (d == sysModules) = false ∧ s.heap.get? d = some o ∧ o.ExactDict ∧ ∃ (es : Array DictEntry) (ep : Nat), o.data = .dict es ep ∧ es.size = kvs.length ∧
      ∀ (i : Nat) (k : List Key) (v : V), kvs[i]? = some (k, v) → ∃ (en : DictEntry) (q : Addr), es[i]? = some en ∧ en.key = .ref q ∧ H q = some (.tup (k.map kV)) ∧ RelV v en.val := by
  obtain ⟨hd, z, hs, xs, pr, o', es, ep, ho, hx, hdt, he, _⟩ := I.hok d _ h
  rw [hd] at ho
  cases ho
  refine ⟨hs, hd, hx, es, ep, hdt, ?_, fun i k v e => ?_⟩
  · have l1 : es.size = xs.length := size_of_entries he
    have l2 : kvs.length = xs.length := Paired.length pr
    omega
  · obtain ⟨b, hb, e1, e2, e3⟩ := paired_get pr e
    have q := entry_at he i
    rw [hb] at q
    exact ⟨_, b.2.1, q, rfl, e2, e3⟩
end
/-- the pairs of a locked dict, each a new tuple of the key's own tuple and the value -/
def Itp (d : Addr) (o : Obj) (kvs : List (List Key × V)) : It :=
  ⟨fun i H => H d = some (.frz o (.dT kvs)) ∧ i < kvs.length, fun i H x H' => ∃ T k v q, kvs[i]? = some (k, v) ∧ x = .ref T ∧ H T = none ∧ H q = some (.tup (k.map kV)) ∧ H' = upd H T (.tup [.ref q, v]), fun i H => H d = some (.frz o (.dT kvs)) ∧ kvs.length ≤ i⟩
/-- the values -/
def Itw (d : Addr) (o : Obj) (kvs : List (List Key × V)) : It :=
  ⟨fun i H => H d = some (.frz o (.dT kvs)) ∧ i < kvs.length, fun i H x H' => H' = H ∧ ∃ k, kvs[i]? = some (k, x), fun i H => H d = some (.frz o (.dT kvs)) ∧ kvs.length ≤ i⟩
section
variable {P : Program} {w : World} {K : PySem.W.Frag} {d : Addr} {o : Obj} {es : Array DictEntry} {ep : Nat}
theorem turn_itemsT {kvs : List (List Key × V)} {elts : List Expr} {kk : Nat} {tpos : Pos} (it : Addr) (hod : o.data = .dict es ep) :
    Turn P w K (.Tuple elts kk tpos) (Itp d o kvs) [it] it (fun i h => ∃ ok ov, IsItemIter h it d i kvs.length ep ok ov) where
  mem := by simp
  obj := fun i h st b hb => by
    have e : b = it := by simpa using hb
    subst e
    obtain ⟨ok, ov, e⟩ := st
    exact ⟨_, e, fun v z => nomatch z⟩
  keep := fun i h h' st k => let ⟨ok, ov, e⟩ := st; ⟨ok, ov, k it (by simp) _ e⟩
  item := by
    intro X hP hw hK hc i pins s σ H E I hf st hg
    subst hP hw hK
    obtain ⟨hd, hi⟩ := hg
    obtain ⟨hs, hgd, hx, es', ep', hdt, hsz, ent⟩ := frzTV I hd
    obtain ⟨rfl, rfl⟩ := dict_ep hod hdt
    obtain ⟨⟨k, v⟩, hkv⟩ : ∃ p, kvs[i]? = some p := ⟨kvs[i], List.getElem?_eq_getElem hi⟩
    obtain ⟨en, q, hen, hkey, hq, hval⟩ := ent i k v hkv
    obtain ⟨ok, ov, he⟩ := st
    rw [← hsz] at he hi
    have hlt : it < s.heap.objs.size := Heap.lt_size he
    have hen2 : es'[i] = en := by
      rw [Array.getElem?_eq_getElem hi] at hen
      exact Option.some.inj hen
    refine wpAny_pyNext_items_item_raw he ⟨o, hgd, hx, hod⟩ hi fun h' ho hT hz hk => ?_
    rw [hen2] at ho hT
    refine ⟨_, rfl, wpAny_letOwnedTupleGo_items (s := { s with heap := h' }) ho fun h'' he' sb => ?_⟩
    have hT2 : h''.get? s.heap.objs.size = some { cls := .type "tuple", data := .seq #[en.key, en.val] } := (sb.2 _ (Nat.ne_of_gt hlt)).trans hT
    have new : ObjOk X.prog X.w (upd H s.heap.objs.size (.tup [.ref q, v])) h'' s.heap.objs.size (.tup [.ref q, v]) :=
      ⟨by show 2 ≤ sizeLine; decide, [en.key, en.val], .cons hkey (.cons hval .nil), ⟨_, hT2, rfl, _, rfl⟩⟩
    have I1 : Inv X pins σ (upd H s.heap.objs.size (.tup [.ref q, v])) { s with heap := h'' } :=
      I.turnedNew (t' := s.toks) (ch := [it]) (fun b ob hb e => (sb.2 b (by simpa using hb)).trans (hk b ob (by simpa using hb) e)) hf (Nat.le_refl _) new
    refine ⟨.ref s.heap.objs.size, _, I1, rfl, ⟨_, k, v, q, hkv, rfl, I.hok.fresh (Nat.le_refl _), hq, rfl⟩, ⟨en.key, en.val, ?_⟩, fun b hb => ?_⟩
    · rw [← hsz]; exact he'
    · have e : b = it := by simpa using hb
      rw [e, upd_ne (Nat.ne_of_lt hlt)]
      exact (hf it (by simp)).1
  done := by
    intro X hP hw hK hc i pins s σ H E I hf st hg
    subst hP hw hK
    obtain ⟨hd, hi⟩ := hg
    obtain ⟨f0, f1, f2, f3, f4, f5⟩ := hf it (by simp)
    obtain ⟨hs, hgd, hx, es', ep', hdt, hsz, ent⟩ := frzTV I hd
    obtain ⟨rfl, rfl⟩ := dict_ep hod hdt
    obtain ⟨ok, ov, he⟩ := st
    rw [← hsz] at he hi
    exact wpAny_pyNext_items_end_raw (I.ok.hd hc) he ⟨o, hgd, hx, hod⟩ hi fun h' eb => ⟨rfl, I.turned (t' := s.toks) (fun b ob hb e => eb b ob hb e) f0 f1 f3 f4 f5⟩
  self := fun A i s Q E st h => let ⟨_, _, e⟩ := st; PySem.W.kcp_self e h
theorem turn_valsT {tg : Expr} {kvs : List (List Key × V)} (it : Addr) (hod : o.data = .dict es ep) : Turn P w K tg (Itw d o kvs) [it] it (fun i h => h.IsValIter it d i kvs.length ep) where
  mem := by simp
  obj := fun i h st b hb => by
    have e : b = it := by simpa using hb
    subst e
    obtain ⟨oi, e, c, dd⟩ := st
    exact ⟨oi, e, fun v z => by rw [dd] at z; cases z⟩
  keep := fun i h h' st k => st.at fun oi e => k it (by simp) oi e
  item := by
    intro X hP hw hK hc i pins s σ H E I hf st hg
    subst hP hw hK
    obtain ⟨hd, hi⟩ := hg
    obtain ⟨f0, f1, f2, f3, f4, f5⟩ := hf it (by simp)
    obtain ⟨hs, hgd, hx, es', ep', hdt, hsz, ent⟩ := frzTV I hd
    obtain ⟨rfl, rfl⟩ := dict_ep hod hdt
    obtain ⟨⟨k, v⟩, hkv⟩ : ∃ p, kvs[i]? = some p := ⟨kvs[i], List.getElem?_eq_getElem hi⟩
    obtain ⟨en, q, hen, hkey, hq, hval⟩ := ent i k v hkv
    rw [← hsz] at st hi
    have hen2 : es'[i] = en := by
      rw [Array.getElem?_eq_getElem hi] at hen
      exact Option.some.inj hen
    refine wpAny_pyNext_values_item_raw st ⟨o, hgd, hx, hod⟩ hi fun h' st' sb => ?_
    have I1 : Inv X pins σ H { s with heap := h' } := I.turned (t' := s.toks) (fun b ob hb e => (sb.2 b hb).trans e) f0 f1 f3 f4 f5
    obtain ⟨oi, e, c, dd⟩ := id st'
    refine ⟨_, rfl, go_of (s := { s with heap := h' }) e c dd (by decide) ⟨v, H, I1, by rw [hen2]; exact hval, ⟨rfl, k, hkv⟩, ?_, fun b hb => (hf b hb).1⟩⟩
    show h'.IsValIter it d (i + 1) kvs.length _
    rw [← hsz]
    exact st'
  done := by
    intro X hP hw hK hc i pins s σ H E I hf st hg
    subst hP hw hK
    obtain ⟨hd, hi⟩ := hg
    obtain ⟨f0, f1, f2, f3, f4, f5⟩ := hf it (by simp)
    obtain ⟨hs, hgd, hx, es', ep', hdt, hsz, ent⟩ := frzTV I hd
    obtain ⟨rfl, rfl⟩ := dict_ep hod hdt
    rw [← hsz] at st hi
    exact wpAny_pyNext_values_end_raw (I.ok.hd hc) st ⟨o, hgd, hx, hod⟩ hi fun h' eb => ⟨rfl, I.turned (t' := s.toks) (fun b ob hb e => eb b ob hb e) f0 f1 f3 f4 f5⟩
  self := fun A i s Q E st h => wpAny_pyIter_valiter st h
end
section
variable {X : Cx} {tg e : Expr} {td : TE} {apos cpos : Pos}
def iItemsT (td : TE) : TI := fun σ H R => td σ H fun x H1 => ∃ d kvs, x = .ref d ∧ H1 d = some (.dT kvs) ∧ ∀ od, R (Itp d od kvs) (upd H1 d (.frz od (.dT kvs)))
def iValsT (td : TE) : TI := fun σ H R => td σ H fun x H1 => ∃ d kvs, x = .ref d ∧ H1 d = some (.dT kvs) ∧ ∀ od, R (Itw d od kvs) (upd H1 d (.frz od (.dT kvs)))
theorem pi_itemsT {elts : List Expr} {kk : Nat} {tpos : Pos} (he : PE X e td) (hbase : attributeBase e "items" X.env (eval e X.env) = eval e X.env := by rfl) (hline : (apos.endLine == cpos.line) = true := by rfl) :
    PI X (.Tuple elts kk tpos) (.Call (.Attribute e "items" apos) [] [] cpos) (iItemsT td) := by
  refine ⟨fun pins s σ H R I h => ?_⟩
  refine wpAny_Call_method (T := "dict") (id := "dict.items") hbase rfl hline F.plainAttrs_dict F.slot_dict_items F.type_dict_items (thn (he.run pins s σ H _ I h) fun u s1 ⟨x, H0, I0, rx, d, kvs, ex, hd0, q⟩ => ?_)
  subst ex
  obtain rfl : u = Value.ref d := rx
  obtain ⟨od, I1⟩ := I0.lock hd0 trivial
  have q := q od
  have hd : upd H0 d (.frz od (.dT kvs)) d = some (.frz od (.dT kvs)) := upd_same
  generalize upd H0 d (.frz od (.dT kvs)) = H1 at *
  obtain ⟨hs, hgd, hx, es, ep, hdt, hsz, ent⟩ := frzTV I1 hd
  have hm : s1.heap.DictRaw d es ep := ⟨od, hgd, hx, hdt⟩
  refine ⟨hm.typeIs, fun a e => by cases e; exact ⟨od, hgd, hx.2.1⟩, ?_⟩
  have I2 : Inv X pins σ H1 { s1 with heap := s1.heap.push { cls := .type "dict_items", data := .fields #[.ref d] } } := I1.kept (t' := s1.toks) fun b ob q => Heap.get?_push_of_some _ q
  have fin : wpAny (model X.prog X.w) X.A (pyIter (.ref s1.heap.objs.size)) (PIE X pins σ (.Tuple elts kk tpos) R) X.xe { s1 with heap := s1.heap.push { cls := .type "dict_items", data := .fields #[.ref d] } } := by
    refine wpAny_pyIter_items_raw (d := d) ⟨_, Heap.get?_push_size _ rfl, rfl, rfl⟩ (hm.at fun o e => Heap.get?_push_of_some _ e) (pi_one (tk := s1.toks) I2 _ (turn_itemsT _ hdt) ⟨.none, .none, ?_⟩ q)
    rw [← hsz]
    exact Heap.get?_push_size _ rfl
  show wpAny _ _ (callWith cpos (.builtin "dict.items") [.ref d] [] []) _ X.xe s1
  exact method_meetsIn F.slot_dict_items F.entry_dict_items rfl (PySem.evalArgs_none ⟨rfl, hm.typeIs, F.args_dict_items_1 _, _, meets_dict_items_raw d hs, ⟨es, ep, hm⟩, fin⟩)
theorem pi_valsT (he : PE X e td) (hbase : attributeBase e "values" X.env (eval e X.env) = eval e X.env := by rfl) (hline : (apos.endLine == cpos.line) = true := by rfl) : PI X tg (.Call (.Attribute e "values" apos) [] [] cpos) (iValsT td) := by
  refine ⟨fun pins s σ H R I h => ?_⟩
  refine wpAny_Call_method (T := "dict") (id := "dict.values") hbase rfl hline F.plainAttrs_dict F.slot_dict_values F.type_dict_values (thn (he.run pins s σ H _ I h) fun u s1 ⟨x, H0, I0, rx, d, kvs, ex, hd0, q⟩ => ?_)
  subst ex
  obtain rfl : u = Value.ref d := rx
  obtain ⟨od, I1⟩ := I0.lock hd0 trivial
  have q := q od
  have hd : upd H0 d (.frz od (.dT kvs)) d = some (.frz od (.dT kvs)) := upd_same
  generalize upd H0 d (.frz od (.dT kvs)) = H1 at *
  obtain ⟨hs, hgd, hx, es, ep, hdt, hsz, ent⟩ := frzTV I1 hd
  have hm : s1.heap.DictRaw d es ep := ⟨od, hgd, hx, hdt⟩
  refine ⟨hm.typeIs, fun a e => by cases e; exact ⟨od, hgd, hx.2.1⟩, ?_⟩
  have I2 : Inv X pins σ H1 { s1 with heap := s1.heap.push { cls := .type "dict_values", data := .fields #[.ref d] } } := I1.kept (t' := s1.toks) fun b ob q => Heap.get?_push_of_some _ q
  have fin : wpAny (model X.prog X.w) X.A (pyIter (.ref s1.heap.objs.size)) (PIE X pins σ tg R) X.xe { s1 with heap := s1.heap.push { cls := .type "dict_values", data := .fields #[.ref d] } } := by
    refine wpAny_pyIter_values_raw (d := d) ⟨_, Heap.get?_push_size _ rfl, rfl, rfl⟩ (hm.at fun o e => Heap.get?_push_of_some _ e) (pi_one (tk := s1.toks) I2 _ (turn_valsT _ hdt) ⟨_, Heap.get?_push_size _ rfl, rfl, ?_⟩ q)
    rw [← hsz] <;> rfl
  show wpAny _ _ (callWith cpos (.builtin "dict.values") [.ref d] [] []) _ X.xe s1
  exact method_meetsIn F.slot_dict_values F.entry_dict_values rfl (PySem.evalArgs_none ⟨rfl, hm.typeIs, F.args_dict_values_1 _, _, meets_dict_values_raw d hs, ⟨es, ep, hm⟩, fin⟩)
end
end FL
/-! ## the walks, over data -/
namespace FL
open PySem L2
def keyD : Key → D
  | .inl i => .int i
  | .inr s => .str s
def itemsD (kvs : List (List Key × D)) : List D := kvs.map fun kv => .tup [.tup (kv.1.map keyD), kv.2]
section
variable {K : PySem.W.Frag} {S S0 S1 H H1 H0 : Hp} {σ σ0 : L2.St} {ρ ρ0 ρ1 ρ2 : List Sl} {v : V} {r : R}
theorem reps_keys {S : Hp} : ∀ ks : List Key, Reps K S (ks.map kV) (ks.map keyD)
  | [] => .nil
  | .inl i :: ks => .cons (.int i) (reps_keys ks)
  | .inr s :: ks => .cons (.str s) (reps_keys ks)
theorem repK_get : ∀ {ks : List (List Key × V)} {kvs : List (List Key × D)}, RepK K S ks kvs → ∀ {i : Nat} {k : List Key} {v : V}, ks[i]? = some (k, v) → ∃ d, kvs[i]? = some (k, d) ∧ Rep K S v d
  | _, _, .nil, i, k, v, h => by simp at h
  | _, _, .cons (k := k0) (v := v0) (d := d0) hr ht, 0, k, v, h => by
    simp only [List.getElem?_cons_zero, Option.some.injEq, Prod.mk.injEq] at h
    obtain ⟨rfl, rfl⟩ := h
    exact ⟨d0, rfl, hr⟩
  | _, _, .cons hr ht, i + 1, k, v, h => by
    simp only [List.getElem?_cons_succ] at h ⊢
    exact repK_get ht h
theorem repK_len : ∀ {ks : List (List Key × V)} {kvs : List (List Key × D)}, RepK K S ks kvs → ks.length = kvs.length
  | _, _, .nil => rfl
  | _, _, .cons _ ht => by rw [List.length_cons, List.length_cons, repK_len ht]
theorem repK_mono (h : Same S S1) : ∀ {ks : List (List Key × V)} {kvs : List (List Key × D)}, RepK K S ks kvs → RepK K S1 ks kvs
  | _, _, .nil => .nil
  | _, _, .cons hr ht => .cons (hr.mono h) (repK_mono h ht)
/-- a dict of one's own is locked: from now on it is data -/
def lockR (ρ : List Sl) : R → Option (List (List Key × D) × List Sl)
  | .own (.dic kvs) => some (kvs, ρ)
  | .al i => match ρ[i]? with
    | some (.own _ (.dic kvs)) => some (kvs, ρ.set i (.val (.dic kvs)))
    | _ => none
  | _ => none
theorem Cur.lock {kvs : List (List Key × D)} (c : Cur K σ ρ S H [v] [r] ρ1 S1 H1) (e : lockR ρ1 r = some (kvs, ρ2)) :
    ∃ d ks, v = .ref d ∧ H1 d = some (.dT ks) ∧ S1 d = none ∧ RepK K S1 ks kvs ∧ ∀ od, Env K (upd S1 d (.frz od (.dT ks))) σ (upd H1 d (.frz od (.dT ks))) ρ2 ∧ Go σ ρ S H σ ρ2 (upd S1 d (.frz od (.dT ks))) (upd H1 d (.frz od (.dT ks))) := by
  cases r with
  | val d => cases e
  | own d0 =>
    have hr := c.rep1
    obtain ⟨a, rfl, o, n⟩ := hr
    have hw := c.nw a d0 (by simp)
    cases d0 with
    | dic kvs' =>
      cases e
      obtain ⟨hs, ks, hk, hrep⟩ := o
      refine ⟨a, ks, rfl, hk, hs, hrep, fun od => ⟨?_, ?_⟩⟩
      · exact (c.env.mut hs n).grow hs upd_same n
      · exact (c.go.mut hw).grow hs hw
    | _ => cases e
  | al i =>
    have h' : σ[i]? = some (some v) := c.rep1
    unfold lockR at e
    cases q : ρ1[i]? with
    | none => simp [q] at e
    | some sl =>
      cases sl with
      | no => simp [q] at e
      | val d' => simp [q] at e
      | own p d0 =>
        cases d0 with
        | dic kvs' =>
          simp [q] at e
          obtain ⟨rfl, rfl⟩ := e
          obtain ⟨a, e1, o⟩ := c.env.own i p _ q
          rw [h'] at e1; cases e1
          obtain ⟨hs, ks, hk, hrep⟩ := o
          have hown : Owns σ ρ1 a := ⟨i, p, _, q, h'⟩
          have hw : Owns σ ρ a ∨ H a = none := c.go.own a hown
          have hi : i < ρ1.length := (List.getElem?_eq_some_iff.mp q).1
          have hi2 : i < σ.length := by rw [← c.env.len]; exact hi
          refine ⟨a, ks, rfl, hk, hs, hrep, fun od => ?_⟩
          have E2 := c.env.forget i
          have G2 := Go.forget c.env c.go i
          have hn2 : ¬ Owns σ (ρ1.set i .no) a := by
            rintro ⟨j, p', e', h1, h2⟩
            by_cases hji : j = i
            · subst hji; rw [List.getElem?_set_self hi] at h1; cases h1
            · rw [List.getElem?_set_ne (Ne.symm hji)] at h1
              exact hji (c.env.inj j i _ _ _ _ a h1 q h2 h')
          have E3 := (E2.mut (o := .frz od (.dT ks)) hs hn2).grow (u := .frz od (.dT ks)) hs upd_same hn2
          have G3 := (G2.mut (o := .frz od (.dT ks)) hw).grow (u := .frz od (.dT ks)) hs hw
          have hrep2 : Rep K (upd S1 a (.frz od (.dT ks))) (.ref a) (.dic kvs') := .dic (.inr ⟨od, upd_same⟩) (repK_mono (same_new hs) hrep)
          have hσ : σ.set i (some (.ref a)) = σ := by
            apply List.ext_getElem?
            intro j
            by_cases hji : i = j
            · subst hji; rw [List.getElem?_set_self hi2, h']
            · rw [List.getElem?_set_ne hji]
          have hlen : i < (ρ1.set i Sl.no).length := by rw [List.length_set]; exact hi
          have hno : (ρ1.set i Sl.no)[i]? = some .no := List.getElem?_set_self hi
          have E4 := E3.store (s := .val (.dic kvs')) (i := i) ⟨_, hno⟩ hrep2
          have G4 := G3.store (s := .val (.dic kvs')) (i := i) (v := .ref a) ⟨_, hno, rfl⟩ (fun _ h => by cases h) hi2 (fun _ _ _ h => by cases h)
          rw [hσ, List.set_set] at E4 G4
          exact ⟨E4, G4⟩
        | _ => simp [q] at e
theorem walks_items {d : Addr} {od : Obj} {ks : List (List Key × V)} {kvs : List (List Key × D)} (hd : S0 d = some (.frz od (.dT ks))) (hr : RepK K S0 ks kvs) : Walks K (Itp d od ks) S0 (itemsD kvs) where
  goes := fun S H i s1 s2 hi => ⟨s2 _ _ (s1 _ _ hd), by rw [repK_len hr]; simpa [itemsD] using hi⟩
  stops := fun S H s1 s2 => ⟨s2 _ _ (s1 _ _ hd), by rw [repK_len hr]; simp [itemsD]⟩
  gives := fun S H i x H' s1 s2 hi ⟨T, k, v, q, hk, e1, hT, hq, e2⟩ => by
    subst e1 e2
    obtain ⟨w, hw, hrw⟩ := repK_get hr hk
    have hST : S T = none := none_of s2 hT
    have hqT : q ≠ T := fun z => by rw [z, hT] at hq; cases hq
    have hSS : Same S (upd (upd S q (.tup (k.map kV))) T (.tup [.ref q, v])) := fun b o e => by
      have hbT : b ≠ T := fun z => by rw [z, hST] at e; cases e
      rw [upd_ne hbT]
      by_cases hbq : b = q
      · subst hbq
        have := s2 _ _ e
        rw [hq] at this
        rw [upd_same, this]
      · rw [upd_ne hbq]; exact e
    refine ⟨upd (upd S q (.tup (k.map kV))) T (.tup [.ref q, v]), .tup [.tup (k.map keyD), w], by simp [itemsD, hw], .tup upd_same (.cons (.tup (by rw [upd_ne hqT, upd_same]) (reps_keys k)) (.cons ((hrw.mono s1).mono hSS) .nil)), hSS, same_new hT, fun b o e => ?_, fun b e n => ?_⟩
    · by_cases hbT : b = T
      · subst hbT; rw [upd_same] at e ⊢; exact e
      · rw [upd_ne hbT] at e ⊢
        by_cases hbq : b = q
        · subst hbq; rw [upd_same] at e; rw [← e]; exact hq
        · rw [upd_ne hbq] at e; exact s2 _ _ e
    · have hbT : b ≠ T := fun z => n.ne (by rw [z]; exact hT)
      have hbq : b ≠ q := fun z => by
        obtain ⟨o, ho, ht⟩ := n
        rw [z, hq] at ho
        cases ho
        exact ht _ rfl
      rw [upd_ne hbT, upd_ne hbq]; exact e
theorem walks_vals {d : Addr} {od : Obj} {ks : List (List Key × V)} {kvs : List (List Key × D)} (hd : S0 d = some (.frz od (.dT ks))) (hr : RepK K S0 ks kvs) : Walks K (Itw d od ks) S0 (kvs.map (·.2)) where
  goes := fun S H i s1 s2 hi => ⟨s2 _ _ (s1 _ _ hd), by rw [repK_len hr]; simpa using hi⟩
  stops := fun S H s1 s2 => ⟨s2 _ _ (s1 _ _ hd), by rw [repK_len hr]; simp⟩
  gives := fun S H i x H' s1 s2 hi ⟨e2, k, hk⟩ => by
    subst e2
    obtain ⟨w, hw, hrw⟩ := repK_get hr hk
    exact ⟨S, w, by simp [hw], hrw.mono s1, fun _ _ e => e, fun _ _ e => e, s2, fun _ e _ => e⟩
end
def itItems (f : Ev) : Iv := fun ρ => (f ρ).bind fun p => (lockR p.2 p.1).map fun z => (itemsD z.1, z.2)
def itValues (f : Ev) : Iv := fun ρ => (f ρ).bind fun p => (lockR p.2 p.1).map fun z => (z.1.map (·.2), z.2)
section
variable {X : Cx} {tg e : Expr} {f : Ev} {apos cpos : Pos}
theorem vi_items {elts : List Expr} {kk : Nat} {tpos : Pos} (he : VE X e f) (hbase : attributeBase e "items" X.env (eval e X.env) = eval e X.env := by rfl) (hline : (apos.endLine == cpos.line) = true := by rfl) :
    VI X (.Tuple elts kk tpos) (.Call (.Attribute e "items" apos) [] [] cpos) (itItems f) := (pi_itemsT he hbase hline).imp fun σ H R q => by
  obtain ⟨S, ρ, ds, ρ', E, e, k⟩ := q
  obtain ⟨p, e1, e2⟩ := bind_some e
  obtain ⟨z, e3, e4⟩ := map_some e2
  cases e4
  refine ⟨S, ρ, p.1, p.2, E, e1, fun v S1 H1 c => ?_⟩
  obtain ⟨d, ks, rfl, hk, hs, hr, hg⟩ := c.lock (kvs := z.1) (ρ2 := z.2) e3
  exact ⟨d, ks, rfl, hk, fun od => k _ _ _ (hg od).1 (hg od).2 (walks_items upd_same (repK_mono (same_new hs) hr))⟩
theorem vi_values (he : VE X e f) (hbase : attributeBase e "values" X.env (eval e X.env) = eval e X.env := by rfl) (hline : (apos.endLine == cpos.line) = true := by rfl) :
    VI X tg (.Call (.Attribute e "values" apos) [] [] cpos) (itValues f) := (pi_valsT he hbase hline).imp fun σ H R q => by
  obtain ⟨S, ρ, ds, ρ', E, e, k⟩ := q
  obtain ⟨p, e1, e2⟩ := bind_some e
  obtain ⟨z, e3, e4⟩ := map_some e2
  cases e4
  refine ⟨S, ρ, p.1, p.2, E, e1, fun v S1 H1 c => ?_⟩
  obtain ⟨d, ks, rfl, hk, hs, hr, hg⟩ := c.lock (kvs := z.1) (ρ2 := z.2) e3
  exact ⟨d, ks, rfl, hk, fun od => k _ _ _ (hg od).1 (hg od).2 (walks_vals upd_same (repK_mono (same_new hs) hr))⟩
end
end FL
/-! # == and != of a dict whose keys are tuples with an empty dict -/
namespace FL
open PySem L2 PyProof.Rows
section
variable {prog : Program} {w : World} {A : Around} {E : Value → Shared → Prop} {s : Shared}
theorem samePairs_empty {nm : String} {a b : Addr} {es : Array DictEntry} {ep ep' : Nat} {Q : Bool → Shared → Prop} (ha : (a == sysModules) = false) (hb : (b == sysModules) = false)
    (da : s.heap.DictRaw a es ep) (db : s.heap.DictRaw b #[] ep') (h : Q (es.size == 0) s) : wpAny (model prog w) A (Builtin.Dict.samePairs nm a b) Q E s := by
  obtain ⟨oa, hoa, hxa, hda⟩ := da
  obtain ⟨ob, hob, hxb, hdb⟩ := db
  by_cases hsz : es.size = 0
  · have he : es = #[] := Array.eq_empty_of_size_eq_zero hsz
    subst he
    refine PySem.W.keq_samePairs (knd := mixKind prog w) (ka := []) (kb := []) (r := true) ha hb ⟨oa, #[], ep, hoa, hxa, hda, ?_, ?_, by simp⟩ ⟨ob, #[], ep', hob, hxb, hdb, ?_, ?_, by simp⟩ (fun _ => .nil) h
    all_goals first | exact .nil | (intro e he; simp at he) | simp
  · unfold Builtin.Dict.samePairs Builtin.Dict.showsAll
    rw [if_neg (show ¬ (a == sysModules) = true by rw [ha]; exact Bool.false_ne_true), if_neg (show ¬ (b == sysModules) = true by rw [hb]; exact Bool.false_ne_true)]
    refine wpAny_bind (wpAny_pure (wpAny_bind (wpAny_pure ?_)))
    refine wpAny_bind (wpAny_dictEntries hoa hda ?_)
    dsimp only
    refine wpAny_bind (wpAny_dictEntries hob hdb ?_)
    rw [if_pos (by simpa using hsz)]
    have hbf : (es.size == 0) = false := by simpa using hsz
    rw [hbf] at h
    exact wpAny_bind (wpAny_rule (wpAny_pure h))
theorem eq_empty {a b : Addr} {es : Array DictEntry} {ep ep' : Nat} {Q : Value → Shared → Prop} (ha : (a == sysModules) = false) (hb : (b == sysModules) = false)
    (da : s.heap.DictRaw a es ep) (db : s.heap.DictRaw b #[] ep') (hu : A.units < cLine) (h : Q (.bool (es.size == 0)) s) : wpAny (model prog w) A (compareOp .Eq (.ref a) (.ref b)) Q E s := by
  refine wpAny_richCompare_same_room (op := .Eq) da.typeIs db.typeIs PySem.F.slot_dict_eq (wpAny_call_entry PySem.F.slot_dict_eq da.typeIs PySem.F.entry_dict_eq ?_ (PySem.F.args_dict_eq_2 _ _)) hu
  show wpAny _ _ (Builtin.Dict.dictSlotArgs "__eq__" ⟨[.ref a, .ref b], []⟩ >>= _) _ _ s
  refine wpAny_bind ?_
  unfold Builtin.Dict.dictSlotArgs
  refine wpAny_bind (wpAny_notOrdered_dict da.typeIs ?_)
  show wpAny _ _ (pure (Value.ref a, Value.ref b)) _ _ s
  refine wpAny_pure ?_
  refine wpAny_bind (wpAny_isInstance (T := "dict") db.typeIs PySem.F.sub_dict_dict ?_)
  simp only [Bool.not_true, Bool.false_eq_true, if_false]
  refine wpAny_bind (wpAny_pure (wpAny_bind (wpAny_pure ?_)))
  refine wpAny_bind (samePairs_empty ha hb da db ?_)
  refine wpAny_pure ⟨_, rfl, ?_, ?_⟩
  · exact fun x => nomatch x
  · simpa using h
theorem ne_empty {a b : Addr} {es : Array DictEntry} {ep ep' : Nat} {Q : Value → Shared → Prop} (ha : (a == sysModules) = false) (hb : (b == sysModules) = false)
    (da : s.heap.DictRaw a es ep) (db : s.heap.DictRaw b #[] ep') (hu : A.units < cLine) (h : Q (.bool (!(es.size == 0))) s) : wpAny (model prog w) A (compareOp .NotEq (.ref a) (.ref b)) Q E s := by
  refine wpAny_richCompare_same_room (op := .NotEq) da.typeIs db.typeIs PySem.F.slot_dict_ne (wpAny_call_entry PySem.F.slot_dict_ne da.typeIs PySem.F.entry_dict_ne ?_ (PySem.F.args_dict_ne_2 _ _)) hu
  show wpAny _ _ (Builtin.Dict.dictSlotArgs "__ne__" ⟨[.ref a, .ref b], []⟩ >>= _) _ _ s
  refine wpAny_bind ?_
  unfold Builtin.Dict.dictSlotArgs
  refine wpAny_bind (wpAny_notOrdered_dict da.typeIs ?_)
  show wpAny _ _ (pure (Value.ref a, Value.ref b)) _ _ s
  refine wpAny_pure ?_
  refine wpAny_bind (wpAny_isInstance (T := "dict") db.typeIs PySem.F.sub_dict_dict ?_)
  simp only [Bool.not_true, Bool.false_eq_true, if_false]
  refine wpAny_bind (wpAny_pure (wpAny_bind (wpAny_pure ?_)))
  refine wpAny_bind (samePairs_empty ha hb da db ?_)
  refine wpAny_pure ⟨_, rfl, ?_, ?_⟩
  · exact fun x => nomatch x
  · simpa using h
end
/-! ## over the hand layer -/
section
variable {X : Cx}
def rEqE : R2 := fun x y H Q => ∃ (a b : Addr) (kvs : List (List Key × V)), x = .ref a ∧ y = .ref b ∧ Rd H a (.dT kvs) ∧ Rd H b (.dT []) ∧ Q (.bl kvs.isEmpty) H
def rNeE : R2 := fun x y H Q => ∃ (a b : Addr) (kvs : List (List Key × V)), x = .ref a ∧ y = .ref b ∧ Rd H a (.dT kvs) ∧ Rd H b (.dT []) ∧ Q (.bl (!kvs.isEmpty)) H
theorem dt_raw {pins : List (Addr × Obj)} {σ : L2.St} {H : Hp} {s : Shared} {a : Addr} {kvs : List (List Key × V)} (I : Inv X pins σ H s) (e : Rd H a (.dT kvs)) :
    (a == sysModules) = false ∧ ∃ es ep, s.heap.DictRaw a es ep ∧ es.size = kvs.length := by
  obtain ⟨z, y, xs, r, o, es, ep, h1, h2, h3, h4, _⟩ := dt_rd I.hok e
  refine ⟨y, es, ep, ⟨o, h1, h2, h3⟩, ?_⟩
  have l2 : kvs.length = xs.length := Paired.length r
  have l1 : es.size = xs.length := size_of_entries h4
  omega
theorem op_eqE (hu : X.A.units + 64 < cLine) : OpR X (compareOp .Eq) rEqE := by
  intro pins s σ H x y v u Q I rx ry h
  obtain ⟨a, b, kvs, rfl, rfl, ha, hb, q⟩ := h
  cases rx; cases ry
  obtain ⟨ya, es, ep, da, la⟩ := dt_raw I ha
  obtain ⟨yb, es', ep', db, lb⟩ := dt_raw I hb
  have he : es' = #[] := Array.eq_empty_of_size_eq_zero lb
  subst he
  refine eq_empty ya yb da db (by omega) ⟨.bl _, H, I, ?_, q⟩
  rw [la]
  cases kvs <;> rfl
theorem op_neE (hu : X.A.units + 64 < cLine) : OpR X (compareOp .NotEq) rNeE := by
  intro pins s σ H x y v u Q I rx ry h
  obtain ⟨a, b, kvs, rfl, rfl, ha, hb, q⟩ := h
  cases rx; cases ry
  obtain ⟨ya, es, ep, da, la⟩ := dt_raw I ha
  obtain ⟨yb, es', ep', db, lb⟩ := dt_raw I hb
  have he : es' = #[] := Array.eq_empty_of_size_eq_zero lb
  subst he
  refine ne_empty ya yb da db (by omega) ⟨.bl _, H, I, ?_, q⟩
  rw [la]
  cases kvs <;> rfl
end
end FL
/-! ## over data -/
namespace FL
open PySem L2
def bEqE : D → D → Option Bool
  | .dic kvs, .dic [] => some kvs.isEmpty
  | _, _ => none
def bNeE : D → D → Option Bool
  | .dic kvs, .dic [] => some (!kvs.isEmpty)
  | _, _ => none
section
variable {K : PySem.W.Frag}
theorem repK_empty {S : Hp} {ks : List (List Key × V)} {kvs : List (List Key × D)} (h : RepK K S ks kvs) : ks.isEmpty = kvs.isEmpty := by cases h <;> rfl
theorem sb_eqE : SoundB K rEqE bEqE := fun S H u v x y b ex su sv e Q k => by
  unfold bEqE at e
  split at e
  · rename_i kvs
    cases e
    obtain ⟨a1, k1, rfl, h1, r1⟩ := su.dic' ex
    obtain ⟨a2, k2, rfl, h2, r2⟩ := sv.dic' ex
    cases r2
    exact ⟨a1, a2, k1, rfl, rfl, h1, h2, by rw [repK_empty r1]; exact k⟩
  · cases e
theorem sb_neE : SoundB K rNeE bNeE := fun S H u v x y b ex su sv e Q k => by
  unfold bNeE at e
  split at e
  · rename_i kvs
    cases e
    obtain ⟨a1, k1, rfl, h1, r1⟩ := su.dic' ex
    obtain ⟨a2, k2, rfl, h2, r2⟩ := sv.dic' ex
    cases r2
    exact ⟨a1, a2, k1, rfl, rfl, h1, h2, by rw [repK_empty r1]; exact k⟩
  · cases e
end
@[simp] theorem bEqE_dic (kvs : List (List Key × D)) : bEqE (.dic kvs) (.dic []) = some kvs.isEmpty := rfl
@[simp] theorem bNeE_dic (kvs : List (List Key × D)) : bNeE (.dic kvs) (.dic []) = some (!kvs.isEmpty) := rfl
@[simp] theorem it_items (f : Ev) (ρ : List Sl) : itItems f ρ = (f ρ).bind fun p => (lockR p.2 p.1).map fun z => (itemsD z.1, z.2) := rfl
@[simp] theorem it_values (f : Ev) (ρ : List Sl) : itValues f ρ = (f ρ).bind fun p => (lockR p.2 p.1).map fun z => (z.1.map (·.2), z.2) := rfl
def lockO (i : Nat) (ρ : List Sl) : Option Sl → Option (List (List Key × D) × List Sl)
  | some (.own _ (.dic kvs)) => some (kvs, ρ.set i (.val (.dic kvs)))
  | _ => none
@[simp] theorem lockO_own (i : Nat) (ρ : List Sl) (p : Bool) (kvs : List (List Key × D)) : lockO i ρ (some (.own p (.dic kvs))) = some (kvs, ρ.set i (.val (.dic kvs))) := rfl
@[simp] theorem lockR_own (ρ : List Sl) (kvs : List (List Key × D)) : lockR ρ (.own (.dic kvs)) = some (kvs, ρ) := rfl
@[simp] theorem lockR_al (ρ : List Sl) (i : Nat) : lockR ρ (.al i) = lockO i ρ ρ[i]? := by
  unfold lockR lockO
  rfl
end FL
/-! # xs[::-1] of a tuple -/
namespace FL
open PySem PySem.Spec PyProof.Rows L2 HT
section
variable {prog : Program} {w : World} {A : Around} {E : Value → Shared → Prop} {s : Shared}
theorem adjust_rev (n : Nat) : Builtin.Slice.sliceAdjust none none (-1) (n : Int) = ((n : Int) - 1, -1) := rfl
theorem places_rev (n : Nat) : Builtin.Slice.slicePlaces ((n : Int) - 1) (-1) (-1) = n := by
  unfold Builtin.Slice.slicePlaces
  rw [if_neg (by decide)]
  by_cases h : n = 0
  · subst h; rfl
  · rw [if_pos (by omega)]
    have : (n : Int) - 1 - -1 - 1 = ((n - 1 : Nat) : Int) := by omega
    rw [this, show (-(-1) : Int) = 1 from rfl, Int.ediv_one]
    omega
theorem sliceApplied_rev {sl : Addr} {vl vu vs : Value} {n : Nat} {Q : Int × Int × Nat → Shared → Prop} (hs : s.heap.IsSliceOf sl vl vu vs) (pl : IsPart vl none) (pu : IsPart vu none) (ps : IsPart vs (some (-1)))
    (h : Q ((n : Int) - 1, -1, n) s) : wpAny (model prog w) A (Builtin.Slice.sliceApplied (.ref sl) (pure (n : Int))) Q E s := by
  obtain ⟨os, hos, hcs, hds⟩ := id hs
  unfold Builtin.Slice.sliceApplied Builtin.Slice.sliceFields
  refine wpAny_bind (wpAny_bind (wpAny_field hos hds (x := vl) rfl (wpAny_bind (wpAny_field hos hds (x := vu) rfl (wpAny_bind (wpAny_field hos hds (x := vs) rfl (wpAny_pure ?_)))))))
  refine wpAny_bind (slicePart_ ps ?_)
  show wpAny _ _ (if ((-1 : Int) == 0) = true then _ else _) _ _ s
  rw [if_neg (by decide)]
  refine wpAny_bind (slicePart_ pl (wpAny_bind (slicePart_ pu (wpAny_bind (wpAny_pure ?_)))))
  show wpAny _ _ (match Builtin.Slice.sliceAdjust none none (-1) (n : Int) with | (lo, hi) => pure (lo, (-1 : Int), Builtin.Slice.slicePlaces lo hi (-1))) _ _ s
  rw [adjust_rev n]
  show wpAny _ _ (pure ((n : Int) - 1, (-1 : Int), Builtin.Slice.slicePlaces ((n : Int) - 1) (-1) (-1))) _ _ s
  rw [places_rev]
  exact wpAny_pure h
theorem pick_rev (xs : Array Value) : ((List.range xs.size).filterMap fun (k : Nat) => xs[((xs.size : Int) - 1 + (k : Int) * -1).toNat]?).toArray = xs.toList.reverse.toArray := by
  have e : (fun (k : Nat) => xs[((xs.size : Int) - 1 + (k : Int) * -1).toNat]?) = (fun (j : Nat) => xs[j]?) ∘ fun k => xs.size - 1 - k := by
    funext k
    have : ((xs.size : Int) - 1 + (k : Int) * -1).toNat = xs.size - 1 - k := by omega
    show xs[((xs.size : Int) - 1 + (k : Int) * -1).toNat]? = xs[xs.size - 1 - k]?
    rw [this]
  rw [e, ← List.filterMap_map, PySem.W.krv_range, List.filterMap_reverse, PySem.W.krv_all]
theorem getItem_tuple_rev {t sl : Addr} {items : Array Value} {vl vu vs : Value} {Q : Value → Shared → Prop} (ht : IsTup s.heap t items) (hs : s.heap.IsSliceOf sl vl vu vs) (pl : IsPart vl none) (pu : IsPart vu none) (ps : IsPart vs (some (-1)))
    (h : Q (.ref s.heap.objs.size) { s with heap := s.heap.push { cls := .type "tuple", data := .seq items.toList.reverse.toArray } })
    (hsz : items.size ≤ sizeLine) : wpAny (model prog w) A (getItem (.ref t) (.ref sl)) Q E s := by
  have htake : sizeOk (.seq items.toList.reverse.toArray) := by
    show items.toList.reverse.toArray.size ≤ sizeLine
    rw [List.size_toArray, List.length_reverse, Array.length_toList]
    omega
  obtain ⟨os, hos, hcs, hds⟩ := id hs
  have hTs : s.TypeIs (.ref sl) "slice" := ⟨os, hos, hcs⟩
  unfold getItem
  try with_reducible refine wpAny_holding ?_
  first | refine wpAny_bind (wpAny_pure ?_) | skip
  refine wpAny_bind (wpAny_sequenceKey ht.typeIs (by decide) ?_)
  refine wpAny_bind (wpAny_callSpecial?_slot (name := Str.ofString "__getitem__") ht.typeIs PyProof.Rows.slot_tuple_getitem
    (wpAny_call_entry PyProof.Rows.slot_tuple_getitem ht.typeIs entry_tuple_getitem ?_ (args_tuple_getitem _ _)))
  show wpAny _ _ (Builtin.Tuple.tupleItemsOf (.ref t) >>= _) _ _ s
  refine wpAny_bind (tupleItemsOf_ ht ?_)
  refine wpAny_bind (wpAny_typeOf hTs ?_)
  rw [if_pos (by decide)]
  refine wpAny_bind (sliceApplied_rev hs pl pu ps ?_)
  have hno : ¬ (((items.size : Int) - 1 == 0 && (-1 : Int) == 1 && items.size == items.size) = true) := by
    intro q
    rw [Bool.and_eq_true, Bool.and_eq_true] at q
    exact absurd (eq_of_beq q.1.2) (by decide)
  show wpAny _ _ (if ((items.size : Int) - 1 == 0 && (-1 : Int) == 1 && items.size == items.size) = true then _ else _) _ _ s
  rw [if_neg hno, pick_rev]
  first
    | exact wpAny_bind (m := Builtin.Tuple.tupleExact _) (wpAny_newObj_type (wpAny_pure ⟨_, rfl, wpAny_pure h⟩) htake)
    | exact wpAny_bind (m := Builtin.Tuple.tupleExact _) (wpAny_newObj_type (wpAny_bind (wpAny_pure (wpAny_pure ⟨_, rfl, wpAny_pure h⟩))) htake)
    | exact wpAny_bind (wpAny_bind (m := Builtin.Tuple.tupleExact _) (wpAny_newObj_type (wpAny_pure (wpAny_pure ⟨_, rfl, wpAny_pure h⟩)) htake))
    | exact wpAny_bind (wpAny_bind (m := Builtin.Tuple.tupleExact _) (wpAny_newObj_type (wpAny_pure ⟨_, rfl, wpAny_pure h⟩) htake))
end
section
variable {X : Cx}
def tRevT (K : PySem.W.Frag) (te : TE) : TE := fun σ H Q => te σ H fun x H1 => ∃ a xs, x = .ref a ∧ SqT K H1 a xs ∧ ∀ p, H1 p = none → Q (.ref p) (upd H1 p (.tup xs.reverse))
theorem pe_revT {e : Expr} {te : TE} {k : Nat} {p1 p2 p3 pos : Pos} (he : PE X e te) : PE X (.Subscript e (.Slice none none (some (.UnaryOp .USub (.Constant (.int 1) k p1) p2)) p3) pos) (tRevT X.K te) := by
  refine ⟨fun pins s σ H Q I h => ?_⟩
  refine Subscript_ (thn (he.run pins s σ H _ I h) fun v s1 ⟨x, H1, I1, r1, q1⟩ => ?_)
  obtain ⟨a, xs, ex, hx, q⟩ := q1
  subst ex
  cases r1
  have hst : PO X (some (.UnaryOp .USub (.Constant (.int 1) k p1) p2)) (tPart (tUn (rU fun i => .int (-i)) (tC (.int 1)))) := po_some (pe_un un_neg pe_int)
  refine wpAny_Slice (thn (po_none.run pins s1 σ H1 (fun o H2 => o = none ∧ H2 = H1) I1 ⟨rfl, rfl⟩) fun vl s2 ⟨l, H2, I2, pl, el, e2⟩ => ?_)
  subst el e2
  refine thn (po_none.run pins s2 σ H2 (fun o H3 => o = none ∧ H3 = H2) I2 ⟨rfl, rfl⟩) fun vu s3 ⟨u, H3, I3, pu, eu, e3⟩ => ?_
  subst eu e3
  refine thn (hst.run pins s3 σ H3 (fun o H4 => o = some (-1) ∧ H4 = H3) I3 ⟨1, rfl, -1, rfl, rfl, rfl⟩) fun vs s4 ⟨o, H4, I4, ps, eo, e4⟩ => ?_
  subst eo e4
  have I5 : Inv X pins σ H4 { s4 with heap := s4.heap.push { cls := .type "slice", data := .fields #[vl, vu, vs] } } := I4.kept (t' := s4.toks) fun b ob q => Heap.get?_push_of_some _ q
  obtain ⟨its, r, ht, hz⟩ := I5.tuple hx
  have hlen := r.length
  show wpAny (model X.prog X.w) X.A (subscriptTail e (.Slice none none (some (.UnaryOp .USub (.Constant (.int 1) k p1) p2)) p3) (.ref a) (.ref s4.heap.objs.size)) (EP X pins σ Q) X.xe { s4 with heap := s4.heap.push { cls := .type "slice", data := .fields #[vl, vu, vs] } }
  refine tail_any (ops := [.ref a, .ref s4.heap.objs.size]) ht.typeIs (PyProof.Rows.slot_tuple_getitem.lookup) ?_ (by with_unfolding_all rfl)
  refine getItem_tuple_rev ht (Heap.IsSliceOf.new _ vl vu vs) pl pu ps ?_ (by rw [List.size_toArray]; omega)
  refine ⟨.ref _, _, I5.laid (t' := s4.toks) (o := .tup xs.reverse) (fun b ob q => Heap.get?_push_of_some _ q) (Nat.le_refl _) ?_, rfl, q _ (I5.hok.fresh (Nat.le_refl _))⟩
  exact ⟨by rw [List.length_reverse]; exact hz, _, r.reverse, IsTup.new _ _⟩
end
def oRevT : D → Option R
  | .tup xs => some (.val (.tup xs.reverse))
  | _ => none
def fRevT (f : Ev) : Ev := fOp1 oRevT f
theorem ve_revT {X : Cx} {e : Expr} {f : Ev} {k : Nat} {p1 p2 p3 pos : Pos} (he : VE X e f) : VE X (.Subscript e (.Slice none none (some (.UnaryOp .USub (.Constant (.int 1) k p1) p2)) p3) pos) (fRevT f) :=
  (pe_revT he).imp fun σ H Q q => by
    obtain ⟨S, ρ, r, ρ', E, e, k⟩ := q
    obtain ⟨p, e1, e2⟩ := bind_some e
    obtain ⟨x, e3, e4⟩ := bind_some e2
    obtain ⟨r, e5, e6⟩ := map_some e4
    cases e6
    refine ⟨S, ρ, p.1, p.2, E, e1, fun v S1 H1 c => ?_⟩
    have s := c.rep1.see c.env e3
    cases x with
    | tup xs =>
      cases e5
      obtain ⟨a, vs, rfl, h1, h2⟩ := s.tup c.env.ex
      exact ⟨a, vs, rfl, h1, fun p hp => k _ _ _ (c.fin (.tup c.env.ex hp h2.reverse))⟩
    | _ => cases e5
@[simp] theorem ev_revT (f : Ev) (ρ : List Sl) : fRevT f ρ = fOp1 oRevT f ρ := rfl
@[simp] theorem revT_tup (xs : List D) : oRevT (.tup xs) = some (.val (.tup xs.reverse)) := rfl
end FL
/-! # tuple * k for any k from zero on -/
namespace L2
open PySem PySem.Spec PyProof.Rows
theorem tuple_mul1 (l : Addr) (items : Array Value) (n : Nat) (dd : Option Addr) (sl : Array (Option Value)) (u : Tok) :
    Meets (Builtin.«tuple.__mul__» ⟨[.ref l, .int 1 u], []⟩) (fun _ R s => s.heap.get? l = some { cls := .type "tuple", dict := dd, data := .seq items n, slots := sl } ∧ R (.ok (.ret (Value.ref l))) s) :=
  .of_wp fun prog w A R s h => by
    obtain ⟨hp, g, d, tk, os⟩ := s
    obtain ⟨hl, h⟩ := h
    have f1 := AutoSeq1.idx_int
    have c1 : (items.isEmpty || (1 : Int) == 1) = true := by simp
    wp_walk using wpAny_loadPart' hl
    repeat (first
      | (refine wpAny_ite_true (decide_eq_true (by rw [c1])) ?_; wp_walk using wpAny_loadPart' hl))
    exact ⟨_, rfl, h⟩
theorem tuple_mul0 (l : Addr) (items : Array Value) (n : Nat) (dd : Option Addr) (sl : Array (Option Value)) (u : Tok) (he : items.isEmpty = false) :
    Meets (Builtin.«tuple.__mul__» ⟨[.ref l, .int 0 u], []⟩) (fun _ R s => s.heap.get? l = some { cls := .type "tuple", dict := dd, data := .seq items n, slots := sl } ∧ R (.ok (.ret (Value.ref s.heap.objs.size))) { s with heap := s.heap.push { cls := Value.type "tuple", data := Data.seq #[] }, toks := s.toks }) :=
  .of_wp fun prog w A R s h => by
    obtain ⟨hp, g, d, tk, os⟩ := s
    obtain ⟨hl, h⟩ := h
    have f1 := AutoSeq1.idx_int
    have c1 : (items.isEmpty || (0 : Int) == 1) = false := by simp [he]
    wp_walk using wpAny_loadPart' hl
    repeat (first
      | (refine wpAny_ite_false (decide_eq_false (by rw [c1]; exact Bool.false_ne_true)) ?_; wp_walk using wpAny_loadPart' hl))
    exact ⟨_, rfl, h⟩
def rRepT1 (K : PySem.W.Frag) : R2 := fun x y H Q => ∃ l xs, x = .ref l ∧ y = .int 1 ∧ SqT K H l xs ∧ Q (.ref l) H
def rRepT0 (K : PySem.W.Frag) : R2 := fun x y H Q => ∃ l xs, x = .ref l ∧ y = .int 0 ∧ SqT K H l xs ∧ xs ≠ [] ∧ ∀ p, H p = none → Q (.ref p) (upd H p (.tup []))
section
variable {X : Cx}
theorem op_repT1 : OpR X (binaryOp .Mult) (rRepT1 X.K) := by
  intro pins s σ H x y v u Q I rx ry h
  obtain ⟨l, xs, rfl, rfl, hT, q⟩ := h
  cases rx
  obtain ⟨t, rfl⟩ := ry
  obtain ⟨its, r, ⟨⟨cls, dd, data, sl⟩, ho, hc, n, hd⟩, hs⟩ := I.tuple hT
  simp only at hc hd
  subst hc hd
  exact wpAny_binaryOp_repeat_ref (T := "tuple") (U := "int") (by decide) ⟨_, ho, rfl⟩ (fun s' => typeIs_int s' 1 t) noFill_tuple_mul F.fills_int_mul F.slot_int_rmul repeat_tuple F.slot_int_index.lookup
    (call_meets F.slot_int_rmul (typeIs_int s 1 t) F.entry_int_rmul (F.args_int_rmul_2 _ _) (int_rmul_tuple 1 t l its.toArray n dd sl)
      ⟨ho, rfl, ⟨_, ho, rfl⟩, call_meets F.slot_tuple_mul ⟨_, ho, rfl⟩ F.entry_tuple_mul (F.args_tuple_mul_2 _ _) (tuple_mul1 l its.toArray n dd sl t) ⟨ho, .ref l, H, I, rfl, q⟩⟩)
theorem op_repT0 : OpR X (binaryOp .Mult) (rRepT0 X.K) := by
  intro pins s σ H x y v u Q I rx ry h
  obtain ⟨l, xs, rfl, rfl, hT, hne, q⟩ := h
  cases rx
  obtain ⟨t, rfl⟩ := ry
  obtain ⟨its, r, ⟨⟨cls, dd, data, sl⟩, ho, hc, n, hd⟩, hs⟩ := I.tuple hT
  simp only at hc hd
  subst hc hd
  have hle : its.length = xs.length := r.length.symm
  have hi : its.toArray.isEmpty = false := by
    cases its with
    | nil => exact absurd (List.eq_nil_of_length_eq_zero hle.symm) hne
    | cons a b => rfl
  refine wpAny_binaryOp_repeat_ref (T := "tuple") (U := "int") (by decide) ⟨_, ho, rfl⟩ (fun s' => typeIs_int s' 0 t) noFill_tuple_mul F.fills_int_mul F.slot_int_rmul repeat_tuple F.slot_int_index.lookup
    (call_meets F.slot_int_rmul (typeIs_int s 0 t) F.entry_int_rmul (F.args_int_rmul_2 _ _) (int_rmul_tuple 0 t l its.toArray n dd sl)
      ⟨ho, rfl, ⟨_, ho, rfl⟩, call_meets F.slot_tuple_mul ⟨_, ho, rfl⟩ F.entry_tuple_mul (F.args_tuple_mul_2 _ _) (tuple_mul0 l its.toArray n dd sl t hi) ⟨ho, ?_⟩⟩)
  refine ⟨.ref s.heap.objs.size, _, I.laid (t' := s.toks) (o := .tup []) (fun b ob q => Heap.get?_push_of_some _ q) (Nat.le_refl _) ?_, rfl, q _ (I.hok.fresh (Nat.le_refl _))⟩
  exact ⟨Nat.zero_le _, [], .nil, IsTup.new _ _⟩
end
end L2
namespace FL
open PySem L2
def oMulB : D → D → Option R
  | .tup xs, .int k => if 0 ≤ k ∧ k ≤ 1000 ∧ xs.length ≤ 1000 ∧ 0 < xs.length then some (.val (.tup (List.replicate k.toNat xs).flatten)) else none
  | x, y => oMul x y
section
variable {K : PySem.W.Frag} {X : Cx}
def rMulB (K : PySem.W.Frag) : R2 := fun x y H Q => rMulA K x y H Q ∨ (rRepT1 K x y H Q ∨ rRepT0 K x y H Q)
theorem op_mulB : OpR X (binaryOp .Mult) (rMulB X.K) := OpR.or op_mulA (OpR.or op_repT1 op_repT0)
theorem s_mulB : Sound2 K (rMulB K) oMulB := fun S H u v x y res ex su sv e Q k => by
  unfold oMulB at e
  split at e
  · rename_i xs n
    split at e
    · rename_i h
      by_cases h2 : 2 ≤ n
      · have e' : oMul (.tup xs) (.int n) = some res := by
          show (if 2 ≤ n ∧ n ≤ 1000 ∧ xs.length ≤ 1000 ∧ 0 < xs.length then some (R.val (.tup (List.replicate n.toNat xs).flatten)) else none) = some res
          rw [if_pos ⟨h2, h.2⟩]; exact e
        exact .inl (s_mul S H u v _ _ res ex su sv e' Q k)
      · cases e
        have sv' := sv.int
        have su' := su
        obtain ⟨a, vs, rfl, h1, r1⟩ := su.tup ex
        have hn : n = 0 ∨ n = 1 := by omega
        rcases hn with rfl | rfl
        · refine .inr (.inr ⟨a, vs, rfl, sv', h1, ?_, fun p hp => k _ _ _ (.tup ex hp .nil)⟩)
          intro z
          have := r1.length
          rw [z] at this
          simp at this
          omega
        · refine .inr (.inl ⟨a, vs, rfl, sv', h1, k _ _ _ (.flat ex ?_)⟩)
          have : (List.replicate (1 : Int).toNat xs).flatten = xs := by simp
          rw [this]
          cases su' with | of r => exact r
    · cases e
  · exact .inl (s_mul S H u v _ _ res ex su sv e Q k)
end
@[simp] theorem mulB_int (i j : Int) : oMulB (.int i) (.int j) = if mulOk i j = true then some (.val (.int (i * j))) else none := rfl
@[simp] theorem mulB_lst (xs : List D) (k : Int) : oMulB (.lst xs) (.int k) = if 0 ≤ k ∧ k ≤ 1000 ∧ xs.length ≤ 1000 then some (.own (.lst (List.replicate k.toNat xs).flatten)) else none := rfl
@[simp] theorem mulB_tup (xs : List D) (k : Int) : oMulB (.tup xs) (.int k) = if 0 ≤ k ∧ k ≤ 1000 ∧ xs.length ≤ 1000 ∧ 0 < xs.length then some (.val (.tup (List.replicate k.toNat xs).flatten)) else none := rfl
end FL
/-! # for i, c in enumerate(text) -/
namespace FL
open PySem L2 PySem.Spec PyProof.Rows
def strV (x : Str) : List V := x.cps.toList.map fun c => V.str ⟨#[c]⟩
theorem strV_len (x : Str) : (strV x).length = x.cps.size := by simp [strV]
theorem turn_enumT {P : Program} {w : World} {K : PySem.W.Frag} {elts : List Expr} {kk : Nat} {tpos : Pos} {e it : Addr} {x : Str} {tk : Tok} (h1 : e ≠ it) :
    Turn P w K (.Tuple elts kk tpos) (Jt x.cps.size (fun _ => True) (yEnum (strV x))) [e, it] e (fun i h => (∃ old, IsEnum h e it ((0 : Int) + (i : Int)) old) ∧ h.IsStrIter it (strIterType x) x tk i) :=
  turn_gn (ι := Unit) (Src := fun _ _ => True) (fp := fun _ => [e, it]) (wr := [e, it]) (Y := fun _ i h₀ v h => ∃ T t u, v = .ref T ∧ h₀.objs.size ≤ T ∧ (∃ c u', x.cps[i]? = some c ∧ u = .str ⟨#[c]⟩ u') ∧ h.IsTuple T #[.int ((0 : Int) + (i : Int)) t, u]) (by simp) (fun b hb => hb)
    (fun i h st b hb => by
      obtain ⟨⟨old, he⟩, o, ho, hc, hd⟩ := st
      have e' : b = e ∨ b = it := by simpa using hb
      rcases e' with z | z
      · rw [z]; exact ⟨_, he, fun v q => nomatch q⟩
      · rw [z]; exact ⟨o, ho, fun v q => by rw [hd] at q; cases q⟩)
    (fun i h h' st k => let ⟨⟨old, he⟩, o, ho, r⟩ := st; ⟨⟨old, k e (by simp) _ he⟩, o, k it (by simp) o ho, r⟩)
    (fun X pins s σ H hP hw hK I q => by
      refine ⟨(), trivial, fun A hh => ?_, fun i v h0 h' hi hy => ?_⟩
      · have G := GoesN.enumFrom (elts := elts) (x1 := kk) (pos := tpos) (0 : Int) (Draws.text (prog := P) (w := w) (A := A.in1) hh it x tk) e h1 (by simp [h1]) (by simp)
        exact goesN_st G fun i h => ⟨fun ⟨a, b⟩ => ⟨⟨a, b⟩, trivial⟩, fun ⟨⟨a, b⟩, _⟩ => ⟨a, b⟩⟩
      · obtain ⟨T, t, u, rfl, hT, ⟨c, u', hx, rfl⟩, hTup⟩ := hy
        refine ⟨T, _, rfl, hT, hTup, .cons ⟨t, by rw [Int.zero_add]⟩ (.cons ?_ .nil)⟩
        have : (strV x).getD i .non = .str ⟨#[c]⟩ := by
          rw [List.getD_eq_getElem?_getD]
          unfold strV
          rw [List.getElem?_map, Array.getElem?_toList, hx]; rfl
        rw [this]
        exact ⟨u', rfl⟩)
    (fun A i s Q E st h => let ⟨⟨_, he⟩, _⟩ := st; wpAny_pyIter_enum he h)
    (fun i => by show 2 ≤ sizeLine; decide)
def iEnumT (ta : TA) : TI := fun σ H R => ta σ H fun vs H1 => ∃ x, vs = [.str x] ∧ R (Jt x.cps.size (fun _ => True) (yEnum (strV x))) H1
theorem pi_enumT {X : Cx} {e : Expr} {ta : TA} {p pos tpos : Pos} {elts : List Expr} {kk : Nat} (hg : Gl X "enumerate") (hm : X.mg "enumerate" = none) (ha : PA X [e] ta) (hs : starEach [e] X.env = [(false, eval e X.env)] := by rfl) :
    PI X (.Tuple elts kk tpos) (.Call (.Name "enumerate" p) [e] [] pos) (iEnumT ta) := by
  refine ⟨fun pins s σ H R I h => ?_⟩
  refine Call_ (ld_blt I hg hm boot_enumerate (PyProof.Rows.callWith_type1 (thn (ha.run pos pins s σ H _ I h) fun us s1 ⟨vs, H1, I1, r1, q1⟩ => ?_) hs rfl))
  obtain ⟨x, ex, r⟩ := q1
  subst ex
  cases r1 with
  | cons r0 rr =>
    cases rr
    obtain ⟨t, rfl⟩ := r0
    refine enum_begins1 (begins_text x t) trivial fun h' he hit hsz hk => wpAny_pyIter_enum he ?_
    have I2 : Inv X pins σ H1 { s1 with heap := h' } := I1.kept (t' := s1.toks) hk
    refine ⟨s1.heap.objs.size + 1, [s1.heap.objs.size + 1, s1.heap.objs.size], _, _, H1, rfl, I2, turn_enumT (Nat.succ_ne_self _), ⟨⟨.none, he⟩, ⟨_, hit, rfl, rfl⟩⟩, fun b hb => ?_, r⟩
    have e' : b = s1.heap.objs.size + 1 ∨ b = s1.heap.objs.size := by simpa using hb
    have hle : s1.heap.objs.size ≤ b := by
      rcases e' with z | z
      · rw [z]; exact Nat.le_add_right _ _
      · rw [z]; exact Nat.le_refl _
    exact I1.fpOk hle (I1.hok.fresh hle)
def itEnumS (f : Ev) : Iv := fun ρ => (f ρ).bind fun p => match p.1 with
  | .val (.str z) => some (enumD (signs z), p.2)
  | _ => none
theorem vi_enumS {X : Cx} {x : Expr} {f : Ev} {p pos tpos : Pos} {elts : List Expr} {kk : Nat} (hg : Gl X "enumerate") (hm : X.mg "enumerate" = none) (ha : VE X x f) (hs : starEach [x] X.env = [(false, eval x X.env)] := by rfl) :
    VI X (.Tuple elts kk tpos) (.Call (.Name "enumerate" p) [x] [] pos) (itEnumS f) := (pi_enumT hg hm (pa_cons ha pa_nil hs) hs).imp fun σ H R q => by
  obtain ⟨S, ρ, ds, ρ', E, e, k⟩ := q
  obtain ⟨p, e1, e2⟩ := bind_some e
  split at e2
  · rename_i z hz
    cases e2
    refine ⟨S, ρ, p.1, p.2, E, e1, fun v S1 H1 c => ?_⟩
    have r := c.rep1
    rw [hz] at r
    cases r
    refine ⟨z, rfl, k S1 H1 _ c.env c.go (walks_new (by simp [enumD, signs]) (fun _ _ _ _ => trivial) fun i hi => ?_)⟩
    have hl : i < (signs z).length := by simpa [signs] using hi
    refine ⟨_, enumD_get hl, .cons (.int _) (.cons ?_ .nil)⟩
    have e3 : (strV z).getD i .non = .str ⟨#[z.cps[i]]⟩ := by
      rw [List.getD_eq_getElem?_getD]; unfold strV; simp [hi]
    have e4 : (signs z).getD i .non = .str ⟨#[z.cps[i]]⟩ := by
      rw [List.getD_eq_getElem?_getD]; unfold signs; simp [hi]
    rw [e3, e4]
    exact .str _
  · cases e2
def enumSI : R × List Sl → Option (List D × List Sl)
  | (.val (.str z), ρ) => some (enumD (signs z), ρ)
  | _ => none
@[simp] theorem enumSI_str (z : Str) (ρ : List Sl) : enumSI (.val (.str z), ρ) = some (enumD (signs z), ρ) := rfl
@[simp] theorem it_enumS (f : Ev) (ρ : List Sl) : itEnumS f ρ = (f ρ).bind enumSI := by
  unfold itEnumS
  congr 1
  funext p
  rcases p with ⟨r, ρ⟩
  rcases r with d | d | i
  · cases d <;> rfl
  · rfl
  · rfl
end FL
/-! # for a, b, c in zip(xs, ys, zs) -/
namespace FL
open PySem L2 PySem.Spec PyProof.Rows
def yZip3 (xs ys zs : List V) (i : Nat) : List V := [xs.getD i .non, ys.getD i .non, zs.getD i .non]
theorem turn_zip3S {P : Program} {w : World} {K : PySem.W.Frag} {elts : List Expr} {kk : Nat} {tpos : Pos} {a b c N : Addr} {xs ys zs : List V} {SH SH' SH'' : Hp → Prop} {o o' o'' : Obj} {ItI ItI' ItI'' : Addr → Nat → Heap → Prop} {Src Src' Src'' : Array Value → Heap → Prop}
    (D : SrcD P w K a xs SH o ItI Src) (D' : SrcD P w K b ys SH' o' ItI' Src') (D'' : SrcD P w K c zs SH'' o'' ItI'' Src'') (h1 : a < N) (h2 : b < N) (h3 : c < N) :
    Turn P w K (.Tuple elts kk tpos) (Jt (min (min xs.length ys.length) zs.length) (fun H => SH H ∧ SH' H ∧ SH'' H) (yZip3 xs ys zs)) [N + 5, N + 3, N + 4, N, N + 1, N + 2] (N + 5)
      (fun i h => IsZip h (N + 5) (N + 3) (N + 4) .none ∧ IsTupOf3 h (N + 3) (.ref N) (.ref (N + 1)) (.ref (N + 2)) ∧ (∃ a1 a2 a3, IsTupOf3 h (N + 4) a1 a2 a3) ∧ ItI N i h ∧ ItI' (N + 1) i h ∧ ItI'' (N + 2) i h) :=
  turn_gn (ι := Array Value × Array Value × Array Value) (Src := fun z h => Src z.1 h ∧ Src' z.2.1 h ∧ Src'' z.2.2 h) (fp := fun _ => (N + 5) :: (N + 3) :: (N + 4) :: ([N, a] ++ [N + 1, b] ++ [N + 2, c])) (wr := [N + 5, N + 4, N, N + 1, N + 2]) (Y := fun z i h₀ v h => ∃ T x y u, v = .ref T ∧ h₀.objs.size ≤ T ∧ z.1[i]? = some x ∧ z.2.1[i]? = some y ∧ z.2.2[i]? = some u ∧ h.IsTuple T #[x, y, u]) (by simp) (fun b hb => by simp at hb ⊢; rcases hb with z | z | z | z | z <;> simp [z])
    (fun i h st d hb => by
      obtain ⟨hz, hT, ⟨a1, a2, a3, hO⟩, i1, i2, i3⟩ := st
      have e' : d = N + 5 ∨ d = N + 3 ∨ d = N + 4 ∨ d = N ∨ d = N + 1 ∨ d = N + 2 := by simpa using hb
      rcases e' with z | z | z | z | z | z
      · rw [z]; exact ⟨_, hz, fun v q => nomatch q⟩
      · rw [z]; exact ⟨_, hT, fun v q => nomatch q⟩
      · rw [z]; exact ⟨_, hO, fun v q => nomatch q⟩
      · rw [z]; exact D.obj N i h i1
      · rw [z]; exact D'.obj (N + 1) i h i2
      · rw [z]; exact D''.obj (N + 2) i h i3)
    (fun i h h' st k => by
      obtain ⟨hz, hT, ⟨a1, a2, a3, hO⟩, i1, i2, i3⟩ := st
      exact ⟨k _ (by simp) _ hz, k _ (by simp) _ hT, ⟨a1, a2, a3, k _ (by simp) _ hO⟩, D.keep N i h h' i1 fun o q => k N (by simp) o q, D'.keep (N + 1) i h h' i2 fun o q => k (N + 1) (by simp) o q, D''.keep (N + 2) i h h' i3 fun o q => k (N + 2) (by simp) o q⟩)
    (fun X pins s σ H hP hw hK I q => by
      obtain ⟨its, hs, rv⟩ := D.src X pins s σ H hP hw hK I q.1
      obtain ⟨its', hs', rv'⟩ := D'.src X pins s σ H hP hw hK I q.2.1
      obtain ⟨its'', hs'', rv''⟩ := D''.src X pins s σ H hP hw hK I q.2.2
      have hl : its.size = xs.length := by rw [rv.length]; simp
      have hl' : its'.size = ys.length := by rw [rv'.length]; simp
      have hl'' : its''.size = zs.length := by rw [rv''.length]; simp
      refine ⟨(its, its', its''), ⟨hs, hs', hs''⟩, fun A hh => ?_, fun i v h0 h' hi hy => ?_⟩
      · have G := GoesN.zip3 (elts := elts) (x1 := kk) (pos := tpos) (zip_sep3 (N := N) (fp1 := [a]) (fp2 := [b]) (fp3 := [c]) (by simpa using h1) (by simpa using h2) (by simpa using h3)) (D.draws A.in1 hh N (Nat.ne_of_lt h1) its) (D'.draws A.in1 hh (N + 1) (Nat.ne_of_lt (Nat.lt_succ_of_lt h2)) its') (D''.draws A.in1 hh (N + 2) (Nat.ne_of_lt (Nat.lt_succ_of_lt (Nat.lt_succ_of_lt h3))) its'')
        rw [hl, hl', hl''] at G
        exact goesN_st G fun i h => ⟨fun ⟨a, b, c, ⟨d1, d2⟩, ⟨e1, e2⟩, f1, f2⟩ => ⟨⟨a, b, c, d1, e1, f1⟩, d2, e2, f2⟩, fun ⟨⟨a, b, c, d1, e1, f1⟩, d2, e2, f2⟩ => ⟨a, b, c, ⟨d1, d2⟩, ⟨e1, e2⟩, f1, f2⟩⟩
      · obtain ⟨T, x, y, u, rfl, hT, hx, hy', hu0, hTup⟩ := hy
        have hi1 : i < xs.length := by omega
        have hi2 : i < ys.length := by omega
        have hi3 : i < zs.length := by omega
        have hxs : xs[i]? = some xs[i] := List.getElem?_eq_getElem hi1
        have hys : ys[i]? = some ys[i] := List.getElem?_eq_getElem hi2
        have hzs : zs[i]? = some zs[i] := List.getElem?_eq_getElem hi3
        obtain ⟨v1, hu, ru⟩ := rv.get hxs
        obtain ⟨v2, hu', ru'⟩ := rv'.get hys
        obtain ⟨v3, hu'', ru''⟩ := rv''.get hzs
        have e1 : v1 = x := by
          have : its[i]? = some v1 := by simpa using hu
          rw [this] at hx; exact Option.some.inj hx
        have e2 : v2 = y := by
          have : its'[i]? = some v2 := by simpa using hu'
          rw [this] at hy'; exact Option.some.inj hy'
        have e3 : v3 = u := by
          have : its''[i]? = some v3 := by simpa using hu''
          rw [this] at hu0; exact Option.some.inj hu0
        subst e1 e2 e3
        refine ⟨T, _, rfl, hT, hTup, .cons ?_ (.cons ?_ (.cons ?_ .nil))⟩
        · rw [List.getD_eq_getElem?_getD, hxs]; exact ru
        · rw [List.getD_eq_getElem?_getD, hys]; exact ru'
        · rw [List.getD_eq_getElem?_getD, hzs]; exact ru'')
    (fun A i s Q E st h => wpAny_pyIter_zip st.1 h)
    (fun i => by show 3 ≤ sizeLine; decide)
def iOver3 (K : PySem.W.Frag) (ta : TA) (J : List V → List V → List V → (Hp → Prop) → It) : TI := fun σ H R => ta σ H fun vs H1 => ∃ a b c xs ys zs, vs = [.ref a, .ref b, .ref c] ∧ SeqAny K a xs H1 fun SH => SeqAny K b ys H1 fun SH' => SeqAny K c zs H1 fun SH'' => R (J xs ys zs fun H => SH H ∧ SH' H ∧ SH'' H) H1
theorem pie_zip3 {X : Cx} {pins : List (Addr × Obj)} {σ : L2.St} {H1 : Hp} {s1 : Shared} {a b c : Addr} {xs ys zs : List V} {SH SH' SH'' : Hp → Prop} {o o' o'' : Obj} {ItI ItI' ItI'' : Addr → Nat → Heap → Prop} {Src Src' Src'' : Array Value → Heap → Prop} {elts : List Expr} {kk : Nat} {tpos : Pos} {R : It → Hp → Prop}
    (D : SrcD X.prog X.w X.K a xs SH o ItI Src) (D' : SrcD X.prog X.w X.K b ys SH' o' ItI' Src') (D'' : SrcD X.prog X.w X.K c zs SH'' o'' ItI'' Src'') (I1 : Inv X pins σ H1 s1) (q : SH H1) (q' : SH' H1) (q'' : SH'' H1) (r : R (Jt (min (min xs.length ys.length) zs.length) (fun H => SH H ∧ SH' H ∧ SH'' H) (yZip3 xs ys zs)) H1) :
    wpAny (model X.prog X.w) X.A (call (.type "zip") [.ref a, .ref b, .ref c]) (fun v s2 => wpAny (model X.prog X.w) X.A (pyIter v) (PIE X pins σ (.Tuple elts kk tpos) R) X.xe s2) X.xe s1 := by
  obtain ⟨its, hs, rv⟩ := D.src X pins s1 σ H1 rfl rfl rfl I1 q
  obtain ⟨its', hs', rv'⟩ := D'.src X pins s1 σ H1 rfl rfl rfl I1 q'
  obtain ⟨its'', hs'', rv''⟩ := D''.src X pins s1 σ H1 rfl rfl rfl I1 q''
  have hlt := D.lt its _ hs
  have hlt' := D'.lt its' _ hs'
  have hlt'' := D''.lt its'' _ hs''
  refine zip_begins3 (D.begins its) (D'.begins its') (D''.begins its'') hs hs' hs'' fun h' hz hT hO i1 i2 i3 hsz hk => wpAny_pyIter_zip hz ?_
  have I2 : Inv X pins σ H1 { s1 with heap := h' } := I1.kept (t' := s1.toks) hk
  refine ⟨s1.heap.objs.size + 5, [s1.heap.objs.size + 5, s1.heap.objs.size + 3, s1.heap.objs.size + 4, s1.heap.objs.size, s1.heap.objs.size + 1, s1.heap.objs.size + 2], _, _, H1, rfl, I2, turn_zip3S D D' D'' hlt hlt' hlt'', ⟨hz, hT, ⟨_, _, _, hO⟩, D.init _ _ i1, D'.init _ _ i2, D''.init _ _ i3⟩, fun c hb => ?_, r⟩
  have e' : c = s1.heap.objs.size + 5 ∨ c = s1.heap.objs.size + 3 ∨ c = s1.heap.objs.size + 4 ∨ c = s1.heap.objs.size ∨ c = s1.heap.objs.size + 1 ∨ c = s1.heap.objs.size + 2 := by simpa using hb
  have hle : s1.heap.objs.size ≤ c := by
    rcases e' with z | z | z | z | z | z
    · rw [z]; exact Nat.le_add_right _ _
    · rw [z]; exact Nat.le_add_right _ _
    · rw [z]; exact Nat.le_add_right _ _
    · rw [z]; exact Nat.le_refl _
    · rw [z]; exact Nat.le_add_right _ _
    · rw [z]; exact Nat.le_add_right _ _
  exact I1.fpOk hle (I1.hok.fresh hle)
theorem pi_zip3S {X : Cx} {e e2 e3 : Expr} {ta : TA} {p pos tpos : Pos} {elts : List Expr} {kk : Nat} (hg : Gl X "zip") (hm : X.mg "zip" = none) (ha : PA X [e, e2, e3] ta)
    (hs : starEach [e, e2, e3] X.env = (false, eval e X.env) :: starEach [e2, e3] X.env := by rfl) (hpl : (backTo pos (starEach [e2, e3] X.env)).any (·.1) = false := by rfl) :
    PI X (.Tuple elts kk tpos) (.Call (.Name "zip" p) [e, e2, e3] [] pos) (iOver3 X.K ta fun xs ys zs SH => Jt (min (min xs.length ys.length) zs.length) SH (yZip3 xs ys zs)) := by
  refine ⟨fun pins s σ H R I h => ?_⟩
  refine Call_ (ld_blt I hg hm PyProof.Rows.boot_zip (PyProof.Rows.callWith_type1 (thn (ha.run pos pins s σ H _ I h) fun us s1 ⟨vs, H1, I1, r1, q1⟩ => ?_) hs hpl))
  obtain ⟨a, b, c, xs, ys, zs, ex, hq⟩ := q1
  subst ex
  cases r1 with
  | cons r rr =>
    cases rr with
    | cons r' rr =>
      cases rr with
      | cons r'' rr =>
        cases rr
        cases r
        cases r'
        cases r''
        rcases hq with ⟨h1, h2⟩ | ⟨h1, h2⟩ <;> rcases h2 with ⟨h3, h4⟩ | ⟨h3, h4⟩ <;> rcases h4 with ⟨h5, h6⟩ | ⟨h5, h6⟩
        · exact pie_zip3 srcD_list srcD_list srcD_list I1 h1 h3 h5 h6
        · exact pie_zip3 srcD_list srcD_list srcD_tup I1 h1 h3 h5 h6
        · exact pie_zip3 srcD_list srcD_tup srcD_list I1 h1 h3 h5 h6
        · exact pie_zip3 srcD_list srcD_tup srcD_tup I1 h1 h3 h5 h6
        · exact pie_zip3 srcD_tup srcD_list srcD_list I1 h1 h3 h5 h6
        · exact pie_zip3 srcD_tup srcD_list srcD_tup I1 h1 h3 h5 h6
        · exact pie_zip3 srcD_tup srcD_tup srcD_list I1 h1 h3 h5 h6
        · exact pie_zip3 srcD_tup srcD_tup srcD_tup I1 h1 h3 h5 h6
/-! ## over data -/
def zipD3 (xs ys zs : List D) : List D := (List.range (min (min xs.length ys.length) zs.length)).map fun (i : Nat) => D.tup [xs.getD i .non, ys.getD i .non, zs.getD i .non]
theorem zipD3_get {xs ys zs : List D} {i : Nat} (h : i < min (min xs.length ys.length) zs.length) : (zipD3 xs ys zs)[i]? = some (.tup [xs.getD i .non, ys.getD i .non, zs.getD i .non]) := by
  unfold zipD3; rw [List.getElem?_map, List.getElem?_range h]; rfl
def itZip3 (f g h : Ev) : Iv := fun ρ => (evs [f, g, h] ρ).bind fun p => (takes p.2 p.1).bind fun z => match z.1 with
  | [x, y, u] => (seqOf x).bind fun xs => (seqOf y).bind fun ys => (seqOf u).map fun us => (zipD3 xs ys us, z.2)
  | _ => none
theorem vi_zip3 {X : Cx} {f g h : Ev} {x y z : Expr} {p pos tpos : Pos} {elts : List Expr} {kk : Nat} (hg : Gl X "zip") (hm : X.mg "zip" = none) (ha : VE X x f) (hb : VE X y g) (hc : VE X z h)
    (hs : starEach [x, y, z] X.env = (false, eval x X.env) :: starEach [y, z] X.env := by rfl) (hs2 : starEach [y, z] X.env = (false, eval y X.env) :: starEach [z] X.env := by rfl) (hs3 : starEach [z] X.env = (false, eval z X.env) :: starEach [] X.env := by rfl) (hpl : (backTo pos (starEach [y, z] X.env)).any (·.1) = false := by rfl) :
    VI X (.Tuple elts kk tpos) (.Call (.Name "zip" p) [x, y, z] [] pos) (itZip3 f g h) := (pi_zip3S hg hm (va_cons ha (va_cons hb (va_cons hc va_nil hs3) hs2) hs) hs hpl).imp fun σ H R q => by
  obtain ⟨S, ρ, ds, ρ', E, e, k⟩ := q
  obtain ⟨p, e1, e2⟩ := bind_some e
  obtain ⟨z, e3, e4⟩ := bind_some e2
  refine ⟨S, ρ, p.1, p.2, E, e1, fun vs S1 H1 c => ?_⟩
  obtain ⟨S2, s12, r, c2⟩ := c.takes e3
  split at e4
  · rename_i d1 d2 d3 hz
    obtain ⟨xs, e5, e6⟩ := bind_some e4
    obtain ⟨ys, e7, e8⟩ := bind_some e6
    obtain ⟨us, e9, e10⟩ := map_some e8
    cases e10
    rw [hz] at r
    cases r with
    | cons r1 rt =>
      cases rt with
      | cons r2 rn =>
        cases rn with
        | cons r3 rm =>
          cases rm
          obtain ⟨a, vs1, rfl, hr, hq⟩ := seq_any e5 r1
          obtain ⟨b, vs2, rfl, hr', hq'⟩ := seq_any e7 r2
          obtain ⟨c', vs3, rfl, hr'', hq''⟩ := seq_any e9 r3
          refine ⟨a, b, c', vs1, vs2, vs3, rfl, hq H1 _ c2.env.ex fun SH hSH => hq' H1 _ c2.env.ex fun SH' hSH' => hq'' H1 _ c2.env.ex fun SH'' hSH'' => ?_⟩
          refine k S2 H1 _ c2.env c2.go (walks_new (by simp [zipD3, hr.length, hr'.length, hr''.length]) (fun S' H' s1 s2 => ⟨hSH S' H' s1 s2, hSH' S' H' s1 s2, hSH'' S' H' s1 s2⟩) fun i hi => ?_)
          rw [hr.length, hr'.length, hr''.length] at hi
          have h1 := reps_getD hr (i := i) (by omega)
          have h2 := reps_getD hr' (i := i) (by omega)
          have h3 := reps_getD hr'' (i := i) (by omega)
          exact ⟨_, zipD3_get hi, .cons h1 (.cons h2 (.cons h3 .nil))⟩
  · cases e4
def zip3I : List D × List Sl → Option (List D × List Sl)
  | ([x, y, u], ρ) => (seqOf x).bind fun xs => (seqOf y).bind fun ys => (seqOf u).map fun us => (zipD3 xs ys us, ρ)
  | _ => none
@[simp] theorem zip3I_three (x y u : D) (ρ : List Sl) : zip3I ([x, y, u], ρ) = (seqOf x).bind fun xs => (seqOf y).bind fun ys => (seqOf u).map fun us => (zipD3 xs ys us, ρ) := rfl
@[simp] theorem it_zip3 (f g h : Ev) (ρ : List Sl) : itZip3 f g h ρ = (evs [f, g, h] ρ).bind fun p => (takes p.2 p.1).bind zip3I := by
  unfold itZip3
  congr 1
  funext p
  congr 1
  funext z
  rcases z with ⟨ds, ρ⟩
  rcases ds with _ | ⟨x, _ | ⟨y, _ | ⟨u, _ | _⟩⟩⟩ <;> rfl
def zipF3 : List D → List D → List D → List D
  | x :: xs, y :: ys, z :: zs => .tup [x, y, z] :: zipF3 xs ys zs
  | _, _, _ => []
theorem zipF3_len : ∀ xs ys zs : List D, (zipF3 xs ys zs).length = min (min xs.length ys.length) zs.length
  | [], _, _ => by simp [zipF3]
  | _ :: _, [], _ => by simp [zipF3]
  | _ :: _, _ :: _, [] => by simp [zipF3]
  | x :: xs, y :: ys, z :: zs => by
    rw [zipF3, List.length_cons, zipF3_len xs ys zs, List.length_cons, List.length_cons, List.length_cons]; omega
theorem zipF3_get : ∀ (xs ys zs : List D) (i : Nat), i < min (min xs.length ys.length) zs.length → (zipF3 xs ys zs)[i]? = some (.tup [xs.getD i .non, ys.getD i .non, zs.getD i .non])
  | [], _, _, _, h => by simp at h
  | _ :: _, [], _, _, h => by simp at h
  | _ :: _, _ :: _, [], _, h => by simp at h
  | x :: xs, y :: ys, z :: zs, 0, _ => by simp [zipF3]
  | x :: xs, y :: ys, z :: zs, i + 1, h => by
    rw [zipF3, List.getElem?_cons_succ, zipF3_get xs ys zs i (by simp only [List.length_cons] at h; omega)]
    simp
theorem zipD3_eq (xs ys zs : List D) : zipD3 xs ys zs = zipF3 xs ys zs := by
  apply List.ext_getElem?
  intro i
  by_cases h : i < min (min xs.length ys.length) zs.length
  · rw [zipD3_get h, zipF3_get xs ys zs i h]
  · rw [List.getElem?_eq_none (by simp [zipD3]; omega), List.getElem?_eq_none (by rw [zipF3_len]; omega)]
end FL
namespace FL
open PySem L2
/-! # four and more names at once: no swap, a tuple is made and unpacked -/
section
variable {X : Cx} {pos : Pos} {fs : List Ev}
theorem gs_names {K : PySem.W.Frag} {H : Hp} {Q : L2.St → Hp → Prop} : ∀ {is : List Nat} {vs : List V} {σ : L2.St}, vs.length = is.length → Q (setsσ is vs σ) H → gsOf K (is.map Tg.nm) vs σ H Q
  | [], [], σ, _, h => by
    show gsOf K [] [] σ H Q
    rw [gsOf]; exact ⟨rfl, h⟩
  | [], _ :: _, _, h, _ => by cases h
  | _ :: _, [], _, h, _ => by cases h
  | i :: is, v :: vs, σ, h, q => by
    show gsOf K (Tg.nm i :: is.map Tg.nm) (v :: vs) σ H Q
    rw [gsOf]
    refine ⟨v, vs, rfl, ?_⟩
    rw [gOf]
    exact gs_names (is := is) (vs := vs) (by simpa using h) q
theorem vs_parT {es ns : List Expr} {is : List Nat} {pt pt2 : Pos} {kt k2} (hc : X.calm = true) (ha : VA X es fs) (hg : VGs X ns (is.map Tg.nm))
    (hn : (assignEach ns X.env).length = is.length := by rfl) (hst : (assignEach ns X.env).findIdx? (·.1) = none := by rfl) (hz : is.length ≤ 100 := by decide)
    (hs : swapsWithSole [.Tuple ns kt pt] (.Tuple es k2 pt2) pos.line X.env = pure false := by rfl) (hw : swappedStores [.Tuple ns kt pt] (.Tuple es k2 pt2) X.env = pure none := by rfl)
    (h1 : (assignEach [.Tuple ns kt pt] X.env).map (·.2) = [assign (.Tuple ns kt pt) X.env] := by rfl) : VS X (.Assign [.Tuple ns kt pt] (.Tuple es k2 pt2) pos) (sPar is fs) := (ps_asg (pe_tup ha) (pg_tup hc hg hn hst) hs hw h1).imp fun D σ H q => by
  obtain ⟨S, ρ, o, ρ', E, e, k⟩ := q
  obtain ⟨p, e1, e2⟩ := bind_some e
  obtain ⟨ρ1, e3, e4⟩ := map_some e2
  cases e4
  refine ⟨S, ρ, p.1, p.2, E, e1, fun vs S1 H1 c => ?_⟩
  have hl : vs.length = is.length := c.rep.len.trans (puts_len e3)
  have hz2 : (100 : Nat) ≤ sizeLine := by decide
  refine ⟨by omega, fun q hq => ⟨q, vs, rfl, .of (upd_same), hl, gs_names hl ?_⟩⟩
  have hs1 : S1 q = none := by
    cases e : S1 q with
    | none => rfl
    | some u => have := c.env.ex _ _ e; rw [hq] at this; cases this
  have E2 := c.env.mut (o := .tup vs) hs1 fun z => (c.env.there z).1 hq
  have h0 : H q = none := by
    cases e : H q with
    | none => rfl
    | some u => exact absurd hq (c.go.dom q (by rw [e]; simp))
  have G2 := c.go.mut (o := .tup vs) (a := q) (.inr h0)
  have R2 : RepRs X.K S1 (upd H1 q (.tup vs)) σ p.2 vs p.1 := c.rep.mono2 fun v r _ hr => by
    cases r with
    | val d => exact hr
    | al i => exact hr
    | own d =>
      obtain ⟨a, rfl, ho, hn⟩ := hr
      exact ⟨a, rfl, ho.keep (fun _ _ z => z) ho.1 fun u z => by rw [upd_ne (ne_of_none z hq)]; exact z, hn⟩
  obtain ⟨E3, G3⟩ := puts_ok e3 R2 E2 G2 c.nw
  exact k S1 _ _ E3 G3
end
end FL
/-! # sorted(d), d.get(k, x), {k: v} for dicts whose keys are tuples -/
namespace FL
open PySem L2
open PySem.Spec PyProof.Rows PySem.W
/-! ## sorted(d) -/
def rSortDT (K : PySem.W.Frag) : List V → Hp → VK → Prop := fun vs H Q => ∃ (d : Addr) (kvs : List (List Key × V)), vs = [V.ref d] ∧ Rd H d (.dT kvs) ∧ (∀ p ∈ kvs, ∃ ns : List Int, p.1 = ns.map Sum.inl ∧ (2 ≤ kvs.length → ns ≠ [])) ∧
  ∀ (p : Addr) (bs : List Addr) (ys : List V), IsKeys H kvs bs → ys.Perm (bs.map V.ref) → ys.Pairwise (fun x y => ∀ n m, TupI K H x n → TupI K H y m → lexI m n = false) → H p = none → Q (.ref p) (upd H p (.lst ys))
theorem kV_ints (ns : List Int) : (ns.map (Sum.inl : Int → Key)).map kV = ns.map V.int := by
  rw [List.map_map]; rfl
theorem isKeys_mem {H : Hp} : ∀ {kvs : List (List Key × V)} {bs : List Addr}, IsKeys H kvs bs → ∀ b ∈ bs, ∃ p ∈ kvs, H b = some (.tup (p.1.map kV))
  | _, _, .nil, b, h => by cases h
  | _, _, .cons (a := p) h t, b, hb => by
    rcases List.mem_cons.mp hb with rfl | hb
    · exact ⟨p, List.mem_cons_self, h⟩
    · obtain ⟨q, hq, e⟩ := isKeys_mem t b hb
      exact ⟨q, List.mem_cons_of_mem _ hq, e⟩
theorem cr_sortDT {X : Cx} (hc : X.calm = true) : CallR X (.builtin "sorted") (rSortDT X.K) := by
  intro pins s σ H xs us Q I r h
  obtain ⟨d, kvs, rfl, hd, hk, q⟩ := h
  obtain ⟨u, rfl, rx⟩ := r.one
  cases rx
  obtain ⟨z, hs, ks, pr, o, es, ep, ho, hx, hdt, he, hn⟩ := (show ObjOk X.prog X.w H s.heap d (.dT kvs) from hd.ok I.hok)
  have l1 : es.size = ks.length := size_of_entries he
  have l2 : kvs.length = ks.length := Paired.length pr
  refine Calls.call_function_entry kind_sorted plain_sorted entry_sorted (args_sorted1 _) ?_
  unfold Builtin.«sorted»
  refine wpAny_bind (m := checkCount "sorted" 1 1 _) (wpAny_pure ?_)
  refine wpAny_bind (PySem.W.kdu_collect (A := X.A.in1) (kdl_raw hs hx hdt) (I.ok.hd hc) ho (by omega) fun h' tk acc kp it => ?_)
  have ea : acc.toList = ks.map fun x => Value.ref x.2.1 := by
    have hl : acc.toList.length = ks.length := by rw [Array.length_toList, it.1]; exact l1
    apply List.ext_getElem?
    intro j
    rw [List.getElem?_map]
    cases hj : acc.toList[j]? with
    | none =>
      have h1 := List.getElem?_eq_none_iff.mp hj
      rw [List.getElem?_eq_none (by omega)]
      all_goals rfl
    | some v =>
      obtain ⟨en, hen, hv⟩ := it.2 j v (by rw [← Array.getElem?_toList]; exact hj)
      have qe := entry_at he j
      rw [hen] at qe
      cases hb : ks[j]? with
      | none =>
        rw [hb] at qe
        exact nomatch (show some en = none from qe)
      | some b =>
        rw [hb] at qe
        have e2 : en = entryOfKey (tupleKind (mixKind X.prog X.w)) b := Option.some.inj qe
        rw [hv, e2]
        all_goals rfl
  obtain ⟨bs, hbs⟩ : ∃ bs, bs = ks.map fun x => x.2.1 := ⟨_, rfl⟩
  have hik : IsKeys H kvs bs := by rw [hbs]; exact isKeys_of pr
  have eb : acc.toList = bs.map Value.ref := by rw [ea, hbs, List.map_map]; all_goals rfl
  have hbl : bs.length = kvs.length := by rw [hbs, List.length_map, l2]
  have hz : acc.toList.length ≤ sizeLine := by rw [eb, List.length_map, hbl]; exact z
  have I1 : Inv X pins σ H { s with heap := h', toks := tk } := I.kept kp
  refine wpAny_bind (wpAny_newList ?_ hz)
  have hoL : (h'.push (seqObj "list" acc.toList.toArray 0)).get? h'.objs.size = some (seqObj "list" acc.toList.toArray 0) := Heap.get?_push_size _ rfl
  have keyt : ∀ v ∈ acc.toList, ∃ ns, TS.TupInts h' v ns ∧ (2 ≤ kvs.length → ns ≠ []) := fun v hv => by
    rw [eb] at hv
    obtain ⟨b, hb, rfl⟩ := List.mem_map.mp hv
    obtain ⟨p, hp, e⟩ := isKeys_mem hik b hb
    obtain ⟨ns, e2, hne⟩ := hk p hp
    rw [e2, kV_ints] at e
    exact ⟨ns, tupI_raw I1 (.inl (.inl e)), hne⟩
  have old : ∀ b o, h'.get? b = some o → (h'.push (seqObj "list" acc.toList.toArray 0)).get? b = some o := fun b o e => Heap.get?_push_of_some _ e
  show wpAny _ _ _ _ _ { s with heap := h'.push (seqObj "list" acc.toList.toArray 0), toks := tk }
  refine wpAny_bind (wpAny_holding (wpAny_call_entry slot_list_sort ⟨_, hoL, rfl⟩ entry_list_sort (SrtO.list_sort_ord (s := { s with heap := h'.push (seqObj "list" acc.toList.toArray 0), toks := tk }) (swo_lexI (TS.intsOf h')) hoL hz (fun h2 => ?_) fun out hs2 hb2 => ⟨_, rfl, ?_⟩) (args_list_sort _)))
  · refine tups_sortable (s := { s with heap := h'.push (seqObj "list" acc.toList.toArray 0), toks := tk }) (by omega) (fun v hv => ?_) fun o e => ?_
    · obtain ⟨ns, h1, h3⟩ := keyt v hv
      rw [h1.ints]
      exact ⟨h1.keeps fun b o e _ => old b o e, h3 (by rw [← hbl, ← List.length_map (f := Value.ref), ← eb]; exact h2)⟩
    · have e' : some o = some (seqObj "list" acc.toList.toArray 0) := e.symm.trans hoL
      cases e'
      intro c
      exact absurd (Value.type.inj c) (by decide)
  · have hperm : out.Perm acc.toList := hb2.perm
    obtain ⟨ep', he'⟩ := PyProof.Rows.sortedHeap_at (vs := acc.toList) (out := out.toArray) hoL
    have h3 : ∀ u ∈ out, ∃ a, u = Value.ref a := fun u hu => by
      have := hperm.mem_iff.mp hu
      rw [eb] at this
      obtain ⟨b, _, rfl⟩ := List.mem_map.mp this
      exact ⟨b, rfl⟩
    have hp : (out.map bkV).Perm (bs.map V.ref) := by
      have h4 := hperm.map bkV
      rw [eb, List.map_map] at h4
      exact h4
    have hlen : (out.map bkV).length ≤ sizeLine := by
      rw [hp.length_eq, List.length_map, hbl]
      exact z
    refine wpAny_pure ⟨_, rfl, .ref h'.objs.size, upd H h'.objs.size (.lst (out.map bkV)), I1.laid (t' := tk) (fun b u e => ?_) (Nat.le_refl _) (show ObjOk X.prog X.w _ _ _ (.lst (out.map bkV)) from ⟨hlen, out, ep', bkV_vals h3, he'⟩), rfl, q _ bs _ hik hp ?_ (I1.hok.fresh (Nat.le_refl _))⟩
    · have hb : b < h'.objs.size := Heap.lt_size e
      rw [PyProof.Rows.sortedHeap_old (Nat.ne_of_lt hb) (by rw [PyProof.Rows.size_push']; exact Nat.lt_succ_of_lt hb)]
      exact Heap.get?_push_of_some _ e
    · rw [List.pairwise_map]
      refine List.Pairwise.imp (fun {u v} huv n m hn hm => ?_) hs2
      obtain ⟨t, et, ht⟩ := hn
      obtain ⟨t', et', ht'⟩ := hm
      have eu := bkV_ref et
      have ev := bkV_ref et'
      have i1 : TS.intsOf h' u = n := by
        rw [eu]
        exact (tupI_raw I1 ht).ints
      have i2 : TS.intsOf h' v = m := by
        rw [ev]
        exact (tupI_raw I1 ht').ints
      rw [← i1, ← i2]
      exact huv
/-! ### over data -/
def keysI : List (List Key × D) → Option (List (List Int))
  | [] => some []
  | kv :: r => (intsK kv.1).bind fun ns => (keysI r).map fun nss => ns :: nss
where
  intsK : List Key → Option (List Int)
    | [] => some []
    | .inl i :: r => (intsK r).map fun ns => i :: ns
    | _ => none
theorem intsK_eq : ∀ {ks : List Key} {ns : List Int}, keysI.intsK ks = some ns → ks = ns.map Sum.inl
  | [], _, h => by cases h; rfl
  | .inl i :: r, _, h => by
    rw [keysI.intsK] at h
    obtain ⟨ns, h1, rfl⟩ := map_some h
    rw [List.map_cons, ← intsK_eq h1]
  | .inr x :: r, _, h => by cases h
theorem keysI_eq : ∀ {kvs : List (List Key × D)} {nss : List (List Int)}, keysI kvs = some nss → kvs.map (·.1) = nss.map fun ns => ns.map Sum.inl
  | [], _, h => by cases h; rfl
  | kv :: r, _, h => by
    rw [keysI] at h
    obtain ⟨ns, h1, h2⟩ := bind_some h
    obtain ⟨nss, h3, rfl⟩ := map_some h2
    rw [List.map_cons, List.map_cons, ← keysI_eq h3, ← intsK_eq h1]
def oSortD : List D → Option R
  | [.dic kvs] => (keysI kvs).bind fun nss => if nss.length < 2 ∨ nss.all (fun ns => !ns.isEmpty) = true then some (.own (.lst ((sortT nss).map fun ns => .tup (ns.map .int)))) else none
  | _ => none
theorem repK_keys {K : PySem.W.Frag} {S : Hp} : ∀ {ks : List (List Key × V)} {kvs : List (List Key × D)}, RepK K S ks kvs → ks.map (·.1) = kvs.map (·.1)
  | _, _, .nil => rfl
  | _, _, .cons _ t => by rw [List.map_cons, List.map_cons, repK_keys t]
theorem keys_reps {K : PySem.W.Frag} {S H : Hp} : ∀ {ks : List (List Key × V)} {bs : List Addr} {nss : List (List Int)}, IsKeys H ks bs → ks.map (·.1) = nss.map (fun ns => ns.map Sum.inl) → (∀ b o, b ∈ bs → H b = some o → S b = some o) → Reps K S (bs.map V.ref) (nss.map fun ns => D.tup (ns.map .int))
  | _, _, [], .nil, _, _ => .nil
  | _, _, _ :: _, .nil, h, _ => by cases h
  | _, _, [], .cons _ _, h, _ => by cases h
  | _, _, ns :: nss, .cons (a := p) (b := b) h t, e, hS => by
    rw [List.map_cons, List.map_cons, List.cons.injEq] at e
    rw [e.1, kV_ints] at h
    exact .cons (.tup (hS b _ List.mem_cons_self h) (Reps.ints ns)) (keys_reps t e.2 fun c o hc => hS c o (List.mem_cons_of_mem _ hc))
theorem s_sortD {K : PySem.W.Frag} : SoundN K (rSortDT K) oSortD := fun S H vs ds res ex s e Q k => by
  unfold oSortD at e
  split at e
  · rename_i kvs
    obtain ⟨nss, h1, h2⟩ := bind_some e
    split at h2
    · rename_i hc
      cases h2
      obtain ⟨v, rfl, s1⟩ := s.one
      obtain ⟨a, ks, rfl, hd, hr⟩ := s1.dic' ex
      have hkeys : ks.map (·.1) = nss.map fun ns => ns.map Sum.inl := (repK_keys hr).trans (keysI_eq h1)
      have hlen : ks.length = nss.length := by have := congrArg List.length hkeys; simpa using this
      refine ⟨a, ks, rfl, hd, fun p hp => ?_, fun p bs ys hik hperm hsrt hn => ?_⟩
      · have : p.1 ∈ ks.map (·.1) := List.mem_map_of_mem hp
        rw [hkeys] at this
        obtain ⟨ns, hns, e2⟩ := List.mem_map.mp this
        refine ⟨ns, e2.symm, fun h2 => ?_⟩
        rcases hc with hc | hc
        · omega
        · have := List.all_eq_true.mp hc ns hns
          intro z
          rw [z] at this; cases this
      · obtain ⟨S', hS'⟩ : ∃ S' : Hp, S' = fun b => if S b = none then (if b ∈ bs then H b else none) else S b := ⟨_, rfl⟩
        have st : Same S S' := fun b o e => by rw [hS']; simp only; rw [if_neg (by rw [e]; simp)]; exact e
        have sh : Same S' H := fun b o e => by
          rw [hS'] at e
          simp only at e
          split at e
          · split at e
            · exact e
            · cases e
          · exact ex b o e
        have hin : ∀ b o, b ∈ bs → H b = some o → S' b = some o := fun b o hb e => by
          rw [hS']
          simp only
          split
          · first | exact e | (rw [if_pos hb]; exact e)
          · rename_i hne
            cases q : S b with
            | none => exact absurd q hne
            | some o' => rw [ex b o' q] at e; exact e
        have hr0 : Reps K S' (bs.map V.ref) (nss.map fun ns => D.tup (ns.map .int)) := keys_reps hik hkeys hin
        obtain ⟨nss', hp', hr'⟩ := perm_reps hperm hr0
        have hps := pair_reps sh hr' hsrt
        have : nss' = sortT nss := (hp'.trans (sortT_perm nss).symm).eq_of_pairwise (fun x y _ _ h1 h2 => lexI_total h2 h1) hps (sortT_sorted nss)
        rw [this] at hr'
        have hpS : S p = none := none_of ex hn
        have hpn : S' p = none := by
          rw [hS']; simp only
          rw [if_pos hpS]
          split
          · exact hn
          · rfl
        refine k _ S' (upd H p (.lst ys)) ⟨st, fun b o e => by rw [upd_ne (ne_of_none e hn)]; exact e, fun b hb hl => ?_, fun b o e => by rw [upd_ne (ne_of_none e hpn)]; exact sh b o e, p, rfl, hn, hpn, ys, upd_same, hr'⟩
        rw [hS']; simp only
        rw [if_pos hb]
        split
        · rename_i hbs
          obtain ⟨q, _, e⟩ := isKeys_mem hik b hbs
          obtain ⟨o, ho, ht⟩ := hl
          rw [e] at ho
          cases ho
          exact absurd rfl (ht _)
        · rfl
    · cases h2
  · cases e
@[simp] theorem sortD_dic (kvs : List (List Key × D)) : oSortD [.dic kvs] = (keysI kvs).bind fun nss => if nss.length < 2 ∨ nss.all (fun ns => !ns.isEmpty) = true then some (.own (.lst ((sortT nss).map fun ns => .tup (ns.map .int)))) else none := rfl
/-! ## d.get(k, x) -/
def getO : D → D → D → Option (Option D)
  | .dic _, .dic kvs, .tup ks => (toKey ks).map fun k => valD kvs k
  | _, _, _ => none
def orR : Option D → R → R
  | some v, _ => .val v
  | none, r => r
def fGet2 (f k x : Ev) : Ev := fun ρ => (f ρ).bind fun p => (see p.2 p.1).bind fun d0 => (k p.2).bind fun q => (x q.2).bind fun t => (see t.2 p.1).bind fun d => (see t.2 q.1).bind fun y => (getO d0 d y).map fun o => (orR o t.1, t.2)
theorem ve_get2 {X : Cx} {o e x : Expr} {f g h : Ev} {apos cpos : Pos} (hu : X.A.units + 1 < cLine) (ho : VE X o f) (he : VE X e g) (hx : VE X x h) (m : M2 X o "get" apos e x cpos) : VE X (.Call (.Attribute o "get" apos) [e, x] [] cpos) (fGet2 f g h) :=
  (pe_dget2 hu ho he hx m).imp fun σ H Q q => by
    obtain ⟨S, ρ, r, ρ', E, e0, k⟩ := q
    obtain ⟨p, e1, e2⟩ := bind_some e0
    obtain ⟨d0, e3, e4⟩ := bind_some e2
    obtain ⟨p2, e5, e6⟩ := bind_some e4
    obtain ⟨p3, e7, e8⟩ := bind_some e6
    obtain ⟨d, e9, e10⟩ := bind_some e8
    obtain ⟨y, e11, e12⟩ := bind_some e10
    obtain ⟨ov, e13, e14⟩ := map_some e12
    cases e14
    unfold getO at e13
    split at e13
    · rename_i kvs0 kvs ks
      obtain ⟨ky, h1, rfl⟩ := map_some e13
      refine ⟨S, ρ, p.1, p.2, E, e1, fun u S1 H1 c1 => ?_⟩
      have su := c1.rep1.see c1.env e3
      obtain ⟨a, k0, rfl, hd0, _⟩ := su.dic' c1.env.ex
      refine ⟨a, rfl, .inr ⟨_, hd0⟩, S1, p.2, p2.1, p2.2, c1.env, e5, fun v S2 H2 c2 => ⟨S2, p2.2, p3.1, p3.2, c2.env, e7, fun z S3 H3 c3 => ?_⟩⟩
      have hr1 := (c1.rep1.go c1.env c2.go).go c2.env c3.go
      have hr2 := c2.rep1.go c2.env c3.go
      have s1 := hr1.see c3.env e9
      have s2 := hr2.see c3.env e11
      obtain ⟨b, k1, eb, hd1, hrk⟩ := s1.dic' c3.env.ex
      cases eb
      have hv := valD_rep (k := ky) hrk
      have call : Cur X.K σ ρ S H [z] [p3.1] p3.2 S3 H3 := c1.then (c2.then c3)
      cases s2 with
      | of r2 =>
        obtain ⟨b2, rfl, hb2⟩ := toKey_rep h1 r2
        refine ⟨valV k1 ky, .inr ⟨k1, ky, b2, hd1, rfl, c3.env.ex _ _ hb2, rfl⟩, ?_⟩
        cases hd : valD kvs ky with
        | none =>
          rw [hd] at k
          rw [hv.2 hd]
          exact k _ S3 H3 call
        | some w =>
          rw [hd] at k
          obtain ⟨w', g1, g2⟩ := hv.1 w hd
          rw [g1]
          exact k _ S3 H3 (call.fin (.flat c3.env.ex g2))
    · cases e13
@[simp] theorem ev_get2 (f g h : Ev) (ρ : List Sl) : fGet2 f g h ρ = (f ρ).bind fun p => (see p.2 p.1).bind fun d0 => (g p.2).bind fun q => (h q.2).bind fun t => (see t.2 p.1).bind fun d => (see t.2 q.1).bind fun y => (getO d0 d y).map fun o => (orR o t.1, t.2) := rfl
@[simp] theorem getO_dic (k0 kvs : List (List Key × D)) (ks : List D) : getO (.dic k0) (.dic kvs) (.tup ks) = (toKey ks).map fun k => valD kvs k := rfl
@[simp] theorem orR_some (v : D) (r : R) : orR (some v) r = .val v := rfl
@[simp] theorem orR_none (r : R) : orR none r = r := rfl
/-! ## {(): b} -/
def fDic1 (b : Bool) : Ev := fun ρ => some (.own (.dic [([], .bl b)]), ρ)
theorem ve_dic1 {X : Cx} {b : Bool} {kk j : Nat} {p1 p2 pos : Pos} (hu : X.A.units + 1 < cLine) : VE X (.Dict [some (.Tuple [] kk p1)] [.Constant (.bool b) j p2] pos) (fDic1 b) := ⟨fun pins s σ H Q I q => by
  obtain ⟨S, ρ, r, ρ', E, e, k⟩ := q
  cases e
  have hn := I.hok.fresh (Nat.le_refl s.heap.objs.size)
  have I1 := I.laid (a := s.heap.objs.size) (o := .dT []) (h' := s.heap.push { cls := .type "dict", data := .dict #[] }) (t' := s.toks) (fun _ _ q => Heap.get?_push_of_some _ q) (Nat.le_refl _) (dt_empty s.heap I.big)
  have hshape := zip_pairTrees [some (.Tuple [] kk p1)] [.Constant (.bool b) j p2] X.env pos rfl rfl
  have hln := pairTrees_length [some (.Tuple [] kk p1)] [.Constant (.bool b) j p2] X.env pos rfl rfl
  rw [arm_eval_Dict, hshape, dictDisplay_pairs _ (fun z => by rw [z] at hln; cases hln) (by rw [hln]; show 1 < 17; decide)]
  refine wpAny_bind (wpAny_standAt (wpAny_bind (wpAny_subDictH (knd := tupleKind (mixKind X.prog X.w)) (Q := fun d s' => wpAny (model X.prog X.w) X.A (pure (Value.ref d)) (EP X pins σ Q) X.xe s') (by show X.A.units < cLine; omega) (by rw [hln]; show 1 ≤ 15; decide) ?_)))
  refine pairTrees_cons_walk (thn ((pe_tup pa_nil).run pins _ σ _ (fun x H1 => ∃ q, x = .ref q ∧ (upd H s.heap.objs.size (.dT [])) q = none ∧ H1 = upd (upd H s.heap.objs.size (.dT [])) q (.tup [])) I1 ⟨Nat.zero_le _, fun q hq => ⟨q, rfl, hq, rfl⟩⟩) fun u s1 ⟨x, H1, I2, rx, q, ex, hq, eH⟩ => thn (pe_bl.run pins s1 σ H1 (fun y H2 => y = .bl b ∧ H2 = H1) I2 ⟨rfl, rfl⟩) fun u2 s2 ⟨y, H2, I3, ry, ey, eH2⟩ => ?_)
  subst ex eH ey eH2
  cases rx
  cases ry
  have hqp : q ≠ s.heap.objs.size := fun z => by rw [z, upd_same] at hq; cases hq
  have hpq : s.heap.objs.size ≠ q := Ne.symm hqp
  have hq0 : (upd (upd H s.heap.objs.size (.dT [])) q (.tup [])) q = some (.tup (([] : List Key).map kV)) := upd_same
  have hp0 : (upd (upd H s.heap.objs.size (.dT [])) q (.tup [])) s.heap.objs.size = some (.dT []) := by rw [upd_ne hpq, upd_same]
  obtain ⟨_, hsys, xs, hkt, hdo⟩ := dt_of I3.hok hp0
  cases hkt
  refine pairTrees_nil_walk ⟨[([], q, .bool b)], ⟨rfl, rfl, key_of I3.hok hq0, trivial⟩, hdo, fun h' tk hd' hs => wpAny_pure ?_⟩
  obtain ⟨o', es, ep, g1, g2, g3, g4, _, g5⟩ := hd'
  have hz0 : (upd H s.heap.objs.size (.dT [])) q = none := hq
  have hHq : H q = none := by rw [upd_ne hqp] at hq; exact hq
  refine ⟨.ref s.heap.objs.size, upd (upd (upd H s.heap.objs.size (.dT [])) q (.tup [])) s.heap.objs.size (.dT [([], .bl b)]), ?_, rfl, ?_⟩
  · refine d_write I3 (by rw [hp0]; exact True.intro) hs ⟨o', g1⟩ ⟨by show 1 ≤ sizeLine; decide, hsys, [([], q, .bool b)], .cons ⟨rfl, by show (upd _ _ _) q = _; rw [upd_ne hqp, upd_same]; rfl, rfl⟩ .nil, o', es, ep, g1, g2, g3, g4, g5⟩
  · have hS : ∀ a, H a = none → S a = none := fun a ha => none_of E.ex ha
    refine k _ S _ ((Cur.init E).fin ⟨fun _ _ e => e, fun a o e => ?_, fun _ e _ => e, fun a o e => ?_, s.heap.objs.size, rfl, hn, hS _ hn, [([], .bl b)], upd_same, .cons (.bl b) .nil⟩)
    · have h1 := ne_of_none e hn
      have h2 := ne_of_none e hHq
      rw [upd_ne h1, upd_ne h2, upd_ne h1]; exact e
    · have e' := E.ex a o e
      have h1 := ne_of_none e' hn
      have h2 := ne_of_none e' hHq
      rw [upd_ne h1, upd_ne h2, upd_ne h1]; exact e'⟩
@[simp] theorem ev_dic1 (b : Bool) (ρ : List Sl) : fDic1 b ρ = some (.own (.dic [([], .bl b)]), ρ) := rfl
end FL
namespace My
open PySem L2 FL
def top (i : Nat) : Stmt := PySem.Challenge.pw_pinframes_k10_whole_sheets_of_short_game.main.body.getD i (.Pass ⟨0, 0, 0, 0⟩)
/-- the built-in names are still the built-ins -/
structure Gb (mg : Str → Option Value) : Prop where
  len : mg "len" = none
  sum : mg "sum" = none
  list : mg "list" = none
  tuple : mg "tuple" = none
  bool : mg "bool" = none
  sorted : mg "sorted" = none
  range : mg "range" = none
  enumerate : mg "enumerate" = none
  zip : mg "zip" = none
  isinstance : mg "isinstance" = none
  triv : True
/-- the constants of the top -/
structure Tx (K : PySem.W.Frag) (mg : Str → Option Value) : Prop where
  MARKS : ∃ t, mg "MARKS" = some (.str "-/X" t)
  triv : True
/-! ### last_frames -/
def gLastFrames_b1 : Stm := (sDrop (fMutL 1 oApp [(fTup [(fVar 2), (fVar 3), (fOp2 oAdd (fOp2 oAdd (fVar 2) (fVar 3)) (fVar 5)), (fC (.int 2))])]))
def gLastFrames_b2 : Stm := (sDrop (fMutL 1 oApp [(fTup [(fVar 2), (fVar 3), (fOp2 oAdd (fVar 0) (fVar 5)), (fC (.int 1))])]))
def gLastFrames_b3 : Stm := (sIf (fOp2 (oB bEq) (fVar 2) (fVar 0)) (sSeq (sAsg 4 (fIf (fOp2 (oB bEq) (fVar 3) (fVar 0)) (fVar 0) (fOp2 oSub (fVar 0) (fVar 3))))
    (sFor (itRg1 (fOp2 oAdd (fVar 4) (fC (.int 1)))) (.nm 5) gLastFrames_b1)) (sIf (fOp2 (oB bEq) (fOp2 oAdd (fVar 2) (fVar 3)) (fVar 0)) (sFor (itRg1 (fOp2 oAdd (fVar 0) (fC (.int 1)))) (.nm 5) gLastFrames_b2) (sDrop (fMutL 1 oApp [(fTup [(fVar 2), (fVar 3), (fOp2 oAdd (fVar 2) (fVar 3)), (fC (.int 0))])]))))
def gLastFrames_b4 : Stm := (sFor (itRg1 (fIf (fOp2 (oB bLt) (fVar 2) (fVar 0)) (fOp2 oAdd (fOp2 oSub (fVar 0) (fVar 2)) (fC (.int 1))) (fOp2 oAdd (fVar 0) (fC (.int 1))))) (.nm 3) gLastFrames_b3)
def gLastFrames : Stm := (sSeq (sAsg 1 (fLst []))
    (sSeq (sFor (itRg1 (fOp2 oAdd (fVar 0) (fC (.int 1)))) (.nm 2) gLastFrames_b4)
    (sRet (fVar 1))))
def fnLastFrames : Fn := defF 5 gLastFrames
/-! ### add_row -/
def gAddRow_e1 : Ev := (fOp2 oBitOr (fVar 5) (fVar 6))
def gAddRow : Stm := (sIf (fInD false (fVar 1) (fVar 0)) (sSeq (sAsg 4 (fOp2 oIx (fVar 0) (fVar 1)))
    (sSub 0 (fVar 1) (fTup [(fOp2 oAdd (fOp2 oIx (fVar 4) (fC (.int 0))) (fVar 2)), (fOpN oTuple [(fLc (itZip (fOp2 oIx (fVar 4) (fC (.int 1))) (fVar 3)) (.tp [(.nm 5), (.nm 6)]) (fC (.bl true)) gAddRow_e1 [5, 6])])]))) (sSub 0 (fVar 1) (fTup [(fVar 2), (fVar 3)])))
def fnAddRow : Fn := defF 3 gAddRow
/-! ### any_rolls -/
def gAnyRolls_b1 : Stm := (sSub 1 (fTup [(fVar 2), (fVar 3)]) (fTup [(fC (.int 1)), (fTup [])]))
def gAnyRolls_b2 : Stm := (sFor (itRg1 (fIf (fOp2 (oB bLt) (fVar 2) (fVar 0)) (fOp2 oAdd (fOp2 oSub (fVar 0) (fVar 2)) (fC (.int 1))) (fOp2 oAdd (fVar 0) (fC (.int 1))))) (.nm 3) gAnyRolls_b1)
def gAnyRolls : Stm := (sSeq (sAsg 1 fDic)
    (sSeq (sFor (itRg1 (fOp2 oAdd (fVar 0) (fC (.int 1)))) (.nm 2) gAnyRolls_b2)
    (sRet (fVar 1))))
def fnAnyRolls : Fn := defF 3 gAnyRolls
/-! ### last_table -/
def gLastTable_b1 : Stm := (sIf (fOp2 (oB bEq) (fVar 5) (fVar 1)) (sDrop (fCall fnAddRow [(fVar 2), (fTup [(fVar 3), (fVar 4)]), (fC (.int 1)), (fTup [(fOp2 oShl (fC (.int 1)) (fVar 6))])])) sNx)
def gLastTable : Stm := (sSeq (sAsg 2 fDic)
    (sSeq (sFor (itSeq (fCall fnLastFrames [(fVar 0)])) (.tp [(.nm 3), (.nm 4), (.nm 5), (.nm 6)]) gLastTable_b1)
    (sRet (fVar 2))))
def fnLastTable : Fn := defF 5 gLastTable
/-! ### table_before -/
def gTableBefore_b1 : Stm := (sSeq (sIf (fOp2 (oB bEq) (fOp2 oAdd (fVar 0) (fOp2 oIx (fVar 4) (fC (.int 0)))) (fVar 1)) (sDrop (fCall fnAddRow [(fVar 3), (fTup [(fVar 8), (fOp2 oSub (fVar 0) (fVar 8))]), (fVar 6), (fTupS [(false, (fC (.int 2))), (true, (fVar 7))])])) sNx)
    (sIf (fAnd (fOp2 (oB bLt) (fVar 1) (fVar 0)) (fOp2 (oB bLe) (fVar 8) (fVar 1))) (sDrop (fCall fnAddRow [(fVar 3), (fTup [(fVar 8), (fOp2 oSub (fVar 1) (fVar 8))]), (fVar 6), (fTupS [(false, (fC (.int 1))), (true, (fVar 7))])])) sNx))
def gTableBefore_b2 : Stm := (sSeq (sUnp (.tp [(.nm 6), (.nm 7)]) (fVar 5))
    (sSeq (sIf (fOp2 (oB bEq) (fOp2 oAdd (fOp2 oAdd (fVar 0) (fOp2 oIx (fVar 4) (fC (.int 0)))) (fOp2 oIx (fVar 4) (fC (.int 1)))) (fVar 1)) (sDrop (fCall fnAddRow [(fVar 3), (fTup [(fVar 0), (fOp2 oIx (fVar 4) (fC (.int 0)))]), (fVar 6), (fTupS [(false, (fC (.int 4))), (true, (fVar 7))])])) sNx)
    (sFor (itRg1 (fVar 0)) (.nm 8) gTableBefore_b1)))
def gTableBefore : Stm := (sSeq (sAsg 3 fDic)
    (sSeq (sFor (itItems (fVar 2)) (.tp [(.nm 4), (.nm 5)]) gTableBefore_b2)
    (sRet (fVar 3))))
def fnTableBefore : Fn := defF 6 gTableBefore
/-! ### table_of -/
def gTableOf_b1 : Stm := (sAsg 4 (fCall fnTableBefore [(fVar 3), (fVar 6), (fVar 4)]))
def gTableOf : Stm := (sSeq (sUnp (.tp [(.nm 2), (.nm 3)]) (fVar 0))
    (sSeq (sIf (fOp2 (oB bEq) (fOpN oLen [(fVar 1)]) (fVar 2)) (sSeq (sAsg 4 (fCall fnLastTable [(fVar 3), (fOp2 oIx (fVar 1) (fOp1 oNeg (fC (.int 1))))]))
    (sAsg 5 (fSlice (fVar 1) none (some (fOp1 oNeg (fC (.int 1))))))) (sSeq (sAsg 4 (fCall fnAnyRolls [(fVar 3)]))
    (sAsg 5 (fVar 1))))
    (sSeq (sFor (itSeq (fRevT (fVar 5))) (.nm 6) gTableOf_b1)
    (sRet (fVar 4)))))
def fnTableOf : Fn := defF 5 gTableOf
/-! ### count_sheet -/
def gCountSheet_e1 : Ev := (fOp2 oIx (fVar 2) (fC (.int 0)))
def gCountSheet : Stm := (sRet (fOpN oSumA [(fLc (itValues (fCall fnTableOf [(fVar 0), (fVar 1)])) (.nm 2) (fC (.bl true)) gCountSheet_e1 [2])]))
def fnCountSheet : Fn := defF 1 gCountSheet
/-! ### kinds -/
def gKinds_e1 : Ev := (fOp2 oBitOr (fVar 4) (fVar 5))
def gKinds_b2 : Stm := (sAsg 2 (fLc (itZip (fVar 2) (fOp2 oIx (fVar 3) (fC (.int 1)))) (.tp [(.nm 4), (.nm 5)]) (fC (.bl true)) gKinds_e1 [4, 5]))
def gKinds_e3 : Ev := (fVar 7)
def gKinds_e4 : Ev := (fJoin (fC (.str "")) (fLc (itEnumS (fC (.str "-/X"))) (.tp [(.nm 6), (.nm 7)]) (fTru (fOp2 oBitAnd (fOp2 oShr (fVar 8) (fVar 6)) (fC (.int 1)))) gKinds_e3 [6, 7]))
def gKinds : Stm := (sSeq (sAsg 2 (fOp2 oMul (fLst [(fC (.int 0))]) (fOpN oLen [(fVar 1)])))
    (sSeq (sFor (itValues (fCall fnTableOf [(fVar 0), (fVar 1)])) (.nm 3) gKinds_b2)
    (sRet (fLc (itSeq (fVar 2)) (.nm 8) (fC (.bl true)) gKinds_e4 [8]))))
def fnKinds : Fn := defF 7 gKinds
/-! ### first_wrong -/
def gFirstWrong_b1 : Stm := (sIf (fOp2 (oB bEqE) (fCall fnTableOf [(fVar 0), (fSlice (fVar 1) none (some (fOp2 oAdd (fVar 2) (fC (.int 1)))))]) fDic) (sRet (fVar 2)) sNx)
def gFirstWrong : Stm := (sSeq (sFor (itRg1 (fOpN oLen [(fVar 1)])) (.nm 2) gFirstWrong_b1)
    (sRet (fC .non)))
def fnFirstWrong : Fn := defF 1 gFirstWrong
/-! ### _law_draw -/
def gLawDraw : Stm := (sSeq (sAsg 2 (fC (.int 2305843009213693951)))
    (sSeq (sIf (fOp2 (oB bLt) (fOp2 oIx (fVar 0) (fC (.int 2))) (fVar 1)) (sSeq (sAsg 3 (fC (.int 0)))
    (sSeq (sIf (fOp2 (oB bGt) (fOpN oLen [(fOp2 oIx (fVar 0) (fC (.int 0)))]) (fC (.int 0))) (sAsg 3 (fOp2 oIx (fOp2 oIx (fVar 0) (fC (.int 0))) (fOp2 oMod (fOp2 oIx (fVar 0) (fC (.int 1))) (fOpN oLen [(fOp2 oIx (fVar 0) (fC (.int 0)))])))) sNx)
    (sSeq (sIf (fOr (fOp2 (oB bGe) (fOp2 oIx (fVar 0) (fC (.int 1))) (fOpN oLen [(fOp2 oIx (fVar 0) (fC (.int 0)))])) (fOp2 (oB bLt) (fVar 3) (fOp2 oPow (fC (.int 10)) (fC (.int 18))))) (sSeq (sAsg 3 (fOp2 oMod (fOp2 oAdd (fVar 3) (fOp2 oMul (fC (.int 1000003)) (fOp2 oIx (fVar 0) (fC (.int 1))))) (fVar 2)))
    (sSeq (sAsg 3 (fOp2 oMod (fOp2 oAdd (fOp2 oAdd (fOp2 oMul (fVar 3) (fVar 3)) (fOp2 oMul (fC (.int 1181783497276652981)) (fVar 3))) (fC (.int 2049848353892358983))) (fVar 2)))
    (sAsg 3 (fOp2 oMod (fOp2 oAdd (fOp2 oMul (fVar 3) (fVar 3)) (fC (.int 1442695040888963407))) (fVar 2))))) sNx)
    (sSeq (sSub 0 (fC (.int 1)) (fOp2 oAdd (fOp2 oIx (fVar 0) (fC (.int 1))) (fC (.int 1))))
    (sSub 0 (fC (.int 2)) (fVar 3)))))) sNx)
    (sSeq (sAsg 4 (fOp2 oMod (fOp2 oIx (fVar 0) (fC (.int 2))) (fVar 1)))
    (sSeq (sSub 0 (fC (.int 2)) (fOp2 oFDiv (fOp2 oIx (fVar 0) (fC (.int 2))) (fVar 1)))
    (sRet (fVar 4))))))
def fnLawDraw : Fn := defF 3 gLawDraw
/-! ### _law_like -/
def gLawLike_e1 (self : Fn) : Ev := (fVar 2)
def gLawLike (self : Fn) : Stm := (sSeq (sIf (fIsi2 "list" "tuple" (fVar 0)) (sSeq (sIf (fOr (fOp2 (oB bNe) (fIsi "list" (fVar 0)) (fIsi "list" (fVar 1))) (fOp2 (oB bNe) (fIsi "tuple" (fVar 0)) (fIsi "tuple" (fVar 1)))) (sRet (fC (.bl false))) sNx)
    (sSeq (sIf (fOp2 (oB bNe) (fOpN oLen [(fVar 0)]) (fOpN oLen [(fVar 1)])) (sRet (fC (.bl false))) sNx)
    (sRet (fOp2 (oB bEq) (fLc (itRg1 (fOpN oLen [(fVar 0)])) (.nm 2) (fNot (fCall self [(fOp2 oIx (fVar 0) (fVar 2)), (fOp2 oIx (fVar 1) (fVar 2))])) (gLawLike_e1 self) [2]) (fLst []))))) sNx)
    (sSeq (sIf (fIsi2 "list" "tuple" (fVar 1)) (sRet (fC (.bl false))) sNx)
    (sRet (fAnd (fOp2 (oB bEq) (fIsi "bool" (fVar 0)) (fIsi "bool" (fVar 1))) (fOp2 (oB bEq) (fVar 0) (fVar 1))))))
def fnLawLike : Nat → Fn
  | 0 => fun _ => none
  | n + 1 => defF 1 (gLawLike (fnLawLike n))
/-! ### _law_needed -/
def gLawNeeded : Stm := (sSeq (sIf (fOp2 (oB bEq) (fVar 2) (fTup [])) (sRet (fC (.int 0))) sNx)
    (sSeq (sIf (fNot (fVar 1)) (sRet (fIf (fOr (fOp2 (oB bEq) (fOp2 oIx (fVar 2) (fC (.int 0))) (fVar 0)) (fOp2 (oB bEq) (fOpN oLen [(fVar 2)]) (fC (.int 2)))) (fOpN oLen [(fVar 2)]) (fC (.int 0)))) sNx)
    (sSeq (sIf (fOr (fOp2 (oB bEq) (fOpN oLen [(fVar 2)]) (fC (.int 3))) (fAnd (fOp2 (oB bEq) (fOpN oLen [(fVar 2)]) (fC (.int 2))) (fAnd (fOp2 (oB bLt) (fOp2 oIx (fVar 2) (fC (.int 0))) (fVar 0)) (fOp2 (oB bLt) (fOpN oSumA [(fVar 2)]) (fVar 0))))) (sRet (fOpN oLen [(fVar 2)])) sNx)
    (sRet (fC (.int 0))))))
def fnLawNeeded : Fn := defF 0 gLawNeeded
/-! ### _law_stands -/
def gLawStands_b1 : Stm := (sSeq (sAsg 2 (fOp2 oSub (fVar 2) (fVar 3)))
    (sIf (fOp2 (oB bEq) (fVar 2) (fC (.int 0))) (sAsg 2 (fVar 0)) sNx))
def gLawStands : Stm := (sSeq (sAsg 2 (fVar 0))
    (sSeq (sFor (itSeq (fVar 1)) (.nm 3) gLawStands_b1)
    (sRet (fVar 2))))
def fnLawStands : Fn := defF 2 gLawStands
/-! ### _law_split -/
def gLawSplit_b1 : Stm := (sSeq (sIf (fOp2 (oB bGt) (fOpN oLen [(fVar 2)]) (fOp2 oIx (fVar 0) (fC (.int 0)))) (sRet (fC .non)) sNx)
    (sSeq (sIf (fNot (fChain bLe bLe (fC (.int 0)) (fVar 3) (fCall fnLawStands [(fOp2 oIx (fVar 0) (fC (.int 1))), (fOp2 oIx (fVar 2) (fOp1 oNeg (fC (.int 1))))]))) (sRet (fC .non)) sNx)
    (sSeq (sSub 2 (fOp1 oNeg (fC (.int 1))) (fOp2 oAdd (fOp2 oIx (fVar 2) (fOp1 oNeg (fC (.int 1)))) (fTup [(fVar 3)])))
    (sIf (fOp2 (oB bGt) (fCall fnLawNeeded [(fOp2 oIx (fVar 0) (fC (.int 1))), (fOp2 (oB bEq) (fOpN oLen [(fVar 2)]) (fOp2 oIx (fVar 0) (fC (.int 0)))), (fOp2 oIx (fVar 2) (fOp1 oNeg (fC (.int 1))))]) (fC (.int 0))) (sDrop (fMutL 2 oApp [(fTup [])])) sNx))))
def gLawSplit : Stm := (sSeq (sAsg 2 (fLst [(fTup [])]))
    (sSeq (sFor (itSeq (fVar 1)) (.nm 3) gLawSplit_b1)
    (sRet (fVar 2))))
def fnLawSplit : Fn := defF 2 gLawSplit
/-! ### _law_parts -/
def gLawParts_b1 : Stm := (sSeq (sAsg 7 (fOpN oLen [(fVar 6)]))
    (sSeq (sAsg 8 (fOp2 (oB bGt) (fCall fnLawNeeded [(fOp2 oIx (fVar 0) (fC (.int 1))), (fOp2 (oB bEq) (fVar 5) (fOp2 oSub (fOp2 oIx (fVar 0) (fC (.int 0))) (fC (.int 1)))), (fVar 6)]) (fC (.int 0))))
    (sSeq (sIf (fAnd (fOp2 (oB bLt) (fVar 5) (fOp2 oSub (fOp2 oIx (fVar 0) (fC (.int 0))) (fC (.int 1)))) (fOp2 (oB bEq) (fOpN oSumA [(fVar 6)]) (fOp2 oIx (fVar 0) (fC (.int 1))))) (sAsg 7 (fC (.int 3))) sNx)
    (sSeq (sIf (fOp2 (oB bNe) (fVar 6) (fTup [])) (sDrop (fMutL 2 oApp [(fTup [(fSlice (fVar 1) (some (fVar 3)) (some (fOp2 oAdd (fVar 3) (fVar 7)))), (fAnd (fVar 8) (fOp2 (oB bLe) (fOp2 oAdd (fVar 3) (fVar 7)) (fOpN oLen [(fVar 1)])))])])) sNx)
    (sAsg 3 (fOp2 oAdd (fVar 3) (fOpN oLen [(fVar 6)])))))))
def gLawParts : Stm := (sSeq (sPar [2, 3, 4] [(fLst []), (fC (.int 0)), (fCall fnLawSplit [(fVar 0), (fVar 1)])])
    (sSeq (sFor (itEnum (fSlice (fVar 4) none (some (fOp2 oIx (fVar 0) (fC (.int 0)))))) (.tp [(.nm 5), (.nm 6)]) gLawParts_b1)
    (sRet (fVar 2))))
def fnLawParts : Fn := defF 7 gLawParts
/-! ### _law_settled -/
def gLawSettled_b1 : Stm := (sIf (fVar 4) (sDrop (fMutL 2 oApp [(fOpN oSumA [(fVar 3)])])) sNx)
def gLawSettled : Stm := (sSeq (sAsg 2 (fLst []))
    (sSeq (sFor (itSeq (fCall fnLawParts [(fVar 0), (fVar 1)])) (.tp [(.nm 3), (.nm 4)]) gLawSettled_b1)
    (sRet (fVar 2))))
def fnLawSettled : Fn := defF 3 gLawSettled
/-! ### _law_all -/
def gLawAll_e1 : Ev := (fOp2 oAdd (fVar 5) (fTup [(fVar 8)]))
def gLawAll_b2 : Stm := (sSeq (sAsg 6 (fCall fnLawSplit [(fVar 0), (fOp2 oAdd (fVar 1) (fVar 5))]))
    (sIf (fOp2 (oB bGt) (fOpN oLen [(fVar 6)]) (fOp2 oIx (fVar 0) (fC (.int 0)))) (sDrop (fMutL 2 oApp [(fVar 5)])) (sSeq (sAsg 7 (fCall fnLawStands [(fOp2 oIx (fVar 0) (fC (.int 1))), (fOp2 oIx (fVar 6) (fOp1 oNeg (fC (.int 1))))]))
    (sAsg 4 (fOp2 oAdd (fVar 4) (fLc (itRg1 (fOp2 oAdd (fVar 7) (fC (.int 1)))) (.nm 8) (fC (.bl true)) gLawAll_e1 [8]))))))
def gLawAll_b3 : Stm := (sSeq (sAsg 4 (fLst []))
    (sSeq (sFor (itSeq (fVar 3)) (.nm 5) gLawAll_b2)
    (sAsg 3 (fVar 4))))
def gLawAll_c4 : Ev := (fOp2 (oB bNe) (fVar 3) (fLst []))
def gLawAll : Stm := (sSeq (sPar [2, 3] [(fLst []), (fLst [(fTup [])])])
    (sSeq (sWhile 1000 gLawAll_c4 gLawAll_b3)
    (sRet (fOpN oSortA [(fVar 2)]))))
def fnLawAll : Fn := defF 7 gLawAll
/-! ### _law_kind -/
def gLawKind : Stm := (sRet (fIf (fOp2 (oB bEq) (fOp2 oIx (fVar 1) (fC (.int 0))) (fVar 0)) (fC (.str "X")) (fIf (fOp2 (oB bEq) (fOp2 oAdd (fOp2 oIx (fVar 1) (fC (.int 0))) (fOp2 oIx (fVar 1) (fC (.int 1)))) (fVar 0)) (fC (.str "/")) (fC (.str "-")))))
def fnLawKind : Fn := defF 0 gLawKind
/-! ### law -/
def gLaw_e1 : Ev := (fCall fnLawKind [(fOp2 oIx (fVar 2) (fC (.int 1))), (fVar 15)])
def gLaw_b2 : Stm := (sSub 4 (fSlice (fVar 6) none (some (fVar 8))) (fC (.bl true)))
def gLaw_b3 : Stm := (sSeq (sAsg 6 (fOpN oTuple [(fCall fnLawSettled [(fVar 2), (fVar 5)])]))
    (sSeq (sAsg 7 (fLc (itSeq (fSlice (fCall fnLawSplit [(fVar 2), (fVar 5)]) none (some (fOp2 oIx (fVar 2) (fC (.int 0)))))) (.nm 15) (fC (.bl true)) gLaw_e1 [15]))
    (sSeq (sSub 3 (fVar 6) (fOp2 oAdd (fGet2 (fVar 3) (fVar 6) (fLst [])) (fLst [(fVar 7)])))
    (sFor (itRg2 (fC (.int 1)) (fOp2 oAdd (fOp2 oIx (fVar 2) (fC (.int 0))) (fC (.int 1)))) (.nm 8) gLaw_b2))))
def gLaw_e4 : Ev := (fCall fnLawDraw [(fVar 1), (fOp2 oAdd (fOp2 oMul (fC (.int 3)) (fOp2 oIx (fVar 2) (fC (.int 1)))) (fC (.int 2)))])
def gLaw_e5 : Ev := (fVar 16)
def gLaw_e6 : Ev := (fVar 17)
def gLaw_b7 : Stm := (sDrop (fMutL 12 oApp [(fJoin (fC (.str "")) (fLc (itSeq (fC (.str "-/X"))) (.nm 17) (fOp2 (oB bNe) (fLc (itSeq (fVar 11)) (.nm 16) (fOp2 (oB bEq) (fOp2 oIx (fVar 16) (fVar 13)) (fVar 17)) gLaw_e5 [16]) (fLst [])) gLaw_e6 [17]))]))
def gLaw_e8 : Ev := (fOp2 oSub (fVar 8) (fC (.int 1)))
def gLaw_b9 : Stm := (sSeq (sAsg 10 (fOpN oSortD [(fVar 3)]))
    (sSeq (sAsg 6 (fOp2 oIx (fVar 10) (fCall fnLawDraw [(fVar 1), (fOpN oLen [(fVar 10)])])))
    (sSeq (sIf (fOp2 (oB bGt) (fVar 9) (fC (.int 9))) (sAsg 6 (fOpN oTuple [(fLc (itRg1 (fOp2 oIx (fVar 2) (fC (.int 0)))) (.nm 15) (fC (.bl true)) gLaw_e4 [15])])) sNx)
    (sSeq (sAsg 11 (fGet2 (fVar 3) (fVar 6) (fLst [])))
    (sSeq (sIf (fNot (fCall (fnLawLike 4) [(fCall fnCountSheet [(fVar 2), (fVar 6)]), (fOpN oLen [(fVar 11)])])) (sRet (fC (.bl false))) sNx)
    (sSeq (sAsg 12 (fLst []))
    (sSeq (sFor (itRg1 (fOp2 oIx (fVar 2) (fC (.int 0)))) (.nm 13) gLaw_b7)
    (sSeq (sIf (fNot (fCall (fnLawLike 4) [(fCall fnKinds [(fVar 2), (fVar 6)]), (fVar 12)])) (sRet (fC (.bl false))) sNx)
    (sSeq (sAsg 14 (fLc (itRg2 (fC (.int 1)) (fOp2 oAdd (fOp2 oIx (fVar 2) (fC (.int 0))) (fC (.int 1)))) (.nm 8) (fInD true (fSlice (fVar 6) none (some (fVar 8))) (fVar 4)) gLaw_e8 [8]))
    (sIf (fNot (fCall (fnLawLike 4) [(fCall fnFirstWrong [(fVar 2), (fVar 6)]), (fIf (fOp2 (oB bNe) (fVar 14) (fLst [])) (fOp2 oIx (fVar 14) (fC (.int 0))) (fC .non))])) (sRet (fC (.bl false))) sNx))))))))))
def gLaw : Stm := (sSeq (sAsg 1 (fLst [(fOpN oList [(fVar 0)]), (fC (.int 0)), (fC (.int 0))]))
    (sSeq (sAsg 2 (fTup [(fOp2 oAdd (fC (.int 1)) (fCall fnLawDraw [(fVar 1), (fC (.int 3))])), (fC (.int 2))]))
    (sSeq (sIf (fOp2 (oB bLt) (fOp2 oIx (fVar 2) (fC (.int 0))) (fC (.int 3))) (sAsg 2 (fTup [(fOp2 oIx (fVar 2) (fC (.int 0))), (fOp2 oAdd (fC (.int 2)) (fCall fnLawDraw [(fVar 1), (fC (.int 2))]))])) sNx)
    (sSeq (sPar [3, 4] [fDic, (fDic1 true)])
    (sSeq (sFor (itSeq (fCall fnLawAll [(fVar 2), (fTup [])])) (.nm 5) gLaw_b3)
    (sSeq (sFor (itRg1 (fC (.int 20))) (.nm 9) gLaw_b9)
    (sRet (fAnd (fOp2 (oB bEq) (fCall fnCountSheet [(fTup [(fC (.int 2)), (fC (.int 10))]), (fTup [(fC (.int 17)), (fC (.int 7))])]) (fC (.int 18))) (fOp2 (oB bEq) (fCall fnKinds [(fTup [(fC (.int 2)), (fC (.int 10))]), (fTup [(fC (.int 17)), (fC (.int 7))])]) (fLst [(fC (.str "/X")), (fC (.str "-"))]))))))))))
def fnLaw : Fn := defF 17 gLaw
section
variable {P : Program} {w : World} {K : PySem.W.Frag} {mg : Str → Option Value} {base : Heap}
/-! ### last_frames -/
abbrev sLastFrames : Stmt := top 2
theorem scLastFrames : FnScope ["pins", "found", "first", "second", "stand", "third"] ["pins"] (defScope sLastFrames) := ⟨rfl, rfl, rfl, by decide +kernel, rfl, by decide +kernel, by decide +kernel⟩
theorem okLastFrames {f : Addr} {fd : FuncData} (F : Fun K "last_frames" "last_frames" sLastFrames f fd) (G : Gb mg) (T : Tx K mg)  : FnOk P w K mg base CX0 1 f fd ["pins"] (spV K 1 fnLastFrames) :=
  fn_ok (k := 0) F scLastFrames gLastFrames fun cdv A outer s H E hr =>
    (vss_cons (vs_set (i := 1) scLastFrames.nd rfl (by first | exact Or.inl rfl | exact Or.inr rfl) (ve_lst va_nil))
    (vss_cons (vs_for PassesOwn.never rfl (vi_rg1 (by rfl) G.range (ve_bin op_addA s_add (ve_var (pv 0)) ve_int)) (vg_name (i := 2) scLastFrames.nd rfl (by first | exact Or.inl rfl | exact Or.inr rfl)) (vss_one (vs_for PassesOwn.never rfl (vi_rg1 (by rfl) G.range (ve_if (vt_cmp op_lt (s_ofB sb_int) (ve_var (pv 2)) (ve_var (pv 0)) (nomark _)) (ve_bin op_addA s_add (ve_bin op_sub s_sub (ve_var (pv 0)) (ve_var (pv 2))) ve_int) (ve_bin op_addA s_add (ve_var (pv 0)) ve_int))) (vg_name (i := 3) scLastFrames.nd rfl (by first | exact Or.inl rfl | exact Or.inr rfl)) (vss_one (vs_if (vt_cmp (op_eqD (hu64 hr)) (s_ofB sb_eq) (ve_var (pv 2)) (ve_var (pv 0)) (nomark _)) (vss_cons (vs_set (i := 4) scLastFrames.nd rfl (by first | exact Or.inl rfl | exact Or.inr rfl) (ve_if (vt_cmp (op_eqD (hu64 hr)) (s_ofB sb_eq) (ve_var (pv 3)) (ve_var (pv 0)) (nomark _)) (ve_var (pv 0)) (ve_bin op_sub s_sub (ve_var (pv 0)) (ve_var (pv 3)))))
    (vss_one (vs_for PassesOwn.never rfl (vi_rg1 (by rfl) G.range (ve_bin op_addA s_add (ve_var (pv 4)) ve_int)) (vg_name (i := 5) scLastFrames.nd rfl (by first | exact Or.inl rfl | exact Or.inr rfl)) (vss_one (vs_expr (ve_mutL PySem.F.slot_list_append PySem.F.type_list_append mt_append s_app (pv 1) (va_cons (ve_tup (va_cons (ve_var (pv 2)) (va_cons (ve_var (pv 3)) (va_cons (ve_bin op_addA s_add (ve_bin op_addA s_add (ve_var (pv 2)) (ve_var (pv 3))) (ve_var (pv 5))) (va_cons ve_int va_nil))))) va_nil))))))) (vss_one (vs_if (vt_cmp (op_eqD (hu64 hr)) (s_ofB sb_eq) (ve_bin op_addA s_add (ve_var (pv 2)) (ve_var (pv 3))) (ve_var (pv 0)) (nomark _)) (vss_one (vs_for PassesOwn.never rfl (vi_rg1 (by rfl) G.range (ve_bin op_addA s_add (ve_var (pv 0)) ve_int)) (vg_name (i := 5) scLastFrames.nd rfl (by first | exact Or.inl rfl | exact Or.inr rfl)) (vss_one (vs_expr (ve_mutL PySem.F.slot_list_append PySem.F.type_list_append mt_append s_app (pv 1) (va_cons (ve_tup (va_cons (ve_var (pv 2)) (va_cons (ve_var (pv 3)) (va_cons (ve_bin op_addA s_add (ve_var (pv 0)) (ve_var (pv 5))) (va_cons ve_int va_nil))))) va_nil)))))) (vss_one (vs_expr (ve_mutL PySem.F.slot_list_append PySem.F.type_list_append mt_append s_app (pv 1) (va_cons (ve_tup (va_cons (ve_var (pv 2)) (va_cons (ve_var (pv 3)) (va_cons (ve_bin op_addA s_add (ve_var (pv 2)) (ve_var (pv 3))) (va_cons ve_int va_nil))))) va_nil)))))))))))
    (vss_one (vs_ret (ve_var (pv 1))))))
theorem calLastFrames {f : Addr} {fd : FuncData} (F : Fun K "last_frames" "last_frames" sLastFrames f fd) (m : mg "last_frames" = some (.ref f)) (G : Gb mg) (T : Tx K mg)  : Cal P w K mg base "last_frames" 1 1 fnLastFrames :=
  ⟨f, fd, ["pins"], m, F.kp, F.binds (ps := ["pins"]) (fun _ _ _ _ _ _ us hl => match us, hl with | [_], _ => rfl), rfl, okLastFrames F G T ⟩
/-! ### add_row -/
abbrev sAddRow : Stmt := top 3
theorem scAddRow : FnScope ["table", "key", "count", "kinds", "old", "one", "other"] ["table", "key", "count", "kinds"] (defScope sAddRow) := ⟨rfl, rfl, rfl, by decide +kernel, rfl, by decide +kernel, by decide +kernel⟩
theorem okAddRow {f : Addr} {fd : FuncData} (F : Fun K "add_row" "add_row" sAddRow f fd) (G : Gb mg) (T : Tx K mg)  : FnOk P w K mg base CX0 1 f fd ["table", "key", "count", "kinds"] (spV K 4 fnAddRow) :=
  fn_ok (k := 0) F scAddRow gAddRow fun cdv A outer s H E hr =>
    (vss_one (vs_if (vt_inD (hu1 hr) (ve_var (pv 1)) (ve_var (pv 0))) (vss_cons (vs_set (i := 4) scAddRow.nd rfl (by first | exact Or.inl rfl | exact Or.inr rfl) (ve_sub (hu1 hr) (ve_var (pv 0)) (ve_var (pv 1)) fun _ _ => rfl))
    (vss_one (vs_sub (hu1 hr) (pv 0) (ve_var (pv 1)) (ve_tup (va_cons (ve_bin op_addA s_add (ve_sub (hu1 hr) (ve_var (pv 4)) ve_int fun _ _ => rfl) (ve_var (pv 2))) (va_cons (ve_callTy call_tuple_of s_tuple (by rfl) G.tuple (by decide +kernel) (va_cons (ve_lc (own := [("one", 5), ("other", 6)]) rfl scAddRow.nd (vi_zip (by rfl) G.zip (ve_sub (hu1 hr) (ve_var (pv 4)) ve_int fun _ _ => rfl) (ve_var (pv 3))) (blkOk_by (own := [("one", 5), ("other", 6)]) (N := ["table", "key", "count", "kinds", "old", "one", "other"]) (sc := defScope sAddRow) (by decide +kernel)) (fun _ _ _ _ _ => (vg_tup rfl (vgs_cons (vg_name (i := 5) scAddRow.nd rfl (by first | exact Or.inl rfl | exact Or.inr rfl)) (vgs_cons (vg_name (i := 6) scAddRow.nd rfl (by first | exact Or.inl rfl | exact Or.inr rfl)) vgs_nil)))) (fun _ _ _ _ _ => vts_nil) (fun _ _ _ _ _ => (ve_bin op_or s_bitOr (ve_var (pv 5)) (ve_var (pv 6)))) (by intro j hj; simp at hj; simp [tgHas, tgsHas]; omega)) va_nil)) va_nil)))))) (vss_one (vs_sub (hu1 hr) (pv 0) (ve_var (pv 1)) (ve_tup (va_cons (ve_var (pv 2)) (va_cons (ve_var (pv 3)) va_nil)))))))
theorem calAddRow {f : Addr} {fd : FuncData} (F : Fun K "add_row" "add_row" sAddRow f fd) (m : mg "add_row" = some (.ref f)) (G : Gb mg) (T : Tx K mg)  : Cal P w K mg base "add_row" 1 4 fnAddRow :=
  ⟨f, fd, ["table", "key", "count", "kinds"], m, F.kp, F.binds (ps := ["table", "key", "count", "kinds"]) (fun _ _ _ _ _ _ us hl => match us, hl with | [_, _, _, _], _ => rfl), rfl, okAddRow F G T ⟩
/-! ### any_rolls -/
abbrev sAnyRolls : Stmt := top 4
theorem scAnyRolls : FnScope ["pins", "table", "first", "second"] ["pins"] (defScope sAnyRolls) := ⟨rfl, rfl, rfl, by decide +kernel, rfl, by decide +kernel, by decide +kernel⟩
theorem okAnyRolls {f : Addr} {fd : FuncData} (F : Fun K "any_rolls" "any_rolls" sAnyRolls f fd) (G : Gb mg) (T : Tx K mg)  : FnOk P w K mg base CX0 1 f fd ["pins"] (spV K 1 fnAnyRolls) :=
  fn_ok (k := 0) F scAnyRolls gAnyRolls fun cdv A outer s H E hr =>
    (vss_cons (vs_set (i := 1) scAnyRolls.nd rfl (by first | exact Or.inl rfl | exact Or.inr rfl) ve_dic)
    (vss_cons (vs_for PassesOwn.never rfl (vi_rg1 (by rfl) G.range (ve_bin op_addA s_add (ve_var (pv 0)) ve_int)) (vg_name (i := 2) scAnyRolls.nd rfl (by first | exact Or.inl rfl | exact Or.inr rfl)) (vss_one (vs_for PassesOwn.never rfl (vi_rg1 (by rfl) G.range (ve_if (vt_cmp op_lt (s_ofB sb_int) (ve_var (pv 2)) (ve_var (pv 0)) (nomark _)) (ve_bin op_addA s_add (ve_bin op_sub s_sub (ve_var (pv 0)) (ve_var (pv 2))) ve_int) (ve_bin op_addA s_add (ve_var (pv 0)) ve_int))) (vg_name (i := 3) scAnyRolls.nd rfl (by first | exact Or.inl rfl | exact Or.inr rfl)) (vss_one (vs_sub (hu1 hr) (pv 1) (ve_tup (va_cons (ve_var (pv 2)) (va_cons (ve_var (pv 3)) va_nil))) (ve_tup (va_cons ve_int (va_cons (ve_tup va_nil) va_nil))))))))
    (vss_one (vs_ret (ve_var (pv 1))))))
theorem calAnyRolls {f : Addr} {fd : FuncData} (F : Fun K "any_rolls" "any_rolls" sAnyRolls f fd) (m : mg "any_rolls" = some (.ref f)) (G : Gb mg) (T : Tx K mg)  : Cal P w K mg base "any_rolls" 1 1 fnAnyRolls :=
  ⟨f, fd, ["pins"], m, F.kp, F.binds (ps := ["pins"]) (fun _ _ _ _ _ _ us hl => match us, hl with | [_], _ => rfl), rfl, okAnyRolls F G T ⟩
/-! ### last_table -/
abbrev sLastTable : Stmt := top 5
theorem scLastTable : FnScope ["pins", "total", "table", "first", "second", "own", "kind"] ["pins", "total"] (defScope sLastTable) := ⟨rfl, rfl, rfl, by decide +kernel, rfl, by decide +kernel, by decide +kernel⟩
theorem okLastTable {f : Addr} {fd : FuncData} (F : Fun K "last_table" "last_table" sLastTable f fd) (G : Gb mg) (T : Tx K mg) (C_LastFrames : Cal P w K mg base "last_frames" 1 1 fnLastFrames) (C_AddRow : Cal P w K mg base "add_row" 1 4 fnAddRow) : FnOk P w K mg base CX0 2 f fd ["pins", "total"] (spV K 2 fnLastTable) :=
  fn_ok (k := 1) F scLastTable gLastTable fun cdv A outer s H E hr =>
    (vss_cons (vs_set (i := 2) scLastTable.nd rfl (by first | exact Or.inl rfl | exact Or.inr rfl) ve_dic)
    (vss_cons (vs_for PassesOwn.never rfl (vi_seq (ve_call C_LastFrames (hr.mono (by decide)) (va_cons (ve_var (pv 0)) va_nil) rfl (by rfl))) (vg_tup rfl (vgs_cons (vg_name (i := 3) scLastTable.nd rfl (by first | exact Or.inl rfl | exact Or.inr rfl)) (vgs_cons (vg_name (i := 4) scLastTable.nd rfl (by first | exact Or.inl rfl | exact Or.inr rfl)) (vgs_cons (vg_name (i := 5) scLastTable.nd rfl (by first | exact Or.inl rfl | exact Or.inr rfl)) (vgs_cons (vg_name (i := 6) scLastTable.nd rfl (by first | exact Or.inl rfl | exact Or.inr rfl)) vgs_nil))))) (vss_one (vs_if (vt_cmp (op_eqD (hu64 hr)) (s_ofB sb_eq) (ve_var (pv 5)) (ve_var (pv 1)) (nomark _)) (vss_one (vs_expr (ve_call C_AddRow (hr.mono (by decide)) (va_cons (ve_var (pv 2)) (va_cons (ve_tup (va_cons (ve_var (pv 3)) (va_cons (ve_var (pv 4)) va_nil))) (va_cons ve_int (va_cons (ve_tup (va_cons (ve_bin op_shlW s_shl ve_int (ve_var (pv 6))) va_nil)) va_nil)))) rfl (by rfl)))) vss_nil)))
    (vss_one (vs_ret (ve_var (pv 2))))))
theorem calLastTable {f : Addr} {fd : FuncData} (F : Fun K "last_table" "last_table" sLastTable f fd) (m : mg "last_table" = some (.ref f)) (G : Gb mg) (T : Tx K mg) (C_LastFrames : Cal P w K mg base "last_frames" 1 1 fnLastFrames) (C_AddRow : Cal P w K mg base "add_row" 1 4 fnAddRow) : Cal P w K mg base "last_table" 2 2 fnLastTable :=
  ⟨f, fd, ["pins", "total"], m, F.kp, F.binds (ps := ["pins", "total"]) (fun _ _ _ _ _ _ us hl => match us, hl with | [_, _], _ => rfl), rfl, okLastTable F G T C_LastFrames C_AddRow⟩
/-! ### table_before -/
abbrev sTableBefore : Stmt := top 6
theorem scTableBefore : FnScope ["pins", "total", "behind", "table", "key", "row", "count", "kinds", "first"] ["pins", "total", "behind"] (defScope sTableBefore) := ⟨rfl, rfl, rfl, by decide +kernel, rfl, by decide +kernel, by decide +kernel⟩
theorem okTableBefore {f : Addr} {fd : FuncData} (F : Fun K "table_before" "table_before" sTableBefore f fd) (G : Gb mg) (T : Tx K mg) (C_AddRow : Cal P w K mg base "add_row" 1 4 fnAddRow) : FnOk P w K mg base CX0 2 f fd ["pins", "total", "behind"] (spV K 3 fnTableBefore) :=
  fn_ok (k := 1) F scTableBefore gTableBefore fun cdv A outer s H E hr =>
    (vss_cons (vs_set (i := 3) scTableBefore.nd rfl (by first | exact Or.inl rfl | exact Or.inr rfl) ve_dic)
    (vss_cons (vs_for PassesOwn.never rfl (vi_items (ve_var (pv 2))) (vg_tup rfl (vgs_cons (vg_name (i := 4) scTableBefore.nd rfl (by first | exact Or.inl rfl | exact Or.inr rfl)) (vgs_cons (vg_name (i := 5) scTableBefore.nd rfl (by first | exact Or.inl rfl | exact Or.inr rfl)) vgs_nil))) (vss_cons (vs_unp (ve_var (pv 5)) (vg_tup rfl (vgs_cons (vg_name (i := 6) scTableBefore.nd rfl (by first | exact Or.inl rfl | exact Or.inr rfl)) (vgs_cons (vg_name (i := 7) scTableBefore.nd rfl (by first | exact Or.inl rfl | exact Or.inr rfl)) vgs_nil))))
    (vss_cons (vs_if (vt_cmp (op_eqD (hu64 hr)) (s_ofB sb_eq) (ve_bin op_addA s_add (ve_bin op_addA s_add (ve_var (pv 0)) (ve_sub (hu1 hr) (ve_var (pv 4)) ve_int fun _ _ => rfl)) (ve_sub (hu1 hr) (ve_var (pv 4)) ve_int fun _ _ => rfl)) (ve_var (pv 1)) (nomark _)) (vss_one (vs_expr (ve_call C_AddRow (hr.mono (by decide)) (va_cons (ve_var (pv 3)) (va_cons (ve_tup (va_cons (ve_var (pv 0)) (va_cons (ve_sub (hu1 hr) (ve_var (pv 4)) ve_int fun _ _ => rfl) va_nil))) (va_cons (ve_var (pv 6)) (va_cons (ve_tupS (vas_cons ve_int (vas_star (ve_var (pv 7)) vas_nil))) va_nil)))) rfl (by rfl)))) vss_nil)
    (vss_one (vs_for PassesOwn.never rfl (vi_rg1 (by rfl) G.range (ve_var (pv 0))) (vg_name (i := 8) scTableBefore.nd rfl (by first | exact Or.inl rfl | exact Or.inr rfl)) (vss_cons (vs_if (vt_cmp (op_eqD (hu64 hr)) (s_ofB sb_eq) (ve_bin op_addA s_add (ve_var (pv 0)) (ve_sub (hu1 hr) (ve_var (pv 4)) ve_int fun _ _ => rfl)) (ve_var (pv 1)) (nomark _)) (vss_one (vs_expr (ve_call C_AddRow (hr.mono (by decide)) (va_cons (ve_var (pv 3)) (va_cons (ve_tup (va_cons (ve_var (pv 8)) (va_cons (ve_bin op_sub s_sub (ve_var (pv 0)) (ve_var (pv 8))) va_nil))) (va_cons (ve_var (pv 6)) (va_cons (ve_tupS (vas_cons ve_int (vas_star (ve_var (pv 7)) vas_nil))) va_nil)))) rfl (by rfl)))) vss_nil)
    (vss_one (vs_if (PW.pt (vw_and (vt_cmp op_lt (s_ofB sb_int) (ve_var (pv 1)) (ve_var (pv 0)) (nomark _)) (vw_and1 (vt_cmp op_le (s_ofB sb_int) (ve_var (pv 8)) (ve_var (pv 1)) (nomark _))))) (vss_one (vs_expr (ve_call C_AddRow (hr.mono (by decide)) (va_cons (ve_var (pv 3)) (va_cons (ve_tup (va_cons (ve_var (pv 8)) (va_cons (ve_bin op_sub s_sub (ve_var (pv 1)) (ve_var (pv 8))) va_nil))) (va_cons (ve_var (pv 6)) (va_cons (ve_tupS (vas_cons ve_int (vas_star (ve_var (pv 7)) vas_nil))) va_nil)))) rfl (by rfl)))) vss_nil))))))))
    (vss_one (vs_ret (ve_var (pv 3))))))
theorem calTableBefore {f : Addr} {fd : FuncData} (F : Fun K "table_before" "table_before" sTableBefore f fd) (m : mg "table_before" = some (.ref f)) (G : Gb mg) (T : Tx K mg) (C_AddRow : Cal P w K mg base "add_row" 1 4 fnAddRow) : Cal P w K mg base "table_before" 2 3 fnTableBefore :=
  ⟨f, fd, ["pins", "total", "behind"], m, F.kp, F.binds (ps := ["pins", "total", "behind"]) (fun _ _ _ _ _ _ us hl => match us, hl with | [_, _, _], _ => rfl), rfl, okTableBefore F G T C_AddRow⟩
/-! ### table_of -/
abbrev sTableOf : Stmt := top 7
theorem scTableOf : FnScope ["rules", "sheet", "frames", "pins", "table", "rest", "total"] ["rules", "sheet"] (defScope sTableOf) := ⟨rfl, rfl, rfl, by decide +kernel, rfl, by decide +kernel, by decide +kernel⟩
theorem okTableOf {f : Addr} {fd : FuncData} (F : Fun K "table_of" "table_of" sTableOf f fd) (G : Gb mg) (T : Tx K mg) (C_LastTable : Cal P w K mg base "last_table" 2 2 fnLastTable) (C_AnyRolls : Cal P w K mg base "any_rolls" 1 1 fnAnyRolls) (C_TableBefore : Cal P w K mg base "table_before" 2 3 fnTableBefore) : FnOk P w K mg base CX0 3 f fd ["rules", "sheet"] (spV K 2 fnTableOf) :=
  fn_ok (k := 2) F scTableOf gTableOf fun cdv A outer s H E hr =>
    (vss_cons (vs_unp (ve_var (pv 0)) (vg_tup rfl (vgs_cons (vg_name (i := 2) scTableOf.nd rfl (by first | exact Or.inl rfl | exact Or.inr rfl)) (vgs_cons (vg_name (i := 3) scTableOf.nd rfl (by first | exact Or.inl rfl | exact Or.inr rfl)) vgs_nil))))
    (vss_cons (vs_if (vt_cmp (op_eqD (hu64 hr)) (s_ofB sb_eq) (ve_callB c_len s_len (by rfl) G.len PySem.boot_len (va_cons (ve_var (pv 1)) va_nil)) (ve_var (pv 2)) (nomark _)) (vss_cons (vs_set (i := 4) scTableOf.nd rfl (by first | exact Or.inl rfl | exact Or.inr rfl) (ve_call C_LastTable (hr.mono (by decide)) (va_cons (ve_var (pv 3)) (va_cons (ve_sub (hu1 hr) (ve_var (pv 1)) (ve_un un_neg s_neg ve_int) fun _ _ => rfl) va_nil)) rfl (by rfl)))
    (vss_one (vs_set (i := 5) scTableOf.nd rfl (by first | exact Or.inl rfl | exact Or.inr rfl) (ve_slice (ve_var (pv 1)) vo_none (vo_some (ve_un un_neg s_neg ve_int)))))) (vss_cons (vs_set (i := 4) scTableOf.nd rfl (by first | exact Or.inl rfl | exact Or.inr rfl) (ve_call C_AnyRolls (hr.mono (by decide)) (va_cons (ve_var (pv 3)) va_nil) rfl (by rfl)))
    (vss_one (vs_set (i := 5) scTableOf.nd rfl (by first | exact Or.inl rfl | exact Or.inr rfl) (ve_var (pv 1))))))
    (vss_cons (vs_for PassesOwn.never rfl (vi_seq (ve_revT (ve_var (pv 5)))) (vg_name (i := 6) scTableOf.nd rfl (by first | exact Or.inl rfl | exact Or.inr rfl)) (vss_one (vs_set (i := 4) scTableOf.nd rfl (by first | exact Or.inl rfl | exact Or.inr rfl) (ve_call C_TableBefore (hr.mono (by decide)) (va_cons (ve_var (pv 3)) (va_cons (ve_var (pv 6)) (va_cons (ve_var (pv 4)) va_nil))) rfl (by rfl)))))
    (vss_one (vs_ret (ve_var (pv 4)))))))
theorem calTableOf {f : Addr} {fd : FuncData} (F : Fun K "table_of" "table_of" sTableOf f fd) (m : mg "table_of" = some (.ref f)) (G : Gb mg) (T : Tx K mg) (C_LastTable : Cal P w K mg base "last_table" 2 2 fnLastTable) (C_AnyRolls : Cal P w K mg base "any_rolls" 1 1 fnAnyRolls) (C_TableBefore : Cal P w K mg base "table_before" 2 3 fnTableBefore) : Cal P w K mg base "table_of" 3 2 fnTableOf :=
  ⟨f, fd, ["rules", "sheet"], m, F.kp, F.binds (ps := ["rules", "sheet"]) (fun _ _ _ _ _ _ us hl => match us, hl with | [_, _], _ => rfl), rfl, okTableOf F G T C_LastTable C_AnyRolls C_TableBefore⟩
/-! ### count_sheet -/
abbrev sCountSheet : Stmt := top 8
theorem scCountSheet : FnScope ["rules", "sheet", "row"] ["rules", "sheet"] (defScope sCountSheet) := ⟨rfl, rfl, rfl, by decide +kernel, rfl, by decide +kernel, by decide +kernel⟩
theorem okCountSheet {f : Addr} {fd : FuncData} (F : Fun K "count_sheet" "count_sheet" sCountSheet f fd) (G : Gb mg) (T : Tx K mg) (C_TableOf : Cal P w K mg base "table_of" 3 2 fnTableOf) : FnOk P w K mg base CX0 4 f fd ["rules", "sheet"] (spV K 2 fnCountSheet) :=
  fn_ok (k := 3) F scCountSheet gCountSheet fun cdv A outer s H E hr =>
    (vss_one (vs_ret (ve_callB (c_sum rfl) s_sumA (by rfl) G.sum (by decide +kernel) (va_cons (ve_lc (own := [("row", 2)]) rfl scCountSheet.nd (vi_values (ve_call C_TableOf (hr.mono (by decide)) (va_cons (ve_var (pv 0)) (va_cons (ve_var (pv 1)) va_nil)) rfl (by rfl))) (blkOk_by (own := [("row", 2)]) (N := ["rules", "sheet", "row"]) (sc := defScope sCountSheet) (by decide +kernel)) (fun _ _ _ _ _ => (vg_name (i := 2) scCountSheet.nd rfl (by first | exact Or.inl rfl | exact Or.inr rfl))) (fun _ _ _ _ _ => vts_nil) (fun _ _ _ _ _ => (ve_sub (hu1 hr) (ve_var (pv 2)) ve_int fun _ _ => rfl)) (by intro j hj; simp at hj; simp [tgHas, tgsHas]; omega)) va_nil))))
theorem calCountSheet {f : Addr} {fd : FuncData} (F : Fun K "count_sheet" "count_sheet" sCountSheet f fd) (m : mg "count_sheet" = some (.ref f)) (G : Gb mg) (T : Tx K mg) (C_TableOf : Cal P w K mg base "table_of" 3 2 fnTableOf) : Cal P w K mg base "count_sheet" 4 2 fnCountSheet :=
  ⟨f, fd, ["rules", "sheet"], m, F.kp, F.binds (ps := ["rules", "sheet"]) (fun _ _ _ _ _ _ us hl => match us, hl with | [_, _], _ => rfl), rfl, okCountSheet F G T C_TableOf⟩
/-! ### kinds -/
abbrev sKinds : Stmt := top 9
theorem scKinds : FnScope ["rules", "sheet", "found", "row", "one", "other", "bit", "mark", "flags"] ["rules", "sheet"] (defScope sKinds) := ⟨rfl, rfl, rfl, by decide +kernel, rfl, by decide +kernel, by decide +kernel⟩
theorem okKinds {f : Addr} {fd : FuncData} (F : Fun K "kinds" "kinds" sKinds f fd) (G : Gb mg) (T : Tx K mg) (C_TableOf : Cal P w K mg base "table_of" 3 2 fnTableOf) : FnOk P w K mg base CX0 4 f fd ["rules", "sheet"] (spV K 2 fnKinds) :=
  fn_ok (k := 3) F scKinds gKinds fun cdv A outer s H E hr =>
    (vss_cons (vs_set (i := 2) scKinds.nd rfl (by first | exact Or.inl rfl | exact Or.inr rfl) (ve_bin op_mulA s_mul (ve_lst (va_cons ve_int va_nil)) (ve_callB c_len s_len (by rfl) G.len PySem.boot_len (va_cons (ve_var (pv 1)) va_nil))))
    (vss_cons (vs_for PassesOwn.never rfl (vi_values (ve_call C_TableOf (hr.mono (by decide)) (va_cons (ve_var (pv 0)) (va_cons (ve_var (pv 1)) va_nil)) rfl (by rfl))) (vg_name (i := 3) scKinds.nd rfl (by first | exact Or.inl rfl | exact Or.inr rfl)) (vss_one (vs_setLc (i := 2) (own := [("one", 4), ("other", 5)]) rfl scKinds.nd rfl rfl (sw_true rfl rfl rfl (by decide +kernel)) (vi_zip (by rfl) G.zip (ve_var (pv 2)) (ve_sub (hu1 hr) (ve_var (pv 3)) ve_int fun _ _ => rfl)) (blkOk_by (own := [("one", 4), ("other", 5)]) (N := ["rules", "sheet", "found", "row", "one", "other", "bit", "mark", "flags"]) (sc := defScope sKinds) (by decide +kernel)) (fun _ _ _ _ _ => (vg_tup rfl (vgs_cons (vg_name (i := 4) scKinds.nd rfl (by first | exact Or.inl rfl | exact Or.inr rfl)) (vgs_cons (vg_name (i := 5) scKinds.nd rfl (by first | exact Or.inl rfl | exact Or.inr rfl)) vgs_nil)))) (fun _ _ _ _ _ => vts_nil) (fun _ _ _ _ _ => (ve_bin op_or s_bitOr (ve_var (pv 4)) (ve_var (pv 5)))) (by intro j hj; simp at hj; simp [tgHas, tgsHas]; omega))))
    (vss_one (vs_ret (ve_lc (own := [("flags", 8)]) rfl scKinds.nd (vi_seq (ve_var (pv 2))) (blkOk_by (own := [("flags", 8)]) (N := ["rules", "sheet", "found", "row", "one", "other", "bit", "mark", "flags"]) (sc := defScope sKinds) (by decide +kernel)) (fun _ _ _ _ _ => (vg_name (i := 8) scKinds.nd rfl (by first | exact Or.inl rfl | exact Or.inr rfl))) (fun _ _ _ _ _ => vts_nil) (fun _ _ _ _ _ => (ve_join ve_str (ve_lc (own := [("bit", 6), ("mark", 7)]) rfl scKinds.nd (vi_enumS (by rfl) G.enumerate (ve_c (pe_glob (v := .str "-/X") (by rfl) T.MARKS.choose_spec ⟨_, rfl⟩) fun _ => .str _)) (blkOk_by (own := [("bit", 6), ("mark", 7)]) (by kernel_rfl)) (fun _ _ _ _ _ => (vg_tup rfl (vgs_cons (vg_name (i := 6) scKinds.nd rfl (by first | exact Or.inl rfl | exact Or.inr rfl)) (vgs_cons (vg_name (i := 7) scKinds.nd rfl (by first | exact Or.inl rfl | exact Or.inr rfl)) vgs_nil)))) (fun _ _ _ _ _ => (vts_one (vt_tru (ve_bin op_and s_bitAnd (ve_bin op_shr s_shr (ve_var (pv 8)) (ve_var (pv 6))) ve_int)))) (fun _ _ _ _ _ => (ve_var (pv 7))) (by intro j hj; simp at hj; simp [tgHas, tgsHas]; omega)) (fun _ _ h => ⟨_, by cases h; rfl⟩))) (by intro j hj; simp at hj; simp [tgHas, tgsHas]; omega))))))
theorem calKinds {f : Addr} {fd : FuncData} (F : Fun K "kinds" "kinds" sKinds f fd) (m : mg "kinds" = some (.ref f)) (G : Gb mg) (T : Tx K mg) (C_TableOf : Cal P w K mg base "table_of" 3 2 fnTableOf) : Cal P w K mg base "kinds" 4 2 fnKinds :=
  ⟨f, fd, ["rules", "sheet"], m, F.kp, F.binds (ps := ["rules", "sheet"]) (fun _ _ _ _ _ _ us hl => match us, hl with | [_, _], _ => rfl), rfl, okKinds F G T C_TableOf⟩
/-! ### first_wrong -/
abbrev sFirstWrong : Stmt := top 10
theorem scFirstWrong : FnScope ["rules", "sheet", "index"] ["rules", "sheet"] (defScope sFirstWrong) := ⟨rfl, rfl, rfl, by decide +kernel, rfl, by decide +kernel, by decide +kernel⟩
theorem okFirstWrong {f : Addr} {fd : FuncData} (F : Fun K "first_wrong" "first_wrong" sFirstWrong f fd) (G : Gb mg) (T : Tx K mg) (C_TableOf : Cal P w K mg base "table_of" 3 2 fnTableOf) : FnOk P w K mg base CX0 4 f fd ["rules", "sheet"] (spV K 2 fnFirstWrong) :=
  fn_ok (k := 3) F scFirstWrong gFirstWrong fun cdv A outer s H E hr =>
    (vss_cons (vs_for PassesOwn.never rfl (vi_rg1 (by rfl) G.range (ve_callB c_len s_len (by rfl) G.len PySem.boot_len (va_cons (ve_var (pv 1)) va_nil))) (vg_name (i := 2) scFirstWrong.nd rfl (by first | exact Or.inl rfl | exact Or.inr rfl)) (vss_one (vs_if (vt_cmp (op_eqE (hu64 hr)) (s_ofB sb_eqE) (ve_call C_TableOf (hr.mono (by decide)) (va_cons (ve_var (pv 0)) (va_cons (ve_slice (ve_var (pv 1)) vo_none (vo_some (ve_bin op_addA s_add (ve_var (pv 2)) ve_int))) va_nil)) rfl (by rfl)) ve_dic (nomark _)) (vss_one (vs_ret (ve_var (pv 2)))) vss_nil)))
    (vss_one (vs_ret ve_non)))
theorem calFirstWrong {f : Addr} {fd : FuncData} (F : Fun K "first_wrong" "first_wrong" sFirstWrong f fd) (m : mg "first_wrong" = some (.ref f)) (G : Gb mg) (T : Tx K mg) (C_TableOf : Cal P w K mg base "table_of" 3 2 fnTableOf) : Cal P w K mg base "first_wrong" 4 2 fnFirstWrong :=
  ⟨f, fd, ["rules", "sheet"], m, F.kp, F.binds (ps := ["rules", "sheet"]) (fun _ _ _ _ _ _ us hl => match us, hl with | [_, _], _ => rfl), rfl, okFirstWrong F G T C_TableOf⟩
/-! ### _law_draw -/
abbrev sLawDraw : Stmt := top 12
theorem scLawDraw : FnScope ["tape", "many", "prime", "cell", "found"] ["tape", "many"] (defScope sLawDraw) := ⟨rfl, rfl, rfl, by decide +kernel, rfl, by decide +kernel, by decide +kernel⟩
theorem okLawDraw {f : Addr} {fd : FuncData} (F : Fun K "_law_draw" "_law_draw" sLawDraw f fd) (G : Gb mg) (T : Tx K mg)  : FnOk P w K mg base CX0 1 f fd ["tape", "many"] (spV K 2 fnLawDraw) :=
  fn_ok (k := 0) F scLawDraw gLawDraw fun cdv A outer s H E hr =>
    (vss_cons (vs_set (i := 2) scLawDraw.nd rfl (by first | exact Or.inl rfl | exact Or.inr rfl) ve_int)
    (vss_cons (vs_if (vt_cmp op_lt (s_ofB sb_int) (ve_sub (hu1 hr) (ve_var (pv 0)) ve_int fun _ _ => rfl) (ve_var (pv 1)) (nomark _)) (vss_cons (vs_set (i := 3) scLawDraw.nd rfl (by first | exact Or.inl rfl | exact Or.inr rfl) ve_int)
    (vss_cons (vs_if (vt_cmp op_gt (s_ofB sb_int) (ve_callB c_len s_len (by rfl) G.len PySem.boot_len (va_cons (ve_sub (hu1 hr) (ve_var (pv 0)) ve_int fun _ _ => rfl) va_nil)) ve_int (nomark _)) (vss_one (vs_set (i := 3) scLawDraw.nd rfl (by first | exact Or.inl rfl | exact Or.inr rfl) (ve_sub (hu1 hr) (ve_sub (hu1 hr) (ve_var (pv 0)) ve_int fun _ _ => rfl) (ve_bin op_mod s_mod (ve_sub (hu1 hr) (ve_var (pv 0)) ve_int fun _ _ => rfl) (ve_callB c_len s_len (by rfl) G.len PySem.boot_len (va_cons (ve_sub (hu1 hr) (ve_var (pv 0)) ve_int fun _ _ => rfl) va_nil))) fun _ _ => rfl))) vss_nil)
    (vss_cons (vs_if (PW.pt (vw_or (vt_cmp op_ge (s_ofB sb_int) (ve_sub (hu1 hr) (ve_var (pv 0)) ve_int fun _ _ => rfl) (ve_callB c_len s_len (by rfl) G.len PySem.boot_len (va_cons (ve_sub (hu1 hr) (ve_var (pv 0)) ve_int fun _ _ => rfl) va_nil)) (nomark _)) (vw_or1 (vt_cmp op_lt (s_ofB sb_int) (ve_var (pv 3)) (ve_bin op_pow s_pow ve_int ve_int) (nomark _))))) (vss_cons (vs_set (i := 3) scLawDraw.nd rfl (by first | exact Or.inl rfl | exact Or.inr rfl) (ve_bin op_mod s_mod (ve_bin op_addA s_add (ve_var (pv 3)) (ve_bin op_mulA s_mul ve_int (ve_sub (hu1 hr) (ve_var (pv 0)) ve_int fun _ _ => rfl))) (ve_var (pv 2))))
    (vss_cons (vs_set (i := 3) scLawDraw.nd rfl (by first | exact Or.inl rfl | exact Or.inr rfl) (ve_bin op_mod s_mod (ve_bin op_addA s_add (ve_bin op_addA s_add (ve_bin op_mulA s_mul (ve_var (pv 3)) (ve_var (pv 3))) (ve_bin op_mulA s_mul ve_int (ve_var (pv 3)))) ve_int) (ve_var (pv 2))))
    (vss_one (vs_set (i := 3) scLawDraw.nd rfl (by first | exact Or.inl rfl | exact Or.inr rfl) (ve_bin op_mod s_mod (ve_bin op_addA s_add (ve_bin op_mulA s_mul (ve_var (pv 3)) (ve_var (pv 3))) ve_int) (ve_var (pv 2))))))) vss_nil)
    (vss_cons (vs_sub (hu1 hr) (pv 0) ve_int (ve_bin op_addA s_add (ve_sub (hu1 hr) (ve_var (pv 0)) ve_int fun _ _ => rfl) ve_int))
    (vss_one (vs_sub (hu1 hr) (pv 0) ve_int (ve_var (pv 3)))))))) vss_nil)
    (vss_cons (vs_set (i := 4) scLawDraw.nd rfl (by first | exact Or.inl rfl | exact Or.inr rfl) (ve_bin op_mod s_mod (ve_sub (hu1 hr) (ve_var (pv 0)) ve_int fun _ _ => rfl) (ve_var (pv 1))))
    (vss_cons (vs_sub (hu1 hr) (pv 0) ve_int (ve_bin op_fdivW s_fdiv (ve_sub (hu1 hr) (ve_var (pv 0)) ve_int fun _ _ => rfl) (ve_var (pv 1))))
    (vss_one (vs_ret (ve_var (pv 4))))))))
theorem calLawDraw {f : Addr} {fd : FuncData} (F : Fun K "_law_draw" "_law_draw" sLawDraw f fd) (m : mg "_law_draw" = some (.ref f)) (G : Gb mg) (T : Tx K mg)  : Cal P w K mg base "_law_draw" 1 2 fnLawDraw :=
  ⟨f, fd, ["tape", "many"], m, F.kp, F.binds (ps := ["tape", "many"]) (fun _ _ _ _ _ _ us hl => match us, hl with | [_, _], _ => rfl), rfl, okLawDraw F G T ⟩
/-! ### _law_like -/
abbrev sLawLike : Stmt := top 13
theorem scLawLike : FnScope ["one", "two", "k"] ["one", "two"] (defScope sLawLike) := ⟨rfl, rfl, rfl, by decide +kernel, rfl, by decide +kernel, by decide +kernel⟩
theorem okLawLike (self : Fn) (k : Nat) (hk : 0 ≤ k) {f : Addr} {fd : FuncData} (F : Fun K "_law_like" "_law_like" sLawLike f fd) (G : Gb mg) (T : Tx K mg)  (C_LawLike : Cal P w K mg base "_law_like" k 2 self) : FnOk P w K mg base CX0 (k + 1) f fd ["one", "two"] (spV K 2 (defF 1 (gLawLike self))) :=
  fn_ok (k := k) F scLawLike (gLawLike self) fun cdv A outer s H E hr =>
    (vss_cons (vs_if (vt_val (ve_isi2 (T := "list") (U := "tuple") (by decide) (by decide) (by rfl) G.isinstance (ve_var (pv 0)) (pe_bltn (v := .ty "list") (u := .type "list") (by rfl) G.list (by decide +kernel) rfl) (pe_bltn (v := .ty "tuple") (u := .type "tuple") (by rfl) G.tuple (by decide +kernel) rfl))) (vss_cons (vs_if (PW.pt (vw_or (vt_cmp (op_neD (hu64 hr)) (s_ofB sb_ne) (ve_isi (T := "list") (by decide) (by rfl) G.isinstance (ve_var (pv 0)) (pe_bltn (v := .ty "list") (u := .type "list") (by rfl) G.list (by decide +kernel) rfl)) (ve_isi (T := "list") (by decide) (by rfl) G.isinstance (ve_var (pv 1)) (pe_bltn (v := .ty "list") (u := .type "list") (by rfl) G.list (by decide +kernel) rfl)) (nomark _)) (vw_or1 (vt_cmp (op_neD (hu64 hr)) (s_ofB sb_ne) (ve_isi (T := "tuple") (by decide) (by rfl) G.isinstance (ve_var (pv 0)) (pe_bltn (v := .ty "tuple") (u := .type "tuple") (by rfl) G.tuple (by decide +kernel) rfl)) (ve_isi (T := "tuple") (by decide) (by rfl) G.isinstance (ve_var (pv 1)) (pe_bltn (v := .ty "tuple") (u := .type "tuple") (by rfl) G.tuple (by decide +kernel) rfl)) (nomark _))))) (vss_one (vs_ret ve_bl)) vss_nil)
    (vss_cons (vs_if (vt_cmp (op_neD (hu64 hr)) (s_ofB sb_ne) (ve_callB c_len s_len (by rfl) G.len PySem.boot_len (va_cons (ve_var (pv 0)) va_nil)) (ve_callB c_len s_len (by rfl) G.len PySem.boot_len (va_cons (ve_var (pv 1)) va_nil)) (nomark _)) (vss_one (vs_ret ve_bl)) vss_nil)
    (vss_one (vs_ret (ve_cmp (op_eqD (hu64 hr)) (s_ofB sb_eq) (ve_lc (own := [("k", 2)]) rfl scLawLike.nd (vi_rg1 (by rfl) G.range (ve_callB c_len s_len (by rfl) G.len PySem.boot_len (va_cons (ve_var (pv 0)) va_nil))) (blkOk_by (own := [("k", 2)]) (N := ["one", "two", "k"]) (sc := defScope sLawLike) (by decide +kernel)) (fun _ _ _ _ _ => (vg_name (i := 2) scLawLike.nd rfl (by first | exact Or.inl rfl | exact Or.inr rfl))) (fun _ _ _ _ _ => (vts_one (vt_not (vt_val (ve_call C_LawLike (hr.mono (by omega)) (va_cons (ve_sub (hu1 hr) (ve_var (pv 0)) (ve_var (pv 2)) fun _ _ => rfl) (va_cons (ve_sub (hu1 hr) (ve_var (pv 1)) (ve_var (pv 2)) fun _ _ => rfl) va_nil)) rfl (by rfl)))))) (fun _ _ _ _ _ => (ve_var (pv 2))) (by intro j hj; simp at hj; simp [tgHas, tgsHas]; omega)) (ve_lst va_nil) (nomark _)))))) vss_nil)
    (vss_cons (vs_if (vt_val (ve_isi2 (T := "list") (U := "tuple") (by decide) (by decide) (by rfl) G.isinstance (ve_var (pv 1)) (pe_bltn (v := .ty "list") (u := .type "list") (by rfl) G.list (by decide +kernel) rfl) (pe_bltn (v := .ty "tuple") (u := .type "tuple") (by rfl) G.tuple (by decide +kernel) rfl))) (vss_one (vs_ret ve_bl)) vss_nil)
    (vss_one (vs_ret (ve_and (ve_cmp (op_eqD (hu64 hr)) (s_ofB sb_eq) (ve_isi (T := "bool") (by decide) (by rfl) G.isinstance (ve_var (pv 0)) (pe_bltn (v := .ty "bool") (u := .type "bool") (by rfl) G.bool (by decide +kernel) rfl)) (ve_isi (T := "bool") (by decide) (by rfl) G.isinstance (ve_var (pv 1)) (pe_bltn (v := .ty "bool") (u := .type "bool") (by rfl) G.bool (by decide +kernel) rfl)) (nomark _)) (ve_one (ve_cmp (op_eqD (hu64 hr)) (s_ofB sb_eq) (ve_var (pv 0)) (ve_var (pv 1)) (nomark _))))))))
theorem calLawLike {f : Addr} {fd : FuncData} (F : Fun K "_law_like" "_law_like" sLawLike f fd) (m : mg "_law_like" = some (.ref f)) (G : Gb mg) (T : Tx K mg)  : ∀ j : Nat, Cal P w K mg base "_law_like" (0 + j) 2 (fnLawLike j)
  | 0 => ⟨f, fd, ["one", "two"], m, F.kp, F.binds (ps := ["one", "two"]) (fun _ _ _ _ _ _ us hl => match us, hl with | [_, _], _ => rfl), rfl, ⟨fun vs H Q E h => h.1, fun A outer s H args us vs Q E hr e0 hb hv h => by obtain ⟨_, _, _, _, _, _, e, _⟩ := h; cases e⟩⟩
  | j + 1 => ⟨f, fd, ["one", "two"], m, F.kp, F.binds (ps := ["one", "two"]) (fun _ _ _ _ _ _ us hl => match us, hl with | [_, _], _ => rfl), rfl, okLawLike (fnLawLike j) (0 + j) (Nat.le_add_right _ _) F G T  (calLawLike F m G T  j)⟩
/-! ### _law_needed -/
abbrev sLawNeeded : Stmt := top 14
theorem scLawNeeded : FnScope ["pins", "last", "frame"] ["pins", "last", "frame"] (defScope sLawNeeded) := ⟨rfl, rfl, rfl, by decide +kernel, rfl, by decide +kernel, by decide +kernel⟩
theorem okLawNeeded {f : Addr} {fd : FuncData} (F : Fun K "_law_needed" "_law_needed" sLawNeeded f fd) (G : Gb mg) (T : Tx K mg)  : FnOk P w K mg base CX0 1 f fd ["pins", "last", "frame"] (spV K 3 fnLawNeeded) :=
  fn_ok (k := 0) F scLawNeeded gLawNeeded fun cdv A outer s H E hr =>
    (vss_cons (vs_if (vt_cmp (op_eqD (hu64 hr)) (s_ofB sb_eq) (ve_var (pv 2)) (ve_tup va_nil) (nomark _)) (vss_one (vs_ret ve_int)) vss_nil)
    (vss_cons (vs_if (vt_not (vt_val (ve_var (pv 1)))) (vss_one (vs_ret (ve_if (PW.pt (vw_or (vt_cmp (op_eqD (hu64 hr)) (s_ofB sb_eq) (ve_sub (hu1 hr) (ve_var (pv 2)) ve_int fun _ _ => rfl) (ve_var (pv 0)) (nomark _)) (vw_or1 (vt_cmp (op_eqD (hu64 hr)) (s_ofB sb_eq) (ve_callB c_len s_len (by rfl) G.len PySem.boot_len (va_cons (ve_var (pv 2)) va_nil)) ve_int (nomark _))))) (ve_callB c_len s_len (by rfl) G.len PySem.boot_len (va_cons (ve_var (pv 2)) va_nil)) ve_int))) vss_nil)
    (vss_cons (vs_if (PW.pt (vw_or (vt_cmp (op_eqD (hu64 hr)) (s_ofB sb_eq) (ve_callB c_len s_len (by rfl) G.len PySem.boot_len (va_cons (ve_var (pv 2)) va_nil)) ve_int (nomark _)) (vw_or1 (PW.pt (vw_and (vt_cmp (op_eqD (hu64 hr)) (s_ofB sb_eq) (ve_callB c_len s_len (by rfl) G.len PySem.boot_len (va_cons (ve_var (pv 2)) va_nil)) ve_int (nomark _)) (vw_and (vt_cmp op_lt (s_ofB sb_int) (ve_sub (hu1 hr) (ve_var (pv 2)) ve_int fun _ _ => rfl) (ve_var (pv 0)) (nomark _)) (vw_and1 (vt_cmp op_lt (s_ofB sb_int) (ve_callB (c_sum rfl) s_sumA (by rfl) G.sum (by decide +kernel) (va_cons (ve_var (pv 2)) va_nil)) (ve_var (pv 0)) (nomark _))))))))) (vss_one (vs_ret (ve_callB c_len s_len (by rfl) G.len PySem.boot_len (va_cons (ve_var (pv 2)) va_nil)))) vss_nil)
    (vss_one (vs_ret ve_int)))))
theorem calLawNeeded {f : Addr} {fd : FuncData} (F : Fun K "_law_needed" "_law_needed" sLawNeeded f fd) (m : mg "_law_needed" = some (.ref f)) (G : Gb mg) (T : Tx K mg)  : Cal P w K mg base "_law_needed" 1 3 fnLawNeeded :=
  ⟨f, fd, ["pins", "last", "frame"], m, F.kp, F.binds (ps := ["pins", "last", "frame"]) (fun _ _ _ _ _ _ us hl => match us, hl with | [_, _, _], _ => rfl), rfl, okLawNeeded F G T ⟩
/-! ### _law_stands -/
abbrev sLawStands : Stmt := top 15
theorem scLawStands : FnScope ["pins", "frame", "stand", "roll"] ["pins", "frame"] (defScope sLawStands) := ⟨rfl, rfl, rfl, by decide +kernel, rfl, by decide +kernel, by decide +kernel⟩
theorem okLawStands {f : Addr} {fd : FuncData} (F : Fun K "_law_stands" "_law_stands" sLawStands f fd) (G : Gb mg) (T : Tx K mg)  : FnOk P w K mg base CX0 1 f fd ["pins", "frame"] (spV K 2 fnLawStands) :=
  fn_ok (k := 0) F scLawStands gLawStands fun cdv A outer s H E hr =>
    (vss_cons (vs_set (i := 2) scLawStands.nd rfl (by first | exact Or.inl rfl | exact Or.inr rfl) (ve_var (pv 0)))
    (vss_cons (vs_for PassesOwn.never rfl (vi_seq (ve_var (pv 1))) (vg_name (i := 3) scLawStands.nd rfl (by first | exact Or.inl rfl | exact Or.inr rfl)) (vss_cons (vs_set (i := 2) scLawStands.nd rfl (by first | exact Or.inl rfl | exact Or.inr rfl) (ve_bin op_sub s_sub (ve_var (pv 2)) (ve_var (pv 3))))
    (vss_one (vs_if (vt_cmp (op_eqD (hu64 hr)) (s_ofB sb_eq) (ve_var (pv 2)) ve_int (nomark _)) (vss_one (vs_set (i := 2) scLawStands.nd rfl (by first | exact Or.inl rfl | exact Or.inr rfl) (ve_var (pv 0)))) vss_nil))))
    (vss_one (vs_ret (ve_var (pv 2))))))
theorem calLawStands {f : Addr} {fd : FuncData} (F : Fun K "_law_stands" "_law_stands" sLawStands f fd) (m : mg "_law_stands" = some (.ref f)) (G : Gb mg) (T : Tx K mg)  : Cal P w K mg base "_law_stands" 1 2 fnLawStands :=
  ⟨f, fd, ["pins", "frame"], m, F.kp, F.binds (ps := ["pins", "frame"]) (fun _ _ _ _ _ _ us hl => match us, hl with | [_, _], _ => rfl), rfl, okLawStands F G T ⟩
/-! ### _law_split -/
abbrev sLawSplit : Stmt := top 16
theorem scLawSplit : FnScope ["rules", "rolls", "found", "roll"] ["rules", "rolls"] (defScope sLawSplit) := ⟨rfl, rfl, rfl, by decide +kernel, rfl, by decide +kernel, by decide +kernel⟩
theorem okLawSplit {f : Addr} {fd : FuncData} (F : Fun K "_law_split" "_law_split" sLawSplit f fd) (G : Gb mg) (T : Tx K mg) (C_LawStands : Cal P w K mg base "_law_stands" 1 2 fnLawStands) (C_LawNeeded : Cal P w K mg base "_law_needed" 1 3 fnLawNeeded) : FnOk P w K mg base CX0 2 f fd ["rules", "rolls"] (spV K 2 fnLawSplit) :=
  fn_ok (k := 1) F scLawSplit gLawSplit fun cdv A outer s H E hr =>
    (vss_cons (vs_set (i := 2) scLawSplit.nd rfl (by first | exact Or.inl rfl | exact Or.inr rfl) (ve_lst (va_cons (ve_tup va_nil) va_nil)))
    (vss_cons (vs_for PassesOwn.never rfl (vi_seq (ve_var (pv 1))) (vg_name (i := 3) scLawSplit.nd rfl (by first | exact Or.inl rfl | exact Or.inr rfl)) (vss_cons (vs_if (vt_cmp op_gt (s_ofB sb_int) (ve_callB c_len s_len (by rfl) G.len PySem.boot_len (va_cons (ve_var (pv 2)) va_nil)) (ve_sub (hu1 hr) (ve_var (pv 0)) ve_int fun _ _ => rfl) (nomark _)) (vss_one (vs_ret ve_non)) vss_nil)
    (vss_cons (vs_if (vt_not (vt_chain op_le op_le sb_int sb_int ve_int (ve_var (pv 3)) (ve_call C_LawStands (hr.mono (by decide)) (va_cons (ve_sub (hu1 hr) (ve_var (pv 0)) ve_int fun _ _ => rfl) (va_cons (ve_sub (hu1 hr) (ve_var (pv 2)) (ve_un un_neg s_neg ve_int) fun _ _ => rfl) va_nil)) rfl (by rfl)))) (vss_one (vs_ret ve_non)) vss_nil)
    (vss_cons (vs_sub (hu1 hr) (pv 2) (ve_un un_neg s_neg ve_int) (ve_bin op_addA s_add (ve_sub (hu1 hr) (ve_var (pv 2)) (ve_un un_neg s_neg ve_int) fun _ _ => rfl) (ve_tup (va_cons (ve_var (pv 3)) va_nil))))
    (vss_one (vs_if (vt_cmp op_gt (s_ofB sb_int) (ve_call C_LawNeeded (hr.mono (by decide)) (va_cons (ve_sub (hu1 hr) (ve_var (pv 0)) ve_int fun _ _ => rfl) (va_cons (ve_cmp (op_eqD (hu64 hr)) (s_ofB sb_eq) (ve_callB c_len s_len (by rfl) G.len PySem.boot_len (va_cons (ve_var (pv 2)) va_nil)) (ve_sub (hu1 hr) (ve_var (pv 0)) ve_int fun _ _ => rfl) (nomark _)) (va_cons (ve_sub (hu1 hr) (ve_var (pv 2)) (ve_un un_neg s_neg ve_int) fun _ _ => rfl) va_nil))) rfl (by rfl)) ve_int (nomark _)) (vss_one (vs_expr (ve_mutL PySem.F.slot_list_append PySem.F.type_list_append mt_append s_app (pv 2) (va_cons (ve_tup va_nil) va_nil)))) vss_nil))))))
    (vss_one (vs_ret (ve_var (pv 2))))))
theorem calLawSplit {f : Addr} {fd : FuncData} (F : Fun K "_law_split" "_law_split" sLawSplit f fd) (m : mg "_law_split" = some (.ref f)) (G : Gb mg) (T : Tx K mg) (C_LawStands : Cal P w K mg base "_law_stands" 1 2 fnLawStands) (C_LawNeeded : Cal P w K mg base "_law_needed" 1 3 fnLawNeeded) : Cal P w K mg base "_law_split" 2 2 fnLawSplit :=
  ⟨f, fd, ["rules", "rolls"], m, F.kp, F.binds (ps := ["rules", "rolls"]) (fun _ _ _ _ _ _ us hl => match us, hl with | [_, _], _ => rfl), rfl, okLawSplit F G T C_LawStands C_LawNeeded⟩
/-! ### _law_parts -/
abbrev sLawParts : Stmt := top 17
theorem scLawParts : FnScope ["rules", "rolls", "found", "begun", "frames", "number", "frame", "size", "closed"] ["rules", "rolls"] (defScope sLawParts) := ⟨rfl, rfl, rfl, by decide +kernel, rfl, by decide +kernel, by decide +kernel⟩
theorem okLawParts {f : Addr} {fd : FuncData} (F : Fun K "_law_parts" "_law_parts" sLawParts f fd) (G : Gb mg) (T : Tx K mg) (C_LawSplit : Cal P w K mg base "_law_split" 2 2 fnLawSplit) (C_LawNeeded : Cal P w K mg base "_law_needed" 1 3 fnLawNeeded) : FnOk P w K mg base CX0 3 f fd ["rules", "rolls"] (spV K 2 fnLawParts) :=
  fn_ok (k := 2) F scLawParts gLawParts fun cdv A outer s H E hr =>
    (vss_cons (vs_par3 (i := 2) (j := 3) (l := 4) rfl scLawParts.nd rfl rfl rfl (by decide) (by decide) (by decide) rfl rfl rfl (va_cons (ve_lst va_nil) (va_cons ve_int (va_cons (ve_call C_LawSplit (hr.mono (by decide)) (va_cons (ve_var (pv 0)) (va_cons (ve_var (pv 1)) va_nil)) rfl (by rfl)) va_nil))) (by rfl))
    (vss_cons (vs_for PassesOwn.never rfl (vi_enum (by rfl) G.enumerate (ve_slice (ve_var (pv 4)) vo_none (vo_some (ve_sub (hu1 hr) (ve_var (pv 0)) ve_int fun _ _ => rfl)))) (vg_tup rfl (vgs_cons (vg_name (i := 5) scLawParts.nd rfl (by first | exact Or.inl rfl | exact Or.inr rfl)) (vgs_cons (vg_name (i := 6) scLawParts.nd rfl (by first | exact Or.inl rfl | exact Or.inr rfl)) vgs_nil))) (vss_cons (vs_set (i := 7) scLawParts.nd rfl (by first | exact Or.inl rfl | exact Or.inr rfl) (ve_callB c_len s_len (by rfl) G.len PySem.boot_len (va_cons (ve_var (pv 6)) va_nil)))
    (vss_cons (vs_set (i := 8) scLawParts.nd rfl (by first | exact Or.inl rfl | exact Or.inr rfl) (ve_cmp op_gt (s_ofB sb_int) (ve_call C_LawNeeded (hr.mono (by decide)) (va_cons (ve_sub (hu1 hr) (ve_var (pv 0)) ve_int fun _ _ => rfl) (va_cons (ve_cmp (op_eqD (hu64 hr)) (s_ofB sb_eq) (ve_var (pv 5)) (ve_bin op_sub s_sub (ve_sub (hu1 hr) (ve_var (pv 0)) ve_int fun _ _ => rfl) ve_int) (nomark _)) (va_cons (ve_var (pv 6)) va_nil))) rfl (by rfl)) ve_int (nomark _)))
    (vss_cons (vs_if (PW.pt (vw_and (vt_cmp op_lt (s_ofB sb_int) (ve_var (pv 5)) (ve_bin op_sub s_sub (ve_sub (hu1 hr) (ve_var (pv 0)) ve_int fun _ _ => rfl) ve_int) (nomark _)) (vw_and1 (vt_cmp (op_eqD (hu64 hr)) (s_ofB sb_eq) (ve_callB (c_sum rfl) s_sumA (by rfl) G.sum (by decide +kernel) (va_cons (ve_var (pv 6)) va_nil)) (ve_sub (hu1 hr) (ve_var (pv 0)) ve_int fun _ _ => rfl) (nomark _))))) (vss_one (vs_set (i := 7) scLawParts.nd rfl (by first | exact Or.inl rfl | exact Or.inr rfl) ve_int)) vss_nil)
    (vss_cons (vs_if (vt_cmp (op_neD (hu64 hr)) (s_ofB sb_ne) (ve_var (pv 6)) (ve_tup va_nil) (nomark _)) (vss_one (vs_expr (ve_mutL PySem.F.slot_list_append PySem.F.type_list_append mt_append s_app (pv 2) (va_cons (ve_tup (va_cons (ve_slice (ve_var (pv 1)) (vo_some (ve_var (pv 3))) (vo_some (ve_bin op_addA s_add (ve_var (pv 3)) (ve_var (pv 7))))) (va_cons (ve_and (ve_var (pv 8)) (ve_one (ve_cmp op_le (s_ofB sb_int) (ve_bin op_addA s_add (ve_var (pv 3)) (ve_var (pv 7))) (ve_callB c_len s_len (by rfl) G.len PySem.boot_len (va_cons (ve_var (pv 1)) va_nil)) (nomark _)))) va_nil))) va_nil)))) vss_nil)
    (vss_one (vs_set (i := 3) scLawParts.nd rfl (by first | exact Or.inl rfl | exact Or.inr rfl) (ve_bin op_addA s_add (ve_var (pv 3)) (ve_callB c_len s_len (by rfl) G.len PySem.boot_len (va_cons (ve_var (pv 6)) va_nil))))))))))
    (vss_one (vs_ret (ve_var (pv 2))))))
theorem calLawParts {f : Addr} {fd : FuncData} (F : Fun K "_law_parts" "_law_parts" sLawParts f fd) (m : mg "_law_parts" = some (.ref f)) (G : Gb mg) (T : Tx K mg) (C_LawSplit : Cal P w K mg base "_law_split" 2 2 fnLawSplit) (C_LawNeeded : Cal P w K mg base "_law_needed" 1 3 fnLawNeeded) : Cal P w K mg base "_law_parts" 3 2 fnLawParts :=
  ⟨f, fd, ["rules", "rolls"], m, F.kp, F.binds (ps := ["rules", "rolls"]) (fun _ _ _ _ _ _ us hl => match us, hl with | [_, _], _ => rfl), rfl, okLawParts F G T C_LawSplit C_LawNeeded⟩
/-! ### _law_settled -/
abbrev sLawSettled : Stmt := top 18
theorem scLawSettled : FnScope ["rules", "rolls", "found", "part", "settled"] ["rules", "rolls"] (defScope sLawSettled) := ⟨rfl, rfl, rfl, by decide +kernel, rfl, by decide +kernel, by decide +kernel⟩
theorem okLawSettled {f : Addr} {fd : FuncData} (F : Fun K "_law_settled" "_law_settled" sLawSettled f fd) (G : Gb mg) (T : Tx K mg) (C_LawParts : Cal P w K mg base "_law_parts" 3 2 fnLawParts) : FnOk P w K mg base CX0 4 f fd ["rules", "rolls"] (spV K 2 fnLawSettled) :=
  fn_ok (k := 3) F scLawSettled gLawSettled fun cdv A outer s H E hr =>
    (vss_cons (vs_set (i := 2) scLawSettled.nd rfl (by first | exact Or.inl rfl | exact Or.inr rfl) (ve_lst va_nil))
    (vss_cons (vs_for PassesOwn.never rfl (vi_seq (ve_call C_LawParts (hr.mono (by decide)) (va_cons (ve_var (pv 0)) (va_cons (ve_var (pv 1)) va_nil)) rfl (by rfl))) (vg_tup rfl (vgs_cons (vg_name (i := 3) scLawSettled.nd rfl (by first | exact Or.inl rfl | exact Or.inr rfl)) (vgs_cons (vg_name (i := 4) scLawSettled.nd rfl (by first | exact Or.inl rfl | exact Or.inr rfl)) vgs_nil))) (vss_one (vs_if (vt_val (ve_var (pv 4))) (vss_one (vs_expr (ve_mutL PySem.F.slot_list_append PySem.F.type_list_append mt_append s_app (pv 2) (va_cons (ve_callB (c_sum rfl) s_sumA (by rfl) G.sum (by decide +kernel) (va_cons (ve_var (pv 3)) va_nil)) va_nil)))) vss_nil)))
    (vss_one (vs_ret (ve_var (pv 2))))))
theorem calLawSettled {f : Addr} {fd : FuncData} (F : Fun K "_law_settled" "_law_settled" sLawSettled f fd) (m : mg "_law_settled" = some (.ref f)) (G : Gb mg) (T : Tx K mg) (C_LawParts : Cal P w K mg base "_law_parts" 3 2 fnLawParts) : Cal P w K mg base "_law_settled" 4 2 fnLawSettled :=
  ⟨f, fd, ["rules", "rolls"], m, F.kp, F.binds (ps := ["rules", "rolls"]) (fun _ _ _ _ _ _ us hl => match us, hl with | [_, _], _ => rfl), rfl, okLawSettled F G T C_LawParts⟩
/-! ### _law_all -/
abbrev sLawAll : Stmt := top 19
theorem scLawAll : FnScope ["rules", "rolls", "found", "open_so", "longer", "more", "frames", "stand", "roll"] ["rules", "rolls"] (defScope sLawAll) := ⟨rfl, rfl, rfl, by decide +kernel, rfl, by decide +kernel, by decide +kernel⟩
theorem okLawAll {f : Addr} {fd : FuncData} (F : Fun K "_law_all" "_law_all" sLawAll f fd) (G : Gb mg) (T : Tx K mg) (C_LawSplit : Cal P w K mg base "_law_split" 2 2 fnLawSplit) (C_LawStands : Cal P w K mg base "_law_stands" 1 2 fnLawStands) : FnOk P w K mg base CX0 3 f fd ["rules", "rolls"] (spV K 2 fnLawAll) :=
  fn_ok (k := 2) F scLawAll gLawAll fun cdv A outer s H E hr =>
    (vss_cons (vs_par (i := 2) (j := 3) rfl scLawAll.nd rfl rfl (by decide) rfl rfl (va_cons (ve_lst va_nil) (va_cons (ve_lst (va_cons (ve_tup va_nil) va_nil)) va_nil)) (by rfl))
    (vss_cons (vs_while (n := 1000) PassesOwn.never (vt_cmp (op_neD (hu64 hr)) (s_ofB sb_ne) (ve_var (pv 3)) (ve_lst va_nil) (nomark _)) (vss_cons (vs_set (i := 4) scLawAll.nd rfl (by first | exact Or.inl rfl | exact Or.inr rfl) (ve_lst va_nil))
    (vss_cons (vs_for PassesOwn.never rfl (vi_seq (ve_var (pv 3))) (vg_name (i := 5) scLawAll.nd rfl (by first | exact Or.inl rfl | exact Or.inr rfl)) (vss_cons (vs_set (i := 6) scLawAll.nd rfl (by first | exact Or.inl rfl | exact Or.inr rfl) (ve_call C_LawSplit (hr.mono (by decide)) (va_cons (ve_var (pv 0)) (va_cons (ve_bin op_addA s_add (ve_var (pv 1)) (ve_var (pv 5))) va_nil)) rfl (by rfl)))
    (vss_one (vs_if (vt_cmp op_gt (s_ofB sb_int) (ve_callB c_len s_len (by rfl) G.len PySem.boot_len (va_cons (ve_var (pv 6)) va_nil)) (ve_sub (hu1 hr) (ve_var (pv 0)) ve_int fun _ _ => rfl) (nomark _)) (vss_one (vs_expr (ve_mutL PySem.F.slot_list_append PySem.F.type_list_append mt_append s_app (pv 2) (va_cons (ve_var (pv 5)) va_nil)))) (vss_cons (vs_set (i := 7) scLawAll.nd rfl (by first | exact Or.inl rfl | exact Or.inr rfl) (ve_call C_LawStands (hr.mono (by decide)) (va_cons (ve_sub (hu1 hr) (ve_var (pv 0)) ve_int fun _ _ => rfl) (va_cons (ve_sub (hu1 hr) (ve_var (pv 6)) (ve_un un_neg s_neg ve_int) fun _ _ => rfl) va_nil)) rfl (by rfl)))
    (vss_one (vs_set (i := 4) scLawAll.nd rfl (by first | exact Or.inl rfl | exact Or.inr rfl) (ve_bin op_addA s_add (ve_var (pv 4)) (ve_lc (own := [("roll", 8)]) rfl scLawAll.nd (vi_rg1 (by rfl) G.range (ve_bin op_addA s_add (ve_var (pv 7)) ve_int)) (blkOk_by (own := [("roll", 8)]) (N := ["rules", "rolls", "found", "open_so", "longer", "more", "frames", "stand", "roll"]) (sc := defScope sLawAll) (by decide +kernel)) (fun _ _ _ _ _ => (vg_name (i := 8) scLawAll.nd rfl (by first | exact Or.inl rfl | exact Or.inr rfl))) (fun _ _ _ _ _ => vts_nil) (fun _ _ _ _ _ => (ve_bin op_addA s_add (ve_var (pv 5)) (ve_tup (va_cons (ve_var (pv 8)) va_nil)))) (by intro j hj; simp at hj; simp [tgHas, tgsHas]; omega))))))))))
    (vss_one (vs_set (i := 3) scLawAll.nd rfl (by first | exact Or.inl rfl | exact Or.inr rfl) (ve_var (pv 4)))))))
    (vss_one (vs_ret (ve_callB c_sort s_sortA (by rfl) G.sorted (by decide +kernel) (va_cons (ve_var (pv 2)) va_nil))))))
theorem calLawAll {f : Addr} {fd : FuncData} (F : Fun K "_law_all" "_law_all" sLawAll f fd) (m : mg "_law_all" = some (.ref f)) (G : Gb mg) (T : Tx K mg) (C_LawSplit : Cal P w K mg base "_law_split" 2 2 fnLawSplit) (C_LawStands : Cal P w K mg base "_law_stands" 1 2 fnLawStands) : Cal P w K mg base "_law_all" 3 2 fnLawAll :=
  ⟨f, fd, ["rules", "rolls"], m, F.kp, F.binds (ps := ["rules", "rolls"]) (fun _ _ _ _ _ _ us hl => match us, hl with | [_, _], _ => rfl), rfl, okLawAll F G T C_LawSplit C_LawStands⟩
/-! ### _law_kind -/
abbrev sLawKind : Stmt := top 20
theorem scLawKind : FnScope ["pins", "frame"] ["pins", "frame"] (defScope sLawKind) := ⟨rfl, rfl, rfl, by decide +kernel, rfl, by decide +kernel, by decide +kernel⟩
theorem okLawKind {f : Addr} {fd : FuncData} (F : Fun K "_law_kind" "_law_kind" sLawKind f fd) (G : Gb mg) (T : Tx K mg)  : FnOk P w K mg base CX0 1 f fd ["pins", "frame"] (spV K 2 fnLawKind) :=
  fn_ok (k := 0) F scLawKind gLawKind fun cdv A outer s H E hr =>
    (vss_one (vs_ret (ve_if (vt_cmp (op_eqD (hu64 hr)) (s_ofB sb_eq) (ve_sub (hu1 hr) (ve_var (pv 1)) ve_int fun _ _ => rfl) (ve_var (pv 0)) (nomark _)) ve_str (ve_if (vt_cmp (op_eqD (hu64 hr)) (s_ofB sb_eq) (ve_bin op_addA s_add (ve_sub (hu1 hr) (ve_var (pv 1)) ve_int fun _ _ => rfl) (ve_sub (hu1 hr) (ve_var (pv 1)) ve_int fun _ _ => rfl)) (ve_var (pv 0)) (nomark _)) ve_str ve_str))))
theorem calLawKind {f : Addr} {fd : FuncData} (F : Fun K "_law_kind" "_law_kind" sLawKind f fd) (m : mg "_law_kind" = some (.ref f)) (G : Gb mg) (T : Tx K mg)  : Cal P w K mg base "_law_kind" 1 2 fnLawKind :=
  ⟨f, fd, ["pins", "frame"], m, F.kp, F.binds (ps := ["pins", "frame"]) (fun _ _ _ _ _ _ us hl => match us, hl with | [_, _], _ => rfl), rfl, okLawKind F G T ⟩
/-! ### law -/
abbrev sLaw : Stmt := top 21
theorem scLaw : FnScope ["script", "tape", "rules", "table", "begun", "rolls", "sheet", "kind", "size", "turn", "some", "rows", "due", "number", "bad", "frame", "row", "sign"] ["script"] (defScope sLaw) := ⟨rfl, rfl, rfl, by decide +kernel, rfl, by decide +kernel, by decide +kernel⟩
theorem okLaw {f : Addr} {fd : FuncData} (F : Fun K "law" "law" sLaw f fd) (G : Gb mg) (T : Tx K mg) (C_LawDraw : Cal P w K mg base "_law_draw" 1 2 fnLawDraw) (C_LawAll : Cal P w K mg base "_law_all" 3 2 fnLawAll) (C_LawSettled : Cal P w K mg base "_law_settled" 4 2 fnLawSettled) (C_LawSplit : Cal P w K mg base "_law_split" 2 2 fnLawSplit) (C_LawKind : Cal P w K mg base "_law_kind" 1 2 fnLawKind) (C_LawLike : Cal P w K mg base "_law_like" 4 2 (fnLawLike 4)) (C_CountSheet : Cal P w K mg base "count_sheet" 4 2 fnCountSheet) (C_Kinds : Cal P w K mg base "kinds" 4 2 fnKinds) (C_FirstWrong : Cal P w K mg base "first_wrong" 4 2 fnFirstWrong) : FnOk P w K mg base CX0 5 f fd ["script"] (spV K 1 fnLaw) :=
  fn_ok (k := 4) F scLaw gLaw fun cdv A outer s H E hr =>
    (vss_cons (vs_set (i := 1) scLaw.nd rfl (by first | exact Or.inl rfl | exact Or.inr rfl) (ve_lst (va_cons (ve_callTy call_list_of s_list (by rfl) G.list (by decide +kernel) (va_cons (ve_var (pv 0)) va_nil)) (va_cons ve_int (va_cons ve_int va_nil)))))
    (vss_cons (vs_set (i := 2) scLaw.nd rfl (by first | exact Or.inl rfl | exact Or.inr rfl) (ve_tup (va_cons (ve_bin op_addA s_add ve_int (ve_call C_LawDraw (hr.mono (by decide)) (va_cons (ve_var (pv 1)) (va_cons ve_int va_nil)) rfl (by rfl))) (va_cons ve_int va_nil))))
    (vss_cons (vs_if (vt_cmp op_lt (s_ofB sb_int) (ve_sub (hu1 hr) (ve_var (pv 2)) ve_int fun _ _ => rfl) ve_int (nomark _)) (vss_one (vs_set (i := 2) scLaw.nd rfl (by first | exact Or.inl rfl | exact Or.inr rfl) (ve_tup (va_cons (ve_sub (hu1 hr) (ve_var (pv 2)) ve_int fun _ _ => rfl) (va_cons (ve_bin op_addA s_add ve_int (ve_call C_LawDraw (hr.mono (by decide)) (va_cons (ve_var (pv 1)) (va_cons ve_int va_nil)) rfl (by rfl))) va_nil))))) vss_nil)
    (vss_cons (vs_parT (is := [3, 4]) rfl (va_cons ve_dic (va_cons (ve_dic1 (hu1 hr)) va_nil)) (vgs_cons (vg_name (i := 3) scLaw.nd rfl (by first | exact Or.inl rfl | exact Or.inr rfl)) (vgs_cons (vg_name (i := 4) scLaw.nd rfl (by first | exact Or.inl rfl | exact Or.inr rfl)) vgs_nil)))
    (vss_cons (vs_for PassesOwn.never rfl (vi_seq (ve_call C_LawAll (hr.mono (by decide)) (va_cons (ve_var (pv 2)) (va_cons (ve_tup va_nil) va_nil)) rfl (by rfl))) (vg_name (i := 5) scLaw.nd rfl (by first | exact Or.inl rfl | exact Or.inr rfl)) (vss_cons (vs_set (i := 6) scLaw.nd rfl (by first | exact Or.inl rfl | exact Or.inr rfl) (ve_callTy call_tuple_of s_tuple (by rfl) G.tuple (by decide +kernel) (va_cons (ve_call C_LawSettled (hr.mono (by decide)) (va_cons (ve_var (pv 2)) (va_cons (ve_var (pv 5)) va_nil)) rfl (by rfl)) va_nil)))
    (vss_cons (vs_setLc (i := 7) (own := [("frame", 15)]) rfl scLaw.nd rfl rfl (sw_true rfl rfl rfl (by decide +kernel)) (vi_seq (ve_slice (ve_call C_LawSplit (hr.mono (by decide)) (va_cons (ve_var (pv 2)) (va_cons (ve_var (pv 5)) va_nil)) rfl (by rfl)) vo_none (vo_some (ve_sub (hu1 hr) (ve_var (pv 2)) ve_int fun _ _ => rfl)))) (blkOk_by (own := [("frame", 15)]) (N := ["script", "tape", "rules", "table", "begun", "rolls", "sheet", "kind", "size", "turn", "some", "rows", "due", "number", "bad", "frame", "row", "sign"]) (sc := defScope sLaw) (by decide +kernel)) (fun _ _ _ _ _ => (vg_name (i := 15) scLaw.nd rfl (by first | exact Or.inl rfl | exact Or.inr rfl))) (fun _ _ _ _ _ => vts_nil) (fun _ _ _ _ _ => (ve_call C_LawKind (hr.mono (by decide)) (va_cons (ve_sub (hu1 hr) (ve_var (pv 2)) ve_int fun _ _ => rfl) (va_cons (ve_var (pv 15)) va_nil)) rfl (by rfl))) (by intro j hj; simp at hj; simp [tgHas, tgsHas]; omega))
    (vss_cons (vs_sub (hu1 hr) (pv 3) (ve_var (pv 6)) (ve_bin op_addA s_add (ve_get2 (hu1 hr) (ve_var (pv 3)) (ve_var (pv 6)) (ve_lst va_nil) ⟨by rfl, by rfl, by rfl, by rfl⟩) (ve_lst (va_cons (ve_var (pv 7)) va_nil))))
    (vss_one (vs_for PassesOwn.never rfl (vi_rg2 (by rfl) G.range ve_int (ve_bin op_addA s_add (ve_sub (hu1 hr) (ve_var (pv 2)) ve_int fun _ _ => rfl) ve_int)) (vg_name (i := 8) scLaw.nd rfl (by first | exact Or.inl rfl | exact Or.inr rfl)) (vss_one (vs_sub (hu1 hr) (pv 4) (ve_slice (ve_var (pv 6)) vo_none (vo_some (ve_var (pv 8)))) ve_bl))))))))
    (vss_cons (vs_for PassesOwn.never rfl (vi_rg1 (by rfl) G.range ve_int) (vg_name (i := 9) scLaw.nd rfl (by first | exact Or.inl rfl | exact Or.inr rfl)) (vss_cons (vs_set (i := 10) scLaw.nd rfl (by first | exact Or.inl rfl | exact Or.inr rfl) (ve_callB (cr_sortDT rfl) s_sortD (by rfl) G.sorted (by decide +kernel) (va_cons (ve_var (pv 3)) va_nil)))
    (vss_cons (vs_set (i := 6) scLaw.nd rfl (by first | exact Or.inl rfl | exact Or.inr rfl) (ve_sub (hu1 hr) (ve_var (pv 10)) (ve_call C_LawDraw (hr.mono (by decide)) (va_cons (ve_var (pv 1)) (va_cons (ve_callB c_len s_len (by rfl) G.len PySem.boot_len (va_cons (ve_var (pv 10)) va_nil)) va_nil)) rfl (by rfl)) fun _ _ => rfl))
    (vss_cons (vs_if (vt_cmp op_gt (s_ofB sb_int) (ve_var (pv 9)) ve_int (nomark _)) (vss_one (vs_set (i := 6) scLaw.nd rfl (by first | exact Or.inl rfl | exact Or.inr rfl) (ve_callTy call_tuple_of s_tuple (by rfl) G.tuple (by decide +kernel) (va_cons (ve_lc (own := [("frame", 15)]) rfl scLaw.nd (vi_rg1 (by rfl) G.range (ve_sub (hu1 hr) (ve_var (pv 2)) ve_int fun _ _ => rfl)) (blkOk_by (own := [("frame", 15)]) (N := ["script", "tape", "rules", "table", "begun", "rolls", "sheet", "kind", "size", "turn", "some", "rows", "due", "number", "bad", "frame", "row", "sign"]) (sc := defScope sLaw) (by decide +kernel)) (fun _ _ _ _ _ => (vg_name (i := 15) scLaw.nd rfl (by first | exact Or.inl rfl | exact Or.inr rfl))) (fun _ _ _ _ _ => vts_nil) (fun _ _ _ _ _ => (ve_call C_LawDraw (hr.mono (by decide)) (va_cons (ve_var (pv 1)) (va_cons (ve_bin op_addA s_add (ve_bin op_mulA s_mul ve_int (ve_sub (hu1 hr) (ve_var (pv 2)) ve_int fun _ _ => rfl)) ve_int) va_nil)) rfl (by rfl))) (by intro j hj; simp at hj; simp [tgHas, tgsHas]; omega)) va_nil)))) vss_nil)
    (vss_cons (vs_set (i := 11) scLaw.nd rfl (by first | exact Or.inl rfl | exact Or.inr rfl) (ve_get2 (hu1 hr) (ve_var (pv 3)) (ve_var (pv 6)) (ve_lst va_nil) ⟨by rfl, by rfl, by rfl, by rfl⟩))
    (vss_cons (vs_if (vt_not (vt_val (ve_call C_LawLike (hr.mono (by decide)) (va_cons (ve_call C_CountSheet (hr.mono (by decide)) (va_cons (ve_var (pv 2)) (va_cons (ve_var (pv 6)) va_nil)) rfl (by rfl)) (va_cons (ve_callB c_len s_len (by rfl) G.len PySem.boot_len (va_cons (ve_var (pv 11)) va_nil)) va_nil)) rfl (by rfl)))) (vss_one (vs_ret ve_bl)) vss_nil)
    (vss_cons (vs_set (i := 12) scLaw.nd rfl (by first | exact Or.inl rfl | exact Or.inr rfl) (ve_lst va_nil))
    (vss_cons (vs_for PassesOwn.never rfl (vi_rg1 (by rfl) G.range (ve_sub (hu1 hr) (ve_var (pv 2)) ve_int fun _ _ => rfl)) (vg_name (i := 13) scLaw.nd rfl (by first | exact Or.inl rfl | exact Or.inr rfl)) (vss_one (vs_expr (ve_mutL PySem.F.slot_list_append PySem.F.type_list_append mt_append s_app (pv 12) (va_cons (ve_join ve_str (ve_lc (own := [("sign", 17)]) rfl scLaw.nd (vi_seq ve_str) (blkOk_by (own := [("sign", 17)]) (N := ["script", "tape", "rules", "table", "begun", "rolls", "sheet", "kind", "size", "turn", "some", "rows", "due", "number", "bad", "frame", "row", "sign"]) (sc := defScope sLaw) (by decide +kernel)) (fun _ _ _ _ _ => (vg_name (i := 17) scLaw.nd rfl (by first | exact Or.inl rfl | exact Or.inr rfl))) (fun _ _ _ _ _ => (vts_one (vt_cmp (op_neD (hu64 hr)) (s_ofB sb_ne) (ve_lc (own := [("row", 16)]) rfl scLaw.nd (vi_seq (ve_var (pv 11))) (blkOk_by (own := [("row", 16)]) (by kernel_rfl)) (fun _ _ _ _ _ => (vg_name (i := 16) scLaw.nd rfl (by first | exact Or.inl rfl | exact Or.inr rfl))) (fun _ _ _ _ _ => (vts_one (vt_cmp (op_eqD (hu64 hr)) (s_ofB sb_eq) (ve_sub (hu1 hr) (ve_var (pv 16)) (ve_var (pv 13)) fun _ _ => rfl) (ve_var (pv 17)) (nomark _)))) (fun _ _ _ _ _ => (ve_var (pv 16))) (by intro j hj; simp at hj; simp [tgHas, tgsHas]; omega)) (ve_lst va_nil) (nomark _)))) (fun _ _ _ _ _ => (ve_var (pv 17))) (by intro j hj; simp at hj; simp [tgHas, tgsHas]; omega)) (fun _ _ h => ⟨_, by cases h; rfl⟩)) va_nil)))))
    (vss_cons (vs_if (vt_not (vt_val (ve_call C_LawLike (hr.mono (by decide)) (va_cons (ve_call C_Kinds (hr.mono (by decide)) (va_cons (ve_var (pv 2)) (va_cons (ve_var (pv 6)) va_nil)) rfl (by rfl)) (va_cons (ve_var (pv 12)) va_nil)) rfl (by rfl)))) (vss_one (vs_ret ve_bl)) vss_nil)
    (vss_cons (vs_setLc (i := 14) (own := [("size", 8)]) rfl scLaw.nd rfl rfl (sw_true rfl rfl rfl (by decide +kernel)) (vi_rg2 (by rfl) G.range ve_int (ve_bin op_addA s_add (ve_sub (hu1 hr) (ve_var (pv 2)) ve_int fun _ _ => rfl) ve_int)) (blkOk_by (own := [("size", 8)]) (N := ["script", "tape", "rules", "table", "begun", "rolls", "sheet", "kind", "size", "turn", "some", "rows", "due", "number", "bad", "frame", "row", "sign"]) (sc := defScope sLaw) (by decide +kernel)) (fun _ _ _ _ _ => (vg_name (i := 8) scLaw.nd rfl (by first | exact Or.inl rfl | exact Or.inr rfl))) (fun _ _ _ _ _ => (vts_one (vt_notInD (hu1 hr) (ve_slice (ve_var (pv 6)) vo_none (vo_some (ve_var (pv 8)))) (ve_var (pv 4))))) (fun _ _ _ _ _ => (ve_bin op_sub s_sub (ve_var (pv 8)) ve_int)) (by intro j hj; simp at hj; simp [tgHas, tgsHas]; omega))
    (vss_one (vs_if (vt_not (vt_val (ve_call C_LawLike (hr.mono (by decide)) (va_cons (ve_call C_FirstWrong (hr.mono (by decide)) (va_cons (ve_var (pv 2)) (va_cons (ve_var (pv 6)) va_nil)) rfl (by rfl)) (va_cons (ve_if (vt_cmp (op_neD (hu64 hr)) (s_ofB sb_ne) (ve_var (pv 14)) (ve_lst va_nil) (nomark _)) (ve_sub (hu1 hr) (ve_var (pv 14)) ve_int fun _ _ => rfl) ve_non) va_nil)) rfl (by rfl)))) (vss_one (vs_ret ve_bl)) vss_nil))))))))))))
    (vss_one (vs_ret (ve_and (ve_cmp (op_eqD (hu64 hr)) (s_ofB sb_eq) (ve_call C_CountSheet (hr.mono (by decide)) (va_cons (ve_tup (va_cons ve_int (va_cons ve_int va_nil))) (va_cons (ve_tup (va_cons ve_int (va_cons ve_int va_nil))) va_nil)) rfl (by rfl)) ve_int (nomark _)) (ve_one (ve_cmp (op_eqD (hu64 hr)) (s_ofB sb_eq) (ve_call C_Kinds (hr.mono (by decide)) (va_cons (ve_tup (va_cons ve_int (va_cons ve_int va_nil))) (va_cons (ve_tup (va_cons ve_int (va_cons ve_int va_nil))) va_nil)) rfl (by rfl)) (ve_lst (va_cons ve_str (va_cons ve_str va_nil))) (nomark _))))))))))))
theorem calLaw {f : Addr} {fd : FuncData} (F : Fun K "law" "law" sLaw f fd) (m : mg "law" = some (.ref f)) (G : Gb mg) (T : Tx K mg) (C_LawDraw : Cal P w K mg base "_law_draw" 1 2 fnLawDraw) (C_LawAll : Cal P w K mg base "_law_all" 3 2 fnLawAll) (C_LawSettled : Cal P w K mg base "_law_settled" 4 2 fnLawSettled) (C_LawSplit : Cal P w K mg base "_law_split" 2 2 fnLawSplit) (C_LawKind : Cal P w K mg base "_law_kind" 1 2 fnLawKind) (C_LawLike : Cal P w K mg base "_law_like" 4 2 (fnLawLike 4)) (C_CountSheet : Cal P w K mg base "count_sheet" 4 2 fnCountSheet) (C_Kinds : Cal P w K mg base "kinds" 4 2 fnKinds) (C_FirstWrong : Cal P w K mg base "first_wrong" 4 2 fnFirstWrong) : Cal P w K mg base "law" 5 1 fnLaw :=
  ⟨f, fd, ["script"], m, F.kp, F.binds (ps := ["script"]) (fun _ _ _ _ _ _ us hl => match us, hl with | [_], _ => rfl), rfl, okLaw F G T C_LawDraw C_LawAll C_LawSettled C_LawSplit C_LawKind C_LawLike C_CountSheet C_Kinds C_FirstWrong⟩
end
end My
namespace My
open PySem L2 FL
/-! ## tables of sheets: rows of a key, a count and kinds -/
abbrev TRow := (Int × Int) × Int × List Int
def rowK (k : Int × Int) : List Key := [.inl k.1, .inl k.2]
abbrev keyP (k : Int × Int) : D := .tup [.int k.1, .int k.2]
abbrev valP (c : Int) (ks : List Int) : D := .tup [.int c, tI ks]
def rowP (r : TRow) : List Key × D := (rowK r.1, valP r.2.1 r.2.2)
abbrev tabD (T : List TRow) : D := .dic (T.map rowP)
def findT (T : List TRow) (k : Int × Int) : Option (Int × List Int) := (T.find? fun r => decide (r.1 = k)).map (·.2)
/-- a row is put: the value of a key that is there, or a new row at the end -/
def putT (T : List TRow) (k : Int × Int) (v : Int × List Int) : List TRow :=
  if (T.any fun r => decide (r.1 = k)) = true then T.map (fun r => if r.1 = k then (r.1, v) else r) else T ++ [(k, v)]
theorem rowK_inj {k k' : Int × Int} : rowK k = rowK k' ↔ k = k' := by
  obtain ⟨a, b⟩ := k
  obtain ⟨a', b'⟩ := k'
  simp [rowK]
theorem toKey_P (k : Int × Int) : toKey [.int k.1, .int k.2] = some (rowK k) := by
  unfold toKey
  rw [if_neg]
  · rfl
  · simp [eqDs, overD]
theorem valD_P (T : List TRow) (k : Int × Int) : valD (T.map rowP) (rowK k) = (findT T k).map fun v => valP v.1 v.2 := by
  unfold valD findT
  rw [List.find?_map]
  have e : ((fun kv : List Key × D => decide (kv.1 = rowK k)) ∘ rowP) = fun r : TRow => decide (r.1 = k) := by
    funext r
    show decide (rowK r.1 = rowK k) = decide (r.1 = k)
    rw [decide_eq_decide]; exact rowK_inj
  rw [e]
  cases T.find? (fun r => decide (r.1 = k)) <;> rfl
theorem putD_P (T : List TRow) (k : Int × Int) (v : Int × List Int) : putD (T.map rowP) (rowK k) (valP v.1 v.2) = (putT T k v).map rowP := by
  unfold putD putT
  have e : ((T.map rowP).any fun kv => decide (kv.1 = rowK k)) = T.any fun r => decide (r.1 = k) := by
    rw [List.any_map]
    congr 1
    funext r
    show decide (rowK r.1 = rowK k) = decide (r.1 = k)
    rw [decide_eq_decide]; exact rowK_inj
  rw [e]
  split
  · rw [List.map_map, List.map_map]
    apply List.map_congr_left
    intro r _
    show (if rowK r.1 = rowK k then (rowK r.1, valP v.1 v.2) else rowP r) = rowP (if r.1 = k then (r.1, v) else r)
    by_cases h : r.1 = k
    · rw [if_pos (by rw [h]), if_pos h]; rfl
    · rw [if_neg (fun z => h (rowK_inj.mp z)), if_neg h]
  · rw [List.map_append]; rfl
end My
namespace My
open PySem L2 FL
/-! ## dicts -/
theorem inD_eq (b : Bool) (ks : List D) (kvs : List (List Key × D)) : oInD b (.tup ks) (.dic kvs) = (toKey ks).map fun k => .val (.bl (if b then !(valD kvs k).isSome else (valD kvs k).isSome)) := rfl
theorem ixD_eq (kvs : List (List Key × D)) (ks : List D) : oIx (.dic kvs) (.tup ks) = (toKey ks).bind fun k => (valD kvs k).map .val := rfl
theorem valD_map (k : List Key) (v : D) : ∀ kvs : List (List Key × D), (kvs.any fun kv => decide (kv.1 = k)) = true → valD (kvs.map fun kv => if kv.1 = k then (kv.1, v) else kv) k = some v
  | [], h => by cases h
  | kv :: kvs, h => by
    unfold valD
    rw [List.map_cons, List.find?_cons]
    by_cases hk : kv.1 = k
    · simp [hk]
    · rw [List.any_cons, decide_eq_false hk, Bool.false_or] at h
      have ih := valD_map k v kvs h
      unfold valD at ih
      simp [hk]
      simpa using ih
theorem valD_none {kvs : List (List Key × D)} {k : List Key} (h : ¬ (kvs.any fun kv => decide (kv.1 = k)) = true) : valD kvs k = none := by
  unfold valD
  rw [List.find?_eq_none.mpr fun kv hm => ?_]
  · rfl
  · intro hk
    exact h (List.any_eq_true.mpr ⟨kv, hm, hk⟩)
theorem valD_put (kvs : List (List Key × D)) (k : List Key) (v : D) : valD (putD kvs k v) k = some v := by
  unfold putD
  split
  · rename_i h; exact valD_map k v kvs h
  · rename_i h
    have hn := valD_none h
    unfold valD at hn ⊢
    rw [List.find?_append]
    have : kvs.find? (fun kv => decide (kv.1 = k)) = none := by
      cases e : kvs.find? (fun kv => decide (kv.1 = k)) with
      | none => rfl
      | some q => rw [e] at hn; cases hn
    rw [this]; simp
theorem put_mem {kvs : List (List Key × D)} {k : List Key} {v : D} {kv : List Key × D} (h : kv ∈ putD kvs k v) : kv ∈ kvs ∨ kv = (k, v) := by
  unfold putD at h
  split at h
  · obtain ⟨q, hq, rfl⟩ := List.mem_map.mp h
    by_cases hk : q.1 = k
    · right; rw [if_pos hk, hk]
    · left; rw [if_neg hk]; exact hq
  · rcases List.mem_append.mp h with h | h
    · exact .inl h
    · exact .inr (List.mem_singleton.mp h)
theorem put_keys (kvs : List (List Key × D)) (k : List Key) (v : D) (h : (kvs.map (·.1)).Nodup) : ((putD kvs k v).map (·.1)).Nodup := by
  unfold putD
  split
  · have : (kvs.map fun kv => if kv.1 = k then (kv.1, v) else kv).map (·.1) = kvs.map (·.1) := by
      rw [List.map_map]
      apply List.map_congr_left
      intro kv _
      show (if kv.1 = k then (kv.1, v) else kv).1 = kv.1
      split <;> rfl
    rw [this]; exact h
  · rename_i hn
    rw [List.map_append, List.nodup_append]
    refine ⟨h, by simp, fun a ha b hb e => ?_⟩
    subst e
    obtain ⟨q, hq, rfl⟩ := List.mem_map.mp ha
    have : q.1 = k := by simpa using hb
    exact hn (List.any_eq_true.mpr ⟨q, hq, decide_eq_true this⟩)
theorem nodup_len {α : Type} [DecidableEq α] : ∀ {l m : List α}, l.Nodup → (∀ a ∈ l, a ∈ m) → l.length ≤ m.length
  | [], _, _, _ => Nat.zero_le _
  | a :: l, m, h, hs => by
    rw [List.nodup_cons] at h
    have ha := hs a List.mem_cons_self
    have := nodup_len (l := l) (m := m.erase a) h.2 fun b hb => by
      have hne : b ≠ a := fun e => h.1 (e ▸ hb)
      exact (List.mem_erase_of_ne hne).mpr (hs b (List.mem_cons_of_mem _ hb))
    rw [List.length_erase_of_mem ha] at this
    have hpos := List.length_pos_of_mem ha
    rw [List.length_cons]; omega
end My
namespace My
open PySem L2 FL
/-! ## add_row -/
def addT (T : List TRow) (k : Int × Int) (c : Int) (ks : List Int) : List TRow := match findT T k with
  | some v => putT T k (v.1 + c, List.zipWith Builtin.bitOr v.2 ks)
  | none => putT T k (c, ks)
theorem or_loop (s0 s1 s2 s3 s4 : Sl) : ∀ (as bs : List Int) (acc : List Int), acc.length + as.length ≤ 1000 →
    lcL (.tp [.nm 5, .nm 6]) (fC (.bl true)) gAddRow_e1 [5, 6] (zipF (as.map D.int) (bs.map D.int)) (acc.map D.int) [s0, s1, s2, s3, s4, .no, .no] = some ((acc ++ List.zipWith Builtin.bitOr as bs).map D.int, [s0, s1, s2, s3, s4, .no, .no])
  | [], bs, acc, _ => by simp [zipF]
  | a :: as, [], acc, _ => by simp [zipF]
  | a :: as, b :: bs, acc, hl => by
    have hl' : acc.length + (as.length + 1) ≤ 1000 := by simpa using hl
    have e := or_loop s0 s1 s2 s3 s4 as bs (acc ++ [Builtin.bitOr a b]) (by simp; omega)
    have hc : (acc.map D.int).length < 1000000 := by rw [List.length_map]; omega
    have ho : oBitOr (.int a) (.int b) = some (.val (.int (Builtin.bitOr a b))) := rfl
    rw [List.map_cons, List.map_cons, zipF, lcL_cons, List.zipWith_cons_cons, List.append_cons, ← e, List.map_append]
    generalize Builtin.bitOr a b = o at *
    generalize acc.map D.int = ACC at *
    simp [gAddRow_e1, ho, cap, hc]
theorem add_row_ok (T : List TRow) (k : Int × Int) (c : Int) (ks : List Int) (hl : T.length < 1000000) (hk : ∀ v, findT T k = some v → v.2.length ≤ 1000) : fnAddRow [.own false (tabD T), .val (keyP k), .val (.int c), .val (tI ks)] = some (.val .non, [.own false (tabD (addT T k c ks)), .val (keyP k), .val (.int c), .val (tI ks)]) := by
  have htk := toKey_P k
  have hv := valD_P T k
  have hin := inD_eq false [.int k.1, .int k.2] (T.map rowP)
  rw [htk] at hin
  have hin' : oInD false (.tup [.int k.1, .int k.2]) (.dic (T.map rowP)) = some (.val (.bl (valD (T.map rowP) (rowK k)).isSome)) := hin
  have hlen : (T.map rowP).length < 1000000 := by rw [List.length_map]; exact hl
  cases hf : findT T k with
  | none =>
    rw [hf] at hv
    have hv' : valD (T.map rowP) (rowK k) = none := hv
    rw [hv'] at hin'
    have hp := putD_P T k (c, ks)
    have ha : addT T k c ks = putT T k (c, ks) := by unfold addT; rw [hf]
    rw [ha, fnAddRow, defF_eq]
    simp only [tabD]
    rw [← hp]
    generalize T.map rowP = TD at *
    simp [gAddRow, hin', htk, hlen, cap]
  | some v =>
    rw [hf] at hv
    have hv' : valD (T.map rowP) (rowK k) = some (valP v.1 v.2) := hv
    rw [hv'] at hin'
    have hix : oIx (.dic (T.map rowP)) (.tup [.int k.1, .int k.2]) = some (.val (valP v.1 v.2)) := by
      rw [ixD_eq, htk]
      show (valD (T.map rowP) (rowK k)).map R.val = _
      rw [hv']; rfl
    have hp := putD_P T k (v.1 + c, List.zipWith Builtin.bitOr v.2 ks)
    have ha : addT T k c ks = putT T k (v.1 + c, List.zipWith Builtin.bitOr v.2 ks) := by unfold addT; rw [hf]
    have e := fun s0 s4 => or_loop s0 (.val (keyP k)) (.val (.int c)) (.val (tI ks)) s4 v.2 ks [] (by have := hk v hf; simpa using this)
    rw [ha, fnAddRow, defF_eq]
    simp only [tabD]
    rw [← hp]
    simp only [List.nil_append, List.map_nil] at e
    generalize List.zipWith Builtin.bitOr v.2 ks = Z at *
    generalize T.map rowP = TD at *
    simp [gAddRow, hin', htk, hlen, cap, hix, zipD_eq, e]
end My
namespace My
open PySem L2 FL
/-! ## last_frames -/
abbrev Quad := Int × Int × Int × Int
abbrev quadD (q : Quad) : D := .tup [.int q.1, .int q.2.1, .int q.2.2.1, .int q.2.2.2]
def thirdL (p a b : Int) : List Quad :=
  if a = p then (List.range ((if b = p then p else p - b) + 1).toNat).map fun (c : Nat) => (a, b, a + b + (c : Int), 2)
  else if a + b = p then (List.range (p + 1).toNat).map fun (c : Nat) => (a, b, p + (c : Int), 1)
  else [(a, b, a + b, 0)]
def secondL (p a : Int) : List Quad := (List.range ((if a < p then p - a + 1 else p + 1)).toNat).flatMap fun (b : Nat) => thirdL p a (b : Int)
def lastF (p : Int) : List Quad := (List.range (p + 1).toNat).flatMap fun (a : Nat) => secondL p (a : Int)
theorem lf_b1 (p a b : Int) (s4 : Sl) : ∀ (ks : List Nat) (acc : List Quad) (s5 : Sl), acc.length + ks.length ≤ 900000 → FL.stored s5 = true →
    ∃ t5, FL.stored t5 = true ∧ forL (.nm 5) gLastFrames_b1 (ks.map fun (c : Nat) => D.int (c : Int)) [.val (.int p), .own false (.lst (acc.map quadD)), .val (.int a), .val (.int b), s4, s5] = some (.nx, [.val (.int p), .own false (.lst ((acc ++ ks.map fun (c : Nat) => ((a, b, a + b + (c : Int), 2) : Quad)).map quadD)), .val (.int a), .val (.int b), s4, t5])
  | [], acc, s5, _, h => ⟨s5, h, by simp⟩
  | c :: ks, acc, s5, hl, h => by
    rw [List.length_cons] at hl
    obtain ⟨t5, ht, e⟩ := lf_b1 p a b s4 ks (acc ++ [(a, b, a + b + (c : Int), 2)]) (.val (.int (c : Int))) (by simp; omega) rfl
    refine ⟨t5, ht, ?_⟩
    have hc : (acc.map quadD).length < 1000000 := by rw [List.length_map]; omega
    have e1 : (acc ++ [((a, b, a + b + (c : Int), 2) : Quad)]).map quadD = acc.map quadD ++ [quadD (a, b, a + b + (c : Int), 2)] := by rw [List.map_append]; rfl
    rw [e1, List.append_assoc, List.singleton_append] at e
    rw [List.map_cons, forL_cons, List.map_cons, ← e]
    generalize (c : Int) = ci at *
    generalize acc.map quadD = ACC at *
    simp [gLastFrames_b1, h, cap, hc]
theorem lf_b2 (p a b : Int) (s4 : Sl) : ∀ (ks : List Nat) (acc : List Quad) (s5 : Sl), acc.length + ks.length ≤ 900000 → FL.stored s5 = true →
    ∃ t5, FL.stored t5 = true ∧ forL (.nm 5) gLastFrames_b2 (ks.map fun (c : Nat) => D.int (c : Int)) [.val (.int p), .own false (.lst (acc.map quadD)), .val (.int a), .val (.int b), s4, s5] = some (.nx, [.val (.int p), .own false (.lst ((acc ++ ks.map fun (c : Nat) => ((a, b, p + (c : Int), 1) : Quad)).map quadD)), .val (.int a), .val (.int b), s4, t5])
  | [], acc, s5, _, h => ⟨s5, h, by simp⟩
  | c :: ks, acc, s5, hl, h => by
    rw [List.length_cons] at hl
    obtain ⟨t5, ht, e⟩ := lf_b2 p a b s4 ks (acc ++ [(a, b, p + (c : Int), 1)]) (.val (.int (c : Int))) (by simp; omega) rfl
    refine ⟨t5, ht, ?_⟩
    have hc : (acc.map quadD).length < 1000000 := by rw [List.length_map]; omega
    have e1 : (acc ++ [((a, b, p + (c : Int), 1) : Quad)]).map quadD = acc.map quadD ++ [quadD (a, b, p + (c : Int), 1)] := by rw [List.map_append]; rfl
    rw [e1, List.append_assoc, List.singleton_append] at e
    rw [List.map_cons, forL_cons, List.map_cons, ← e]
    generalize (c : Int) = ci at *
    generalize acc.map quadD = ACC at *
    simp [gLastFrames_b2, h, cap, hc]
theorem third_len (p a b : Int) (hp2 : p ≤ 10) (hb : 0 ≤ b) : (thirdL p a b).length ≤ 11 := by
  unfold thirdL
  split
  · rw [List.length_map, List.length_range]
    split <;> omega
  · split
    · rw [List.length_map, List.length_range]; omega
    · simp
theorem lf_b3 (p a b : Int) (hp : 2 ≤ p) (hp2 : p ≤ 10) (ha : a ≤ p) (hb0 : 0 ≤ b) (hb : b ≤ p) (acc : List Quad) (hl : acc.length ≤ 800000) (s4 s5 : Sl) (h4 : FL.stored s4 = true) (h5 : FL.stored s5 = true) :
    ∃ t4 t5, FL.stored t4 = true ∧ FL.stored t5 = true ∧ gLastFrames_b3 [.val (.int p), .own false (.lst (acc.map quadD)), .val (.int a), .val (.int b), s4, s5] = some (.nx, [.val (.int p), .own false (.lst ((acc ++ thirdL p a b).map quadD)), .val (.int a), .val (.int b), t4, t5]) := by
  by_cases h1 : a = p
  · subst h1
    obtain ⟨st, hst⟩ : ∃ st, st = (if b = a then a else a - b) := ⟨_, rfl⟩
    have hs : 0 ≤ st ∧ st ≤ 10 := by rw [hst]; split <;> omega
    obtain ⟨t5, ht, e⟩ := lf_b1 a a b (.val (.int st)) (List.range (st + 1).toNat) acc s5 (by rw [List.length_range]; omega) h5
    refine ⟨.val (.int st), t5, rfl, ht, ?_⟩
    have hth : thirdL a a b = (List.range (st + 1).toNat).map fun (c : Nat) => ((a, b, a + b + (c : Int), 2) : Quad) := by unfold thirdL; rw [if_pos rfl, ← hst]
    rw [hth, ← e]
    have r1 : -1000000 ≤ st + 1 ∧ st + 1 ≤ 1000000 := by omega
    have hrg : rg1 (st + 1).toNat = (List.range (st + 1).toNat).map fun (c : Nat) => D.int (c : Int) := rfl
    rw [← hrg]
    generalize acc.map quadD = ACC at *
    by_cases h2 : b = a
    · rw [if_pos h2] at hst
      subst hst
      simp [gLastFrames_b3, h2, h4, r1]
    · rw [if_neg h2] at hst
      have hst' : a - b = st := hst.symm
      simp [gLastFrames_b3, h2, h4, hst', r1]
  · by_cases h2 : a + b = p
    · obtain ⟨t5, ht, e⟩ := lf_b2 p a b s4 (List.range (p + 1).toNat) acc s5 (by rw [List.length_range]; omega) h5
      refine ⟨s4, t5, h4, ht, ?_⟩
      have hth : thirdL p a b = (List.range (p + 1).toNat).map fun (c : Nat) => ((a, b, p + (c : Int), 1) : Quad) := by unfold thirdL; rw [if_neg h1, if_pos h2]
      rw [hth, ← e]
      have r1 : -1000000 ≤ p + 1 ∧ p + 1 ≤ 1000000 := by omega
      have hrg : rg1 (p + 1).toNat = (List.range (p + 1).toNat).map fun (c : Nat) => D.int (c : Int) := rfl
      rw [← hrg]
      generalize acc.map quadD = ACC at *
      simp [gLastFrames_b3, h1, h2, r1]
    · refine ⟨s4, s5, h4, h5, ?_⟩
      have hth : thirdL p a b = [(a, b, a + b, 0)] := by unfold thirdL; rw [if_neg h1, if_neg h2]
      have hc : (acc.map quadD).length < 1000000 := by rw [List.length_map]; omega
      have e1 : (acc ++ [((a, b, a + b, 0) : Quad)]).map quadD = acc.map quadD ++ [quadD (a, b, a + b, 0)] := by rw [List.map_append]; rfl
      rw [hth, e1]
      generalize acc.map quadD = ACC at *
      simp [gLastFrames_b3, h1, h2, cap, hc]
theorem lf_seconds (p a : Int) (hp : 2 ≤ p) (hp2 : p ≤ 10) (ha : a ≤ p) : ∀ (ks : List Nat) (acc : List Quad) (s3 s4 s5 : Sl), (∀ b ∈ ks, (b : Int) ≤ p) → acc.length + 11 * ks.length ≤ 700000 → FL.stored s3 = true → FL.stored s4 = true → FL.stored s5 = true →
    ∃ t3 t4 t5, FL.stored t3 = true ∧ FL.stored t4 = true ∧ FL.stored t5 = true ∧ forL (.nm 3) gLastFrames_b3 (ks.map fun (b : Nat) => D.int (b : Int)) [.val (.int p), .own false (.lst (acc.map quadD)), .val (.int a), s3, s4, s5] = some (.nx, [.val (.int p), .own false (.lst ((acc ++ ks.flatMap fun (b : Nat) => thirdL p a (b : Int)).map quadD)), .val (.int a), t3, t4, t5])
  | [], acc, s3, s4, s5, _, _, h3, h4, h5 => ⟨s3, s4, s5, h3, h4, h5, by simp⟩
  | b :: ks, acc, s3, s4, s5, hb, hl, h3, h4, h5 => by
    rw [List.length_cons] at hl
    have hb0 := hb b List.mem_cons_self
    have hlen := third_len p a (b : Int) hp2 (Int.natCast_nonneg b)
    obtain ⟨u4, u5, q4, q5, e1⟩ := lf_b3 p a (b : Int) hp hp2 ha (Int.natCast_nonneg b) hb0 acc (by omega) s4 s5 h4 h5
    obtain ⟨t3, t4, t5, r3, r4, r5, e2⟩ := lf_seconds p a hp hp2 ha ks (acc ++ thirdL p a (b : Int)) (.val (.int (b : Int))) u4 u5 (fun q hq => hb q (List.mem_cons_of_mem _ hq)) (by rw [List.length_append]; omega) rfl q4 q5
    refine ⟨t3, t4, t5, r3, r4, r5, ?_⟩
    have e0 : asg (.nm 3) (.int (b : Int)) [.val (.int p), .own false (.lst (acc.map quadD)), .val (.int a), s3, s4, s5] = some [.val (.int p), .own false (.lst (acc.map quadD)), .val (.int a), .val (.int (b : Int)), s4, s5] := by
      generalize (b : Int) = bi at *
      simp [h3]
    rw [List.map_cons, forL_cons, e0, Option.bind_some, e1, forO_nx, e2, List.flatMap_cons, List.append_assoc]
theorem flat_len {α β : Type} (g : α → List β) (n : Nat) : ∀ ks : List α, (∀ k ∈ ks, (g k).length ≤ n) → (ks.flatMap g).length ≤ n * ks.length
  | [], _ => by simp
  | k :: ks, h => by
    have h1 := h k List.mem_cons_self
    have h2 := flat_len g n ks fun q hq => h q (List.mem_cons_of_mem _ hq)
    rw [List.flatMap_cons, List.length_append, List.length_cons, Nat.mul_add]
    omega
theorem second_len (p a : Int) (hp2 : p ≤ 10) (ha : 0 ≤ a) : (secondL p a).length ≤ 121 := by
  have h := flat_len (fun (b : Nat) => thirdL p a (b : Int)) 11 (List.range ((if a < p then p - a + 1 else p + 1)).toNat) fun k _ => third_len p a k hp2 (Int.natCast_nonneg k)
  rw [List.length_range] at h
  have hn : ((if a < p then p - a + 1 else p + 1)).toNat ≤ 11 := by split <;> omega
  have h2 := Nat.mul_le_mul_left 11 hn
  unfold secondL
  exact Nat.le_trans h h2
theorem lf_b4 (p a : Int) (hp : 2 ≤ p) (hp2 : p ≤ 10) (ha0 : 0 ≤ a) (ha : a ≤ p) (acc : List Quad) (hl : acc.length ≤ 100000) (s3 s4 s5 : Sl) (h3 : FL.stored s3 = true) (h4 : FL.stored s4 = true) (h5 : FL.stored s5 = true) :
    ∃ t3 t4 t5, FL.stored t3 = true ∧ FL.stored t4 = true ∧ FL.stored t5 = true ∧ gLastFrames_b4 [.val (.int p), .own false (.lst (acc.map quadD)), .val (.int a), s3, s4, s5] = some (.nx, [.val (.int p), .own false (.lst ((acc ++ secondL p a).map quadD)), .val (.int a), t3, t4, t5]) := by
  obtain ⟨n, hn⟩ : ∃ n : Int, n = (if a < p then p - a + 1 else p + 1) := ⟨_, rfl⟩
  have hn2 : 0 ≤ n ∧ n ≤ p + 1 := by rw [hn]; split <;> omega
  obtain ⟨t3, t4, t5, r3, r4, r5, e⟩ := lf_seconds p a hp hp2 ha (List.range n.toNat) acc s3 s4 s5 (fun b hb => by have := List.mem_range.mp hb; omega) (by rw [List.length_range]; omega) h3 h4 h5
  refine ⟨t3, t4, t5, r3, r4, r5, ?_⟩
  have hs : secondL p a = (List.range n.toNat).flatMap fun (b : Nat) => thirdL p a (b : Int) := by unfold secondL; rw [← hn]
  have hrg : rg1 n.toNat = (List.range n.toNat).map fun (c : Nat) => D.int (c : Int) := rfl
  rw [hs, ← e, ← hrg]
  have r1 : -1000000 ≤ n ∧ n ≤ 1000000 := by omega
  generalize acc.map quadD = ACC at *
  by_cases h : a < p
  · rw [if_pos h] at hn
    subst hn
    simp [gLastFrames_b4, h, r1]
  · rw [if_neg h] at hn
    subst hn
    simp [gLastFrames_b4, h, r1]
theorem lf_firsts (p : Int) (hp : 2 ≤ p) (hp2 : p ≤ 10) : ∀ (ks : List Nat) (acc : List Quad) (s2 s3 s4 s5 : Sl), (∀ b ∈ ks, (b : Int) ≤ p) → acc.length + 121 * ks.length ≤ 90000 → FL.stored s2 = true → FL.stored s3 = true → FL.stored s4 = true → FL.stored s5 = true →
    ∃ t2 t3 t4 t5, forL (.nm 2) gLastFrames_b4 (ks.map fun (b : Nat) => D.int (b : Int)) [.val (.int p), .own false (.lst (acc.map quadD)), s2, s3, s4, s5] = some (.nx, [.val (.int p), .own false (.lst ((acc ++ ks.flatMap fun (b : Nat) => secondL p (b : Int)).map quadD)), t2, t3, t4, t5])
  | [], acc, s2, s3, s4, s5, _, _, h2, h3, h4, h5 => ⟨s2, s3, s4, s5, by simp⟩
  | b :: ks, acc, s2, s3, s4, s5, hb, hl, h2, h3, h4, h5 => by
    rw [List.length_cons] at hl
    have hb0 := hb b List.mem_cons_self
    have hlen := second_len p (b : Int) hp2 (Int.natCast_nonneg b)
    obtain ⟨u3, u4, u5, q3, q4, q5, e1⟩ := lf_b4 p (b : Int) hp hp2 (Int.natCast_nonneg b) hb0 acc (by omega) s3 s4 s5 h3 h4 h5
    obtain ⟨t2, t3, t4, t5, e2⟩ := lf_firsts p hp hp2 ks (acc ++ secondL p (b : Int)) (.val (.int (b : Int))) u3 u4 u5 (fun q hq => hb q (List.mem_cons_of_mem _ hq)) (by rw [List.length_append]; omega) rfl q3 q4 q5
    refine ⟨t2, t3, t4, t5, ?_⟩
    have e0 : asg (.nm 2) (.int (b : Int)) [.val (.int p), .own false (.lst (acc.map quadD)), s2, s3, s4, s5] = some [.val (.int p), .own false (.lst (acc.map quadD)), .val (.int (b : Int)), s3, s4, s5] := by
      generalize (b : Int) = bi at *
      simp [h2]
    rw [List.map_cons, forL_cons, e0, Option.bind_some, e1, forO_nx, e2, List.flatMap_cons, List.append_assoc]
theorem last_frames_ok (p : Int) (hp : 2 ≤ p) (hp2 : p ≤ 10) : fnLastFrames [.val (.int p)] = some (.own (.lst ((lastF p).map quadD)), [.val (.int p)]) := by
  obtain ⟨t2, t3, t4, t5, e⟩ := lf_firsts p hp hp2 (List.range (p + 1).toNat) [] .no .no .no .no (fun b hb => by have := List.mem_range.mp hb; omega) (by rw [List.length_range]; simp; omega) rfl rfl rfl rfl
  have hrg : rg1 (p + 1).toNat = (List.range (p + 1).toNat).map fun (c : Nat) => D.int (c : Int) := rfl
  rw [← hrg, List.nil_append] at e
  have e' : forL (.nm 2) gLastFrames_b4 (rg1 (p + 1).toNat) [.val (.int p), .own false (.lst []), .no, .no, .no, .no] = some (.nx, [.val (.int p), .own false (.lst ((lastF p).map quadD)), t2, t3, t4, t5]) := e
  have r1 : -1000000 ≤ p + 1 ∧ p + 1 ≤ 1000000 := by omega
  rw [fnLastFrames, defF_eq]
  generalize (lastF p).map quadD = Z at *
  simp [gLastFrames, r1, e', cap]
/-- the first two rolls of a frame -/
def KeyOk (p : Int) (k : Int × Int) : Prop := 0 ≤ k.1 ∧ k.1 ≤ p ∧ 0 ≤ k.2 ∧ k.2 ≤ p ∧ (k.1 < p → k.1 + k.2 ≤ p)
def QuadOk (p : Int) (q : Quad) : Prop := KeyOk p (q.1, q.2.1) ∧
  ((q.1 = p ∧ q.2.2.2 = 2 ∧ q.1 + q.2.1 ≤ q.2.2.1 ∧ q.2.2.1 ≤ q.1 + q.2.1 + (if q.2.1 = p then p else p - q.2.1)) ∨
   (q.1 < p ∧ q.1 + q.2.1 = p ∧ q.2.2.2 = 1 ∧ p ≤ q.2.2.1 ∧ q.2.2.1 ≤ p + p) ∨
   (q.1 < p ∧ q.1 + q.2.1 < p ∧ q.2.2.2 = 0 ∧ q.2.2.1 = q.1 + q.2.1))
theorem mem_third {p a b : Int} (hk : KeyOk p (a, b)) {q : Quad} : q ∈ thirdL p a b ↔ q.1 = a ∧ q.2.1 = b ∧ QuadOk p q := by
  obtain ⟨x, y, z, k⟩ := q
  obtain ⟨h1, h2, h3, h4, h5⟩ := hk
  simp only at h1 h2 h3 h4 h5
  unfold thirdL QuadOk
  simp only
  constructor
  · intro h
    split at h
    · rename_i ha
      obtain ⟨c, hc, e⟩ := List.mem_map.mp h
      have hc' := List.mem_range.mp hc
      simp only [Prod.mk.injEq] at e
      obtain ⟨rfl, rfl, rfl, rfl⟩ := e
      refine ⟨rfl, rfl, ⟨h1, h2, h3, h4, h5⟩, .inl ⟨ha, rfl, by omega, ?_⟩⟩
      split at hc' <;> split <;> omega
    · split at h
      · obtain ⟨c, hc, e⟩ := List.mem_map.mp h
        have hc' := List.mem_range.mp hc
        simp only [Prod.mk.injEq] at e
        obtain ⟨rfl, rfl, rfl, rfl⟩ := e
        exact ⟨rfl, rfl, ⟨h1, h2, h3, h4, h5⟩, .inr (.inl (by omega))⟩
      · have e := List.mem_singleton.mp h
        simp only [Prod.mk.injEq] at e
        obtain ⟨rfl, rfl, rfl, rfl⟩ := e
        exact ⟨rfl, rfl, ⟨h1, h2, h3, h4, h5⟩, .inr (.inr (by omega))⟩
  · rintro ⟨rfl, rfl, _, h | h | h⟩
    · obtain ⟨ha, rfl, hz1, hz2⟩ := h
      rw [if_pos ha]
      refine List.mem_map.mpr ⟨(z - (x + y)).toNat, List.mem_range.mpr ?_, ?_⟩
      · split at hz2 <;> split <;> omega
      · simp only [Prod.mk.injEq, true_and, and_true]; omega
    · obtain ⟨ha, hb, rfl, hz1, hz2⟩ := h
      rw [if_neg (by omega), if_pos hb]
      refine List.mem_map.mpr ⟨(z - p).toNat, List.mem_range.mpr (by omega), ?_⟩
      simp only [Prod.mk.injEq, true_and, and_true]; omega
    · obtain ⟨ha, hb, rfl, hz⟩ := h
      rw [if_neg (by omega), if_neg (by omega), hz]
      exact List.mem_singleton.mpr rfl
theorem mem_lastF {p : Int} (hp : 2 ≤ p) {q : Quad} : q ∈ lastF p ↔ QuadOk p q := by
  unfold lastF
  rw [List.mem_flatMap]
  constructor
  · rintro ⟨a, ha, h⟩
    have ha' := List.mem_range.mp ha
    unfold secondL at h
    obtain ⟨b, hb, h⟩ := List.mem_flatMap.mp h
    have hb' := List.mem_range.mp hb
    have hk : KeyOk p ((a : Int), (b : Int)) := by
      refine ⟨by omega, by omega, by omega, ?_, fun h => ?_⟩
      · show (b : Int) ≤ p
        split at hb' <;> omega
      · have h' : (a : Int) < p := h
        rw [if_pos h'] at hb'
        show (a : Int) + b ≤ p
        omega
    exact ((mem_third hk).mp h).2.2
  · intro h
    have hk := h.1
    have ⟨h1, h2, h3, h4, h5⟩ := hk
    simp only at h1 h2 h3 h4 h5
    have e1 : ((q.1.toNat : Nat) : Int) = q.1 := by omega
    have e2 : ((q.2.1.toNat : Nat) : Int) = q.2.1 := by omega
    refine ⟨q.1.toNat, List.mem_range.mpr (by omega), ?_⟩
    unfold secondL
    rw [e1]
    refine List.mem_flatMap.mpr ⟨q.2.1.toNat, List.mem_range.mpr (by split <;> omega), ?_⟩
    rw [e2]
    exact (mem_third hk).mpr ⟨rfl, rfl, h⟩
theorem lastF_len (p : Int) (hp2 : p ≤ 10) : (lastF p).length ≤ 2000 := by
  have h := flat_len (fun (a : Nat) => secondL p (a : Int)) 121 (List.range (p + 1).toNat) fun k _ => second_len p k hp2 (Int.natCast_nonneg k)
  rw [List.length_range] at h
  unfold lastF
  omega
end My
namespace My
open PySem L2 FL
/-! ## tables whose rows are as they should be -/
structure RowOk (p : Int) (n : Nat) (r : TRow) : Prop where
  key : KeyOk p r.1
  pos : 1 ≤ r.2.1
  len : r.2.2.length = n
structure TabOk (p : Int) (n : Nat) (T : List TRow) : Prop where
  row : ∀ r ∈ T, RowOk p n r
  nod : (T.map (·.1)).Nodup
theorem TabOk.nil {p : Int} {n : Nat} : TabOk p n [] := ⟨fun _ h => (nomatch h), List.nodup_nil⟩
def allK (p : Int) : List (Int × Int) := (List.range (p + 1).toNat).flatMap fun (a : Nat) => (List.range (p + 1).toNat).map fun (b : Nat) => ((a : Int), (b : Int))
theorem mem_allK {p : Int} {k : Int × Int} (h : KeyOk p k) : k ∈ allK p := by
  obtain ⟨h1, h2, h3, h4, _⟩ := h
  refine List.mem_flatMap.mpr ⟨k.1.toNat, List.mem_range.mpr (by omega), List.mem_map.mpr ⟨k.2.toNat, List.mem_range.mpr (by omega), ?_⟩⟩
  obtain ⟨a, b⟩ := k
  simp only at h1 h2 h3 h4 ⊢
  simp only [Prod.mk.injEq]
  omega
theorem allK_len (p : Int) (hp2 : p ≤ 10) : (allK p).length ≤ 121 := by
  have h := flat_len (fun (a : Nat) => (List.range (p + 1).toNat).map fun (b : Nat) => ((a : Int), (b : Int))) 11 (List.range (p + 1).toNat) fun k _ => by rw [List.length_map, List.length_range]; omega
  rw [List.length_range] at h
  unfold allK
  omega
theorem TabOk.few {p : Int} {n : Nat} {T : List TRow} (h : TabOk p n T) (hp2 : p ≤ 10) : T.length ≤ 121 := by
  have h1 := nodup_len h.nod (m := allK p) fun a ha => by
    obtain ⟨r, hr, rfl⟩ := List.mem_map.mp ha
    exact mem_allK (h.row r hr).key
  rw [List.length_map] at h1
  have := allK_len p hp2
  omega
theorem findT_mem {T : List TRow} {k : Int × Int} {v : Int × List Int} (h : findT T k = some v) : (k, v) ∈ T := by
  unfold findT at h
  obtain ⟨r, hr, rfl⟩ := Option.map_eq_some_iff.mp h
  have hm := List.mem_of_find?_eq_some hr
  have hk := List.find?_some hr
  have : r.1 = k := by simpa using hk
  rw [← this]; exact hm
theorem findT_none {T : List TRow} {k : Int × Int} (h : findT T k = none) : ¬ (T.any fun r => decide (r.1 = k)) = true := by
  intro hh
  obtain ⟨r, hr, e⟩ := List.any_eq_true.mp hh
  unfold findT at h
  rw [Option.map_eq_none_iff, List.find?_eq_none] at h
  exact h r hr e
theorem findT_some {T : List TRow} {k : Int × Int} {v : Int × List Int} (h : findT T k = some v) : (T.any fun r => decide (r.1 = k)) = true :=
  List.any_eq_true.mpr ⟨_, findT_mem h, by simp⟩
theorem putT_keys (T : List TRow) (k : Int × Int) (v : Int × List Int) (h : (T.map (·.1)).Nodup) : ((putT T k v).map (·.1)).Nodup := by
  unfold putT
  split
  · have : (T.map fun r => if r.1 = k then (r.1, v) else r).map (·.1) = T.map (·.1) := by
      rw [List.map_map]
      apply List.map_congr_left
      intro r _
      show (if r.1 = k then (r.1, v) else r).1 = r.1
      split <;> rfl
    rw [this]; exact h
  · rename_i hn
    rw [List.map_append, List.nodup_append]
    refine ⟨h, by simp, fun a ha b hb e => ?_⟩
    subst e
    obtain ⟨q, hq, rfl⟩ := List.mem_map.mp ha
    have : q.1 = k := by simpa using hb
    exact hn (List.any_eq_true.mpr ⟨q, hq, decide_eq_true this⟩)
theorem putT_mem {T : List TRow} {k : Int × Int} {v : Int × List Int} {r : TRow} (h : r ∈ putT T k v) : r ∈ T ∨ r = (k, v) := by
  unfold putT at h
  split at h
  · obtain ⟨q, hq, rfl⟩ := List.mem_map.mp h
    by_cases hk : q.1 = k
    · right; rw [if_pos hk, hk]
    · left; rw [if_neg hk]; exact hq
  · rcases List.mem_append.mp h with h | h
    · exact .inl h
    · exact .inr (List.mem_singleton.mp h)
theorem TabOk.put {p : Int} {n : Nat} {T : List TRow} (h : TabOk p n T) {k : Int × Int} {v : Int × List Int} (hr : RowOk p n (k, v)) : TabOk p n (putT T k v) :=
  ⟨fun r hm => (putT_mem hm).elim (h.row r) fun e => e ▸ hr, putT_keys _ _ _ h.nod⟩
theorem TabOk.add {p : Int} {n : Nat} {T : List TRow} (h : TabOk p n T) {k : Int × Int} {c : Int} {ks : List Int} (hk : KeyOk p k) (hc : 1 ≤ c) (hl : ks.length = n) : TabOk p n (addT T k c ks) := by
  unfold addT
  cases e : findT T k with
  | none => exact h.put ⟨hk, hc, hl⟩
  | some v =>
    have hv := h.row _ (findT_mem e)
    have h1 : 1 ≤ v.1 := hv.pos
    have h2 : v.2.length = n := hv.len
    refine h.put ⟨hk, ?_, ?_⟩
    · show 1 ≤ v.1 + c
      omega
    · show (List.zipWith Builtin.bitOr v.2 ks).length = n
      rw [List.length_zipWith, h2, hl, Nat.min_self]
theorem TabOk.hk {p : Int} {n : Nat} {T : List TRow} (h : TabOk p n T) (hn : n ≤ 1000) (k : Int × Int) : ∀ v, findT T k = some v → v.2.length ≤ 1000 := fun v e => by
  have : v.2.length = n := (h.row _ (findT_mem e)).len
  omega
theorem TabOk.add_row {p : Int} {n : Nat} {T : List TRow} (h : TabOk p n T) (hp2 : p ≤ 10) (hn : n ≤ 1000) (k : Int × Int) (c : Int) (ks : List Int) :
    fnAddRow [.own false (tabD T), .val (keyP k), .val (.int c), .val (tI ks)] = some (.val .non, [.own false (tabD (addT T k c ks)), .val (keyP k), .val (.int c), .val (tI ks)]) :=
  add_row_ok T k c ks (by have := h.few hp2; omega) (h.hk hn k)
/-- what keys a table has -/
theorem put_has {T : List TRow} {k : Int × Int} {v : Int × List Int} {k' : Int × Int} : k' ∈ (putT T k v).map (·.1) ↔ k' = k ∨ k' ∈ T.map (·.1) := by
  unfold putT
  split
  · rename_i h
    have : (T.map fun r => if r.1 = k then (r.1, v) else r).map (·.1) = T.map (·.1) := by
      rw [List.map_map]
      apply List.map_congr_left
      intro r _
      show (if r.1 = k then (r.1, v) else r).1 = r.1
      split <;> rfl
    rw [this]
    obtain ⟨r, hr, e⟩ := List.any_eq_true.mp h
    have e' : r.1 = k := by simpa using e
    constructor
    · exact .inr
    · rintro (rfl | h)
      · exact List.mem_map.mpr ⟨r, hr, e'⟩
      · exact h
  · rw [List.map_append, List.mem_append]
    simp [or_comm]
theorem add_has {T : List TRow} {k : Int × Int} {c : Int} {ks : List Int} {k' : Int × Int} : k' ∈ (addT T k c ks).map (·.1) ↔ k' = k ∨ k' ∈ T.map (·.1) := by
  unfold addT
  cases findT T k <;> exact put_has
end My
namespace My
open PySem L2 FL
/-! ## any_rolls -/
def anyIn (a : Int) (ks : List Nat) (T : List TRow) : List TRow := ks.foldl (fun T (b : Nat) => putT T (a, (b : Int)) (1, [])) T
def secN (p a : Int) : Nat := (if a < p then p - a + 1 else p + 1).toNat
def anyT (p : Int) : List TRow := (List.range (p + 1).toNat).foldl (fun T (a : Nat) => anyIn (a : Int) (List.range (secN p (a : Int))) T) []
theorem any_in (p a : Int) (hp2 : p ≤ 10) : ∀ (ks : List Nat) (T : List TRow) (s3 : Sl), TabOk p 0 T → (∀ b ∈ ks, KeyOk p (a, ((b : Nat) : Int))) → FL.stored s3 = true →
    TabOk p 0 (anyIn a ks T) ∧ (∀ k', k' ∈ (anyIn a ks T).map (·.1) ↔ k' ∈ T.map (·.1) ∨ ∃ b ∈ ks, k' = (a, ((b : Nat) : Int))) ∧
    ∃ t3, FL.stored t3 = true ∧ forL (.nm 3) gAnyRolls_b1 (ks.map fun (b : Nat) => D.int (b : Int)) [.val (.int p), .own false (tabD T), .val (.int a), s3] = some (.nx, [.val (.int p), .own false (tabD (anyIn a ks T)), .val (.int a), t3])
  | [], T, s3, hT, _, h3 => ⟨hT, fun k' => by simp [anyIn], s3, h3, rfl⟩
  | b :: ks, T, s3, hT, hk, h3 => by
    have hb := hk b List.mem_cons_self
    have hT2 : TabOk p 0 (putT T (a, (b : Int)) (1, [])) := hT.put ⟨hb, Int.le_refl 1, rfl⟩
    obtain ⟨q1, q2, t3, q3, e⟩ := any_in p a hp2 ks _ (.val (.int (b : Int))) hT2 (fun c hc => hk c (List.mem_cons_of_mem _ hc)) rfl
    have ha : anyIn a (b :: ks) T = anyIn a ks (putT T (a, (b : Int)) (1, [])) := rfl
    rw [ha]
    refine ⟨q1, fun k' => ?_, t3, q3, ?_⟩
    · rw [q2, put_has]
      constructor
      · rintro ((h | h) | ⟨c, hc, h⟩)
        · exact .inr ⟨b, List.mem_cons_self, h⟩
        · exact .inl h
        · exact .inr ⟨c, List.mem_cons_of_mem _ hc, h⟩
      · rintro (h | ⟨c, hc, h⟩)
        · exact .inl (.inr h)
        · rcases List.mem_cons.mp hc with rfl | hc
          · exact .inl (.inl h)
          · exact .inr ⟨c, hc, h⟩
    · have htk : toKey [.int a, .int (b : Int)] = some [.inl a, .inl (b : Int)] := toKey_P (a, (b : Int))
      have hp : putD (T.map rowP) [.inl a, .inl (b : Int)] (.tup [.int 1, .tup []]) = (putT T (a, (b : Int)) (1, [])).map rowP := putD_P T (a, (b : Int)) (1, [])
      have hlen : (T.map rowP).length < 1000000 := by rw [List.length_map]; have := hT.few hp2; omega
      rw [List.map_cons, forL_cons]
      simp only [tabD] at e ⊢
      rw [← hp] at e
      rw [← e]
      generalize (b : Int) = bi at *
      generalize T.map rowP = TD at *
      simp [gAnyRolls_b1, h3, htk, hlen, cap]
theorem any_b2 (p a : Int) (hp : 2 ≤ p) (hp2 : p ≤ 10) (ha : 0 ≤ a) (ha2 : a ≤ p) (T : List TRow) (hT : TabOk p 0 T) (s3 : Sl) (h3 : FL.stored s3 = true) :
    TabOk p 0 (anyIn a (List.range (secN p a)) T) ∧ (∀ k', k' ∈ (anyIn a (List.range (secN p a)) T).map (·.1) ↔ k' ∈ T.map (·.1) ∨ (k'.1 = a ∧ KeyOk p k')) ∧
    ∃ t3, FL.stored t3 = true ∧ gAnyRolls_b2 [.val (.int p), .own false (tabD T), .val (.int a), s3] = some (.nx, [.val (.int p), .own false (tabD (anyIn a (List.range (secN p a)) T)), .val (.int a), t3]) := by
  have hin : ∀ b : Nat, b < secN p a ↔ KeyOk p (a, (b : Int)) := fun b => by
    unfold secN KeyOk
    simp only
    constructor
    · intro h
      split at h
      · exact ⟨by omega, by omega, by omega, by omega, fun _ => by omega⟩
      · exact ⟨by omega, by omega, by omega, by omega, fun _ => by omega⟩
    · rintro ⟨_, _, _, h4, h5⟩
      split
      · rename_i h; have := h5 h; omega
      · omega
  obtain ⟨q1, q2, t3, q3, e⟩ := any_in p a hp2 (List.range (secN p a)) T s3 hT (fun b hb => (hin b).mp (List.mem_range.mp hb)) h3
  refine ⟨q1, fun k' => ?_, t3, q3, ?_⟩
  · rw [q2]
    constructor
    · rintro (h | ⟨b, hb, rfl⟩)
      · exact .inl h
      · exact .inr ⟨rfl, (hin b).mp (List.mem_range.mp hb)⟩
    · rintro (h | ⟨rfl, h⟩)
      · exact .inl h
      · obtain ⟨x, y⟩ := k'
        have h4 : 0 ≤ y := h.2.2.1
        have ey : ((y.toNat : Nat) : Int) = y := by omega
        exact .inr ⟨y.toNat, List.mem_range.mpr ((hin _).mpr (by rw [ey]; exact h)), by rw [ey]⟩
  · have hrg : rg1 (secN p a) = (List.range (secN p a)).map fun (c : Nat) => D.int (c : Int) := rfl
    rw [← hrg] at e
    generalize anyIn a (List.range (secN p a)) T = T2 at *
    unfold secN at e
    by_cases h : a < p
    · have r1 : -1000000 ≤ p - a + 1 ∧ p - a + 1 ≤ 1000000 := by omega
      rw [if_pos h] at e
      simp [gAnyRolls_b2, h, r1, e]
    · have r1 : -1000000 ≤ p + 1 ∧ p + 1 ≤ 1000000 := by omega
      rw [if_neg h] at e
      simp [gAnyRolls_b2, h, r1, e]
theorem any_out (p : Int) (hp : 2 ≤ p) (hp2 : p ≤ 10) : ∀ (ks : List Nat) (T : List TRow) (s2 s3 : Sl), TabOk p 0 T → (∀ a ∈ ks, ((a : Nat) : Int) ≤ p) → FL.stored s2 = true → FL.stored s3 = true →
    TabOk p 0 (ks.foldl (fun T (a : Nat) => anyIn (a : Int) (List.range (secN p (a : Int))) T) T) ∧ (∀ k', k' ∈ (ks.foldl (fun T (a : Nat) => anyIn (a : Int) (List.range (secN p (a : Int))) T) T).map (·.1) ↔ k' ∈ T.map (·.1) ∨ ∃ a ∈ ks, k'.1 = ((a : Nat) : Int) ∧ KeyOk p k') ∧
    ∃ t2 t3, forL (.nm 2) gAnyRolls_b2 (ks.map fun (b : Nat) => D.int (b : Int)) [.val (.int p), .own false (tabD T), s2, s3] = some (.nx, [.val (.int p), .own false (tabD (ks.foldl (fun T (a : Nat) => anyIn (a : Int) (List.range (secN p (a : Int))) T) T)), t2, t3])
  | [], T, s2, s3, hT, _, h2, h3 => ⟨hT, fun k' => by simp, s2, s3, rfl⟩
  | a :: ks, T, s2, s3, hT, hk, h2, h3 => by
    obtain ⟨q1, q2, t3, q3, e⟩ := any_b2 p (a : Int) hp hp2 (Int.natCast_nonneg a) (hk a List.mem_cons_self) T hT s3 h3
    obtain ⟨u1, u2, t2, t3', e2⟩ := any_out p hp hp2 ks _ (.val (.int (a : Int))) t3 q1 (fun c hc => hk c (List.mem_cons_of_mem _ hc)) rfl q3
    rw [List.foldl_cons]
    refine ⟨u1, fun k' => ?_, t2, t3', ?_⟩
    · rw [u2, q2]
      constructor
      · rintro ((h | h) | ⟨c, hc, h⟩)
        · exact .inl h
        · exact .inr ⟨a, List.mem_cons_self, h⟩
        · exact .inr ⟨c, List.mem_cons_of_mem _ hc, h⟩
      · rintro (h | ⟨c, hc, h⟩)
        · exact .inl (.inl h)
        · rcases List.mem_cons.mp hc with rfl | hc
          · exact .inl (.inr h)
          · exact .inr ⟨c, hc, h⟩
    · have e0 : asg (.nm 2) (.int (a : Int)) [.val (.int p), .own false (tabD T), s2, s3] = some [.val (.int p), .own false (tabD T), .val (.int (a : Int)), s3] := by
        generalize (a : Int) = ai at *
        simp [h2]
      rw [List.map_cons, forL_cons, e0, Option.bind_some, e, forO_nx, e2]
theorem any_ok {p : Int} (hp : 2 ≤ p) (hp2 : p ≤ 10) : TabOk p 0 (anyT p) ∧ (∀ k', k' ∈ (anyT p).map (·.1) ↔ KeyOk p k') ∧ fnAnyRolls [.val (.int p)] = some (.own (tabD (anyT p)), [.val (.int p)]) := by
  obtain ⟨q1, q2, t2, t3, e⟩ := any_out p hp hp2 (List.range (p + 1).toNat) [] .no .no .nil (fun b hb => by have := List.mem_range.mp hb; omega) rfl rfl
  refine ⟨q1, fun k' => ?_, ?_⟩
  · show k' ∈ ((List.range (p + 1).toNat).foldl (fun T (a : Nat) => anyIn (a : Int) (List.range (secN p (a : Int))) T) []).map (·.1) ↔ _
    rw [q2]
    constructor
    · rintro (h | ⟨_, _, _, h⟩)
      · cases h
      · exact h
    · intro h
      have h1 := h.1
      have h2 := h.2.1
      exact .inr ⟨k'.1.toNat, List.mem_range.mpr (by omega), by omega, h⟩
  · have hrg : rg1 (p + 1).toNat = (List.range (p + 1).toNat).map fun (c : Nat) => D.int (c : Int) := rfl
    rw [← hrg] at e
    have e' : forL (.nm 2) gAnyRolls_b2 (rg1 (p + 1).toNat) [.val (.int p), .own false (.dic []), .no, .no] = some (.nx, [.val (.int p), .own false (tabD (anyT p)), t2, t3]) := e
    have r1 : -1000000 ≤ p + 1 ∧ p + 1 ≤ 1000000 := by omega
    rw [fnAnyRolls, defF_eq]
    generalize tabD (anyT p) = Z at *
    simp [gAnyRolls, r1, e']
end My
namespace My
open PySem L2 FL
/-! ## last_table -/
def bitK (k : Int) : Int := if k = 2 then 4 else if k = 1 then 2 else 1
def lastStep (total : Int) (T : List TRow) (q : Quad) : List TRow := if q.2.2.1 = total then addT T (q.1, q.2.1) 1 [bitK q.2.2.2] else T
def lastT (p total : Int) : List TRow := (lastF p).foldl (lastStep total) []
theorem shl_eq {i j : Int} {n : Nat} (h0 : 0 ≤ j) (h1 : j ≤ 100000) (hn : n ≤ 100000) (hi : i.natAbs < 2 ^ n) : oShl (.int i) (.int j) = some (.val (.int (i * 2 ^ j.toNat))) := by
  show (if 0 ≤ j ∧ j ≤ 100000 ∧ i.natAbs < 2 ^ 100000 then some (R.val (.int (i * 2 ^ j.toNat))) else none) = _
  rw [if_pos ⟨h0, h1, Nat.lt_of_lt_of_le hi (Nat.pow_le_pow_right (by decide) hn)⟩]
theorem shl_bit {k : Int} (h : k = 0 ∨ k = 1 ∨ k = 2) : oShl (.int 1) (.int k) = some (.val (.int (bitK k))) := by
  rw [shl_eq (n := 1) (by omega) (by omega) (by decide) (by decide)]
  rcases h with rfl | rfl | rfl <;> rfl
theorem last_loop (p total : Int) (hp2 : p ≤ 10) : ∀ (qs : List Quad) (T : List TRow) (s3 s4 s5 s6 : Sl), TabOk p 1 T → (∀ q ∈ qs, QuadOk p q) → FL.stored s3 = true → FL.stored s4 = true → FL.stored s5 = true → FL.stored s6 = true →
    TabOk p 1 (qs.foldl (lastStep total) T) ∧ (∀ k', k' ∈ (qs.foldl (lastStep total) T).map (·.1) ↔ k' ∈ T.map (·.1) ∨ ∃ q ∈ qs, q.2.2.1 = total ∧ k' = (q.1, q.2.1)) ∧
    ∃ t3 t4 t5 t6, forL (.tp [.nm 3, .nm 4, .nm 5, .nm 6]) gLastTable_b1 (qs.map quadD) [.val (.int p), .val (.int total), .own false (tabD T), s3, s4, s5, s6] = some (.nx, [.val (.int p), .val (.int total), .own false (tabD (qs.foldl (lastStep total) T)), t3, t4, t5, t6])
  | [], T, s3, s4, s5, s6, hT, _, _, _, _, _ => ⟨hT, fun k' => by simp, s3, s4, s5, s6, rfl⟩
  | q :: qs, T, s3, s4, s5, s6, hT, hq, h3, h4, h5, h6 => by
    have hq0 := hq q List.mem_cons_self
    have hk : q.2.2.2 = 0 ∨ q.2.2.2 = 1 ∨ q.2.2.2 = 2 := by
      rcases hq0.2 with h | h | h
      · exact .inr (.inr h.2.1)
      · exact .inr (.inl h.2.2.1)
      · exact .inl h.2.2.1
    have hT2 : TabOk p 1 (lastStep total T q) := by
      unfold lastStep
      split
      · exact hT.add hq0.1 (by decide) rfl
      · exact hT
    obtain ⟨q1, q2, t3, t4, t5, t6, e⟩ := last_loop p total hp2 qs _ (.val (.int q.1)) (.val (.int q.2.1)) (.val (.int q.2.2.1)) (.val (.int q.2.2.2)) hT2 (fun c hc => hq c (List.mem_cons_of_mem _ hc)) rfl rfl rfl rfl
    rw [List.foldl_cons]
    refine ⟨q1, fun k' => ?_, t3, t4, t5, t6, ?_⟩
    · rw [q2]
      have hs : k' ∈ (lastStep total T q).map (·.1) ↔ k' ∈ T.map (·.1) ∨ (q.2.2.1 = total ∧ k' = (q.1, q.2.1)) := by
        unfold lastStep
        split
        · rename_i h
          rw [add_has]
          constructor
          · rintro (h2 | h2)
            · exact .inr ⟨h, h2⟩
            · exact .inl h2
          · rintro (h2 | h2)
            · exact .inr h2
            · exact .inl h2.2
        · rename_i h
          constructor
          · exact .inl
          · rintro (h2 | h2)
            · exact h2
            · exact absurd h2.1 h
      rw [hs]
      constructor
      · rintro ((h | h) | ⟨c, hc, h⟩)
        · exact .inl h
        · exact .inr ⟨q, List.mem_cons_self, h⟩
        · exact .inr ⟨c, List.mem_cons_of_mem _ hc, h⟩
      · rintro (h | ⟨c, hc, h⟩)
        · exact .inl (.inl h)
        · rcases List.mem_cons.mp hc with rfl | hc
          · exact .inl (.inr h)
          · exact .inr ⟨c, hc, h⟩
    · have hr : fnAddRow [.own false (tabD T), .val (.tup [.int q.1, .int q.2.1]), .val (.int 1), .val (.tup [.int (bitK q.2.2.2)])] = some (.val .non, [.own false (tabD (addT T (q.1, q.2.1) 1 [bitK q.2.2.2])), .val (.tup [.int q.1, .int q.2.1]), .val (.int 1), .val (.tup [.int (bitK q.2.2.2)])]) :=
        hT.add_row hp2 (by decide) (q.1, q.2.1) 1 [bitK q.2.2.2]
      have hs := shl_bit hk
      obtain ⟨a, b, z, k⟩ := q
      simp only at e hs hr
      have hs1 : z = total → lastStep total T (a, b, z, k) = addT T (a, b) 1 [bitK k] := fun h => by unfold lastStep; rw [if_pos h]
      have hs0 : ¬ z = total → lastStep total T (a, b, z, k) = T := fun h => by unfold lastStep; rw [if_neg h]
      generalize lastStep total T (a, b, z, k) = T2 at *
      rw [← e, List.map_cons, forL_cons]
      by_cases h : z = total
      · rw [hs1 h]
        generalize tabD (addT T (a, b) 1 [bitK k]) = X2 at *
        generalize tabD T = X1 at *
        simp [gLastTable_b1, h3, h4, h5, h6, h, hs, hr, cap]
      · rw [hs0 h]
        generalize tabD T = X1 at *
        simp [gLastTable_b1, h3, h4, h5, h6, h]
theorem last_ok {p : Int} (total : Int) (hp : 2 ≤ p) (hp2 : p ≤ 10) : TabOk p 1 (lastT p total) ∧ (∀ k', k' ∈ (lastT p total).map (·.1) ↔ ∃ q, QuadOk p q ∧ q.2.2.1 = total ∧ k' = (q.1, q.2.1)) ∧
    fnLastTable [.val (.int p), .val (.int total)] = some (.own (tabD (lastT p total)), [.val (.int p), .val (.int total)]) := by
  obtain ⟨q1, q2, t3, t4, t5, t6, e⟩ := last_loop p total hp2 (lastF p) [] .no .no .no .no .nil (fun q hq => (mem_lastF hp).mp hq) rfl rfl rfl rfl
  refine ⟨q1, fun k' => ?_, ?_⟩
  · show k' ∈ ((lastF p).foldl (lastStep total) []).map (·.1) ↔ _
    rw [q2]
    constructor
    · rintro (h | ⟨q, hq, h⟩)
      · cases h
      · exact ⟨q, (mem_lastF hp).mp hq, h⟩
    · rintro ⟨q, hq, h⟩
      exact .inr ⟨q, (mem_lastF hp).mpr hq, h⟩
  · have e' : forL (.tp [.nm 3, .nm 4, .nm 5, .nm 6]) gLastTable_b1 ((lastF p).map quadD) [.val (.int p), .val (.int total), .own false (.dic []), .no, .no, .no, .no] = some (.nx, [.val (.int p), .val (.int total), .own false (tabD (lastT p total)), t3, t4, t5, t6]) := e
    have hf := last_frames_ok p hp hp2
    rw [fnLastTable, defF_eq]
    generalize tabD (lastT p total) = Z at *
    generalize (lastF p).map quadD = QS at *
    simp [gLastTable, hf, e']
end My
namespace My
open PySem L2 FL
/-! ## table_before -/
def bInner (p total : Int) (k : Int × Int) (c : Int) (ks : List Int) (T : List TRow) (a : Int) : List TRow :=
  let T1 := if p + k.1 = total then addT T (a, p - a) c (2 :: ks) else T
  if total < p ∧ a ≤ total then addT T1 (a, total - a) c (1 :: ks) else T1
def bRow (p total : Int) (T : List TRow) (r : TRow) : List TRow :=
  (List.range p.toNat).foldl (fun T (a : Nat) => bInner p total r.1 r.2.1 r.2.2 T (a : Int)) (if p + r.1.1 + r.1.2 = total then addT T (p, r.1.1) r.2.1 (4 :: r.2.2) else T)
def beforeT (p total : Int) (B : List TRow) : List TRow := B.foldl (bRow p total) []
theorem inner_ok {p total : Int} {n : Nat} {k : Int × Int} {c : Int} {ks : List Int} {T : List TRow} {a : Int} (hT : TabOk p (n + 1) T) (hc : 1 ≤ c) (hl : ks.length = n) (ha : 0 ≤ a) (ha2 : a < p) : TabOk p (n + 1) (bInner p total k c ks T a) := by
  have h1 : TabOk p (n + 1) (if p + k.1 = total then addT T (a, p - a) c (2 :: ks) else T) := by
    split
    · exact hT.add ⟨ha, by show a ≤ p; omega, by show 0 ≤ p - a; omega, by show p - a ≤ p; omega, fun _ => by show a + (p - a) ≤ p; omega⟩ hc (by simp [hl])
    · exact hT
  unfold bInner
  simp only
  by_cases h : total < p ∧ a ≤ total
  · rw [if_pos h]
    exact h1.add ⟨ha, by show a ≤ p; omega, by show 0 ≤ total - a; omega, by show total - a ≤ p; omega, fun _ => by show a + (total - a) ≤ p; omega⟩ hc (by simp [hl])
  · rw [if_neg h]; exact h1
theorem inner_has {p total : Int} {k : Int × Int} {c : Int} {ks : List Int} {T : List TRow} {a : Int} {k' : Int × Int} : k' ∈ (bInner p total k c ks T a).map (·.1) ↔
    k' ∈ T.map (·.1) ∨ (p + k.1 = total ∧ k' = (a, p - a)) ∨ (total < p ∧ a ≤ total ∧ k' = (a, total - a)) := by
  have h1 : k' ∈ (if p + k.1 = total then addT T (a, p - a) c (2 :: ks) else T).map (·.1) ↔ k' ∈ T.map (·.1) ∨ (p + k.1 = total ∧ k' = (a, p - a)) := by
    split
    · rename_i h
      rw [add_has]; simp [h, or_comm]
    · rename_i h; simp [h]
  unfold bInner
  simp only
  by_cases h : total < p ∧ a ≤ total
  · rw [if_pos h, add_has, h1]
    simp only [h, true_and]
    constructor
    · rintro (h | h | h)
      · exact .inr (.inr h)
      · exact .inl h
      · exact .inr (.inl h)
    · rintro (h | h | h)
      · exact .inr (.inl h)
      · exact .inr (.inr h)
      · exact .inl h
  · rw [if_neg h, h1]
    constructor
    · rintro (h | h)
      · exact .inl h
      · exact .inr (.inl h)
    · rintro (h2 | h2 | h2)
      · exact .inl h2
      · exact .inr h2
      · exact absurd ⟨h2.1, h2.2.1⟩ h
theorem before_b1 {p total : Int} {n : Nat} {k : Int × Int} {c : Int} {ks : List Int} {T : List TRow} {a : Int} (hp2 : p ≤ 10) (hT : TabOk p (n + 1) T) (hc : 1 ≤ c) (hl : ks.length = n) (hn : n ≤ 900) (ha : 0 ≤ a) (ha2 : a < p) (s2 s5 : Sl) :
    gTableBefore_b1 [.val (.int p), .val (.int total), s2, .own false (tabD T), .val (keyP k), s5, .val (.int c), .val (tI ks), .val (.int a)] =
      some (.nx, [.val (.int p), .val (.int total), s2, .own false (tabD (bInner p total k c ks T a)), .val (keyP k), s5, .val (.int c), .val (tI ks), .val (.int a)]) := by
  have h1 : TabOk p (n + 1) (if p + k.1 = total then addT T (a, p - a) c (2 :: ks) else T) := by
    split
    · exact hT.add ⟨ha, by show a ≤ p; omega, by show 0 ≤ p - a; omega, by show p - a ≤ p; omega, fun _ => by show a + (p - a) ≤ p; omega⟩ hc (by simp [hl])
    · exact hT
  have hlen : ks.length + 1 ≤ 1000000 := by omega
  have e1 : fnAddRow [.own false (tabD T), .val (.tup [.int a, .int (p - a)]), .val (.int c), .val (.tup (.int 2 :: ks.map D.int))] = some (.val .non, [.own false (tabD (addT T (a, p - a) c (2 :: ks))), .val (.tup [.int a, .int (p - a)]), .val (.int c), .val (.tup (.int 2 :: ks.map D.int))]) :=
    hT.add_row hp2 (by omega) (a, p - a) c (2 :: ks)
  have e2 : fnAddRow [.own false (tabD (if p + k.1 = total then addT T (a, p - a) c (2 :: ks) else T)), .val (.tup [.int a, .int (total - a)]), .val (.int c), .val (.tup (.int 1 :: ks.map D.int))] = some (.val .non, [.own false (tabD (addT (if p + k.1 = total then addT T (a, p - a) c (2 :: ks) else T) (a, total - a) c (1 :: ks))), .val (.tup [.int a, .int (total - a)]), .val (.int c), .val (.tup (.int 1 :: ks.map D.int))]) :=
    h1.add_row hp2 (by omega) (a, total - a) c (1 :: ks)
  unfold bInner
  simp only
  by_cases q1 : p + k.1 = total
  · rw [if_pos q1] at e2 ⊢
    by_cases q2 : total < p
    · by_cases q3 : a ≤ total
      · rw [if_pos ⟨q2, q3⟩]
        generalize tabD (addT (addT T (a, p - a) c (2 :: ks)) (a, total - a) c (1 :: ks)) = X2 at *
        generalize tabD (addT T (a, p - a) c (2 :: ks)) = X1 at *
        generalize tabD T = X0 at *
        simp [gTableBefore_b1, q1, q2, q3, e1, e2, hlen, cap]
      · rw [if_neg (fun z => q3 z.2)]
        generalize tabD (addT T (a, p - a) c (2 :: ks)) = X1 at *
        generalize tabD T = X0 at *
        simp [gTableBefore_b1, q1, q2, q3, e1, hlen, cap]
    · rw [if_neg (fun z => q2 z.1)]
      generalize tabD (addT T (a, p - a) c (2 :: ks)) = X1 at *
      generalize tabD T = X0 at *
      simp [gTableBefore_b1, q1, q2, e1, hlen, cap]
  · rw [if_neg q1] at e2 ⊢
    by_cases q2 : total < p
    · by_cases q3 : a ≤ total
      · rw [if_pos ⟨q2, q3⟩]
        generalize tabD (addT T (a, total - a) c (1 :: ks)) = X1 at *
        generalize tabD T = X0 at *
        simp [gTableBefore_b1, q1, q2, q3, e2, hlen, cap]
      · rw [if_neg (fun z => q3 z.2)]
        generalize tabD T = X0 at *
        simp [gTableBefore_b1, q1, q2, q3]
    · rw [if_neg (fun z => q2 z.1)]
      generalize tabD T = X0 at *
      simp [gTableBefore_b1, q1, q2]
theorem before_inner {p total : Int} {n : Nat} {k : Int × Int} {c : Int} {ks : List Int} (hp2 : p ≤ 10) (hc : 1 ≤ c) (hl : ks.length = n) (hn : n ≤ 900) (s2 s5 : Sl) : ∀ (as : List Nat) (T : List TRow) (s8 : Sl), TabOk p (n + 1) T → (∀ a ∈ as, ((a : Nat) : Int) < p) → FL.stored s8 = true →
    TabOk p (n + 1) (as.foldl (fun T (a : Nat) => bInner p total k c ks T (a : Int)) T) ∧
    (∀ k', k' ∈ (as.foldl (fun T (a : Nat) => bInner p total k c ks T (a : Int)) T).map (·.1) ↔ k' ∈ T.map (·.1) ∨ ∃ a ∈ as, (p + k.1 = total ∧ k' = (((a : Nat) : Int), p - ((a : Nat) : Int))) ∨ (total < p ∧ ((a : Nat) : Int) ≤ total ∧ k' = (((a : Nat) : Int), total - ((a : Nat) : Int)))) ∧
    ∃ t8, FL.stored t8 = true ∧ forL (.nm 8) gTableBefore_b1 (as.map fun (b : Nat) => D.int (b : Int)) [.val (.int p), .val (.int total), s2, .own false (tabD T), .val (keyP k), s5, .val (.int c), .val (tI ks), s8] =
      some (.nx, [.val (.int p), .val (.int total), s2, .own false (tabD (as.foldl (fun T (a : Nat) => bInner p total k c ks T (a : Int)) T)), .val (keyP k), s5, .val (.int c), .val (tI ks), t8])
  | [], T, s8, hT, _, h8 => ⟨hT, fun k' => by simp, s8, h8, rfl⟩
  | a :: as, T, s8, hT, ha, h8 => by
    have ha0 := ha a List.mem_cons_self
    have hT2 := inner_ok (total := total) (k := k) hT hc hl (Int.natCast_nonneg a) ha0
    obtain ⟨u1, u2, t8, h8', e2⟩ := before_inner (total := total) (k := k) hp2 hc hl hn s2 s5 as _ (.val (.int (a : Int))) hT2 (fun c hc => ha c (List.mem_cons_of_mem _ hc)) rfl
    have e1 := before_b1 (total := total) (k := k) hp2 hT hc hl hn (Int.natCast_nonneg a) ha0 s2 s5
    rw [List.foldl_cons]
    refine ⟨u1, fun k' => ?_, t8, h8', ?_⟩
    · rw [u2, inner_has]
      constructor
      · rintro ((h | h) | ⟨c, hc, h⟩)
        · exact .inl h
        · exact .inr ⟨a, List.mem_cons_self, h⟩
        · exact .inr ⟨c, List.mem_cons_of_mem _ hc, h⟩
      · rintro (h | ⟨c, hc, h⟩)
        · exact .inl (.inl h)
        · rcases List.mem_cons.mp hc with rfl | hc
          · exact .inl (.inr h)
          · exact .inr ⟨c, hc, h⟩
    · have e0 : asg (.nm 8) (.int (a : Int)) [.val (.int p), .val (.int total), s2, .own false (tabD T), .val (keyP k), s5, .val (.int c), .val (tI ks), s8] = some [.val (.int p), .val (.int total), s2, .own false (tabD T), .val (keyP k), s5, .val (.int c), .val (tI ks), .val (.int (a : Int))] := by
        generalize (a : Int) = ai at *
        simp [h8]
      rw [List.map_cons, forL_cons, e0, Option.bind_some, e1, forO_nx, e2]
/-- what one row behind makes possible -/
def Makes (p total : Int) (k k' : Int × Int) : Prop := (p + k.1 + k.2 = total ∧ k' = (p, k.1)) ∨ (p + k.1 = total ∧ 0 ≤ k'.1 ∧ k'.1 < p ∧ k'.2 = p - k'.1) ∨ (total < p ∧ 0 ≤ k'.1 ∧ 0 ≤ k'.2 ∧ k'.1 + k'.2 = total)
theorem before_b2 {p total : Int} {n : Nat} {T : List TRow} {r : TRow} (hp : 2 ≤ p) (hp2 : p ≤ 10) (hr : RowOk p n r) (hn : n ≤ 900) (hT : TabOk p (n + 1) T) (s2 s6 s7 s8 : Sl) (h6 : FL.stored s6 = true) (h7 : FL.stored s7 = true) (h8 : FL.stored s8 = true) :
    TabOk p (n + 1) (bRow p total T r) ∧ (∀ k', k' ∈ (bRow p total T r).map (·.1) ↔ k' ∈ T.map (·.1) ∨ Makes p total r.1 k') ∧
    ∃ t6 t7 t8, FL.stored t6 = true ∧ FL.stored t7 = true ∧ FL.stored t8 = true ∧ gTableBefore_b2 [.val (.int p), .val (.int total), s2, .own false (tabD T), .val (keyP r.1), .val (valP r.2.1 r.2.2), s6, s7, s8] =
      some (.nx, [.val (.int p), .val (.int total), s2, .own false (tabD (bRow p total T r)), .val (keyP r.1), .val (valP r.2.1 r.2.2), t6, t7, t8]) := by
  have hk := hr.key
  have hT1 : TabOk p (n + 1) (if p + r.1.1 + r.1.2 = total then addT T (p, r.1.1) r.2.1 (4 :: r.2.2) else T) := by
    split
    · refine hT.add ⟨by show 0 ≤ p; omega, Int.le_refl p, hk.1, hk.2.1, fun h => ?_⟩ hr.pos (by simp [hr.len])
      have h' : p < p := h
      omega
    · exact hT
  obtain ⟨u1, u2, t8, h8', e⟩ := before_inner (p := p) (total := total) (n := n) (k := r.1) (c := r.2.1) (ks := r.2.2) hp2 hr.pos hr.len hn s2 (.val (valP r.2.1 r.2.2)) (List.range p.toNat) _ s8 hT1 (fun a ha => by have := List.mem_range.mp ha; omega) h8
  refine ⟨u1, fun k' => ?_, .val (.int r.2.1), .val (tI r.2.2), t8, rfl, rfl, h8', ?_⟩
  · show k' ∈ ((List.range p.toNat).foldl (fun T (a : Nat) => bInner p total r.1 r.2.1 r.2.2 T (a : Int)) (if p + r.1.1 + r.1.2 = total then addT T (p, r.1.1) r.2.1 (4 :: r.2.2) else T)).map (·.1) ↔ _
    rw [u2]
    have h1 : k' ∈ (if p + r.1.1 + r.1.2 = total then addT T (p, r.1.1) r.2.1 (4 :: r.2.2) else T).map (·.1) ↔ k' ∈ T.map (·.1) ∨ (p + r.1.1 + r.1.2 = total ∧ k' = (p, r.1.1)) := by
      split
      · rename_i h
        rw [add_has]; simp [h, or_comm]
      · rename_i h; simp [h]
    rw [h1]
    obtain ⟨x, y⟩ := k'
    unfold Makes
    simp only [Prod.mk.injEq]
    constructor
    · rintro ((h | h) | ⟨a, ha, h⟩)
      · exact .inl h
      · exact .inr (.inl h)
      · have ha' := List.mem_range.mp ha
        rcases h with ⟨h1, h2, h3⟩ | ⟨h1, h2, h3, h4⟩
        · exact .inr (.inr (.inl (by omega)))
        · exact .inr (.inr (.inr (by omega)))
    · rintro (h | h | h | h)
      · exact .inl (.inl h)
      · exact .inl (.inr h)
      · exact .inr ⟨x.toNat, List.mem_range.mpr (by omega), .inl (by omega)⟩
      · exact .inr ⟨x.toNat, List.mem_range.mpr (by omega), .inr (by omega)⟩
  · have hlen : r.2.2.length + 1 ≤ 1000000 := by have := hr.len; omega
    have e1 : fnAddRow [.own false (tabD T), .val (.tup [.int p, .int r.1.1]), .val (.int r.2.1), .val (.tup (.int 4 :: r.2.2.map D.int))] = some (.val .non, [.own false (tabD (addT T (p, r.1.1) r.2.1 (4 :: r.2.2))), .val (.tup [.int p, .int r.1.1]), .val (.int r.2.1), .val (.tup (.int 4 :: r.2.2.map D.int))]) :=
      hT.add_row hp2 (by omega) (p, r.1.1) r.2.1 (4 :: r.2.2)
    have hrg : rg1 p.toNat = (List.range p.toNat).map fun (c : Nat) => D.int (c : Int) := rfl
    have r1 : -1000000 ≤ p ∧ p ≤ 1000000 := by omega
    rw [← hrg] at e
    have hb : bRow p total T r = (List.range p.toNat).foldl (fun T (a : Nat) => bInner p total r.1 r.2.1 r.2.2 T (a : Int)) (if p + r.1.1 + r.1.2 = total then addT T (p, r.1.1) r.2.1 (4 :: r.2.2) else T) := rfl
    rw [← hb] at e
    generalize tabD (bRow p total T r) = X9 at *
    by_cases h : p + r.1.1 + r.1.2 = total
    · rw [if_pos h] at e
      generalize tabD (addT T (p, r.1.1) r.2.1 (4 :: r.2.2)) = X1 at *
      generalize tabD T = X0 at *
      simp [gTableBefore_b2, h6, h7, h, hlen, cap, e1, r1]
      exact e
    · rw [if_neg h] at e
      generalize tabD T = X0 at *
      simp [gTableBefore_b2, h6, h7, h, hlen, cap, r1]
      exact e
theorem before_loop {p total : Int} {n : Nat} (hp : 2 ≤ p) (hp2 : p ≤ 10) (hn : n ≤ 900) (s2 : Sl) : ∀ (B T : List TRow) (s4 s5 s6 s7 s8 : Sl), (∀ r ∈ B, RowOk p n r) → TabOk p (n + 1) T → FL.stored s4 = true → FL.stored s5 = true → FL.stored s6 = true → FL.stored s7 = true → FL.stored s8 = true →
    TabOk p (n + 1) (B.foldl (bRow p total) T) ∧ (∀ k', k' ∈ (B.foldl (bRow p total) T).map (·.1) ↔ k' ∈ T.map (·.1) ∨ ∃ r ∈ B, Makes p total r.1 k') ∧
    ∃ t4 t5 t6 t7 t8, forL (.tp [.nm 4, .nm 5]) gTableBefore_b2 (B.map fun r => D.tup [keyP r.1, valP r.2.1 r.2.2]) [.val (.int p), .val (.int total), s2, .own false (tabD T), s4, s5, s6, s7, s8] =
      some (.nx, [.val (.int p), .val (.int total), s2, .own false (tabD (B.foldl (bRow p total) T)), t4, t5, t6, t7, t8])
  | [], T, s4, s5, s6, s7, s8, _, hT, _, _, _, _, _ => ⟨hT, fun k' => by simp, s4, s5, s6, s7, s8, rfl⟩
  | r :: B, T, s4, s5, s6, s7, s8, hB, hT, h4, h5, h6, h7, h8 => by
    obtain ⟨q1, q2, t6, t7, t8, h6', h7', h8', e⟩ := before_b2 (total := total) hp hp2 (hB r List.mem_cons_self) hn hT s2 s6 s7 s8 h6 h7 h8
    obtain ⟨u1, u2, v4, v5, v6, v7, v8, e2⟩ := before_loop (total := total) hp hp2 hn s2 B _ (.val (keyP r.1)) (.val (valP r.2.1 r.2.2)) t6 t7 t8 (fun c hc => hB c (List.mem_cons_of_mem _ hc)) q1 rfl rfl h6' h7' h8'
    rw [List.foldl_cons]
    refine ⟨u1, fun k' => ?_, v4, v5, v6, v7, v8, ?_⟩
    · rw [u2, q2]
      constructor
      · rintro ((h | h) | ⟨c, hc, h⟩)
        · exact .inl h
        · exact .inr ⟨r, List.mem_cons_self, h⟩
        · exact .inr ⟨c, List.mem_cons_of_mem _ hc, h⟩
      · rintro (h | ⟨c, hc, h⟩)
        · exact .inl (.inl h)
        · rcases List.mem_cons.mp hc with rfl | hc
          · exact .inl (.inr h)
          · exact .inr ⟨c, hc, h⟩
    · have e0 : asg (.tp [.nm 4, .nm 5]) (.tup [keyP r.1, valP r.2.1 r.2.2]) [.val (.int p), .val (.int total), s2, .own false (tabD T), s4, s5, s6, s7, s8] = some [.val (.int p), .val (.int total), s2, .own false (tabD T), .val (keyP r.1), .val (valP r.2.1 r.2.2), s6, s7, s8] := by
        generalize keyP r.1 = KP at *
        generalize valP r.2.1 r.2.2 = VP at *
        simp [h4, h5]
      rw [List.map_cons, forL_cons, e0, Option.bind_some, e, forO_nx, e2]
theorem items_P (B : List TRow) : itemsD (B.map rowP) = B.map fun r => D.tup [keyP r.1, valP r.2.1 r.2.2] := by
  unfold itemsD
  rw [List.map_map]
  rfl
theorem before_ok {p total : Int} {n : Nat} {B : List TRow} (hp : 2 ≤ p) (hp2 : p ≤ 10) (hn : n ≤ 900) (hB : TabOk p n B) :
    TabOk p (n + 1) (beforeT p total B) ∧ (∀ k', k' ∈ (beforeT p total B).map (·.1) ↔ ∃ r ∈ B, Makes p total r.1 k') ∧
    fnTableBefore [.val (.int p), .val (.int total), .own false (tabD B)] = some (.own (tabD (beforeT p total B)), [.val (.int p), .val (.int total), .no]) := by
  obtain ⟨u1, u2, v4, v5, v6, v7, v8, e⟩ := before_loop (total := total) hp hp2 hn (.val (tabD B)) B [] .no .no .no .no .no hB.row .nil rfl rfl rfl rfl rfl
  refine ⟨u1, fun k' => ?_, ?_⟩
  · show k' ∈ (B.foldl (bRow p total) []).map (·.1) ↔ _
    rw [u2]; simp
  · have e' : forL (.tp [.nm 4, .nm 5]) gTableBefore_b2 (B.map fun r => D.tup [keyP r.1, valP r.2.1 r.2.2]) [.val (.int p), .val (.int total), .val (tabD B), .own false (.dic []), .no, .no, .no, .no, .no] = some (.nx, [.val (.int p), .val (.int total), .val (tabD B), .own false (tabD (beforeT p total B)), v4, v5, v6, v7, v8]) := e
    rw [← items_P] at e'
    rw [fnTableBefore, defF_eq]
    generalize tabD (beforeT p total B) = Z at *
    simp only [tabD] at e' ⊢
    generalize B.map rowP = BD at *
    simp [gTableBefore, e']
end My
namespace My
open PySem L2 FL
/-! ## table_of -/
theorem cut_lastT {α : Type} (xs : List α) : cutD xs none (some (-1)) = xs.dropLast := by
  rcases List.eq_nil_or_concat xs with rfl | ⟨ys, y, rfl⟩
  · rfl
  · rw [List.concat_eq_append, cut_init]; simp
theorem slice_lastT (ns : List Int) : oSlice (tI ns) none (some (-1)) = some (.val (tI ns.dropLast)) := by
  rw [sliceT, cut_lastT, ← List.map_dropLast]
theorem ix_lastT (ns : List Int) (h : ns ≠ []) : oIx (tI ns) (.int (-1)) = some (.val (.int (ns.getLastD 0))) := by
  rcases List.eq_nil_or_concat ns with rfl | ⟨ys, y, rfl⟩
  · exact absurd rfl h
  · rw [List.concat_eq_append, ixT]
    rw [show (ys ++ [y]).map D.int = ys.map D.int ++ [D.int y] by simp, FL.atI_last]
    simp
def frontT (p : Int) (base : List TRow) (ts : List Int) : List TRow := ts.foldr (beforeT p) base
def tableT (f p : Int) (sheet : List Int) : List TRow := if (sheet.length : Int) = f then frontT p (lastT p (sheet.getLastD 0)) sheet.dropLast else frontT p (anyT p) sheet
theorem front_ok {p : Int} (hp : 2 ≤ p) (hp2 : p ≤ 10) {n : Nat} {base : List TRow} (hb : TabOk p n base) : ∀ (ts : List Int), n + ts.length ≤ 900 → TabOk p (n + ts.length) (frontT p base ts)
  | [], _ => hb
  | t :: ts, hl => by
    rw [List.length_cons] at hl
    have ih := front_ok hp hp2 hb ts (by omega)
    have := (before_ok (total := t) hp hp2 (by omega) ih).1
    rw [List.length_cons, ← Nat.add_assoc]
    exact this
theorem tof_loop {p : Int} (hp : 2 ≤ p) (hp2 : p ≤ 10) (s0 s1 s2 s5 : Sl) : ∀ (ts : List Int) (T : List TRow) (n : Nat) (s6 : Sl), TabOk p n T → n + ts.length ≤ 900 → FL.stored s6 = true →
    ∃ t6, forL (.nm 6) gTableOf_b1 (ts.map D.int) [s0, s1, s2, .val (.int p), .own false (tabD T), s5, s6] = some (.nx, [s0, s1, s2, .val (.int p), .own false (tabD (ts.foldl (fun T t => beforeT p t T) T)), s5, t6])
  | [], T, n, s6, _, _, _ => ⟨s6, rfl⟩
  | t :: ts, T, n, s6, hT, hl, h6 => by
    rw [List.length_cons] at hl
    obtain ⟨q1, _, e⟩ := before_ok (total := t) hp hp2 (by omega) hT
    obtain ⟨t6, e2⟩ := tof_loop hp hp2 s0 s1 s2 s5 ts _ (n + 1) (.val (.int t)) q1 (by omega) rfl
    refine ⟨t6, ?_⟩
    rw [List.map_cons, forL_cons, List.foldl_cons]
    generalize tabD (beforeT p t T) = Z at *
    simp only [tabD] at e e2 ⊢
    generalize T.map rowP = TD at *
    rw [← e2]
    simp [gTableOf_b1, h6, e]
theorem table_ok (f p : Int) (sheet : List Int) (f1 : 1 ≤ f) (hp : 2 ≤ p) (hp2 : p ≤ 10) (hl : sheet.length ≤ 800) : fnTableOf [.val (rulesD f p), .val (tI sheet)] = some (.own (tabD (tableT f p sheet)), [.val (rulesD f p), .val (tI sheet)]) := by
  rw [fnTableOf, defF_eq]
  unfold tableT
  by_cases h : (sheet.length : Int) = f
  · rw [if_pos h]
    have hne : sheet ≠ [] := by rintro rfl; simp at h; omega
    obtain ⟨q1, _, e⟩ := last_ok (p := p) (sheet.getLastD 0) hp hp2
    obtain ⟨t6, e2⟩ := tof_loop hp hp2 (.val (rulesD f p)) (.val (tI sheet)) (.val (.int f)) (.val (tI sheet.dropLast)) sheet.dropLast.reverse _ 1 .no q1 (by simp; omega) rfl
    rw [List.foldl_reverse] at e2
    have hfr : sheet.dropLast.foldr (fun x y => beforeT p x y) (lastT p (sheet.getLastD 0)) = frontT p (lastT p (sheet.getLastD 0)) sheet.dropLast := rfl
    rw [hfr, List.map_reverse] at e2
    have s1 := slice_lastT sheet
    have s2 := ix_lastT sheet hne
    have s3 : oLen [tI sheet] = some (.val (.int f)) := by simp [← h]
    generalize tabD (frontT p (lastT p (sheet.getLastD 0)) sheet.dropLast) = Z at *
    generalize tabD (lastT p (sheet.getLastD 0)) = Y at *
    generalize sheet.getLastD 0 = lst at *
    have hrev : oRevT (tI sheet.dropLast) = some (.val (.tup (sheet.dropLast.map D.int).reverse)) := rfl
    generalize sheet.dropLast.map D.int = DL at *
    generalize tI sheet.dropLast = RS at *
    generalize tI sheet = SH at *
    simp [gTableOf, s1, s2, s3, e, e2, hrev, -len1T, -sliceT]
  · rw [if_neg h]
    obtain ⟨q1, _, e⟩ := any_ok hp hp2
    obtain ⟨t6, e2⟩ := tof_loop hp hp2 (.val (rulesD f p)) (.val (tI sheet)) (.val (.int f)) (.val (tI sheet)) sheet.reverse _ 0 .no q1 (by simp; omega) rfl
    rw [List.foldl_reverse] at e2
    have hfr : sheet.foldr (fun x y => beforeT p x y) (anyT p) = frontT p (anyT p) sheet := rfl
    rw [hfr, List.map_reverse] at e2
    have s3 : oLen [tI sheet] = some (.val (.int (sheet.length : Int))) := by simp
    generalize tabD (frontT p (anyT p) sheet) = Z at *
    generalize tabD (anyT p) = Y at *
    generalize (sheet.length : Int) = l at *
    have hrev : oRevT (tI sheet) = some (.val (.tup (sheet.map D.int).reverse)) := rfl
    generalize sheet.map D.int = DL at *
    generalize tI sheet = SH at *
    simp [gTableOf, s3, h, e, e2, hrev, -len1T]
theorem table_tab (f p : Int) (sheet : List Int) (hp : 2 ≤ p) (hp2 : p ≤ 10) (hl : sheet.length ≤ 800) : ∃ n, TabOk p n (tableT f p sheet) := by
  unfold tableT
  split
  · exact ⟨_, front_ok hp hp2 (last_ok (p := p) (sheet.getLastD 0) hp hp2).1 sheet.dropLast (by simp; omega)⟩
  · exact ⟨_, front_ok hp hp2 (any_ok hp hp2).1 sheet (by omega)⟩
/-! ## count_sheet -/
def cntT (T : List TRow) : Int := (T.map fun r => r.2.1).sum
end My
namespace My
open PySem L2 FL
theorem count_loop (s0 s1 : Sl) : ∀ (T : List TRow) (acc : List Int), acc.length + T.length ≤ 1000 →
    lcL (.nm 2) (fC (.bl true)) gCountSheet_e1 [2] ((T.map rowP).map (·.2)) (acc.map D.int) [s0, s1, .no] = some ((acc ++ T.map fun r => r.2.1).map D.int, [s0, s1, .no])
  | [], acc, _ => by simp
  | r :: T, acc, hl => by
    rw [List.length_cons] at hl
    have e := count_loop s0 s1 T (acc ++ [r.2.1]) (by simp; omega)
    have hc : (acc.map D.int).length < 1000000 := by rw [List.length_map]; omega
    have hx : oIx (valP r.2.1 r.2.2) (.int 0) = some (.val (.int r.2.1)) := by simp
    have hv : (rowP r).2 = valP r.2.1 r.2.2 := rfl
    rw [List.map_cons, List.map_cons, hv, lcL_cons, List.map_cons, List.append_cons, ← e, List.map_append]
    generalize (T.map rowP).map (·.2) = TD at *
    generalize acc.map D.int = ACC at *
    generalize valP r.2.1 r.2.2 = VV at *
    generalize r.2.1 = c at *
    simp [gCountSheet_e1, hx, cap, hc]
theorem count_ok (f p : Int) (sheet : List Int) (f1 : 1 ≤ f) (hp : 2 ≤ p) (hp2 : p ≤ 10) (hl : sheet.length ≤ 800) : fnCountSheet [.val (rulesD f p), .val (tI sheet)] = some (.val (.int (cntT (tableT f p sheet))), [.val (rulesD f p), .val (tI sheet)]) := by
  have h1 := table_ok f p sheet f1 hp hp2 hl
  obtain ⟨n, hT⟩ := table_tab f p sheet hp hp2 hl
  have e := count_loop (.val (rulesD f p)) (.val (tI sheet)) (tableT f p sheet) [] (by have := hT.few hp2; simp; omega)
  have hs : oSumA [.lst (((tableT f p sheet).map fun r => r.2.1).map D.int)] = some (.val (.int (cntT (tableT f p sheet)))) := by
    rw [sum1, intsOf_map]; rfl
  rw [List.nil_append] at e
  rw [fnCountSheet, defF_eq]
  simp only [tabD, List.map_nil] at h1 e
  generalize cntT (tableT f p sheet) = C at *
  generalize ((tableT f p sheet).map fun r => r.2.1).map D.int = CL at *
  generalize (tableT f p sheet).map rowP = TD at *
  generalize tI sheet = SH at *
  simp [gCountSheet, h1, e, hs, -sum1]
theorem cnt_pos {p : Int} {n : Nat} {T : List TRow} (h : TabOk p n T) : decide (0 < cntT T) = !T.isEmpty := by
  have key : ∀ T : List TRow, (∀ r ∈ T, RowOk p n r) → (T.length : Int) ≤ cntT T := by
    intro T
    induction T with
    | nil => intro _; simp [cntT]
    | cons r T ih =>
      intro hr
      have h1 := (hr r List.mem_cons_self).pos
      have h2 := ih fun q hq => hr q (List.mem_cons_of_mem _ hq)
      unfold cntT at h2 ⊢
      rw [List.map_cons, List.sum_cons, List.length_cons]
      omega
  have := key T h.row
  cases T with
  | nil => rfl
  | cons r T =>
    rw [List.length_cons] at this
    have hp : 0 < cntT (r :: T) := by omega
    simp [hp]
end My
namespace My
open PySem L2 FL
/-! ## sums over a table -/
abbrev K2 := Int × Int
def totW (φ : K2 → Int) (T : List TRow) : Int := (T.map fun r => φ r.1 * r.2.1).sum
theorem cnt_tot (T : List TRow) : cntT T = totW (fun _ => 1) T := by
  unfold cntT totW
  congr 1
  apply List.map_congr_left
  intro r _
  exact (Int.one_mul _).symm
theorem totW_nil (φ : K2 → Int) : totW φ [] = 0 := rfl
theorem totW_cons (φ : K2 → Int) (r : TRow) (T : List TRow) : totW φ (r :: T) = φ r.1 * r.2.1 + totW φ T := by
  unfold totW; rw [List.map_cons, List.sum_cons]
theorem totW_congr {φ ψ : K2 → Int} : ∀ {T : List TRow}, (∀ r ∈ T, φ r.1 = ψ r.1) → totW φ T = totW ψ T
  | [], _ => rfl
  | r :: T, h => by rw [totW_cons, totW_cons, h r List.mem_cons_self, totW_congr fun q hq => h q (List.mem_cons_of_mem _ hq)]
theorem totW_const (c : Int) : ∀ T : List TRow, totW (fun _ => c) T = c * cntT T
  | [] => by simp [totW, cntT]
  | r :: T => by
    rw [totW_cons, totW_const c T]
    unfold cntT
    rw [List.map_cons, List.sum_cons, Int.mul_add]
theorem totW_app (φ : K2 → Int) (T U : List TRow) : totW φ (T ++ U) = totW φ T + totW φ U := by
  unfold totW; rw [List.map_append, List.sum_append]
theorem find_tail {r : TRow} {T : List TRow} {k : K2} (h : ¬ r.1 = k) : findT (r :: T) k = findT T k := by
  unfold findT; rw [List.find?_cons_of_neg (by simpa using h)]
theorem find_head {r : TRow} {T : List TRow} {k : K2} (h : r.1 = k) : findT (r :: T) k = some r.2 := by
  unfold findT; rw [List.find?_cons_of_pos (by simpa using h)]; rfl
theorem map_away {k : K2} {v : Int × List Int} : ∀ {T : List TRow}, ¬ k ∈ T.map (·.1) → T.map (fun r => if r.1 = k then (r.1, v) else r) = T
  | [], _ => rfl
  | r :: T, h => by
    rw [List.map_cons, List.mem_cons, not_or] at h
    rw [List.map_cons, if_neg (fun z => h.1 z.symm), map_away h.2]
theorem totW_map (φ : K2 → Int) {k : K2} {v v' : Int × List Int} : ∀ {T : List TRow}, (T.map (·.1)).Nodup → findT T k = some v → totW φ (T.map fun r => if r.1 = k then (r.1, v') else r) = totW φ T + φ k * (v'.1 - v.1)
  | [], _, h => by cases h
  | r :: T, hn, h => by
    rw [List.map_cons, List.nodup_cons] at hn
    rw [List.map_cons, totW_cons, totW_cons]
    by_cases hk : r.1 = k
    · rw [find_head hk] at h
      cases h
      rw [if_pos hk, map_away (by rw [← hk]; exact hn.1), hk, Int.mul_sub]
      show φ k * v'.1 + totW φ T = _
      omega
    · rw [find_tail hk] at h
      rw [if_neg hk, totW_map φ hn.2 h]
      omega
theorem totW_add (φ : K2 → Int) {T : List TRow} (hn : (T.map (·.1)).Nodup) (k : K2) (c : Int) (ks : List Int) : totW φ (addT T k c ks) = totW φ T + φ k * c := by
  unfold addT
  cases e : findT T k with
  | none =>
    simp only
    unfold putT
    rw [if_neg (findT_none e), totW_app, totW_cons, totW_nil]
    simp
  | some v =>
    simp only
    unfold putT
    rw [if_pos (findT_some e), totW_map φ hn e]
    have : v.1 + c - v.1 = c := by omega
    simp only [this]
def waysI (φ : K2 → Int) (p t : Int) (k : K2) (a : Int) : Int := (if p + k.1 = t then φ (a, p - a) else 0) + (if t < p ∧ a ≤ t then φ (a, t - a) else 0)
def ways (φ : K2 → Int) (p t : Int) (k : K2) : Int := (if p + k.1 + k.2 = t then φ (p, k.1) else 0) + ((List.range p.toNat).map fun (a : Nat) => waysI φ p t k (a : Int)).sum
theorem totW_inner (φ : K2 → Int) {p total : Int} {n : Nat} {k : K2} {c : Int} {ks : List Int} {T : List TRow} {a : Int} (hT : TabOk p (n + 1) T) (hc : 1 ≤ c) (hl : ks.length = n) (ha : 0 ≤ a) (ha2 : a < p) : totW φ (bInner p total k c ks T a) = totW φ T + waysI φ p total k a * c := by
  have h1 : TabOk p (n + 1) (if p + k.1 = total then addT T (a, p - a) c (2 :: ks) else T) := by
    split
    · exact hT.add ⟨ha, by show a ≤ p; omega, by show 0 ≤ p - a; omega, by show p - a ≤ p; omega, fun _ => by show a + (p - a) ≤ p; omega⟩ hc (by simp [hl])
    · exact hT
  have e1 : totW φ (if p + k.1 = total then addT T (a, p - a) c (2 :: ks) else T) = totW φ T + (if p + k.1 = total then φ (a, p - a) else 0) * c := by
    split
    · exact totW_add φ hT.nod _ _ _
    · simp
  unfold bInner waysI
  simp only
  rw [Int.add_mul]
  by_cases h : total < p ∧ a ≤ total
  · rw [if_pos h, if_pos h, totW_add φ h1.nod, e1]; omega
  · rw [if_neg h, if_neg h, e1]; omega
theorem totW_inners (φ : K2 → Int) {p total : Int} {n : Nat} {k : K2} {c : Int} {ks : List Int} (hc : 1 ≤ c) (hl : ks.length = n) : ∀ (as : List Nat) (T : List TRow), TabOk p (n + 1) T → (∀ a ∈ as, ((a : Nat) : Int) < p) →
    TabOk p (n + 1) (as.foldl (fun T (a : Nat) => bInner p total k c ks T (a : Int)) T) ∧ totW φ (as.foldl (fun T (a : Nat) => bInner p total k c ks T (a : Int)) T) = totW φ T + (as.map fun (a : Nat) => waysI φ p total k (a : Int)).sum * c
  | [], T, hT, _ => ⟨hT, by simp⟩
  | a :: as, T, hT, ha => by
    have ha0 := ha a List.mem_cons_self
    have e := totW_inner φ (total := total) (k := k) hT hc hl (Int.natCast_nonneg a) ha0
    obtain ⟨h1, h2⟩ := totW_inners φ (total := total) (k := k) hc hl as _ (inner_ok (total := total) (k := k) hT hc hl (Int.natCast_nonneg a) ha0) fun b hb => ha b (List.mem_cons_of_mem _ hb)
    rw [List.foldl_cons]
    refine ⟨h1, ?_⟩
    rw [h2, e, List.map_cons, List.sum_cons, Int.add_mul]
    omega
theorem totW_row (φ : K2 → Int) {p total : Int} {n : Nat} {T : List TRow} {r : TRow} (hp : 2 ≤ p) (hr : RowOk p n r) (hT : TabOk p (n + 1) T) : TabOk p (n + 1) (bRow p total T r) ∧ totW φ (bRow p total T r) = totW φ T + ways φ p total r.1 * r.2.1 := by
  have hk := hr.key
  have hT1 : TabOk p (n + 1) (if p + r.1.1 + r.1.2 = total then addT T (p, r.1.1) r.2.1 (4 :: r.2.2) else T) := by
    split
    · refine hT.add ⟨by show 0 ≤ p; omega, Int.le_refl p, hk.1, hk.2.1, fun h => ?_⟩ hr.pos (by simp [hr.len])
      have h' : p < p := h
      omega
    · exact hT
  have e1 : totW φ (if p + r.1.1 + r.1.2 = total then addT T (p, r.1.1) r.2.1 (4 :: r.2.2) else T) = totW φ T + (if p + r.1.1 + r.1.2 = total then φ (p, r.1.1) else 0) * r.2.1 := by
    split
    · exact totW_add φ hT.nod _ _ _
    · simp
  obtain ⟨h1, h2⟩ := totW_inners φ (total := total) (k := r.1) (ks := r.2.2) hr.pos hr.len (List.range p.toNat) _ hT1 fun a ha => by have := List.mem_range.mp ha; omega
  refine ⟨h1, ?_⟩
  unfold bRow
  rw [h2, e1]
  unfold ways
  rw [Int.add_mul]
  omega
theorem totW_rows (φ : K2 → Int) {p total : Int} {n : Nat} (hp : 2 ≤ p) : ∀ (B T : List TRow), (∀ r ∈ B, RowOk p n r) → TabOk p (n + 1) T → totW φ (B.foldl (bRow p total) T) = totW φ T + totW (ways φ p total) B
  | [], T, _, _ => by simp [totW]
  | r :: B, T, hB, hT => by
    obtain ⟨h1, h2⟩ := totW_row φ (total := total) hp (hB r List.mem_cons_self) hT
    rw [List.foldl_cons, totW_rows φ hp B _ (fun q hq => hB q (List.mem_cons_of_mem _ hq)) h1, h2, totW_cons]
    omega
theorem totW_before (φ : K2 → Int) {p total : Int} {n : Nat} {B : List TRow} (hp : 2 ≤ p) (hB : TabOk p n B) : totW φ (beforeT p total B) = totW (ways φ p total) B := by
  unfold beforeT
  rw [totW_rows φ hp B [] hB.row .nil, totW_nil, Int.zero_add]
theorem totW_lastl (φ : K2 → Int) {p total : Int} : ∀ (qs : List Quad) (T : List TRow), TabOk p 1 T → (∀ q ∈ qs, QuadOk p q) → totW φ (qs.foldl (lastStep total) T) = totW φ T + (qs.map fun q => if q.2.2.1 = total then φ (q.1, q.2.1) else 0).sum
  | [], T, _, _ => by simp
  | q :: qs, T, hT, hq => by
    have hq0 := hq q List.mem_cons_self
    have h1 : TabOk p 1 (lastStep total T q) ∧ totW φ (lastStep total T q) = totW φ T + (if q.2.2.1 = total then φ (q.1, q.2.1) else 0) := by
      unfold lastStep
      split
      · exact ⟨hT.add hq0.1 (by decide) rfl, by rw [totW_add φ hT.nod, Int.mul_one]⟩
      · exact ⟨hT, by simp⟩
    rw [List.foldl_cons, totW_lastl φ qs _ h1.1 fun c hc => hq c (List.mem_cons_of_mem _ hc), h1.2, List.map_cons, List.sum_cons]
    omega
theorem totW_last (φ : K2 → Int) {p total : Int} (hp : 2 ≤ p) : totW φ (lastT p total) = ((lastF p).map fun q => if q.2.2.1 = total then φ (q.1, q.2.1) else 0).sum := by
  unfold lastT
  rw [totW_lastl φ (p := p) (lastF p) [] .nil fun q hq => (mem_lastF hp).mp hq, totW_nil, Int.zero_add]
end My
namespace My
open PySem L2 FL
/-! ## first_wrong -/
def firstF (f p : Int) (sheet : List Int) : List Nat → Option Nat
  | [] => none
  | i :: is => if (tableT f p (sheet.take (i + 1))).isEmpty = true then some i else firstF f p sheet is
def optD : Option Nat → D
  | none => .non
  | some i => .int (i : Int)
def optO : Option Nat → Out
  | none => .nx
  | some i => .rt (.val (.int (i : Int)))
theorem first_loop (f p : Int) (sheet : List Int) (f1 : 1 ≤ f) (hp : 2 ≤ p) (hp2 : p ≤ 10) (hl : sheet.length ≤ 700) : ∀ (is : List Nat) (s2 : Sl), FL.stored s2 = true →
    ∃ t2, forL (.nm 2) gFirstWrong_b1 (is.map fun (i : Nat) => D.int (i : Int)) [.val (rulesD f p), .val (tI sheet), s2] = some (optO (firstF f p sheet is), [.val (rulesD f p), .val (tI sheet), t2])
  | [], s2, _ => ⟨s2, rfl⟩
  | i :: is, s2, h2 => by
    have htab := table_ok f p (sheet.take (i + 1)) f1 hp hp2 (by rw [List.length_take]; omega)
    have s1 := slice_take sheet (k := (i : Int) + 1) (by omega)
    have e1 : ((i : Int) + 1).toNat = i + 1 := by omega
    rw [e1] at s1
    have hem : ((tableT f p (sheet.take (i + 1))).map rowP).isEmpty = (tableT f p (sheet.take (i + 1))).isEmpty := by simp
    simp only [tabD] at htab
    rw [List.map_cons, forL_cons]
    by_cases h : (tableT f p (sheet.take (i + 1))).isEmpty = true
    · refine ⟨.val (.int (i : Int)), ?_⟩
      have hF : firstF f p sheet (i :: is) = some i := by rw [firstF, if_pos h]
      rw [hF]
      rw [← hem] at h
      show _ = some (Out.rt (.val (.int (i : Int))), _)
      generalize (tableT f p (sheet.take (i + 1))).map rowP = TD at *
      generalize tI (sheet.take (i + 1)) = ST at *
      generalize (i : Int) = ii at *
      generalize tI sheet = SH at *
      simp [gFirstWrong_b1, h2, s1, htab, h, -sliceT, -List.isEmpty_iff]
    · obtain ⟨t2, e⟩ := first_loop f p sheet f1 hp hp2 hl is (.val (.int (i : Int))) rfl
      refine ⟨t2, ?_⟩
      have hF : firstF f p sheet (i :: is) = firstF f p sheet is := by rw [firstF, if_neg h]
      rw [hF, ← e]
      rw [← hem, Bool.not_eq_true] at h
      generalize (tableT f p (sheet.take (i + 1))).map rowP = TD at *
      generalize tI (sheet.take (i + 1)) = ST at *
      generalize (i : Int) = ii at *
      generalize tI sheet = SH at *
      simp [gFirstWrong_b1, h2, s1, htab, h, -sliceT, -List.isEmpty_iff, -List.isEmpty_eq_false_iff]
theorem first_ok (f p : Int) (sheet : List Int) (f1 : 1 ≤ f) (hp : 2 ≤ p) (hp2 : p ≤ 10) (hl : sheet.length ≤ 700) : fnFirstWrong [.val (rulesD f p), .val (tI sheet)] = some (.val (optD (firstF f p sheet (List.range sheet.length))), [.val (rulesD f p), .val (tI sheet)]) := by
  obtain ⟨t2, e⟩ := first_loop f p sheet f1 hp hp2 hl (List.range sheet.length) .no rfl
  have r1 : -1000000 ≤ (sheet.length : Int) := by omega
  have r2 : (sheet.length : Int) ≤ 1000000 := by omega
  have hrg : rg1 sheet.length = (List.range sheet.length).map fun (c : Nat) => D.int (c : Int) := rfl
  rw [← hrg] at e
  rw [fnFirstWrong, defF_eq]
  cases hF : firstF f p sheet (List.range sheet.length) with
  | none =>
    rw [hF] at e
    have e' : forL (.nm 2) gFirstWrong_b1 (rg1 sheet.length) [.val (rulesD f p), .val (tI sheet), .no] = some (.nx, [.val (rulesD f p), .val (tI sheet), t2]) := e
    simp [gFirstWrong, r1, r2, e', optD]
  | some i =>
    rw [hF] at e
    have e' : forL (.nm 2) gFirstWrong_b1 (rg1 sheet.length) [.val (rulesD f p), .val (tI sheet), .no] = some (.rt (.val (.int (i : Int))), [.val (rulesD f p), .val (tI sheet), t2]) := e
    simp [gFirstWrong, r1, r2, e', optD]
end My
namespace My
open PySem L2 FL
/-! ## kinds -/
def kindsT (n : Nat) (T : List TRow) : List Int := T.foldl (fun acc r => List.zipWith Builtin.bitOr acc r.2.2) (List.replicate n 0)
def bitB (v : Int) (i : Nat) : Bool := Builtin.bitAnd (v / 2 ^ i) 1 != 0
abbrev mkO : Str := "-"
abbrev mkS : Str := "/"
abbrev mkX : Str := "X"
def marksL (v : Int) : List Str := (if bitB v 0 = true then [mkO] else []) ++ ((if bitB v 1 = true then [mkS] else []) ++ (if bitB v 2 = true then [mkX] else []))
theorem sum_le_one : ∀ {l : List Nat}, (∀ a ∈ l, a ≤ 1) → l.sum ≤ l.length
  | [], _ => by simp
  | a :: l, h => by
    have h1 := h a List.mem_cons_self
    have h2 := sum_le_one (l := l) fun b hb => h b (List.mem_cons_of_mem _ hb)
    rw [List.sum_cons, List.length_cons]
    omega
def markS (v : Int) : Str := Txt.join "" (marksL v)
theorem kor_loop (s0 s1 s2 s3 s6 s7 s8 : Sl) : ∀ (as bs : List Int) (acc : List Int), acc.length + as.length ≤ 1000 →
    lcL (.tp [.nm 4, .nm 5]) (fC (.bl true)) gKinds_e1 [4, 5] (zipF (as.map D.int) (bs.map D.int)) (acc.map D.int) [s0, s1, s2, s3, .no, .no, s6, s7, s8] = some ((acc ++ List.zipWith Builtin.bitOr as bs).map D.int, [s0, s1, s2, s3, .no, .no, s6, s7, s8])
  | [], bs, acc, _ => by simp [zipF]
  | a :: as, [], acc, _ => by simp [zipF]
  | a :: as, b :: bs, acc, hl => by
    have hl' : acc.length + (as.length + 1) ≤ 1000 := by simpa using hl
    have e := kor_loop s0 s1 s2 s3 s6 s7 s8 as bs (acc ++ [Builtin.bitOr a b]) (by simp; omega)
    have hc : (acc.map D.int).length < 1000000 := by rw [List.length_map]; omega
    have ho : oBitOr (.int a) (.int b) = some (.val (.int (Builtin.bitOr a b))) := rfl
    rw [List.map_cons, List.map_cons, zipF, lcL_cons, List.zipWith_cons_cons, List.append_cons, ← e, List.map_append]
    generalize Builtin.bitOr a b = o at *
    generalize acc.map D.int = ACC at *
    simp [gKinds_e1, ho, cap, hc]
theorem kinds_rows (s0 s1 : Sl) : ∀ (T : List TRow) (acc : List Int) (s3 : Sl), acc.length ≤ 1000 → FL.stored s3 = true →
    ∃ t3, forL (.nm 3) gKinds_b2 (T.map fun r => valP r.2.1 r.2.2) [s0, s1, .own false (lI acc), s3, .no, .no, .no, .no, .no] = some (.nx, [s0, s1, .own false (lI (T.foldl (fun acc r => List.zipWith Builtin.bitOr acc r.2.2) acc)), t3, .no, .no, .no, .no, .no])
  | [], acc, s3, _, _ => ⟨s3, rfl⟩
  | r :: T, acc, s3, hl, h3 => by
    obtain ⟨t3, e⟩ := kinds_rows s0 s1 T (List.zipWith Builtin.bitOr acc r.2.2) (.val (valP r.2.1 r.2.2)) (by rw [List.length_zipWith]; omega) rfl
    refine ⟨t3, ?_⟩
    have ek := kor_loop s0 s1 (.val (lI acc)) (.val (valP r.2.1 r.2.2)) .no .no .no acc r.2.2 [] (by simp; omega)
    rw [List.nil_append] at ek
    have ek' : lcL (.tp [.nm 4, .nm 5]) (fC (.bl true)) gKinds_e1 [4, 5] (zipD (acc.map D.int) (r.2.2.map D.int)) [] [s0, s1, .val (lI acc), .val (valP r.2.1 r.2.2), .no, .no, .no, .no, .no] = some ((List.zipWith Builtin.bitOr acc r.2.2).map D.int, [s0, s1, .val (lI acc), .val (valP r.2.1 r.2.2), .no, .no, .no, .no, .no]) := by rw [zipD_eq]; exact ek
    rw [List.map_cons, forL_cons, List.foldl_cons, ← e]
    have hx : oIx (valP r.2.1 r.2.2) (.int 1) = some (.val (.tup (r.2.2.map D.int))) := by simp
    generalize List.zipWith Builtin.bitOr acc r.2.2 = Z at *
    generalize valP r.2.1 r.2.2 = VV at *
    generalize r.2.2.map D.int = KS at *
    simp [gKinds_b2, h3, hx, ek']
theorem enum_marks : enumD (signs "-/X") = [.tup [.int 0, .str "-"], .tup [.int 1, .str "/"], .tup [.int 2, .str "X"]] := by rfl
theorem mark_ok (v : Int) (s0 s1 s2 s3 s4 s5 : Sl) : gKinds_e4 [s0, s1, s2, s3, s4, s5, .no, .no, .val (.int v)] = some (.val (.str (markS v)), [s0, s1, s2, s3, s4, s5, .no, .no, .val (.int v)]) := by
  have h0 : oShr (.int v) (.int 0) = some (.val (.int (v / 2 ^ 0))) := rfl
  have h1 : oShr (.int v) (.int 1) = some (.val (.int (v / 2 ^ 1))) := rfl
  have h2 : oShr (.int v) (.int 2) = some (.val (.int (v / 2 ^ 2))) := rfl
  have ha : ∀ x : Int, oBitAnd (.int x) (.int 1) = some (.val (.int (Builtin.bitAnd x 1))) := fun x => rfl
  have ht : ∀ x : Int, tru (.int x) = some (x != 0) := fun x => rfl
  have hj : ∀ ys : List Str, ys.length ≤ 3 → (∀ y ∈ ys, y.length ≤ 1) → oJoin (.str "") (.lst (ys.map D.str)) = some (.val (.str (Txt.join "" ys))) := fun ys h1 h2 => by
    rw [join_strs, if_pos]
    have : (ys.map (·.length)).sum ≤ (ys.map (·.length)).length := sum_le_one fun a ha => by
      obtain ⟨y, hy, rfl⟩ := List.mem_map.mp ha
      exact h2 y hy
    have hz : Str.length "" = 0 := rfl
    rw [List.length_map] at this
    rw [hz]; omega
  have j := hj (marksL v) (by unfold marksL; split <;> split <;> split <;> simp) (fun y hy => by
    unfold marksL at hy
    have l0 : Str.length mkO = 1 := rfl
    have l1 : Str.length mkS = 1 := rfl
    have l2 : Str.length mkX = 1 := rfl
    rw [List.mem_append, List.mem_append] at hy
    rcases hy with hy | hy | hy
    · split at hy
      · rw [List.mem_singleton.mp hy, l0]; exact Nat.le_refl 1
      · cases hy
    · split at hy
      · rw [List.mem_singleton.mp hy, l1]; exact Nat.le_refl 1
      · cases hy
    · split at hy
      · rw [List.mem_singleton.mp hy, l2]; exact Nat.le_refl 1
      · cases hy)
  have hb0 : (Builtin.bitAnd (v / 2 ^ 0) 1 != 0) = bitB v 0 := rfl
  have hb1 : (Builtin.bitAnd (v / 2 ^ 1) 1 != 0) = bitB v 1 := rfl
  have hb2 : (Builtin.bitAnd (v / 2 ^ 2) 1 != 0) = bitB v 2 := rfl
  have hlc : lcL (.tp [.nm 6, .nm 7]) (fTru (fOp2 oBitAnd (fOp2 oShr (fVar 8) (fVar 6)) (fC (.int 1)))) gKinds_e3 [6, 7] [.tup [.int 0, .str "-"], .tup [.int 1, .str "/"], .tup [.int 2, .str "X"]] [] [s0, s1, s2, s3, s4, s5, .no, .no, .val (.int v)] = some ((marksL v).map D.str, [s0, s1, s2, s3, s4, s5, .no, .no, .val (.int v)]) := by
    unfold marksL
    generalize v / 2 ^ 0 = v0 at *
    generalize v / 2 ^ 1 = v1 at *
    generalize v / 2 ^ 2 = v2 at *
    generalize bitB v 0 = b0 at *
    generalize bitB v 1 = b1 at *
    generalize bitB v 2 = b2 at *
    cases b0 <;> cases b1 <;> cases b2 <;> simp [lcL_cons, gKinds_e3, h0, h1, h2, ha, ht, hb0, hb1, hb2, cap]
  unfold markS
  generalize (marksL v).map D.str = ML at *
  generalize Txt.join "" (marksL v) = J at *
  simp [gKinds_e4, enum_marks, hlc, j]
theorem mark_loop (s0 s1 s2 s3 s4 s5 : Sl) : ∀ (vs : List Int) (acc : List D), acc.length + vs.length ≤ 1000 →
    lcL (.nm 8) (fC (.bl true)) gKinds_e4 [8] (vs.map D.int) acc [s0, s1, s2, s3, s4, s5, .no, .no, .no] = some (acc ++ vs.map fun v => .str (markS v), [s0, s1, s2, s3, s4, s5, .no, .no, .no])
  | [], acc, _ => by simp
  | v :: vs, acc, hl => by
    rw [List.length_cons] at hl
    have e := mark_loop s0 s1 s2 s3 s4 s5 vs (acc ++ [.str (markS v)]) (by simp; omega)
    have h1 := mark_ok v s0 s1 s2 s3 s4 s5
    have hc : acc.length < 1000000 := by omega
    rw [List.map_cons, lcL_cons, List.map_cons, List.append_cons, ← e]
    simp [h1, cap, hc]
theorem kinds_ok (f p : Int) (sheet : List Int) (f1 : 1 ≤ f) (hp : 2 ≤ p) (hp2 : p ≤ 10) (hl : sheet.length ≤ 700) : fnKinds [.val (rulesD f p), .val (tI sheet)] = some (.own (.lst ((kindsT sheet.length (tableT f p sheet)).map fun v => .str (markS v))), [.val (rulesD f p), .val (tI sheet)]) := by
  have htab := table_ok f p sheet f1 hp hp2 (by omega)
  obtain ⟨t3, e⟩ := kinds_rows (.val (rulesD f p)) (.val (tI sheet)) (tableT f p sheet) (List.replicate sheet.length 0) .no (by rw [List.length_replicate]; omega) rfl
  have hkl : ∀ (T : List TRow) (acc : List Int), (T.foldl (fun acc r => List.zipWith Builtin.bitOr acc r.2.2) acc).length ≤ acc.length := by
    intro T
    induction T with
    | nil => intro acc; exact Nat.le_refl _
    | cons r T ih =>
      intro acc
      refine Nat.le_trans (ih _) ?_
      rw [List.length_zipWith]; omega
  have hkl' := hkl (tableT f p sheet) (List.replicate sheet.length 0)
  rw [List.length_replicate] at hkl'
  have e' : forL (.nm 3) gKinds_b2 ((tableT f p sheet).map fun r => valP r.2.1 r.2.2) [.val (rulesD f p), .val (tI sheet), .own false (lI (List.replicate sheet.length 0)), .no, .no, .no, .no, .no, .no] = some (.nx, [.val (rulesD f p), .val (tI sheet), .own false (lI (kindsT sheet.length (tableT f p sheet))), t3, .no, .no, .no, .no, .no]) := e
  have hv : ((tableT f p sheet).map rowP).map (·.2) = (tableT f p sheet).map fun r => valP r.2.1 r.2.2 := by rw [List.map_map]; rfl
  rw [← hv] at e'
  have e2 := mark_loop (.val (rulesD f p)) (.val (tI sheet)) (.val (lI (kindsT sheet.length (tableT f p sheet)))) t3 .no .no (kindsT sheet.length (tableT f p sheet)) [] (by have : (kindsT sheet.length (tableT f p sheet)).length ≤ sheet.length := hkl'; simp; omega)
  rw [List.nil_append] at e2
  have hz : oMul (.lst [.int 0]) (.int (sheet.length : Int)) = some (.own (lI (List.replicate sheet.length 0))) := by
    rw [mulL, if_pos ⟨by omega, by omega, by simp⟩]
    have : (List.replicate ((sheet.length : Nat) : Int).toNat [D.int 0]).flatten = (List.replicate sheet.length 0).map D.int := by
      rw [Int.toNat_natCast, List.map_replicate]
      induction sheet.length with
      | zero => rfl
      | succ n ih => rw [List.replicate_succ, List.flatten_cons, ih, List.replicate_succ]; rfl
    rw [this]
  have hlen : oLen [tI sheet] = some (.val (.int (sheet.length : Int))) := by simp
  simp only [tabD] at htab
  rw [fnKinds, defF_eq]
  generalize ((kindsT sheet.length (tableT f p sheet)).map fun v => D.str (markS v)) = MK at *
  generalize kindsT sheet.length (tableT f p sheet) = KT at *
  generalize (tableT f p sheet).map rowP = TD at *
  generalize lI (List.replicate sheet.length 0) = L0 at *
  generalize (sheet.length : Int) = ln at *
  generalize tI sheet = SH at *
  simp [gKinds, hlen, hz, htab, e', e2, cap, -len1T]
end My
namespace My
open PySem L2 FL
/-! ## the tape -/
theorem big_of {m : Int} (h : m < 18446744073709551616) : m < big := h
theorem mix_ok (x : Int) : -18446744073709551616 < x % prime ∧ x % prime < 18446744073709551616 := by
  have h1 := Int.emod_nonneg x (show prime ≠ 0 by decide)
  have h2 := Int.emod_lt_of_pos x (show 0 < prime by decide)
  unfold prime at *
  omega
theorem tape_item (t : Tape) (h : 0 < (t.ns.length : Int)) : atI (t.ns.map D.int) (t.pos % (t.ns.length : Int)) = some (.int t.item) := by
  have h1 := Int.emod_nonneg t.pos (show (t.ns.length : Int) ≠ 0 by omega)
  have h2 := Int.emod_lt_of_pos t.pos h
  rw [atI_nat h1 (by simpa using h2)]
  unfold Tape.item
  rw [if_pos h, List.getElem?_map]
  have h3 : (t.pos % (t.ns.length : Int)).toNat < t.ns.length := by omega
  rw [List.getElem?_eq_getElem h3]
  rfl
theorem draw_ok (t : Tape) {m : Int} (h0 : 0 < m) (h1 : m < 18446744073709551616) : fnLawDraw [.own false t.d, .val (.int m)] = some (.val (.int (t.out m)), [.own false (t.rest m).d, .val (.int m)]) := by
  have hb : m < big := h1
  have k1 := mul_ok 1000003 t.pos (by omega)
  have k2 := mul_ok (mix1 t.pos t.item) (mix1 t.pos t.item) (mix_ok _)
  have k3 := mul_ok 1181783497276652981 (mix1 t.pos t.item) (by omega)
  have k4 := mul_ok (mix2 (mix1 t.pos t.item)) (mix2 (mix1 t.pos t.item)) (mix_ok _)
  rw [fnLawDraw, defF_eq]
  simp only [mix1, mix2, prime] at k2 k3 k4
  by_cases c1 : t.cell < m
  · by_cases c2 : 0 < t.ns.length
    · have c3 := tape_item t (by omega)
      by_cases c4 : (t.ns.length : Int) ≤ t.pos
      · simp [gLawDraw, Tape.d, c1, c2, c3, c4, k1, k2, k3, k4, Tape.out, Tape.rest, Tape.full, Tape.fresh, mix1, mix2, mix3, prime, h0, hb, ixN]
      · by_cases c5 : t.item < 1000000000000000000
        · simp [gLawDraw, Tape.d, c1, c2, c3, c4, c5, k1, k2, k3, k4, Tape.out, Tape.rest, Tape.full, Tape.fresh, mix1, mix2, mix3, prime, h0, hb, ixN]
        · simp [gLawDraw, Tape.d, c1, c2, c3, c4, c5, k1, k2, k3, k4, Tape.out, Tape.rest, Tape.full, Tape.fresh, mix1, mix2, mix3, prime, h0, hb, ixN]
    · have c2' : (t.ns.length : Int) = 0 := by omega
      have c3 : t.item = 0 := by unfold Tape.item; rw [if_neg (by omega)]
      have c6 : t.ns = [] := List.eq_nil_of_length_eq_zero (by omega)
      simp only [c3, Int.zero_add] at k2 k3 k4
      by_cases c4 : (0 : Int) ≤ t.pos
      · simp [gLawDraw, Tape.d, c1, c2, c3, c4, c2', c6, Int.zero_add, k1, k2, k3, k4, Tape.out, Tape.rest, Tape.full, Tape.fresh, mix1, mix2, mix3, prime, h0, hb, ixN]
      · simp [gLawDraw, Tape.d, c1, c2, c3, c4, c2', c6, Int.zero_add, k1, k2, k3, k4, Tape.out, Tape.rest, Tape.full, Tape.fresh, mix1, mix2, mix3, prime, h0, hb, ixN]
  · simp [gLawDraw, Tape.d, c1, Tape.out, Tape.rest, Tape.full, h0, hb, ixN]
end My
namespace My
open PySem L2 FL
/-! ## the law's own comparison -/
def atom : D → Bool
  | .non => true | .bl _ => true | .int _ => true
  | _ => false
/-- alike: an atom and the same -/
theorem like_atom (n : Nat) (a : D) (h : atom a = true) : fnLawLike (n + 1) [.val a, .val a] = some (.val (.bl true), [.val a, .val a]) := by
  rw [fnLawLike, defF_eq]
  cases a with
  | non =>
    have : bEq .non .non = some true := by decide +kernel
    simp [gLawLike, this]
  | bl b => simp [gLawLike]
  | int i => simp [gLawLike]
  | _ => cases h
theorem like_bl (n : Nat) (b : Bool) : fnLawLike (n + 1) [.val (.bl b), .val (.bl b)] = some (.val (.bl true), [.val (.bl b), .val (.bl b)]) := like_atom n _ rfl
theorem like_int (n : Nat) (i : Int) : fnLawLike (n + 1) [.val (.int i), .val (.int i)] = some (.val (.bl true), [.val (.int i), .val (.int i)]) := like_atom n _ rfl
/-- a walk over all items finds none that differs -/
theorem like_loop (n : Nat) (ra rb : Sl) (xs : List D) (mk : List D → D) (hmk : ∀ i : Int, oIx (mk xs) (.int i) = (atI xs i).map .val) (hra : ra = .val (mk xs) ∨ ∃ q, ra = .own q (mk xs)) (hrb : rb = .val (mk xs) ∨ ∃ q, rb = .own q (mk xs))
    (h : ∀ x ∈ xs, fnLawLike n [.val x, .val x] = some (.val (.bl true), [.val x, .val x])) :
    ∀ (ks : List Nat), (∀ k ∈ ks, k < xs.length) →
      lcL (.nm 2) (fNot (fCall (fnLawLike n) [(fOp2 oIx (fVar 0) (fVar 2)), (fOp2 oIx (fVar 1) (fVar 2))])) (gLawLike_e1 (fnLawLike n)) [2] (ks.map fun (k : Nat) => D.int (k : Int)) [] [ra, rb, .no] = some ([], [ra, rb, .no])
  | [], _ => rfl
  | k :: ks, hk => by
    have hlt := hk k List.mem_cons_self
    have e := like_loop n ra rb xs mk hmk hra hrb h ks fun j hj => hk j (List.mem_cons_of_mem _ hj)
    have hx := h xs[k] (List.getElem_mem hlt)
    have ha := atI_get (xs := xs) hlt
    rw [List.map_cons, lcL_cons, ← e]
    rcases hra with rfl | ⟨q, rfl⟩ <;> rcases hrb with rfl | ⟨q', rfl⟩ <;> simp [hmk, ha, hx]
theorem like_seq (n : Nat) (ra rb : Sl) (xs : List D) (mk : List D → D) (hm : mk = D.tup ∨ mk = D.lst) (hra : ra = .val (mk xs) ∨ ∃ q, ra = .own q (mk xs)) (hrb : rb = .val (mk xs) ∨ ∃ q, rb = .own q (mk xs)) (hl : xs.length ≤ 1000)
    (h : ∀ x ∈ xs, fnLawLike n [.val x, .val x] = some (.val (.bl true), [.val x, .val x])) : fnLawLike (n + 1) [ra, rb] = some (.val (.bl true), [ra, rb]) := by
  have hix : ∀ i : Int, oIx (mk xs) (.int i) = (atI xs i).map .val := fun i => by rcases hm with rfl | rfl <;> rfl
  have b1 : bEq (.lst []) (.lst []) = some true := by decide +kernel
  have hlen1 : -1000000 ≤ (xs.length : Int) := by omega
  have hlen2 : (xs.length : Int) ≤ 1000000 := by omega
  have pin : ∀ s : Sl, (s = .val (mk xs) ∨ ∃ q, s = .own q (mk xs)) → (pinS s = .val (mk xs) ∨ ∃ q, pinS s = .own q (mk xs)) := fun s hs => by
    rcases hs with rfl | ⟨q, rfl⟩
    · exact .inl rfl
    · exact .inr ⟨true, rfl⟩
  have e := like_loop n (pinS ra) (pinS rb) xs mk hix (pin ra hra) (pin rb hrb) h (List.range xs.length) fun k hk => List.mem_range.mp hk
  have e2 : (List.range xs.length).map (fun (k : Nat) => D.int (k : Int)) = rg1 xs.length := rfl
  rw [e2] at e
  rw [fnLawLike, defF_eq]
  rcases hm with rfl | rfl <;> rcases hra with rfl | ⟨q, rfl⟩ <;> rcases hrb with rfl | ⟨q', rfl⟩ <;> simp [gLawLike, hlen1, hlen2, cap] <;> simp only [pinS_val, pinS_own] at e <;> simp [e, b1]
theorem like_ints (n : Nat) (xs : List Int) (hl : xs.length ≤ 1000) (ra rb : Sl) (hra : ra = .val (lI xs) ∨ ∃ q, ra = .own q (lI xs)) (hrb : rb = .val (lI xs) ∨ ∃ q, rb = .own q (lI xs)) : fnLawLike (n + 2) [ra, rb] = some (.val (.bl true), [ra, rb]) :=
  like_seq (n + 1) ra rb (xs.map D.int) D.lst (.inr rfl) hra hrb (by simpa using hl) fun x hx => by
    obtain ⟨i, _, rfl⟩ := List.mem_map.mp hx
    exact like_int n i
theorem like_tI (n : Nat) (xs : List Int) (hl : xs.length ≤ 1000) : fnLawLike (n + 2) [.val (tI xs), .val (tI xs)] = some (.val (.bl true), [.val (tI xs), .val (tI xs)]) :=
  like_seq (n + 1) _ _ (xs.map D.int) D.tup (.inl rfl) (.inl rfl) (.inl rfl) (by simpa using hl) fun x hx => by
    obtain ⟨i, _, rfl⟩ := List.mem_map.mp hx
    exact like_int n i
end My
namespace My
open PySem L2 FL
/-! ## frames -/
theorem needed_ok (p : Int) (last : Bool) (frame : List Int) : fnLawNeeded [.val (.int p), .val (.bl last), .val (tI frame)] = some (.val (.int (neededF p last frame)), [.val (.int p), .val (.bl last), .val (tI frame)]) := by
  rw [fnLawNeeded, defF_eq]
  cases frame with
  | nil => simp [gLawNeeded, neededF, cap, bEq_tI0]
  | cons a r =>
    have hi : intsOf (D.int a :: r.map D.int) = some (a :: r) := intsOf_map (a :: r)
    have e1 : ((r.length : Int) + 1 = 2) ↔ r.length = 1 := by omega
    have e2 : ((r.length : Int) + 1 = 3) ↔ r.length = 2 := by omega
    cases last with
    | false =>
      by_cases k1 : a = p
      · simp [gLawNeeded, neededF, cap, bEq_tI0, k1, e1, e2]
      · by_cases k2 : r.length = 1 <;> simp [gLawNeeded, neededF, cap, bEq_tI0, k1, k2, e1, e2]
    | true =>
      by_cases k3 : r.length = 2
      · simp [gLawNeeded, neededF, cap, bEq_tI0, k3, e1, e2]
      · by_cases k2 : r.length = 1
        · by_cases k1 : a < p
          · by_cases k4 : a + r.sum < p <;> simp [gLawNeeded, neededF, cap, bEq_tI0, k1, k2, k3, k4, e1, e2, hi]
          · simp [gLawNeeded, neededF, cap, bEq_tI0, k1, k2, k3, e1, e2, hi]
        · simp [gLawNeeded, neededF, cap, bEq_tI0, k2, k3, e1, e2, hi]
theorem stands_loop (p : Int) (fd : D) : ∀ (frame : List Int) (st : Int) (s : Sl), FL.stored s = true →
    ∃ s', forL (.nm 3) gLawStands_b1 (frame.map D.int) [.val (.int p), .val fd, .val (.int st), s] = some (.nx, [.val (.int p), .val fd, .val (.int (frame.foldl (fun st r => if st - r = 0 then p else st - r) st)), s'])
  | [], st, s, _ => ⟨s, rfl⟩
  | r :: rs, st, s, hs => by
    obtain ⟨s', ih⟩ := stands_loop p fd rs (if st - r = 0 then p else st - r) (.val (.int r)) rfl
    refine ⟨s', ?_⟩
    rw [List.map_cons, forL_cons, List.foldl_cons, ← ih]
    by_cases h : st - r = 0 <;> simp [gLawStands_b1, hs, h]
theorem stands_ok (p : Int) (frame : List Int) : fnLawStands [.val (.int p), .val (tI frame)] = some (.val (.int (standsF p frame)), [.val (.int p), .val (tI frame)]) := by
  obtain ⟨s', h⟩ := stands_loop p (tI frame) frame p .no rfl
  rw [fnLawStands, defF_eq]
  simp [gLawStands, h, standsF]
/-! ## frames of rolls -/
abbrev frD (x : Fr) : D := .lst (x.1.map tI ++ [tI x.2])
theorem frD_step (done : List (List Int)) (cur : List Int) : D.lst (List.map tI done ++ [tI cur] ++ [D.tup []]) = frD (done ++ [cur], []) := by simp [frD, tI]
theorem split_step (f p r : Int) (x : Fr) (rd : D) (hl : x.1.length + x.2.length ≤ 1000) :
    ∃ o ρ, gLawSplit_b1 [.val (rulesD f p), .val rd, .own false (frD x), .val (.int r)] = some (o, ρ) ∧
      match stepF f p x r with
      | none => o = .rt (.val .non) ∧ ∃ s, ρ = [.val (rulesD f p), .val rd, .own false (frD x), s]
      | some y => o = .nx ∧ ρ = [.val (rulesD f p), .val rd, .own false (frD y), .val (.int r)] := by
  obtain ⟨done, cur⟩ := x
  have hl' : done.length + cur.length ≤ 1000 := hl
  have hl2 : cur.length + 1 ≤ 1000000 := by omega
  have hl3 : done.length + 1 < 1000000 := by omega
  unfold FL.stepF
  by_cases h1 : f < (done.length : Int) + 1
  · refine ⟨.rt (.val .non), [.val (rulesD f p), .val rd, .own false (frD (done, cur)), .val (.int r)], ?_, ?_⟩
    rotate_left
    · rw [if_pos h1]; exact ⟨rfl, _, rfl⟩
    · simp [gLawSplit_b1, h1]
  · have hst := stands_ok p cur
    by_cases h2 : 0 ≤ r ∧ r ≤ standsF p cur
    · have hn := needed_ok p (decide ((done.length : Int) + 1 = f)) (cur ++ [r])
      by_cases h3 : 0 < neededF p (decide ((done.length : Int) + 1 = f)) (cur ++ [r])
      · refine ⟨.nx, [.val (rulesD f p), .val rd, .own false (frD (done ++ [cur ++ [r]], [])), .val (.int r)], ?_, ?_⟩
        rotate_left
        · rw [if_neg h1, if_pos h2, if_pos h3]; exact ⟨rfl, rfl⟩
        · rw [← frD_step]
          simp [gLawSplit_b1, h1, hst, h2.1, h2.2, hn, h3, cap, FL.atI_last, hl2, hl3]
      · refine ⟨.nx, [.val (rulesD f p), .val rd, .own false (frD (done, cur ++ [r])), .val (.int r)], ?_, ?_⟩
        rotate_left
        · rw [if_neg h1, if_pos h2, if_neg h3]; exact ⟨rfl, rfl⟩
        · simp [gLawSplit_b1, h1, hst, h2.1, h2.2, hn, h3, cap, FL.atI_last, hl2]
    · refine ⟨.rt (.val .non), [.val (rulesD f p), .val rd, .own false (frD (done, cur)), .val (.int r)], ?_, ?_⟩
      rotate_left
      · rw [if_neg h1, if_neg h2]; exact ⟨rfl, _, rfl⟩
      · by_cases h4 : 0 ≤ r
        · have h5 : ¬ r ≤ standsF p cur := fun z => h2 ⟨h4, z⟩
          simp [gLawSplit_b1, h1, hst, h4, h5, FL.atI_last]
        · simp [gLawSplit_b1, h1, hst, h4, FL.atI_last]
theorem split_loop (f p : Int) (rd : D) : ∀ (rs : List Int) (x : Fr) (s : Sl), FL.stored s = true → x.1.length + x.2.length + rs.length ≤ 1000 →
    ∃ o ρ, forL (.nm 3) gLawSplit_b1 (rs.map D.int) [.val (rulesD f p), .val rd, .own false (frD x), s] = some (o, ρ) ∧
      match splitS f p x rs with
      | none => o = .rt (.val .non) ∧ ∃ s s', ρ = [.val (rulesD f p), .val rd, s, s']
      | some y => o = .nx ∧ ∃ s', ρ = [.val (rulesD f p), .val rd, .own false (frD y), s']
  | [], x, s, _, _ => ⟨.nx, _, rfl, rfl, s, rfl⟩
  | r :: rs, x, s, hs, hl => by
    have hl' : x.1.length + x.2.length + (rs.length + 1) ≤ 1000 := by simpa using hl
    obtain ⟨o, ρ, e, q⟩ := split_step f p r x rd (by omega)
    have e0 : asg (.nm 3) (.int r) [.val (rulesD f p), .val rd, .own false (frD x), s] = some [.val (rulesD f p), .val rd, .own false (frD x), .val (.int r)] := by simp [hs]
    rw [List.map_cons, forL_cons, e0]
    show ∃ o ρ, forO _ _ _ (gLawSplit_b1 _) = _ ∧ _
    rw [e, splitS]
    cases h : stepF f p x r with
    | none =>
      rw [h] at q
      obtain ⟨rfl, s1, rfl⟩ := q
      exact ⟨_, _, rfl, rfl, _, _, rfl⟩
    | some y =>
      rw [h] at q
      obtain ⟨rfl, rfl⟩ := q
      have := stepF_fit h
      exact split_loop f p rd rs y _ rfl (by omega)
theorem split_ok (f p : Int) (rs : List Int) (hl : rs.length ≤ 1000) : fnLawSplit [.val (rulesD f p), .val (tI rs)] = some (match splitS f p ([], []) rs with | none => .val .non | some y => .own (frD y), [.val (rulesD f p), .val (tI rs)]) := by
  obtain ⟨o, ρ, e, q⟩ := split_loop f p (tI rs) rs ([], []) .no rfl (by simpa using hl)
  rw [fnLawSplit, defF_eq]
  cases h : splitS f p ([], []) rs with
  | none =>
    rw [h] at q
    obtain ⟨rfl, s1, s2, rfl⟩ := q
    have e' : forL (.nm 3) gLawSplit_b1 (rs.map D.int) [.val (rulesD f p), .val (tI rs), .own false (.lst [.tup []]), .no] = _ := e
    simp [gLawSplit, cap, e']
  | some y =>
    rw [h] at q
    obtain ⟨rfl, s1, rfl⟩ := q
    have e' : forL (.nm 3) gLawSplit_b1 (rs.map D.int) [.val (rulesD f p), .val (tI rs), .own false (.lst [.tup []]), .no] = _ := e
    simp [gLawSplit, cap, e']
end My
namespace My
open PySem L2 FL
theorem stand_range {f p : Int} {done : List (List Int)} : ∀ {cur : List Int}, 0 < p → curOk f p done cur → 0 ≤ standsF p cur ∧ standsF p cur ≤ p
  | [], hp, _ => ⟨Int.le_of_lt hp, Int.le_refl _⟩
  | [a], hp, h => by
    obtain ⟨h1, h2, h3, h4⟩ := h
    show 0 ≤ (if p - a = 0 then p else p - a) ∧ (if p - a = 0 then p else p - a) ≤ p
    split <;> omega
  | [a, c], hp, h => by
    obtain ⟨h1, h2, h3, h4, h5, h6⟩ := h
    simp only [standsF, List.foldl]
    split <;> split <;> omega
theorem step_not {f p r : Int} {x : Fr} (h1 : ¬ f < (x.1.length : Int) + 1) (h0 : 0 ≤ r) (h2 : r ≤ standsF p x.2) : ∃ y, stepF f p x r = some y := by
  unfold FL.stepF
  rw [if_neg h1, if_pos ⟨h0, h2⟩]
  split <;> exact ⟨_, rfl⟩
/-- the game so far: its rolls, its frames -/
structure Game (f p : Int) (rolls : List Int) (x : Fr) : Prop where
  f1 : 1 ≤ f
  f2 : f ≤ 10
  p1 : 2 ≤ p
  p2 : p ≤ 10
  sp : splitS f p ([], []) rolls = some x
theorem Game.lock {f p : Int} {rolls : List Int} {x : Fr} (g : Game f p rolls x) : Lock f p (afterS p (beginS f p) rolls) x :=
  Lock.steps (by have := g.p1; omega) (Lock.begin (by have := g.f1; omega)) g.sp
theorem Game.next {f p r : Int} {rolls : List Int} {x y : Fr} (g : Game f p rolls x) (e : stepF f p x r = some y) : Game f p (rolls ++ [r]) y :=
  ⟨g.f1, g.f2, g.p1, g.p2, by rw [splitS_append, g.sp]; show splitS f p x [r] = _; rw [splitS_one, e]⟩
/-- all rolls of a game: how many there can be -/
theorem steps_fit {f p : Int} : ∀ {rs : List Int} {x y : Fr}, splitS f p x rs = some y → (x.1.map List.length).sum + x.2.length + rs.length = (y.1.map List.length).sum + y.2.length
  | [], x, y, e => by cases e; simp
  | r :: rs, x, y, e => by
    rw [splitS] at e
    cases h : stepF f p x r with
    | none => rw [h] at e; cases e
    | some z =>
      rw [h] at e
      have := steps_fit (rs := rs) (x := z) e
      have h2 : (z.1.map List.length).sum + z.2.length = (x.1.map List.length).sum + x.2.length + 1 := by
        unfold FL.stepF at h
        split at h
        · cases h
        · split at h
          · split at h
            · cases h; simp; omega
            · cases h; simp; omega
          · cases h
      simp only [List.length_cons]
      omega
theorem steps_small {f p : Int} : ∀ {rs : List Int} {x y : Fr}, (∀ fr ∈ x.1, fr.length ≤ 3) → x.2.length ≤ 2 → curOk f p x.1 x.2 → 0 < p → splitS f p x rs = some y → (∀ fr ∈ y.1, fr.length ≤ 3)
  | [], x, y, h, _, _, _, e => by cases e; exact h
  | r :: rs, x, y, h, h2, hc, hp, e => by
    rw [splitS] at e
    cases hz : stepF f p x r with
    | none => rw [hz] at e; cases e
    | some z =>
      rw [hz] at e
      have hL := Lock.step hp (s := stOf f p x.1 x.2) ⟨rfl, hc, curOk_le hc⟩ hz
      refine steps_small (rs := rs) (x := z) ?_ (curOk_len hL.2.1) hL.2.1 hp e
      unfold FL.stepF at hz
      split at hz
      · cases hz
      · split at hz
        · split at hz
          · cases hz
            intro fr hf
            rcases List.mem_append.mp hf with hf | hf
            · exact h fr hf
            · rw [List.mem_singleton.mp hf]; simp; omega
          · cases hz; exact h
        · cases hz
theorem sum_le_mul : ∀ {l : List Nat} {k : Nat}, (∀ a ∈ l, a ≤ k) → l.sum ≤ k * l.length
  | [], _, _ => by simp
  | a :: l, k, h => by
    have h1 := h a List.mem_cons_self
    have h2 := sum_le_mul (l := l) (k := k) fun b hb => h b (List.mem_cons_of_mem _ hb)
    rw [List.sum_cons, List.length_cons, Nat.mul_add]
    omega
/-- a game has at most 32 rolls (a rough bound) -/
theorem Game.few {f p : Int} {rolls : List Int} {x : Fr} (g : Game f p rolls x) : rolls.length ≤ 32 := by
  have hp : 0 < p := by have := g.p1; omega
  have hL := g.lock
  have h1 := steps_fit g.sp
  have h2 := steps_small (x := ([], [])) (by simp) (by simp) (by show ((([] : List (List Int)).length : Nat) : Int) ≤ f; simp; have := g.f1; omega) hp g.sp
  have h3 : (x.1.map List.length).sum ≤ 3 * (x.1.map List.length).length := sum_le_mul fun a ha => by
    obtain ⟨fr, hf, rfl⟩ := List.mem_map.mp ha
    exact h2 fr hf
  have h4 := curOk_len hL.2.1
  have h5 := hL.2.2
  have h6 := g.f2
  simp at h1 h3
  omega
theorem Game.nil {f p : Int} (f1 : 1 ≤ f) (f2 : f ≤ 10) (p1 : 2 ≤ p) (p2 : p ≤ 10) : Game f p [] ([], []) := ⟨f1, f2, p1, p2, rfl⟩
theorem Game.part {f p : Int} {rolls : List Int} {x : Fr} (g : Game f p rolls x) (k : Nat) : ∃ y, Game f p (rolls.take k) y := by
  have h := g.sp
  rw [← List.take_append_drop k rolls, splitS_append] at h
  cases e : splitS f p ([], []) (rolls.take k) with
  | none => rw [e] at h; cases h
  | some y => exact ⟨y, g.f1, g.f2, g.p1, g.p2, e⟩
end My
namespace My
open PySem L2 FL
/-! ## the frames of a game -/
theorem done_last {f p : Int} {fr : List Int} : ∀ {done : List (List Int)} {n : Int}, DoneOk f p n (done ++ [fr]) → Whole p (decide (n + (done.length : Int) + 1 = f)) fr
  | [], n, h => by
    have := h.2.1
    simpa using this
  | g :: more, n, h => by
    have := done_last (done := more) h.2.2
    have e : n + 1 + (more.length : Int) = n + ((g :: more).length : Int) := by simp; omega
    rw [e] at this; exact this
theorem Game.hp {f p : Int} {rolls : List Int} {x : Fr} (g : Game f p rolls x) : 0 < p := by have := g.p1; omega
theorem Game.done {f p : Int} {rolls : List Int} {x : Fr} (g : Game f p rolls x) : DoneOk f p 0 x.1 :=
  done_steps g.hp (x := ([], [])) (by
    have h := Lock.begin (f := f) (p := p) (by have := g.f1; omega)
    exact ⟨rfl, h.2⟩) trivial g.sp
theorem Game.over {f p : Int} {rolls : List Int} {x : Fr} (g : Game f p rolls x) : afterS p (beginS f p) rolls = Gs.OVER ↔ (x.1.length : Int) = f := by
  have h := g.lock
  rw [h.full g.hp]
  have := h.2.2
  omega
theorem Game.frok {f p : Int} {rolls : List Int} {x : Fr} (g : Game f p rolls x) : FrOk f p 0 (shown f x) := by
  have h := g.lock
  have hd := g.done
  by_cases hf : (x.1.length : Int) = f
  · rw [shown_over hf]
    exact hd.full (by omega)
  · have hlt : (x.1.length : Int) < f := by have := h.2.2; omega
    rw [shown_on hlt]
    exact hd.fr (by omega) (by rw [Int.zero_add]; exact going_of h.2.1)
theorem Game.cur_nil {f p : Int} {rolls : List Int} {x : Fr} (g : Game f p rolls x) (hf : (x.1.length : Int) = f) : x.2 = [] := by
  have h := g.lock.2.1
  match e : x.2, h with
  | [], _ => rfl
  | [a], h => have := h.1; omega
  | [a, c], h => have := h.1; omega
theorem Game.rolls_eq {f p : Int} {rolls : List Int} {x : Fr} (g : Game f p rolls x) : rolls = (shown f x).flatten := by
  have h := flat_steps g.sp
  simp only [List.flatten_nil, List.nil_append] at h
  by_cases hf : (x.1.length : Int) = f
  · rw [shown_over hf, h, g.cur_nil hf, List.append_nil]
  · have hlt : (x.1.length : Int) < f := by have := g.lock.2.2; omega
    rw [shown_on hlt, h]; simp
theorem Game.done_over {f p : Int} {rolls : List Int} {x : Fr} (g : Game f p rolls x) : (DoneOk f p 0 (shown f x) ∧ 0 + ((shown f x).length : Int) = f) ↔ (x.1.length : Int) = f := by
  by_cases hf : (x.1.length : Int) = f
  · rw [shown_over hf]
    exact ⟨fun _ => hf, fun _ => ⟨g.done, by omega⟩⟩
  · have hlt : (x.1.length : Int) < f := by have := g.lock.2.2; omega
    rw [shown_on hlt]
    refine ⟨fun h => ?_, fun h => absurd h hf⟩
    have h1 := done_last h.1
    rw [Int.zero_add] at h1
    exact (whole_not_going g.hp h1 (going_of g.lock.2.1)).elim
theorem Game.score_eq {f p : Int} {rolls : List Int} {x : Fr} (g : Game f p rolls x) : scS p (beginS f p) rolls = pointsF f p 0 (shown f x) := by
  have h := score_points g.hp 0 0 g.frok
  rw [← g.rolls_eq] at h
  unfold beginS
  rw [Int.sub_zero] at h
  rw [h]; simp
theorem Game.bounds {f p : Int} {rolls : List Int} {x : Fr} (g : Game f p rolls x) : ∀ a ∈ rolls, 0 ≤ a ∧ a ≤ p := by
  have key : ∀ (rs : List Int) (z y : Fr), Lock f p (stOf f p z.1 z.2) z → splitS f p z rs = some y → ∀ a ∈ rs, 0 ≤ a ∧ a ≤ p := by
    intro rs
    induction rs with
    | nil => intro _ _ _ _ a h; cases h
    | cons r rs ih =>
      intro z y hL e a ha
      rw [splitS] at e
      cases hz : stepF f p z r with
      | none => rw [hz] at e; cases e
      | some w =>
        rw [hz] at e
        have hL2 := hL.step g.hp hz
        rcases List.mem_cons.mp ha with rfl | ha
        · have hc := (hL.can (r := a) g.hp).mp (by rw [hz]; rfl)
          by_cases hf : f < (z.1.length : Int) + 1
          · exact absurd ((hL.full g.hp).mpr hf) hc.1
          · have := hL.stand g.hp hf
            have h2 := stand_range g.hp hL.2.1
            omega
        · exact ih w y ⟨rfl, hL2.2⟩ e a ha
  have h := Lock.begin (f := f) (p := p) (by have := g.f1; omega)
  exact key rolls ([], []) x ⟨rfl, h.2⟩ g.sp
theorem partsF_len (f p : Int) : ∀ (fs : List (List Int)) (n : Int), (partsF f p n fs).length ≤ fs.length
  | [], _ => Nat.le_refl _
  | fr :: more, n => by
    have := partsF_len f p more (n + 1)
    rw [partsF, List.length_append, List.length_cons]
    split
    · simp; omega
    · simp; omega
theorem shown_len {f : Int} (x : Fr) : (shown f x).length ≤ f.toNat := by unfold shown; rw [List.length_take]; exact Nat.min_le_left _ _
theorem shown_cut {f : Int} (hf : 0 ≤ f) (x : Fr) : cutD (x.1.map tI ++ [tI x.2]) none (some f) = (shown f x).map tI := by
  rw [cut_take _ hf]
  unfold shown
  rw [List.map_take]; simp
end My
namespace My
open PySem L2 FL
/-! ## the parts of the frames, as the law finds them -/
def partD (x : List Int × Bool) : D := .tup [tI x.1, .bl x.2]
theorem parts_loop (f p : Int) (hp : 0 < p) (rolls : List Int) (s4 : Sl) :
    ∀ (fs : List (List Int)) (n : Int) (b : Nat) (acc : List (List Int × Bool)) (s5 s6 s7 s8 : Sl), rolls.drop b = fs.flatten → rolls.length = b + fs.flatten.length → acc.length + fs.length ≤ 1000 →
      FL.stored s5 = true → FL.stored s6 = true → FL.stored s7 = true → FL.stored s8 = true →
      ∃ tail, forL (.tp [(.nm 5), (.nm 6)]) gLawParts_b1 (enumF n (fs.map tI)) [.val (rulesD f p), .val (tI rolls), .own false (.lst (acc.map partD)), .val (.int (b : Int)), s4, s5, s6, s7, s8] =
        some (.nx, .val (rulesD f p) :: .val (tI rolls) :: .own false (.lst ((acc ++ partsF f p n fs).map partD)) :: tail)
  | [], n, b, acc, s5, s6, s7, s8, _, _, _, _, _, _, _ => ⟨_, by rw [partsF, List.append_nil]; rfl⟩
  | fr :: more, n, b, acc, s5, s6, s7, s8, hd, hlen, hl, h5, h6, h7, h8 => by
    have hl' : acc.length + (more.length + 1) ≤ 1000 := by simpa using hl
    have hF : rolls.drop b = fr ++ more.flatten := by rw [hd, List.flatten_cons]
    have hlen' : rolls.length = b + fr.length + more.flatten.length := by rw [hlen, List.flatten_cons, List.length_append]; omega
    have hFl : (fr ++ more.flatten).length = fr.length + more.flatten.length := List.length_append
    have hac : acc.length < 1000000 := by omega
    have hd2 : rolls.drop (b + fr.length) = more.flatten := by rw [← List.drop_drop, hF, List.drop_left' rfl]
    have hn := needed_ok p (decide (n = f - 1)) fr
    have hsl := slice_mid rolls b (sizeF f p n fr)
    rw [hF] at hsl
    have hle : decide ((b : Int) + (sizeF f p n fr : Int) ≤ (rolls.length : Int)) = decide (sizeF f p n fr ≤ (fr ++ more.flatten).length) := by
      rw [decide_eq_decide]; omega
    have hszI : (sizeF f p n fr : Int) = if n < f - 1 ∧ fr.sum = p then 3 else (fr.length : Int) := by
      unfold sizeF; split <;> simp
    rw [List.map_cons, enumF, forL_cons, partsF]
    by_cases hfr : fr = []
    · obtain ⟨tail, ih⟩ := parts_loop f p hp rolls s4 more (n + 1) (b + fr.length) acc (.val (.int n)) (.val (tI fr)) (.val (.int (fr.length : Int))) (.val (.bl (decide (0 < neededF p (decide (n = f - 1)) fr)))) hd2 hlen' (by omega) rfl rfl rfl rfl
      refine ⟨tail, ?_⟩
      rw [if_pos hfr, List.nil_append, ← ih]
      subst hfr
      have k2 : ¬ (0 : Int) = p := by omega
      by_cases k1 : n < f - 1
      · simp [gLawParts_b1, h5, h6, h7, h8, hn, sum_tI, k1, k2, bNe_tI0, -sum2]
      · simp [gLawParts_b1, h5, h6, h7, h8, hn, k1, bNe_tI0]
    · rw [if_neg hfr]
      obtain ⟨tail, ih⟩ := parts_loop f p hp rolls s4 more (n + 1) (b + fr.length) (acc ++ [((fr ++ more.flatten).take (sizeF f p n fr), decide (0 < neededF p (decide (n = f - 1)) fr) && decide (sizeF f p n fr ≤ (fr ++ more.flatten).length))]) (.val (.int n)) (.val (tI fr)) (.val (.int (sizeF f p n fr : Int))) (.val (.bl (decide (0 < neededF p (decide (n = f - 1)) fr)))) hd2 hlen' (by simp; omega) rfl rfl rfl rfl
      refine ⟨tail, ?_⟩
      rw [List.append_assoc] at ih
      rw [← ih]
      clear ih hlen' hFl hd hF hd2 hlen
      generalize (fr ++ more.flatten).take (sizeF f p n fr) = T at *
      generalize decide (sizeF f p n fr ≤ (fr ++ more.flatten).length) = bb at *
      generalize (sizeF f p n fr : Int) = z at *
      by_cases k1 : n < f - 1
      · by_cases k2 : fr.sum = p
        · rw [if_pos ⟨k1, k2⟩] at hszI
          subst hszI
          by_cases hz : 0 < neededF p (decide (n = f - 1)) fr <;> simp [gLawParts_b1, h5, h6, h7, h8, hn, sum_tI, k1, k2, bNe_tI0, hfr, hsl, hle, hz, cap, hac, partD, -sum2, -sliceT]
        · rw [if_neg (fun h => k2 h.2)] at hszI
          subst hszI
          by_cases hz : 0 < neededF p (decide (n = f - 1)) fr <;> simp [gLawParts_b1, h5, h6, h7, h8, hn, sum_tI, k1, k2, bNe_tI0, hfr, hsl, hle, hz, cap, hac, partD, -sum2, -sliceT]
      · rw [if_neg (fun h => k1 h.1)] at hszI
        subst hszI
        by_cases hz : 0 < neededF p (decide (n = f - 1)) fr <;> simp [gLawParts_b1, h5, h6, h7, h8, hn, sum_tI, k1, bNe_tI0, hfr, hsl, hle, hz, cap, hac, partD, -sum2, -sliceT]
theorem parts_ok (f p : Int) (rolls : List Int) (x : Fr) (g : Game f p rolls x) : fnLawParts [.val (rulesD f p), .val (tI rolls)] = some (.own (.lst ((partsF f p 0 (shown f x)).map partD)), [.val (rulesD f p), .val (tI rolls)]) := by
  have hs := split_ok f p rolls (by have := g.few; omega)
  rw [g.sp] at hs
  have hc := shown_cut (f := f) (by have := g.f1; omega) x
  have hsl := shown_len (f := f) x
  obtain ⟨tail, e⟩ := parts_loop f p g.hp rolls (.own false (frD x)) (shown f x) 0 0 [] .no .no .no .no g.rolls_eq (by rw [Nat.zero_add, ← g.rolls_eq]) (by have := g.f2; simp; omega) rfl rfl rfl rfl
  have e' : forL (.tp [(.nm 5), (.nm 6)]) gLawParts_b1 (enumF 0 ((shown f x).map tI)) [.val (rulesD f p), .val (tI rolls), .own false (.lst []), .val (.int 0), .own false (frD x), .no, .no, .no, .no] = some (.nx, .val (rulesD f p) :: .val (tI rolls) :: .own false (.lst ((partsF f p 0 (shown f x)).map partD)) :: tail) := e
  rw [fnLawParts, defF_eq]
  simp [gLawParts, hs, hc, enumD_eq, e', cap]
end My
namespace My
open PySem L2 FL
theorem settled_loop (ra rb : Sl) : ∀ (ps : List (List Int × Bool)) (acc : List Int) (s3 s4 : Sl), FL.stored s3 = true → FL.stored s4 = true → acc.length + ps.length ≤ 1000 →
    ∃ tail, forL (.tp [(.nm 3), (.nm 4)]) gLawSettled_b1 (ps.map partD) [ra, rb, .own false (.lst (acc.map D.int)), s3, s4] = some (.nx, ra :: rb :: .own false (.lst ((acc ++ ps.filterMap fun x => if x.2 = true then some x.1.sum else none).map D.int)) :: tail)
  | [], acc, s3, s4, _, _, _ => ⟨_, by rw [List.filterMap_nil, List.append_nil]; rfl⟩
  | x :: ps, acc, s3, s4, h3, h4, hl => by
    have hl' : acc.length + (ps.length + 1) ≤ 1000 := by simpa using hl
    have hc : acc.length < 1000000 := by omega
    obtain ⟨q, b⟩ := x
    rw [List.map_cons, forL_cons]
    cases b with
    | true =>
      obtain ⟨tail, e⟩ := settled_loop ra rb ps (acc ++ [q.sum]) (.val (tI q)) (.val (.bl true)) rfl rfl (by simp; omega)
      refine ⟨tail, ?_⟩
      rw [List.filterMap_cons_some (by rfl)]
      rw [List.append_assoc, List.singleton_append] at e
      rw [← e]
      simp [gLawSettled_b1, partD, h3, h4, cap, hc, sum_tI, -sum2]
    | false =>
      obtain ⟨tail, e⟩ := settled_loop ra rb ps acc (.val (tI q)) (.val (.bl false)) rfl rfl (by omega)
      refine ⟨tail, ?_⟩
      rw [List.filterMap_cons_none (by rfl), ← e]
      simp [gLawSettled_b1, partD, h3, h4]
theorem settled_ok (f p : Int) (rolls : List Int) (x : Fr) (g : Game f p rolls x) : fnLawSettled [.val (rulesD f p), .val (tI rolls)] = some (.own (lI (settledF f p 0 (shown f x))), [.val (rulesD f p), .val (tI rolls)]) := by
  have h1 := partsF_len f p (shown f x) 0
  have h2 := shown_len (f := f) x
  have h3 := g.f2
  obtain ⟨tail, e⟩ := settled_loop (.val (rulesD f p)) (.val (tI rolls)) (partsF f p 0 (shown f x)) [] .no .no rfl rfl (by simp; omega)
  have e' : forL (.tp [(.nm 3), (.nm 4)]) gLawSettled_b1 ((partsF f p 0 (shown f x)).map partD) [.val (rulesD f p), .val (tI rolls), .own false (.lst []), .no, .no] = some (.nx, .val (rulesD f p) :: .val (tI rolls) :: .own false (lI (settledF f p 0 (shown f x))) :: tail) := e
  rw [fnLawSettled, defF_eq]
  simp [gLawSettled, parts_ok f p rolls x g, e', cap]
end My
namespace My
open PySem L2 FL
theorem stOf_left_le {f p : Int} (hf : 0 ≤ f) (x : Fr) : (stOf f p x.1 x.2).left ≤ f := by
  obtain ⟨done, cur⟩ := x
  unfold stOf
  split
  · exact hf
  · simp only
    split <;> (try split) <;> simp [Gs.OVER] <;> omega
theorem Game.good {f p : Int} {rolls : List Int} {x : Fr} (g : Game f p rolls x) : GoodS p (afterS p (beginS f p) rolls) := by
  have key : ∀ (rs : List Int) (s : Gs) (z y : Fr), Lock f p s z → GoodS p s → splitS f p z rs = some y → GoodS p (afterS p s rs) := by
    intro rs
    induction rs with
    | nil => intro s z y _ h _; exact h
    | cons r rs ih =>
      intro s z y hL h e
      rw [splitS] at e
      cases hz : FL.stepF f p z r with
      | none => rw [hz] at e; cases e
      | some w =>
        rw [hz] at e
        have hc := (hL.can (r := r) g.hp).mp (by rw [hz]; rfl)
        exact ih (nextS p s r) w y (hL.step g.hp hz) (good_next g.p1 h hc.1 hc.2.1 hc.2.2) e
  exact key rolls _ _ x (Lock.begin (by have := g.f1; omega)) (good_begin g.f1) g.sp
theorem Game.left {f p : Int} {rolls : List Int} {x : Fr} (g : Game f p rolls x) : (afterS p (beginS f p) rolls).left ≤ 100 := by
  have h := g.lock.1
  rw [h]
  have := stOf_left_le (f := f) (p := p) (by have := g.f1; omega) x
  have := g.f2
  omega
/-- the state and the score of a game -/
abbrev sOf (f p : Int) (rolls : List Int) : Gs := afterS p (beginS f p) rolls
abbrev scOf (f p : Int) (rolls : List Int) : Int := scS p (beginS f p) rolls
end My
namespace My
open PySem L2 FL
/-- rolls that can be, from a state -/
def Runs (p : Int) : Gs → List Int → Prop
  | _, [] => True
  | s, r :: rs => s ≠ Gs.OVER ∧ 0 ≤ r ∧ r ≤ s.stand ∧ Runs p (nextS p s r) rs
theorem after_append (p : Int) (s : Gs) (a b : List Int) : afterS p s (a ++ b) = afterS p (afterS p s a) b := List.foldl_append
theorem runs_snoc {p r : Int} : ∀ {m : List Int} {s : Gs}, Runs p s (m ++ [r]) ↔ Runs p s m ∧ afterS p s m ≠ Gs.OVER ∧ 0 ≤ r ∧ r ≤ (afterS p s m).stand
  | [], s => by
    show (s ≠ Gs.OVER ∧ 0 ≤ r ∧ r ≤ s.stand ∧ True) ↔ (True ∧ s ≠ Gs.OVER ∧ 0 ≤ r ∧ r ≤ s.stand)
    constructor
    · rintro ⟨a, b, c, _⟩; exact ⟨trivial, a, b, c⟩
    · rintro ⟨_, a, b, c⟩; exact ⟨a, b, c, trivial⟩
  | q :: m, s => by
    have ih := runs_snoc (p := p) (r := r) (m := m) (s := nextS p s q)
    show (s ≠ Gs.OVER ∧ 0 ≤ q ∧ q ≤ s.stand ∧ Runs p (nextS p s q) (m ++ [r])) ↔ ((s ≠ Gs.OVER ∧ 0 ≤ q ∧ q ≤ s.stand ∧ Runs p (nextS p s q) m) ∧ afterS p (nextS p s q) m ≠ Gs.OVER ∧ 0 ≤ r ∧ r ≤ (afterS p (nextS p s q) m).stand)
    rw [ih]
    constructor
    · rintro ⟨a, b, c, d, e⟩; exact ⟨⟨a, b, c, d⟩, e⟩
    · rintro ⟨⟨a, b, c, d⟩, e⟩; exact ⟨a, b, c, d, e⟩
theorem ends_runs {p : Int} : ∀ {m : List Int} {s : Gs}, Ends p s m ↔ Runs p s m ∧ afterS p s m = Gs.OVER
  | [], s => by
    show s = Gs.OVER ↔ (True ∧ s = Gs.OVER)
    simp
  | q :: m, s => by
    have ih := ends_runs (p := p) (m := m) (s := nextS p s q)
    show (s ≠ Gs.OVER ∧ 0 ≤ q ∧ q ≤ s.stand ∧ Ends p (nextS p s q) m) ↔ ((s ≠ Gs.OVER ∧ 0 ≤ q ∧ q ≤ s.stand ∧ Runs p (nextS p s q) m) ∧ afterS p (nextS p s q) m = Gs.OVER)
    rw [ih]
    constructor
    · rintro ⟨a, b, c, d, e⟩; exact ⟨⟨a, b, c, d⟩, e⟩
    · rintro ⟨⟨a, b, c, d⟩, e⟩; exact ⟨a, b, c, d, e⟩
theorem sOf_append (f p : Int) (rolls m : List Int) : sOf f p (rolls ++ m) = afterS p (sOf f p rolls) m := after_append _ _ _ _
theorem frok_len {f p : Int} : ∀ {fs : List (List Int)} {n : Int}, FrOk f p n fs → (fs.flatten.length : Int) ≤ 2 * (f - n) + 1
  | [], n, h => by
    have h' : n = f := h
    simp; omega
  | fr :: more, n, h => by
    obtain ⟨hn, h⟩ := h
    rw [List.flatten_cons, List.length_append]
    rcases h with ⟨rfl, hg⟩ | ⟨hw, hm⟩
    · have hl : fr.length ≤ 2 := by
        match fr, hg with
        | [], _ => simp
        | [_], _ => simp
        | [_, _], _ => simp
      simp; omega
    · by_cases hl : n + 1 = f
      · have := whole_last_nil hl hm
        subst this
        have hl : fr.length ≤ 3 := by
          match fr, hw with
          | [_], _ => simp
          | [_, _], _ => simp
          | [_, _, _], _ => simp
        simp; omega
      · have ih := frok_len hm
        rw [decide_eq_false hl] at hw
        have hl : fr.length ≤ 2 := by
          match fr, hw with
          | [_], _ => simp
          | [_, _], _ => simp
          | [_, _, _], hw => cases hw.1
        omega
theorem Game.fewer {f p : Int} {rolls : List Int} {x : Fr} (g : Game f p rolls x) : (rolls.length : Int) ≤ 2 * f + 1 := by
  have := frok_len g.frok
  rw [← g.rolls_eq] at this
  omega
end My
namespace My
open PySem L2 FL
def canD (p : Int) (s : Gs) (v : Int) : Bool := decide (0 ≤ v ∧ v ≤ topS p s ∧ v ∉ gapsL s)
theorem canD_reach {p : Int} (hp : 2 ≤ p) {s : Gs} (hs : GoodS p s) (v : Int) : canD p s v = true ↔ Reach p s v := by
  unfold canD
  rw [decide_eq_true_eq, reach_iff hp hs]
  constructor
  · rintro ⟨h0, h1, h2⟩; exact ⟨h0, h1, fun z => h2 ((gapsL_iff hp hs h0).mpr z)⟩
  · rintro ⟨h0, h1, h2⟩; exact ⟨h0, h1, fun z => h2 ((gapsL_iff hp hs h0).mp z)⟩
end My
namespace My
open PySem L2 FL
/-! ## totals by all further rolls -/
theorem sc_append (p : Int) : ∀ (a b : List Int) (s : Gs), scS p s (a ++ b) = scS p s a + scS p (afterS p s a) b
  | [], b, s => by
    show scS p s b = 0 + scS p s b
    omega
  | r :: a, b, s => by
    rw [List.cons_append, scS, scS, sc_append p a b]
    show _ = _ + scS p (afterS p (nextS p s r) a) b
    omega
theorem gap_lt {p : Int} (hp : 2 ≤ p) {s : Gs} (hs : GoodS p s) {v : Int} (h : gapS p s v) : v < topS p s := by
  obtain ⟨n, m, l, part, t⟩ := s
  cases part with
  | first =>
    obtain ⟨g1, g2, g3⟩ := hs
    obtain ⟨h1, h2⟩ := h
    simp only at g1 g2 g3 h1 h2
    subst g3 h1
    unfold gapsFirst at h2
    simp only [topS]
    rcases g2 with ⟨rfl, rfl⟩ | ⟨rfl, rfl⟩ | ⟨rfl, rfl⟩ | ⟨rfl, rfl⟩ <;> omega
  | second =>
    obtain ⟨g1, g2, g3, g4, g5⟩ := hs
    obtain ⟨h1, h2, h3, h4⟩ := h
    simp only at g1 g2 g3 g4 g5 h1 h2 h3 h4
    subst h1 h2
    simp only [topS]
    omega
  | _ => exact h.elim
theorem top_nonneg {p : Int} (hp : 2 ≤ p) {s : Gs} (hs : GoodS p s) : 0 ≤ topS p s := by
  obtain ⟨n, m, l, part, t⟩ := s
  cases part with
  | first =>
    obtain ⟨g1, g2, g3⟩ := hs
    simp only at g1 g2 g3
    subst g3
    have h1 : 0 ≤ t * n := Int.mul_nonneg (by omega) (by omega)
    have h2 : 0 ≤ t * (m + l) := Int.mul_nonneg (by omega) (by unfold Bon at g2; omega)
    simp only [topS]
    omega
  | second =>
    obtain ⟨g1, g2, g3, g4, g5⟩ := hs
    simp only at g1 g2 g3 g4 g5
    have h1 : 0 ≤ p * (n - 1) := Int.mul_nonneg (by omega) (by omega)
    have h2 : 0 ≤ t * (1 + m) := Int.mul_nonneg (by omega) (by omega)
    simp only [topS]
    omega
  | two =>
    obtain ⟨g1, g2, g3, g4⟩ := hs
    simp only at g1 g2 g3 g4
    have h2 : 0 ≤ p * (1 + m) := Int.mul_nonneg (by omega) (by omega)
    simp only [topS]
    omega
  | one => obtain ⟨g1, g2, g3, g4, g5⟩ := hs; simp only at g4; simp only [topS]; omega
  | over => simp [topS]
theorem reach_zero {p : Int} (hp : 2 ≤ p) {s : Gs} (hs : GoodS p s) : Reach p s 0 := by
  rw [reach_iff hp hs]
  refine ⟨by omega, top_nonneg hp hs, fun h => ?_⟩
  obtain ⟨n, m, l, part, t⟩ := s
  cases part with
  | first => obtain ⟨h1, h2⟩ := h; unfold gapsFirst at h2; simp only at h2; omega
  | second => obtain ⟨h1, h2, h3, h4⟩ := h; omega
  | _ => exact h
theorem reach_top {p : Int} (hp : 2 ≤ p) {s : Gs} (hs : GoodS p s) : Reach p s (topS p s) := by
  rw [reach_iff hp hs]
  refine ⟨top_nonneg hp hs, Int.le_refl _, fun h => ?_⟩
  have := gap_lt hp hs h
  omega
/-- the totals of all further rolls -/
def totF (f p : Int) (rolls : List Int) (A : List (List Int)) : List Int := A.map fun m => scOf f p (rolls ++ m)
theorem tot_mem {f p : Int} {rolls : List Int} {A : List (List Int)} (hA : ∀ m, m ∈ A ↔ Ends p (sOf f p rolls) m) (v : Int) : v ∈ totF f p rolls A ↔ Reach p (sOf f p rolls) (v - scOf f p rolls) := by
  unfold totF
  rw [List.mem_map]
  constructor
  · rintro ⟨m, hm, rfl⟩
    exact ⟨m, (hA m).mp hm, by
      have := sc_append p rolls m (beginS f p)
      show scS p (afterS p (beginS f p) rolls) m = scS p (beginS f p) (rolls ++ m) - scS p (beginS f p) rolls
      omega⟩
  · rintro ⟨m, hm, e⟩
    refine ⟨m, (hA m).mpr hm, ?_⟩
    have := sc_append p rolls m (beginS f p)
    have e' : scS p (afterS p (beginS f p) rolls) m = v - scS p (beginS f p) rolls := e
    show scS p (beginS f p) (rolls ++ m) = v
    omega
theorem tot_min {f p : Int} {rolls : List Int} {x : Fr} (g : Game f p rolls x) {A : List (List Int)} (hA : ∀ m, m ∈ A ↔ Ends p (sOf f p rolls) m) : totF f p rolls A ≠ [] ∧ minI (totF f p rolls A) = scOf f p rolls ∧ maxI (totF f p rolls A) = scOf f p rolls + topS p (sOf f p rolls) := by
  have hg : GoodS p (sOf f p rolls) := g.good
  have h0 : scOf f p rolls ∈ totF f p rolls A := (tot_mem hA _).mpr (by rw [Int.sub_self]; exact reach_zero g.p1 hg)
  have h1 : scOf f p rolls + topS p (sOf f p rolls) ∈ totF f p rolls A := (tot_mem hA _).mpr (by
    have : scOf f p rolls + topS p (sOf f p rolls) - scOf f p rolls = topS p (sOf f p rolls) := by omega
    rw [this]; exact reach_top g.p1 hg)
  have hne : totF f p rolls A ≠ [] := fun z => by rw [z] at h0; cases h0
  obtain ⟨a1, a2⟩ := minI_mem hne
  obtain ⟨b1, b2⟩ := maxI_mem hne
  have c1 := (reach_iff g.p1 hg _).mp ((tot_mem hA _).mp a1)
  have c2 := (reach_iff g.p1 hg _).mp ((tot_mem hA _).mp b1)
  have d1 := a2 _ h0
  have d2 := b2 _ h1
  exact ⟨hne, by omega, by omega⟩
theorem tot_can {f p : Int} {rolls : List Int} {x : Fr} (g : Game f p rolls x) {A : List (List Int)} (hA : ∀ m, m ∈ A ↔ Ends p (sOf f p rolls) m) (v : Int) : canD p (sOf f p rolls) (v - scOf f p rolls) = decide (v ∈ totF f p rolls A) := by
  rw [Bool.eq_iff_iff, canD_reach g.p1 g.good, decide_eq_true_eq, tot_mem hA]
end My
namespace My
open PySem L2 FL
theorem next_left {p r : Int} {s : Gs} (h : 0 ≤ s.left) : (nextS p s r).left ≤ s.left := by
  unfold nextS
  (repeat' split) <;> (try simp only [Gs.OVER]) <;> omega
theorem good_left0 {p : Int} {s : Gs} (hg : GoodS p s) : 0 ≤ s.left := by
  obtain ⟨n', m', l', part, t'⟩ := s
  cases part with
  | first => have := hg.1; simp only at this ⊢; omega
  | second => have := hg.1; simp only at this ⊢; omega
  | two => have := hg.1; simp only at this ⊢; omega
  | one => have := hg.1; simp only at this ⊢; omega
  | over =>
    have hg' : (⟨n', m', l', .over, t'⟩ : Gs) = Gs.OVER := hg
    rw [hg']; decide
theorem sc_bound (p : Int) : ∀ (rs : List Int) (s : Gs), 0 ≤ s.more → s.more ≤ 2 → 0 ≤ s.later → s.later ≤ 1 → (∀ r ∈ rs, 0 ≤ r ∧ r ≤ 10) → 0 ≤ scS p s rs ∧ scS p s rs ≤ 30 * (rs.length : Int)
  | [], _, _, _, _, _, _ => by simp [scS]
  | r :: rs, s, h1, h2, h3, h4, hr => by
    have hr0 := hr r List.mem_cons_self
    have ih := sc_bound p rs (nextS p s r) (by unfold nextS; (repeat' split) <;> (try simp [Gs.OVER]) <;> (try omega)) (by unfold nextS; (repeat' split) <;> (try simp [Gs.OVER]) <;> (try omega)) (by unfold nextS; (repeat' split) <;> (try simp [Gs.OVER]) <;> (try omega)) (by unfold nextS; (repeat' split) <;> (try simp [Gs.OVER]) <;> (try omega)) fun q hq => hr q (List.mem_cons_of_mem _ hq)
    rw [scS, List.length_cons]
    have hm : s.more = 0 ∨ s.more = 1 ∨ s.more = 2 := by omega
    rcases hm with h | h | h <;> rw [h] <;> omega
theorem Game.sc_bound {f p : Int} {rolls : List Int} {x : Fr} (g : Game f p rolls x) : 0 ≤ scOf f p rolls ∧ scOf f p rolls ≤ 960 := by
  have := My.sc_bound p rolls (beginS f p) (by show (0 : Int) ≤ 0; decide) (by show (0 : Int) ≤ 2; decide) (by show (0 : Int) ≤ 0; decide) (by show (0 : Int) ≤ 1; decide) fun r hr => by
    have := g.bounds r hr
    have := g.p2
    omega
  have := g.few
  show 0 ≤ scS p (beginS f p) rolls ∧ scS p (beginS f p) rolls ≤ 960
  omega
theorem Game.left10 {f p : Int} {rolls : List Int} {x : Fr} (g : Game f p rolls x) : (sOf f p rolls).left ≤ 10 := by
  have h := g.lock.1
  show (afterS p (beginS f p) rolls).left ≤ 10
  rw [h]
  have := stOf_left_le (f := f) (p := p) (by have := g.f1; omega) x
  have := g.f2
  omega
theorem top_bound {p : Int} (hp : 2 ≤ p) (hp2 : p ≤ 10) {s : Gs} (hs : GoodS p s) (hl : s.left ≤ 10) : topS p s ≤ 400 := by
  obtain ⟨n, m, l, part, t⟩ := s
  cases part with
  | first =>
    obtain ⟨g1, g2, g3⟩ := hs
    simp only at g1 g2 g3 hl
    subst g3
    have h1 : t * n ≤ 10 * 10 := Int.mul_le_mul hp2 hl (by omega) (by omega)
    have h2 : t * (m + l) ≤ 10 * 3 := Int.mul_le_mul hp2 (by unfold Bon at g2; omega) (by unfold Bon at g2; omega) (by omega)
    simp only [topS]
    omega
  | second =>
    obtain ⟨g1, g2, g3, g4, g5⟩ := hs
    simp only at g1 g2 g3 g4 g5 hl
    have h1 : p * (n - 1) ≤ 10 * 10 := Int.mul_le_mul hp2 (by omega) (by omega) (by omega)
    have h2 : t * (1 + m) ≤ 10 * 2 := Int.mul_le_mul (by omega) (by omega) (by omega) (by omega)
    simp only [topS]
    omega
  | two =>
    obtain ⟨g1, g2, g3, g4⟩ := hs
    simp only at g1 g2 g3 g4
    have h2 : p * (1 + m) ≤ 10 * 2 := Int.mul_le_mul hp2 (by omega) (by omega) (by omega)
    simp only [topS]
    omega
  | one => obtain ⟨g1, g2, g3, g4, g5⟩ := hs; simp only at g4 g5; simp only [topS]; omega
  | over => simp [topS]
end My
namespace My
open PySem L2 FL
/-- rolls that end a game make a game -/
theorem Game.ended {f p : Int} {rolls : List Int} {x : Fr} (g : Game f p rolls x) {m : List Int} (hm : Ends p (sOf f p rolls) m) : ∃ y, Game f p (rolls ++ m) y ∧ sOf f p (rolls ++ m) = Gs.OVER := by
  have key : ∀ (m : List Int) (rolls : List Int) (x : Fr), Game f p rolls x → Ends p (sOf f p rolls) m → ∃ y, Game f p (rolls ++ m) y ∧ sOf f p (rolls ++ m) = Gs.OVER := by
    intro m
    induction m with
    | nil => intro rolls x g h; rw [List.append_nil]; exact ⟨x, g, h⟩
    | cons r m ih =>
      intro rolls x g h
      obtain ⟨h1, h2, h3, h4⟩ := h
      have hL := g.lock
      have hc := (hL.can (r := r) g.hp).mpr ⟨h1, h2, h3⟩
      cases e : FL.stepF f p x r with
      | none => rw [e] at hc; cases hc
      | some z =>
        have g2 := g.next e
        have e2 : sOf f p (rolls ++ [r]) = nextS p (sOf f p rolls) r := by
          show afterS p (beginS f p) (rolls ++ [r]) = _
          unfold afterS
          rw [List.foldl_append]; rfl
        rw [← e2] at h4
        obtain ⟨y, g3, h5⟩ := ih _ z g2 h4
        rw [List.append_assoc] at g3 h5
        exact ⟨y, g3, h5⟩
  exact key m rolls x g hm
end My
namespace My
open PySem L2 FL
theorem runs_of {f p : Int} (hp : 0 < p) : ∀ {m : List Int} {s : Gs} {x y : Fr}, Lock f p s x → splitS f p x m = some y → Runs p s m
  | [], _, _, _, _, _ => trivial
  | r :: m, s, x, y, h, e => by
    rw [splitS] at e
    cases hz : FL.stepF f p x r with
    | none => rw [hz] at e; cases e
    | some z =>
      rw [hz] at e
      have hc := (h.can (r := r) hp).mp (by rw [hz]; rfl)
      exact ⟨hc.1, hc.2.1, hc.2.2, runs_of hp (m := m) (h.step hp hz) e⟩
theorem Game.ends {f p : Int} {rolls m : List Int} {x y : Fr} (g : Game f p rolls x) (g2 : Game f p (rolls ++ m) y) (ho : sOf f p (rolls ++ m) = Gs.OVER) : Ends p (sOf f p rolls) m := by
  have h := g2.sp
  rw [splitS_append, g.sp] at h
  have hr := runs_of g.hp g.lock (m := m) (y := y) h
  rw [sOf_append] at ho
  exact ends_runs.mpr ⟨hr, ho⟩
end My
namespace My
open PySem L2 FL
/-! ## all further rolls -/
def overB (f p : Int) (rolls : List Int) : Bool := decide (sOf f p rolls = Gs.OVER)
def extsF (f p : Int) (rolls m : List Int) : List (List Int) := if overB f p (rolls ++ m) = true then [] else (List.range ((sOf f p (rolls ++ m)).stand + 1).toNat).map fun (r : Nat) => m ++ [(r : Int)]
theorem all_comp (m : List Int) (hm : m.length ≤ 900) (a0 a1 a2 a3 a4 a6 a7 : Sl) : ∀ (ks : List Nat) (acc : List D), acc.length + ks.length ≤ 1000 →
    lcL (.nm 8) (fC (.bl true)) gLawAll_e1 [8] (ks.map fun (k : Nat) => D.int (k : Int)) acc [a0, a1, a2, a3, a4, .val (tI m), a6, a7, .no] = some (acc ++ (ks.map fun (r : Nat) => m ++ [(r : Int)]).map tI, [a0, a1, a2, a3, a4, .val (tI m), a6, a7, .no])
  | [], acc, _ => by simp
  | k :: ks, acc, hl => by
    have hl' : acc.length + (ks.length + 1) ≤ 1000 := by simpa using hl
    have e := all_comp m hm a0 a1 a2 a3 a4 a6 a7 ks (acc ++ [tI (m ++ [(k : Int)])]) (by simp; omega)
    have hc : acc.length < 1000000 := by omega
    have hm2 : m.length + 1 ≤ 1000000 := by omega
    rw [List.map_cons, lcL_cons, List.map_cons, List.map_cons]
    rw [List.append_assoc, List.singleton_append] at e
    rw [← e]
    simp [gLawAll_e1, cap, hc, hm2]
theorem all_step {f p : Int} {rolls m : List Int} {x : Fr} (g : Game f p (rolls ++ m) x) (found longer : List (List Int)) (hf : found.length ≤ 500000) (hlg : longer.length ≤ 500000) (s3 s6 s7 : Sl) (h6 : FL.stored s6 = true) (h7 : FL.stored s7 = true) :
    ∃ s6' s7', FL.stored s6' = true ∧ FL.stored s7' = true ∧ gLawAll_b2 [.val (rulesD f p), .val (tI rolls), .own false (.lst (found.map tI)), s3, .own false (.lst (longer.map tI)), .val (tI m), s6, s7, .no] =
      some (.nx, [.val (rulesD f p), .val (tI rolls), .own false (.lst ((found ++ if overB f p (rolls ++ m) = true then [m] else []).map tI)), s3, .own false (.lst ((longer ++ extsF f p rolls m).map tI)), .val (tI m), s6', s7', .no]) := by
  have hfew := g.few
  have hfl : rolls.length + m.length ≤ 32 := by simpa using hfew
  have hs := split_ok f p (rolls ++ m) (by omega)
  rw [g.sp] at hs
  have hst := stands_ok p x.2
  have hL := g.lock
  have c1 : rolls.length + m.length ≤ 1000000 := by omega
  have c2 : found.length < 1000000 := by omega
  by_cases h1 : f < (x.1.length : Int) + 1
  · have ho : overB f p (rolls ++ m) = true := decide_eq_true ((hL.full g.hp).mpr h1)
    refine ⟨.own false (frD x), s7, rfl, h7, ?_⟩
    unfold extsF
    rw [if_pos ho, if_pos ho]
    simp [gLawAll_b2, hs, h1, h6, cap, c1, c2]
  · have ho : overB f p (rolls ++ m) = false := decide_eq_false fun z => h1 ((hL.full g.hp).mp z)
    obtain ⟨b0, b1⟩ := stand_range g.hp hL.2.1
    have hp2 := g.p2
    have hsd : (sOf f p (rolls ++ m)).stand = standsF p x.2 := hL.stand g.hp h1
    have r1 : -1000000 ≤ standsF p x.2 + 1 := by omega
    have r2 : standsF p x.2 + 1 ≤ 1000000 := by omega
    have hrg : rg1 (standsF p x.2 + 1).toNat = (List.range (standsF p x.2 + 1).toNat).map fun (k : Nat) => D.int (k : Int) := rfl
    have e := all_comp m (by omega) (.val (rulesD f p)) (.val (tI rolls)) (.own false (.lst (found.map tI))) s3 (.own false (.lst (longer.map tI))) (.own false (frD x)) (.val (.int (standsF p x.2))) (List.range (standsF p x.2 + 1).toNat) [] (by simp; omega)
    rw [← hrg, List.nil_append] at e
    have hlen : ((List.range (standsF p x.2 + 1).toNat).map fun (r : Nat) => m ++ [(r : Int)]).length ≤ 1000 := by simp; omega
    refine ⟨.own false (frD x), .val (.int (standsF p x.2)), rfl, rfl, ?_⟩
    unfold extsF
    rw [ho, hsd]
    simp only [Bool.false_eq_true, if_false, List.append_nil, List.map_append]
    have hlen2 : (((List.range (standsF p x.2 + 1).toNat).map fun (r : Nat) => m ++ [(r : Int)]).map tI).length ≤ 1000 := by simp; omega
    generalize ((List.range (standsF p x.2 + 1).toNat).map fun (r : Nat) => m ++ [(r : Int)]).map tI = E at e hlen2
    have c3 : longer.length + E.length ≤ 1000000 := by omega
    simp [gLawAll_b2, hs, h1, h6, h7, cap, c1, hst, r1, r2, e, c3, FL.atI_last]
theorem exts_len {f p : Int} {rolls m : List Int} {x : Fr} (g : Game f p (rolls ++ m) x) : (extsF f p rolls m).length ≤ 11 := by
  unfold extsF
  split
  · simp
  · have : (sOf f p (rolls ++ m)).stand ≤ p := (good_stand g.p1 g.good).2.1
    have := g.p2
    simp
    omega
theorem all_pass {f p : Int} {rolls : List Int} (s3 : Sl) : ∀ (ms found longer : List (List Int)) (s5 s6 s7 : Sl), (∀ m ∈ ms, ∃ x, Game f p (rolls ++ m) x) → found.length + ms.length ≤ 500000 → longer.length + 11 * ms.length ≤ 500000 → FL.stored s5 = true → FL.stored s6 = true → FL.stored s7 = true →
    ∃ s5' s6' s7', FL.stored s5' = true ∧ FL.stored s6' = true ∧ FL.stored s7' = true ∧ forL (.nm 5) gLawAll_b2 (ms.map tI) [.val (rulesD f p), .val (tI rolls), .own false (.lst (found.map tI)), s3, .own false (.lst (longer.map tI)), s5, s6, s7, .no] =
      some (.nx, [.val (rulesD f p), .val (tI rolls), .own false (.lst ((found ++ ms.filter fun m => overB f p (rolls ++ m)).map tI)), s3, .own false (.lst ((longer ++ ms.flatMap fun m => extsF f p rolls m).map tI)), s5', s6', s7', .no])
  | [], found, longer, s5, s6, s7, _, _, _, h5, h6, h7 => ⟨s5, s6, s7, h5, h6, h7, by simp⟩
  | m :: ms, found, longer, s5, s6, s7, hg, hf, hl, h5, h6, h7 => by
    obtain ⟨x, g⟩ := hg m List.mem_cons_self
    have hf' : found.length + (ms.length + 1) ≤ 500000 := by simpa using hf
    have hl' : longer.length + 11 * (ms.length + 1) ≤ 500000 := by simpa using hl
    have he := exts_len g
    obtain ⟨t6, t7, a6, a7, e⟩ := all_step g found longer (by omega) (by omega) s3 s6 s7 h6 h7
    have hfl : (found ++ if overB f p (rolls ++ m) = true then [m] else []).length ≤ found.length + 1 := by rw [List.length_append]; split <;> simp
    obtain ⟨u5, u6, u7, b5, b6, b7, e2⟩ := all_pass s3 ms (found ++ if overB f p (rolls ++ m) = true then [m] else []) (longer ++ extsF f p rolls m) (.val (tI m)) t6 t7 (fun q hq => hg q (List.mem_cons_of_mem _ hq)) (by omega) (by rw [List.length_append]; omega) rfl a6 a7
    refine ⟨u5, u6, u7, b5, b6, b7, ?_⟩
    have e0 : asg (.nm 5) (tI m) [.val (rulesD f p), .val (tI rolls), .own false (.lst (found.map tI)), s3, .own false (.lst (longer.map tI)), s5, s6, s7, .no] = some [.val (rulesD f p), .val (tI rolls), .own false (.lst (found.map tI)), s3, .own false (.lst (longer.map tI)), .val (tI m), s6, s7, .no] := by simp [h5]
    have e1 : (found ++ if overB f p (rolls ++ m) = true then [m] else []) ++ ms.filter (fun m => overB f p (rolls ++ m)) = found ++ (m :: ms).filter (fun m => overB f p (rolls ++ m)) := by
      rw [List.filter_cons, List.append_assoc]
      congr 1
      split <;> rfl
    have e3 : (longer ++ extsF f p rolls m) ++ ms.flatMap (fun m => extsF f p rolls m) = longer ++ (m :: ms).flatMap (fun m => extsF f p rolls m) := by
      rw [List.flatMap_cons, List.append_assoc]
    rw [e1, e3] at e2
    rw [List.map_cons, forL_cons, e0, ← e2]
    show forO _ _ _ (gLawAll_b2 _) = _
    rw [e]; rfl
/-! the passes -/
def openK (f p : Int) (rolls : List Int) : Nat → List (List Int)
  | 0 => [[]]
  | k + 1 => (openK f p rolls k).flatMap fun m => extsF f p rolls m
def foundK (f p : Int) (rolls : List Int) : Nat → List (List Int)
  | 0 => []
  | k + 1 => foundK f p rolls k ++ (openK f p rolls k).filter fun m => overB f p (rolls ++ m)
theorem openK_game {f p : Int} {rolls : List Int} {x : Fr} (g : Game f p rolls x) : ∀ (k : Nat), ∀ m ∈ openK f p rolls k, m.length = k ∧ ∃ y, Game f p (rolls ++ m) y
  | 0, m, hm => by
    rw [openK, List.mem_singleton] at hm
    subst hm
    exact ⟨rfl, x, by rw [List.append_nil]; exact g⟩
  | k + 1, m, hm => by
    rw [openK, List.mem_flatMap] at hm
    obtain ⟨m', h1, h2⟩ := hm
    obtain ⟨hl, y, gy⟩ := openK_game g k m' h1
    unfold extsF at h2
    split at h2
    · cases h2
    · rename_i ho
      obtain ⟨r, hr, rfl⟩ := List.mem_map.mp h2
      have hr' := List.mem_range.mp hr
      refine ⟨by simp [hl], ?_⟩
      have hL := gy.lock
      have ho' : sOf f p (rolls ++ m') ≠ Gs.OVER := fun z => ho (decide_eq_true z)
      have hc := (hL.can (r := (r : Int)) gy.hp).mpr ⟨ho', by omega, by show (r : Int) ≤ (sOf f p (rolls ++ m')).stand; omega⟩
      cases e : FL.stepF f p y (r : Int) with
      | none => rw [e] at hc; cases hc
      | some z => exact ⟨z, by rw [← List.append_assoc]; exact gy.next e⟩
theorem openK_nil {f p : Int} {rolls : List Int} {k : Nat} (h : openK f p rolls k = []) : ∀ j, openK f p rolls (k + j) = []
  | 0 => h
  | j + 1 => by
    show openK f p rolls (k + j + 1) = []
    rw [openK, openK_nil h j]; rfl
theorem foundK_stay {f p : Int} {rolls : List Int} {k : Nat} (h : openK f p rolls k = []) : ∀ j, foundK f p rolls (k + j) = foundK f p rolls k
  | 0 => rfl
  | j + 1 => by
    show foundK f p rolls (k + j + 1) = _
    rw [foundK, openK_nil h j, foundK_stay h j]; simp
theorem bNe_tups (ms : List (List Int)) : bNe (.lst (ms.map tI)) (.lst []) = some (!ms.isEmpty) := by
  rw [bNe_nil]
  · cases ms <;> rfl
  · rw [List.all_eq_true]
    intro d hd
    obtain ⟨m, _, rfl⟩ := List.mem_map.mp hd
    exact tI_lev m 18
theorem all_while {f p : Int} {rolls : List Int} {x : Fr} (g : Game f p rolls x) (B : Nat) (hB : ∀ k, (openK f p rolls k).length ≤ B ∧ (foundK f p rolls k).length ≤ B) (hB2 : B ≤ 40000) :
    ∀ (n k : Nat) (s3 s4 s5 s6 s7 : Sl), openK f p rolls (k + n) = [] → (s3 = .val (.lst ((openK f p rolls k).map tI)) ∨ s3 = .own false (.lst ((openK f p rolls k).map tI))) → FL.stored s4 = true → FL.stored s5 = true → FL.stored s6 = true → FL.stored s7 = true →
      ∃ tail, whileL gLawAll_c4 gLawAll_b3 (n + 1) [.val (rulesD f p), .val (tI rolls), .own false (.lst ((foundK f p rolls k).map tI)), s3, s4, s5, s6, s7, .no] = some (.nx, .val (rulesD f p) :: .val (tI rolls) :: .own false (.lst ((foundK f p rolls (k + n)).map tI)) :: tail) := by
  intro n
  induction n with
  | zero =>
    intro k s3 s4 s5 s6 s7 he h3 h4 h5 h6 h7
    have hb := bNe_tups (openK f p rolls k)
    have he' : openK f p rolls k = [] := he
    rw [he'] at hb h3
    have hb' : bNe (.lst []) (.lst []) = some false := hb
    rw [whileL_succ]
    rcases h3 with rfl | rfl <;> exact ⟨_, by simp [gLawAll_c4, cap, hb']; rfl⟩
  | succ n ih =>
    intro k s3 s4 s5 s6 s7 he h3 h4 h5 h6 h7
    have hb := bNe_tups (openK f p rolls k)
    rw [whileL_succ]
    by_cases ho : openK f p rolls k = []
    · have e := foundK_stay ho (n + 1)
      rw [e]
      rw [ho] at hb h3
      have hb' : bNe (.lst []) (.lst []) = some false := hb
      rcases h3 with rfl | rfl <;> exact ⟨_, by simp [gLawAll_c4, cap, hb']; rfl⟩
    · have hne : (!(openK f p rolls k).isEmpty) = true := by
        cases h : openK f p rolls k with
        | nil => exact absurd h ho
        | cons a l => rfl
      rw [hne] at hb
      obtain ⟨b1, b2⟩ := hB k
      have e1 : openK f p rolls (k + 1 + n) = [] := by rw [Nat.add_assoc, Nat.add_comm 1 n]; exact he
      have e2 : foundK f p rolls (k + (n + 1)) = foundK f p rolls (k + 1 + n) := by rw [Nat.add_assoc, Nat.add_comm 1 n]
      rw [e2]
      obtain ⟨t5, t6, t7, c5, c6, c7, ep⟩ := all_pass (.val (.lst ((openK f p rolls k).map tI))) (openK f p rolls k) (foundK f p rolls k) [] s5 s6 s7 (fun m hm => (openK_game g k m hm).2) (by omega) (by simp; omega) h5 h6 h7
      rw [List.nil_append] at ep
      obtain ⟨tail, ei⟩ := ih (k + 1) (.val (.lst ((openK f p rolls (k + 1)).map tI))) (.val (.lst ((openK f p rolls (k + 1)).map tI))) t5 t6 t7 e1 (.inl rfl) rfl c5 c6 c7
      refine ⟨tail, ?_⟩
      rw [← ei]
      have ep' : forL (.nm 5) gLawAll_b2 ((openK f p rolls k).map tI) [.val (rulesD f p), .val (tI rolls), .own false (.lst ((foundK f p rolls k).map tI)), .val (.lst ((openK f p rolls k).map tI)), .own false (.lst []), s5, s6, s7, .no] =
          some (.nx, [.val (rulesD f p), .val (tI rolls), .own false (.lst ((foundK f p rolls (k + 1)).map tI)), .val (.lst ((openK f p rolls k).map tI)), .own false (.lst ((openK f p rolls (k + 1)).map tI)), t5, t6, t7, .no]) := ep
      generalize (openK f p rolls k).map tI = OK at *
      generalize (openK f p rolls (k + 1)).map tI = OK1 at *
      rcases h3 with rfl | rfl <;> simp [gLawAll_c4, gLawAll_b3, cap, hb, h4, ep']
end My
namespace My
open PySem L2 FL
theorem openK_mem {f p : Int} {rolls : List Int} : ∀ (k : Nat) (m : List Int), m ∈ openK f p rolls k ↔ Runs p (sOf f p rolls) m ∧ m.length = k
  | 0, m => by
    rw [openK, List.mem_singleton]
    constructor
    · rintro rfl; exact ⟨trivial, rfl⟩
    · rintro ⟨_, h⟩; exact List.eq_nil_of_length_eq_zero h
  | k + 1, m => by
    rw [openK, List.mem_flatMap]
    constructor
    · rintro ⟨m', h1, h2⟩
      obtain ⟨hr, hl⟩ := (openK_mem k m').mp h1
      unfold extsF at h2
      split at h2
      · cases h2
      · rename_i ho
        obtain ⟨r, hr2, rfl⟩ := List.mem_map.mp h2
        have hr' := List.mem_range.mp hr2
        have ho' : sOf f p (rolls ++ m') ≠ Gs.OVER := fun z => ho (decide_eq_true z)
        rw [sOf_append] at ho' hr'
        exact ⟨runs_snoc.mpr ⟨hr, ho', by omega, by omega⟩, by simp [hl]⟩
    · rintro ⟨hr, hl⟩
      rcases List.eq_nil_or_concat m with rfl | ⟨m', r, rfl⟩
      · simp at hl
      · rw [List.concat_eq_append] at hr hl ⊢
        obtain ⟨h1, h2, h3, h4⟩ := runs_snoc.mp hr
        refine ⟨m', (openK_mem k m').mpr ⟨h1, by simpa using hl⟩, ?_⟩
        rw [← sOf_append] at h2 h4
        have ho : ¬ overB f p (rolls ++ m') = true := fun z => h2 (of_decide_eq_true z)
        unfold extsF
        rw [if_neg ho]
        refine List.mem_map.mpr ⟨r.toNat, List.mem_range.mpr (by omega), ?_⟩
        rw [Int.toNat_of_nonneg h3]
theorem foundK_mem {f p : Int} {rolls : List Int} : ∀ (k : Nat) (m : List Int), m ∈ foundK f p rolls k ↔ Ends p (sOf f p rolls) m ∧ m.length < k
  | 0, m => by rw [foundK]; simp
  | k + 1, m => by
    rw [foundK, List.mem_append, foundK_mem k m, List.mem_filter, openK_mem]
    have ho : overB f p (rolls ++ m) = true ↔ afterS p (sOf f p rolls) m = Gs.OVER := by
      unfold overB; rw [decide_eq_true_eq, sOf_append]
    rw [ho, ends_runs]
    constructor
    · rintro (⟨h1, h2⟩ | ⟨⟨h1, h2⟩, h3⟩)
      · exact ⟨h1, by omega⟩
      · exact ⟨⟨h1, h3⟩, by omega⟩
    · rintro ⟨h1, h2⟩
      by_cases h : m.length < k
      · exact .inl ⟨h1, h⟩
      · exact .inr ⟨⟨h1.1, by omega⟩, h1.2⟩
theorem nodup_flatMap {α β : Type} (g : α → List β) : ∀ (l : List α), l.Nodup → (∀ a ∈ l, (g a).Nodup) → (∀ a ∈ l, ∀ b ∈ l, ∀ y, y ∈ g a → y ∈ g b → a = b) → (l.flatMap g).Nodup
  | [], _, _, _ => List.nodup_nil
  | a :: l, h, h1, h2 => by
    rw [List.flatMap_cons, List.nodup_append]
    rw [List.nodup_cons] at h
    refine ⟨h1 a List.mem_cons_self, nodup_flatMap g l h.2 (fun b hb => h1 b (List.mem_cons_of_mem _ hb)) (fun b hb c hc => h2 b (List.mem_cons_of_mem _ hb) c (List.mem_cons_of_mem _ hc)), ?_⟩
    intro y hy z hz e
    subst e
    obtain ⟨b, hb, hyb⟩ := List.mem_flatMap.mp hz
    have := h2 a List.mem_cons_self b (List.mem_cons_of_mem _ hb) y hy hyb
    subst this
    exact h.1 hb
theorem openK_nodup {f p : Int} {rolls : List Int} : ∀ k, (openK f p rolls k).Nodup
  | 0 => by rw [openK]; simp
  | k + 1 => by
    rw [openK]
    refine nodup_flatMap _ _ (openK_nodup k) (fun m _ => ?_) (fun a _ b _ y hy hz => ?_)
    · unfold extsF
      split
      · exact List.nodup_nil
      · rw [List.nodup_iff_pairwise_ne, List.pairwise_map]
        refine List.nodup_range.imp ?_
        intro i j hij h
        have := List.append_cancel_left h
        simp at this
        omega
    · unfold extsF at hy hz
      split at hy
      · cases hy
      · split at hz
        · cases hz
        · obtain ⟨r, _, rfl⟩ := List.mem_map.mp hy
          obtain ⟨r', _, e⟩ := List.mem_map.mp hz
          have := List.append_inj_left' e rfl
          exact this.symm
theorem foundK_nodup {f p : Int} {rolls : List Int} : ∀ k, (foundK f p rolls k).Nodup
  | 0 => by rw [foundK]; exact List.nodup_nil
  | k + 1 => by
    rw [foundK, List.nodup_append]
    refine ⟨foundK_nodup k, (openK_nodup k).filter _, fun a ha b hb e => ?_⟩
    subst e
    have h1 := ((foundK_mem k a).mp ha).2
    have h2 := ((openK_mem k a).mp (List.mem_filter.mp hb).1).2
    omega
theorem openK_len {f p : Int} {rolls : List Int} {x : Fr} (g : Game f p rolls x) : ∀ k, (openK f p rolls k).length ≤ (p.toNat + 1) ^ k
  | 0 => by simp [openK]
  | k + 1 => by
    rw [openK, List.length_flatMap]
    have ih := openK_len g k
    have h1 : ((openK f p rolls k).map fun m => (extsF f p rolls m).length).sum ≤ (p.toNat + 1) * ((openK f p rolls k).map fun m => (extsF f p rolls m).length).length := sum_le_mul fun a ha => by
      obtain ⟨m, hm, rfl⟩ := List.mem_map.mp ha
      obtain ⟨_, y, gy⟩ := openK_game g k m hm
      unfold extsF
      split
      · simp
      · have h2 : (sOf f p (rolls ++ m)).stand ≤ p := (good_stand gy.p1 gy.good).2.1
        have h3 : 0 ≤ (sOf f p (rolls ++ m)).stand := (good_stand gy.p1 gy.good).1
        simp
        omega
    rw [List.length_map] at h1
    refine Nat.le_trans h1 ?_
    rw [Nat.pow_succ, Nat.mul_comm]
    exact Nat.mul_le_mul_right _ ih
end My
namespace My
open PySem L2 FL
theorem openK_end {f p : Int} {rolls : List Int} {x : Fr} (g : Game f p rolls x) {k : Nat} (h : 2 * f + 1 < (rolls.length : Int) + (k : Int)) : openK f p rolls k = [] := by
  cases e : openK f p rolls k with
  | nil => rfl
  | cons m l =>
    obtain ⟨h1, y, gy⟩ := openK_game g k m (by rw [e]; exact List.mem_cons_self)
    have := gy.fewer
    rw [List.length_append] at this
    omega
theorem foundK_len {f p : Int} {rolls : List Int} {x : Fr} (g : Game f p rolls x) {K : Nat} (hE : ∀ k, K < k → openK f p rolls k = []) : ∀ k, (foundK f p rolls k).length ≤ (min k (K + 1)) * (p.toNat + 1) ^ K
  | 0 => by simp [foundK]
  | k + 1 => by
    have ih := foundK_len g hE k
    rw [foundK, List.length_append]
    have h1 := List.length_filter_le (fun m => overB f p (rolls ++ m)) (openK f p rolls k)
    by_cases hk : k ≤ K
    · have h2 := openK_len g k
      have h3 : (p.toNat + 1) ^ k ≤ (p.toNat + 1) ^ K := Nat.pow_le_pow_right (by omega) hk
      have e1 : min k (K + 1) = k := by omega
      have e2 : min (k + 1) (K + 1) = k + 1 := by omega
      rw [e1] at ih
      rw [e2, Nat.add_mul, Nat.one_mul]
      omega
    · have h2 := hE k (by omega)
      rw [h2] at h1 ⊢
      have e1 : min k (K + 1) = K + 1 := by omega
      have e2 : min (k + 1) (K + 1) = K + 1 := by omega
      rw [e1] at ih
      rw [e2]
      simp at h1 ⊢
      omega
def geo (q : Nat) : Nat → Nat
  | 0 => 0
  | k + 1 => geo q k + q ^ k
theorem foundK_geo {f p : Int} {rolls : List Int} {x : Fr} (g : Game f p rolls x) : ∀ k, (foundK f p rolls k).length ≤ geo (p.toNat + 1) k
  | 0 => by simp [foundK, geo]
  | k + 1 => by
    have ih := foundK_geo g k
    have h1 := List.length_filter_le (fun m => overB f p (rolls ++ m)) (openK f p rolls k)
    have h2 := openK_len g k
    rw [foundK, List.length_append, geo]
    omega
theorem geo_mono {a b : Nat} (h : a ≤ b) : ∀ k, geo a k ≤ geo b k
  | 0 => Nat.le_refl _
  | k + 1 => by
    have := geo_mono h k
    have h2 : a ^ k ≤ b ^ k := Nat.pow_le_pow_left h k
    rw [geo, geo]; omega
theorem all_bound {f p : Int} {rolls : List Int} {x : Fr} (g : Game f p rolls x) {K : Nat} (hE : ∀ k, K < k → openK f p rolls k = []) (k : Nat) : (openK f p rolls k).length ≤ (K + 1) * (p.toNat + 1) ^ K ∧ (foundK f p rolls k).length ≤ (K + 1) * (p.toNat + 1) ^ K := by
  constructor
  · by_cases hk : k ≤ K
    · have h2 := openK_len g k
      have h3 : (p.toNat + 1) ^ k ≤ (p.toNat + 1) ^ K := Nat.pow_le_pow_right (by omega) hk
      have h4 : 1 * (p.toNat + 1) ^ K ≤ (K + 1) * (p.toNat + 1) ^ K := Nat.mul_le_mul_right _ (by omega)
      omega
    · rw [hE k (by omega)]; simp
  · have h1 := foundK_len g hE k
    have h2 : (min k (K + 1)) * (p.toNat + 1) ^ K ≤ (K + 1) * (p.toNat + 1) ^ K := Nat.mul_le_mul_right _ (by omega)
    omega
theorem tupsI_map : ∀ ms : List (List Int), tupsI (ms.map tI) = some ms
  | [] => rfl
  | m :: ms => by
    rw [List.map_cons, tupsI, intsOf_map, tupsI_map ms]; rfl
theorem sort_tups (ms : List (List Int)) (h : ms.length < 2 ∨ ∀ m ∈ ms, m ≠ []) : oSortA [.lst (ms.map tI)] = some (.own (.lst ((sortT ms).map tI))) := by
  cases ms with
  | nil =>
    have e : sortT [] = [] := by unfold sortT; simp
    have e2 : sortI [] = [] := by unfold sortI; simp
    have h0 : oSortA [.lst []] = some (.own (.lst ((sortI []).map .int))) := rfl
    rw [e2] at h0
    rw [e]
    exact h0
  | cons m ms =>
    have h1 : intsOf ((m :: ms).map tI) = none := rfl
    have h0 : ∀ ds, intsOf ds = none → oSortA [.lst ds] = (tupsI ds).bind fun nss => if nss.length < 2 ∨ nss.all (fun ns => !ns.isEmpty) = true then some (.own (.lst ((sortT nss).map fun ns => .tup (ns.map .int)))) else none := fun ds hd => by
      unfold oSortA
      simp only [hd]
    rw [h0 _ h1, tupsI_map]
    show (if _ then _ else _) = _
    rw [if_pos]
    rcases h with h | h
    · exact .inl h
    · refine .inr (List.all_eq_true.mpr fun q hq => ?_)
      cases q with
      | nil => exact absurd rfl (h _ hq)
      | cons _ _ => rfl
theorem law_all_ok {f p : Int} {rolls : List Int} {x : Fr} (g : Game f p rolls x) {K : Nat} (hE : ∀ k, K < k → openK f p rolls k = []) (hK2 : K ≤ 900) (hB : (K + 1) * (p.toNat + 1) ^ K ≤ 40000) :
    ∃ A : List (List Int), fnLawAll [.val (rulesD f p), .val (tI rolls)] = some (.own (.lst (A.map tI)), [.val (rulesD f p), .val (tI rolls)]) ∧ (∀ m, m ∈ A ↔ Ends p (sOf f p rolls) m) ∧ A.Nodup ∧ (A.Pairwise fun a b => lexI b a = false) ∧ A.length ≤ 40000 ∧ A.length ≤ geo (p.toNat + 1) (K + 1) := by
  have hb := all_bound g hE
  obtain ⟨tail, e⟩ := all_while g _ hb hB 999 0 (.own false (.lst ((openK f p rolls 0).map tI))) .no .no .no .no (hE _ (by omega)) (.inr rfl) rfl rfl rfl rfl
  rw [Nat.zero_add] at e
  have hmem : ∀ m, m ∈ foundK f p rolls 999 ↔ Ends p (sOf f p rolls) m := fun m => by
    rw [foundK_mem]
    refine ⟨fun h => h.1, fun h => ⟨h, ?_⟩⟩
    have h2 : m ∈ openK f p rolls m.length := (openK_mem _ _).mpr ⟨(ends_runs.mp h).1, rfl⟩
    obtain ⟨_, y, gy⟩ := openK_game g _ m h2
    have := gy.few
    simp at this
    omega
  have hnd := foundK_nodup (f := f) (p := p) (rolls := rolls) 999
  have hlen := (hb 999).2
  have hsort : (foundK f p rolls 999).length < 2 ∨ ∀ m ∈ foundK f p rolls 999, m ≠ [] := by
    by_cases ho : sOf f p rolls = Gs.OVER
    · refine .inl ?_
      have hall : ∀ m ∈ foundK f p rolls 999, m = [] := fun m hm => by
        have := (hmem m).mp hm
        rw [ho] at this
        cases m with
        | nil => rfl
        | cons r rs => exact absurd rfl this.1
      generalize foundK f p rolls 999 = L at hall hnd
      match L, hall, hnd with
      | [], _, _ => simp
      | [_], _, _ => simp
      | a :: b :: l, hall, hnd =>
        have h1 := hall a (by simp)
        have h2 := hall b (by simp)
        rw [h1, h2] at hnd
        simp at hnd
    · refine .inr fun m hm z => ho ?_
      subst z
      exact (hmem []).mp hm
  refine ⟨sortT (foundK f p rolls 999), ?_, fun m => ?_, ?_, sortT_sorted _, ?_, ?_⟩
  · have hst := sort_tups _ hsort
    have e' : whileL gLawAll_c4 gLawAll_b3 1000 [.val (rulesD f p), .val (tI rolls), .own false (.lst []), .own false (.lst [.tup []]), .no, .no, .no, .no, .no] = some (.nx, .val (rulesD f p) :: .val (tI rolls) :: .own false (.lst ((foundK f p rolls 999).map tI)) :: tail) := e
    rw [fnLawAll, defF_eq]
    generalize (foundK f p rolls 999).map tI = L at *
    simp [gLawAll, cap, st_while, e', hst]
  · rw [(sortT_perm _).mem_iff]; exact hmem m
  · exact (sortT_perm _).nodup_iff.mpr hnd
  · rw [(sortT_perm _).length_eq]; omega
  · rw [(sortT_perm _).length_eq]
    have e0 : openK f p rolls (K + 1) = [] := hE _ (by omega)
    have e1 := foundK_stay e0 (999 - (K + 1))
    have e2 : K + 1 + (999 - (K + 1)) = 999 := by omega
    rw [e2] at e1
    rw [e1]
    exact foundK_geo g _
end My
namespace My
open PySem L2 FL
/-! ## what stands in a table: by its rows as they are put -/
def Step (p t : Int) (k k' : K2) (v : Int) : Prop := (v = 4 ∧ p + k.1 + k.2 = t ∧ k' = (p, k.1)) ∨ (v = 2 ∧ p + k.1 = t ∧ 0 ≤ k'.1 ∧ k'.1 < p ∧ k'.2 = p - k'.1) ∨ (v = 1 ∧ t < p ∧ 0 ≤ k'.1 ∧ k'.1 < p ∧ k'.1 ≤ t ∧ k'.2 = t - k'.1)
theorem before_ind {p t : Int} {P : List TRow → Prop} (B : List TRow) (h0 : P []) (ha : ∀ (T : List TRow) (r : TRow), r ∈ B → ∀ (k : K2) (v : Int), Step p t r.1 k v → P T → P (addT T k r.2.1 (v :: r.2.2))) : P (beforeT p t B) := by
  have inner : ∀ (r : TRow), r ∈ B → ∀ (as : List Nat) (T : List TRow), (∀ a ∈ as, ((a : Nat) : Int) < p) → P T → P (as.foldl (fun T (a : Nat) => bInner p t r.1 r.2.1 r.2.2 T (a : Int)) T) := by
    intro r hr as
    induction as with
    | nil => intro T _ h; exact h
    | cons a as ih =>
      intro T hl h
      have ha0 := hl a List.mem_cons_self
      rw [List.foldl_cons]
      refine ih _ (fun b hb => hl b (List.mem_cons_of_mem _ hb)) ?_
      have h1 : P (if p + r.1.1 = t then addT T ((a : Int), p - (a : Int)) r.2.1 (2 :: r.2.2) else T) := by
        split
        · rename_i hc
          exact ha T r hr _ 2 (.inr (.inl ⟨rfl, hc, Int.natCast_nonneg a, ha0, rfl⟩)) h
        · exact h
      unfold bInner
      simp only
      by_cases hc : t < p ∧ (a : Int) ≤ t
      · rw [if_pos hc]
        exact ha _ r hr _ 1 (.inr (.inr ⟨rfl, hc.1, Int.natCast_nonneg a, ha0, hc.2, rfl⟩)) h1
      · rw [if_neg hc]; exact h1
  have rows : ∀ (C T : List TRow), (∀ r ∈ C, r ∈ B) → P T → P (C.foldl (bRow p t) T) := by
    intro C
    induction C with
    | nil => intro T _ h; exact h
    | cons r C ih =>
      intro T hC h
      have hr := hC r List.mem_cons_self
      rw [List.foldl_cons]
      refine ih _ (fun q hq => hC q (List.mem_cons_of_mem _ hq)) ?_
      unfold bRow
      refine inner r hr _ _ (fun a ha => by have := List.mem_range.mp ha; omega) ?_
      split
      · rename_i hc
        exact ha T r hr _ 4 (.inl ⟨rfl, hc, rfl⟩) h
      · exact h
  exact rows B [] (fun _ h => h) h0
theorem last_ind {p t : Int} {P : List TRow → Prop} (hp : 2 ≤ p) (h0 : P []) (ha : ∀ (T : List TRow) (q : Quad), QuadOk p q → q.2.2.1 = t → P T → P (addT T (q.1, q.2.1) 1 [bitK q.2.2.2])) : P (lastT p t) := by
  have key : ∀ (qs : List Quad) (T : List TRow), (∀ q ∈ qs, QuadOk p q) → P T → P (qs.foldl (lastStep t) T) := by
    intro qs
    induction qs with
    | nil => intro T _ h; exact h
    | cons q qs ih =>
      intro T hq h
      rw [List.foldl_cons]
      refine ih _ (fun c hc => hq c (List.mem_cons_of_mem _ hc)) ?_
      unfold lastStep
      split
      · rename_i hc
        exact ha T q (hq q List.mem_cons_self) hc h
      · exact h
  exact key (lastF p) [] (fun q hq => (mem_lastF hp).mp hq) h0
/-! ## which kinds a frame with a score can have -/
def KOk (p t v : Int) : Prop := (t < p ∧ v = 1) ∨ (p ≤ t ∧ t ≤ 2 * p ∧ (v = 2 ∨ v = 4 ∨ v = 6)) ∨ (2 * p < t ∧ v = 4)
theorem KOk.or {p t a b : Int} (hp : 2 ≤ p) (h1 : KOk p t a) (h2 : KOk p t b) : KOk p t (Builtin.bitOr a b) := by
  have e11 : Builtin.bitOr 1 1 = 1 := by decide
  have e22 : Builtin.bitOr 2 2 = 2 := by decide
  have e24 : Builtin.bitOr 2 4 = 6 := by decide
  have e26 : Builtin.bitOr 2 6 = 6 := by decide
  have e42 : Builtin.bitOr 4 2 = 6 := by decide
  have e44 : Builtin.bitOr 4 4 = 4 := by decide
  have e46 : Builtin.bitOr 4 6 = 6 := by decide
  have e62 : Builtin.bitOr 6 2 = 6 := by decide
  have e64 : Builtin.bitOr 6 4 = 6 := by decide
  have e66 : Builtin.bitOr 6 6 = 6 := by decide
  unfold KOk at *
  rcases h1 with ⟨g1, rfl⟩ | ⟨g1, g2, rfl | rfl | rfl⟩ | ⟨g1, rfl⟩ <;> rcases h2 with ⟨k1, rfl⟩ | ⟨k1, k2, rfl | rfl | rfl⟩ | ⟨k1, rfl⟩ <;>
    first | (exfalso; omega) | (rw [e11]; omega) | (rw [e22]; omega) | (rw [e24]; omega) | (rw [e26]; omega) | (rw [e42]; omega) | (rw [e44]; omega) | (rw [e46]; omega) | (rw [e62]; omega) | (rw [e64]; omega) | (rw [e66]; omega)
theorem KOk.zero {p t a : Int} (h : KOk p t a) : Builtin.bitOr 0 a = a := by
  rcases h with ⟨_, rfl⟩ | ⟨_, _, rfl | rfl | rfl⟩ | ⟨_, rfl⟩ <;> decide
theorem paired_or {p : Int} (hp : 2 ≤ p) : ∀ {ts as bs : List Int}, Paired (KOk p) ts as → Paired (KOk p) ts bs → Paired (KOk p) ts (List.zipWith Builtin.bitOr as bs)
  | _, _, _, .nil, .nil => .nil
  | _, _, _, .cons h1 t1, .cons h2 t2 => .cons (h1.or hp h2) (paired_or hp t1 t2)
theorem paired_zero {p : Int} : ∀ {ts bs : List Int}, Paired (KOk p) ts bs → List.zipWith Builtin.bitOr (List.replicate ts.length 0) bs = bs
  | _, _, .nil => rfl
  | _, _, .cons h t => by rw [List.length_cons, List.replicate_succ, List.zipWith_cons_cons, h.zero, paired_zero t]
def TabK (p : Int) (ts : List Int) (T : List TRow) : Prop := ∀ r ∈ T, Paired (KOk p) ts r.2.2
theorem TabK.add {p : Int} (hp : 2 ≤ p) {ts : List Int} {T : List TRow} (h : TabK p ts T) {k : K2} {c : Int} {ks : List Int} (hk : Paired (KOk p) ts ks) : TabK p ts (addT T k c ks) := by
  unfold addT
  cases e : findT T k with
  | none =>
    intro r hr
    rcases putT_mem hr with hr | rfl
    · exact h r hr
    · exact hk
  | some v =>
    have hv := h _ (findT_mem e)
    intro r hr
    rcases putT_mem hr with hr | rfl
    · exact h r hr
    · exact paired_or hp hv hk
theorem tabK_last {p t : Int} (hp : 2 ≤ p) : TabK p [t] (lastT p t) :=
  last_ind hp (fun _ h => by cases h) fun T q hq ht h => h.add hp (.cons (by
    obtain ⟨⟨h1, h2, h3, h4, _⟩, h⟩ := hq
    simp only at h1 h2 h3 h4
    unfold KOk bitK
    rcases h with ⟨ha, hk, hlo, hhi⟩ | ⟨ha, hb, hk, hlo, hhi⟩ | ⟨ha, hb, hk, hlo⟩
    · rw [hk, if_pos rfl]; omega
    · rw [hk, if_neg (by decide), if_pos rfl]; omega
    · rw [hk, if_neg (by decide), if_neg (by decide)]; omega) .nil)
theorem tabK_before {p t : Int} (hp : 2 ≤ p) {ts : List Int} {n : Nat} {B : List TRow} (hB : TabOk p n B) (h : TabK p ts B) : TabK p (t :: ts) (beforeT p t B) :=
  before_ind B (fun _ h => by cases h) fun T r hr k v hs hT => hT.add hp (.cons (by
    obtain ⟨h1, h2, h3, h4, _⟩ := (hB.row r hr).key
    unfold KOk
    rcases hs with ⟨rfl, g⟩ | ⟨rfl, g⟩ | ⟨rfl, g⟩ <;> omega) (h r hr))
theorem tabK_front {p : Int} (hp : 2 ≤ p) (hp2 : p ≤ 10) {n : Nat} {us : List Int} {base : List TRow} (hb : TabOk p n base) (h : TabK p us base) : ∀ ts : List Int, n + ts.length ≤ 900 → TabK p (ts ++ us) (frontT p base ts)
  | [], _ => h
  | t :: ts, hl => by
    rw [List.length_cons] at hl
    exact tabK_before hp (front_ok hp hp2 hb ts (by omega)) (tabK_front hp hp2 hb h ts (by omega))
theorem tabK_any {p : Int} (hp : 2 ≤ p) (hp2 : p ≤ 10) : TabK p [] (anyT p) := fun r hr => by
  have := ((any_ok hp hp2).1.row r hr).len
  rw [List.eq_nil_of_length_eq_zero this]
  exact .nil
theorem tabK_table {f p : Int} (hp : 2 ≤ p) (hp2 : p ≤ 10) (f1 : 1 ≤ f) (sheet : List Int) (hl : sheet.length ≤ 800) : TabK p sheet (tableT f p sheet) := by
  unfold tableT
  split
  · rename_i h
    have hne : sheet ≠ [] := by rintro rfl; simp at h; omega
    have := tabK_front hp hp2 (last_ok (sheet.getLastD 0) hp hp2).1 (tabK_last hp) sheet.dropLast (by simp; omega)
    have e : sheet.dropLast ++ [sheet.getLastD 0] = sheet := by
      rcases List.eq_nil_or_concat sheet with rfl | ⟨ys, y, rfl⟩
      · exact absurd rfl hne
      · rw [List.concat_eq_append]; simp
    rw [e] at this
    exact this
  · have := tabK_front hp hp2 (any_ok hp hp2).1 (tabK_any hp hp2) sheet (by omega)
    rw [List.append_nil] at this
    exact this
theorem kinds_fold {p : Int} (hp : 2 ≤ p) {ts : List Int} : ∀ (T : List TRow) (acc : List Int), TabK p ts T → Paired (KOk p) ts acc → Paired (KOk p) ts (T.foldl (fun acc r => List.zipWith Builtin.bitOr acc r.2.2) acc)
  | [], _, _, h => h
  | r :: T, acc, hT, h => kinds_fold hp T _ (fun q hq => hT q (List.mem_cons_of_mem _ hq)) (paired_or hp h (hT r List.mem_cons_self))
theorem kinds_pair {p : Int} (hp : 2 ≤ p) {ts : List Int} {T : List TRow} (hT : TabK p ts T) (hne : T ≠ []) : Paired (KOk p) ts (kindsT ts.length T) := by
  cases T with
  | nil => exact absurd rfl hne
  | cons r T =>
    unfold kindsT
    rw [List.foldl_cons, paired_zero (hT r List.mem_cons_self)]
    exact kinds_fold hp T _ (fun q hq => hT q (List.mem_cons_of_mem _ hq)) (hT r List.mem_cons_self)
theorem mark_4 : markS 4 = mkX := by rfl
theorem mark_1 : markS 1 = mkO := by rfl
end My
namespace My
open PySem L2 FL
/-! ## tables without a row -/
theorem keys_nil {T : List TRow} (h : ∀ k, ¬ k ∈ T.map (·.1)) : T = [] := by
  cases T with
  | nil => rfl
  | cons r T => exact absurd List.mem_cons_self (h r.1)
theorem before_none {p total : Int} {n : Nat} {B : List TRow} (hp : 2 ≤ p) (hp2 : p ≤ 10) (hn : n ≤ 900) (hB : TabOk p n B) (ht : 3 * p < total) : beforeT p total B = [] :=
  keys_nil fun k hk => by
    obtain ⟨r, hr, hm⟩ := ((before_ok (total := total) hp hp2 hn hB).2.1 k).mp hk
    obtain ⟨h1, h2, h3, h4, _⟩ := (hB.row r hr).key
    rcases hm with h | h | h <;> omega
theorem last_none {p total : Int} (hp : 2 ≤ p) (hp2 : p ≤ 10) (ht : 3 * p < total) : lastT p total = [] :=
  keys_nil fun k hk => by
    obtain ⟨q, hq, e, _⟩ := ((last_ok total hp hp2).2.1 k).mp hk
    obtain ⟨⟨h1, h2, h3, h4, _⟩, h⟩ := hq
    simp only at h1 h2 h3 h4
    rcases h with h | h | h
    · obtain ⟨_, _, _, h5⟩ := h
      split at h5 <;> omega
    · omega
    · omega
theorem front_none {p : Int} {n : Nat} {base : List TRow} (hp : 2 ≤ p) (hp2 : p ≤ 10) (hb : TabOk p n base) : ∀ ts : List Int, n + ts.length ≤ 900 → (∃ t ∈ ts, 3 * p < t) → frontT p base ts = []
  | [], _, ⟨_, h, _⟩ => by cases h
  | t :: ts, hl, ⟨u, hu, hu2⟩ => by
    rw [List.length_cons] at hl
    have hT := front_ok hp hp2 hb ts (by omega)
    show beforeT p t (frontT p base ts) = []
    by_cases ht : 3 * p < t
    · exact before_none hp hp2 (by omega) hT ht
    · rcases List.mem_cons.mp hu with rfl | hu
      · exact absurd hu2 ht
      · rw [front_none hp hp2 hb ts (by omega) ⟨u, hu, hu2⟩]; rfl
theorem front_nil (p : Int) : ∀ ts : List Int, frontT p [] ts = []
  | [] => rfl
  | t :: ts => by
    show beforeT p t (frontT p [] ts) = []
    rw [front_nil p ts]; rfl
theorem mem_last {α : Type} (d : α) {xs : List α} {x : α} (h : x ∈ xs) : x = xs.getLastD d ∨ x ∈ xs.dropLast := by
  rcases List.eq_nil_or_concat xs with rfl | ⟨ys, y, rfl⟩
  · cases h
  · rw [List.concat_eq_append] at h ⊢
    rcases List.mem_append.mp h with h | h
    · right; simpa using h
    · left; rw [List.mem_singleton.mp h]; simp
theorem table_none {f p : Int} (hp : 2 ≤ p) (hp2 : p ≤ 10) {sheet : List Int} (hl : sheet.length ≤ 800) (h : ∃ t ∈ sheet, 3 * p < t) : tableT f p sheet = [] := by
  unfold tableT
  split
  · obtain ⟨t, ht, h3⟩ := h
    rcases mem_last 0 ht with rfl | ht
    · rw [last_none hp hp2 h3]; exact front_nil p _
    · exact front_none hp hp2 (last_ok (p := p) (sheet.getLastD 0) hp hp2).1 _ (by simp; omega) ⟨t, ht, h3⟩
  · exact front_none hp hp2 (any_ok hp hp2).1 _ (by omega) h
end My
namespace My
open PySem L2 FL
/-! ## a table as rows that are put one by one -/
def addR (T : List TRow) (x : TRow) : List TRow := addT T x.1 x.2.1 x.2.2
def cI (p t : Int) (r : TRow) (a : Int) : List TRow := (if p + r.1.1 = t then [((a, p - a), r.2.1, 2 :: r.2.2)] else []) ++ (if t < p ∧ a ≤ t then [((a, t - a), r.2.1, 1 :: r.2.2)] else [])
def cRow (p t : Int) (r : TRow) : List TRow := (if p + r.1.1 + r.1.2 = t then [((p, r.1.1), r.2.1, 4 :: r.2.2)] else []) ++ (List.range p.toNat).flatMap fun (a : Nat) => cI p t r (a : Int)
def cAll (p t : Int) (B : List TRow) : List TRow := B.flatMap (cRow p t)
theorem inner_agg (p t : Int) (r : TRow) (T : List TRow) (a : Int) : bInner p t r.1 r.2.1 r.2.2 T a = (cI p t r a).foldl addR T := by
  unfold bInner cI
  rw [List.foldl_append]
  simp only
  by_cases h1 : p + r.1.1 = t <;> by_cases h2 : t < p ∧ a ≤ t <;> simp [h1, h2, addR]
theorem fold_flat {α : Type} (g : α → List TRow) (h : List TRow → α → List TRow) (e : ∀ T a, h T a = (g a).foldl addR T) : ∀ (as : List α) (T : List TRow), as.foldl h T = (as.flatMap g).foldl addR T
  | [], _ => rfl
  | a :: as, T => by rw [List.foldl_cons, List.flatMap_cons, List.foldl_append, e, fold_flat g h e as]
theorem row_agg (p t : Int) (T : List TRow) (r : TRow) : bRow p t T r = (cRow p t r).foldl addR T := by
  unfold bRow cRow
  rw [List.foldl_append, fold_flat (fun (a : Nat) => cI p t r (a : Int)) _ fun T a => inner_agg p t r T (a : Int)]
  congr 1
  by_cases h : p + r.1.1 + r.1.2 = t <;> simp [h, addR]
theorem before_agg (p t : Int) (B : List TRow) : beforeT p t B = (cAll p t B).foldl addR [] := by
  unfold beforeT cAll
  exact fold_flat (cRow p t) _ (fun T r => row_agg p t T r) B []
def cLast (p t : Int) : List TRow := ((lastF p).filter fun q => decide (q.2.2.1 = t)).map fun q => ((q.1, q.2.1), 1, [bitK q.2.2.2])
theorem last_agg (p t : Int) : lastT p t = (cLast p t).foldl addR [] := by
  have key : ∀ (qs : List Quad) (T : List TRow), qs.foldl (lastStep t) T = ((qs.filter fun q => decide (q.2.2.1 = t)).map fun q => (((q.1, q.2.1), 1, [bitK q.2.2.2]) : TRow)).foldl addR T := by
    intro qs
    induction qs with
    | nil => intro T; rfl
    | cons q qs ih =>
      intro T
      rw [List.foldl_cons, ih]
      unfold lastStep
      by_cases h : q.2.2.1 = t
      · rw [if_pos h, List.filter_cons_of_pos (by simpa using h)]; rfl
      · rw [if_neg h, List.filter_cons_of_neg (by simpa using h)]
  exact key (lastF p) []
theorem mem_cAll {p t : Int} {B : List TRow} {x : TRow} : x ∈ cAll p t B ↔ ∃ r ∈ B, ∃ k v, Step p t r.1 k v ∧ x = (k, r.2.1, v :: r.2.2) := by
  unfold cAll
  rw [List.mem_flatMap]
  constructor
  · rintro ⟨r, hr, h⟩
    refine ⟨r, hr, ?_⟩
    unfold cRow at h
    rcases List.mem_append.mp h with h | h
    · split at h
      · rename_i hc
        rw [List.mem_singleton.mp h]
        exact ⟨_, 4, .inl ⟨rfl, hc, rfl⟩, rfl⟩
      · cases h
    · obtain ⟨a, ha, h⟩ := List.mem_flatMap.mp h
      have ha' := List.mem_range.mp ha
      unfold cI at h
      rcases List.mem_append.mp h with h | h
      · split at h
        · rename_i hc
          rw [List.mem_singleton.mp h]
          exact ⟨_, 2, .inr (.inl ⟨rfl, hc, Int.natCast_nonneg a, by show (a : Int) < p; omega, rfl⟩), rfl⟩
        · cases h
      · split at h
        · rename_i hc
          rw [List.mem_singleton.mp h]
          exact ⟨_, 1, .inr (.inr ⟨rfl, hc.1, Int.natCast_nonneg a, by show (a : Int) < p; omega, hc.2, rfl⟩), rfl⟩
        · cases h
  · rintro ⟨r, hr, k, v, hs, rfl⟩
    refine ⟨r, hr, ?_⟩
    unfold cRow
    rcases hs with ⟨rfl, h1, rfl⟩ | ⟨rfl, h1, h2, h3, h4⟩ | ⟨rfl, h1, h2, h3, h4, h5⟩
    · rw [if_pos h1]
      exact List.mem_append.mpr (.inl (List.mem_singleton.mpr rfl))
    · refine List.mem_append.mpr (.inr (List.mem_flatMap.mpr ⟨k.1.toNat, List.mem_range.mpr (by omega), ?_⟩))
      have ek : ((k.1.toNat : Nat) : Int) = k.1 := by omega
      unfold cI
      rw [ek, if_pos h1]
      refine List.mem_append.mpr (.inl (List.mem_singleton.mpr ?_))
      rw [← h4]
    · refine List.mem_append.mpr (.inr (List.mem_flatMap.mpr ⟨k.1.toNat, List.mem_range.mpr (by omega), ?_⟩))
      have ek : ((k.1.toNat : Nat) : Int) = k.1 := by omega
      unfold cI
      rw [ek, if_pos (show t < p ∧ k.1 ≤ t from ⟨h1, h4⟩)]
      refine List.mem_append.mpr (.inr (List.mem_singleton.mpr ?_))
      rw [← h5]
theorem mem_cLast {p t : Int} (hp : 2 ≤ p) {x : TRow} : x ∈ cLast p t ↔ ∃ q, QuadOk p q ∧ q.2.2.1 = t ∧ x = ((q.1, q.2.1), 1, [bitK q.2.2.2]) := by
  unfold cLast
  rw [List.mem_map]
  constructor
  · rintro ⟨q, hq, rfl⟩
    obtain ⟨h1, h2⟩ := List.mem_filter.mp hq
    exact ⟨q, (mem_lastF hp).mp h1, of_decide_eq_true h2, rfl⟩
  · rintro ⟨q, h1, h2, rfl⟩
    exact ⟨q, List.mem_filter.mpr ⟨(mem_lastF hp).mpr h1, decide_eq_true h2⟩, rfl⟩
/-! ## a row that covers kinds -/
def HasK (kv v : Int) : Prop := v = kv ∨ (v = 6 ∧ (kv = 2 ∨ kv = 4))
theorem has_or {p t a c kv : Int} (hp : 2 ≤ p) (h1 : KOk p t a) (h2 : KOk p t c) : (HasK kv a → HasK kv (Builtin.bitOr a c)) ∧ (HasK kv c → HasK kv (Builtin.bitOr a c)) := by
  have e11 : Builtin.bitOr 1 1 = 1 := by decide
  have e22 : Builtin.bitOr 2 2 = 2 := by decide
  have e24 : Builtin.bitOr 2 4 = 6 := by decide
  have e26 : Builtin.bitOr 2 6 = 6 := by decide
  have e42 : Builtin.bitOr 4 2 = 6 := by decide
  have e44 : Builtin.bitOr 4 4 = 4 := by decide
  have e46 : Builtin.bitOr 4 6 = 6 := by decide
  have e62 : Builtin.bitOr 6 2 = 6 := by decide
  have e64 : Builtin.bitOr 6 4 = 6 := by decide
  have e66 : Builtin.bitOr 6 6 = 6 := by decide
  unfold KOk HasK at *
  rcases h1 with ⟨g1, rfl⟩ | ⟨g1, g2, rfl | rfl | rfl⟩ | ⟨g1, rfl⟩ <;> rcases h2 with ⟨k1, rfl⟩ | ⟨k1, k2, rfl | rfl | rfl⟩ | ⟨k1, rfl⟩ <;>
    first | (exfalso; omega) | (rw [e11]; omega) | (rw [e22]; omega) | (rw [e24]; omega) | (rw [e26]; omega) | (rw [e42]; omega) | (rw [e44]; omega) | (rw [e46]; omega) | (rw [e62]; omega) | (rw [e64]; omega) | (rw [e66]; omega)
theorem paired_has_l {p : Int} (hp : 2 ≤ p) : ∀ {ts as bs kl : List Int}, Paired (KOk p) ts as → Paired (KOk p) ts bs → Paired HasK kl as → Paired HasK kl (List.zipWith Builtin.bitOr as bs)
  | _, _, _, _, .nil, .nil, .nil => .nil
  | _, _, _, _, .cons h1 t1, .cons h2 t2, .cons h3 t3 => .cons ((has_or hp h1 h2).1 h3) (paired_has_l hp t1 t2 t3)
theorem paired_has_r {p : Int} (hp : 2 ≤ p) : ∀ {ts as bs kl : List Int}, Paired (KOk p) ts as → Paired (KOk p) ts bs → Paired HasK kl bs → Paired HasK kl (List.zipWith Builtin.bitOr as bs)
  | _, _, _, _, .nil, .nil, .nil => .nil
  | _, _, _, _, .cons h1 t1, .cons h2 t2, .cons h3 t3 => .cons ((has_or hp h1 h2).2 h3) (paired_has_r hp t1 t2 t3)
def Cov (T : List TRow) (k : K2) (kl : List Int) : Prop := ∃ r ∈ T, r.1 = k ∧ Paired HasK kl r.2.2
theorem find_is {T : List TRow} (hn : (T.map (·.1)).Nodup) {r : TRow} (hr : r ∈ T) : findT T r.1 = some r.2 := by
  induction T with
  | nil => cases hr
  | cons q T ih =>
    rw [List.map_cons, List.nodup_cons] at hn
    by_cases h : q.1 = r.1
    · rcases List.mem_cons.mp hr with rfl | hr
      · exact find_head rfl
      · exact absurd (List.mem_map_of_mem hr) (h ▸ hn.1)
    · rw [find_tail h]
      rcases List.mem_cons.mp hr with rfl | hr
      · exact absurd rfl h
      · exact ih hn.2 hr
theorem put_at {T : List TRow} {k : K2} {v : Int × List Int} : (k, v) ∈ putT T k v := by
  unfold putT
  split
  · rename_i h
    obtain ⟨r, hr, e⟩ := List.any_eq_true.mp h
    have e' : r.1 = k := by simpa using e
    exact List.mem_map.mpr ⟨r, hr, by rw [if_pos e', e']⟩
  · exact List.mem_append.mpr (.inr (List.mem_singleton.mpr rfl))
theorem put_other {T : List TRow} {k : K2} {v : Int × List Int} {r : TRow} (hr : r ∈ T) (h : r.1 ≠ k) : r ∈ putT T k v := by
  unfold putT
  split
  · exact List.mem_map.mpr ⟨r, hr, by rw [if_neg h]⟩
  · exact List.mem_append.mpr (.inl hr)
structure PutOk (p : Int) (n : Nat) (ts : List Int) (x : TRow) : Prop where
  row : RowOk p n x
  kok : Paired (KOk p) ts x.2.2
theorem cov_old {p : Int} (hp : 2 ≤ p) {n : Nat} {ts : List Int} {T : List TRow} (hT : TabOk p n T) (hK : TabK p ts T) {x : TRow} (hx : Paired (KOk p) ts x.2.2) {k : K2} {kl : List Int} (h : Cov T k kl) : Cov (addR T x) k kl := by
  obtain ⟨r, hr, rfl, hp1⟩ := h
  unfold addR addT
  by_cases e : r.1 = x.1
  · rw [← e, find_is hT.nod hr]
    exact ⟨_, put_at, rfl, paired_has_l hp (hK r hr) hx hp1⟩
  · cases findT T x.1 with
    | none => exact ⟨r, put_other hr e, rfl, hp1⟩
    | some v => exact ⟨r, put_other hr e, rfl, hp1⟩
theorem cov_new {p : Int} (hp : 2 ≤ p) {ts : List Int} {T : List TRow} (hK : TabK p ts T) {x : TRow} (hx : Paired (KOk p) ts x.2.2) {kl : List Int} (h : Paired HasK kl x.2.2) : Cov (addR T x) x.1 kl := by
  unfold addR addT
  cases e : findT T x.1 with
  | none => exact ⟨_, put_at, rfl, h⟩
  | some v => exact ⟨_, put_at, rfl, paired_has_r hp (hK _ (findT_mem e)) hx h⟩
theorem cov_fold {p : Int} (hp : 2 ≤ p) {n : Nat} {ts : List Int} {k : K2} {kl : List Int} : ∀ (L T : List TRow), TabOk p n T → TabK p ts T → (∀ x ∈ L, PutOk p n ts x) → (Cov T k kl ∨ ∃ x ∈ L, x.1 = k ∧ Paired HasK kl x.2.2) → Cov (L.foldl addR T) k kl
  | [], T, _, _, _, h => by
    rcases h with h | ⟨x, hx, _⟩
    · exact h
    · cases hx
  | x :: L, T, hT, hK, hL, h => by
    have hx := hL x List.mem_cons_self
    rw [List.foldl_cons]
    refine cov_fold hp L _ (hT.add hx.row.key hx.row.pos hx.row.len) (hK.add hp hx.kok) (fun y hy => hL y (List.mem_cons_of_mem _ hy)) ?_
    rcases h with h | ⟨y, hy, h1, h2⟩
    · exact .inl (cov_old hp hT hK hx.kok h)
    · rcases List.mem_cons.mp hy with rfl | hy
      · rw [← h1]; exact .inl (cov_new hp hK hx.kok h2)
      · exact .inr ⟨y, hy, h1, h2⟩
theorem step_put {p t : Int} (hp : 2 ≤ p) {n : Nat} {ts : List Int} {r : TRow} (hr : PutOk p n ts r) {k : K2} {v : Int} (hs : Step p t r.1 k v) : PutOk p (n + 1) (t :: ts) (k, r.2.1, v :: r.2.2) := by
  obtain ⟨h1, h2, h3, h4, _⟩ := hr.row.key
  refine ⟨⟨?_, hr.row.pos, by simp [hr.row.len]⟩, .cons ?_ hr.kok⟩
  · show KeyOk p k
    rcases hs with ⟨_, g1, rfl⟩ | ⟨_, g1, g2, g3, g4⟩ | ⟨_, g1, g2, g3, g4, g5⟩
    · refine ⟨by show 0 ≤ p; omega, Int.le_refl p, h1, h2, fun h => ?_⟩
      have h' : p < p := h
      omega
    · exact ⟨g2, by omega, by omega, by omega, fun _ => by omega⟩
    · exact ⟨g2, by omega, by omega, by omega, fun _ => by omega⟩
  · unfold KOk
    rcases hs with ⟨rfl, g⟩ | ⟨rfl, g⟩ | ⟨rfl, g⟩ <;> omega
theorem last_put {p : Int} {q : Quad} (hp : 2 ≤ p) (hq : QuadOk p q) : PutOk p 1 [q.2.2.1] ((q.1, q.2.1), 1, [bitK q.2.2.2]) := by
  refine ⟨⟨hq.1, Int.le_refl 1, rfl⟩, .cons ?_ .nil⟩
  obtain ⟨⟨h1, h2, h3, h4, _⟩, h⟩ := hq
  simp only at h1 h2 h3 h4
  unfold KOk bitK
  rcases h with ⟨ha, hk, hlo, hhi⟩ | ⟨ha, hb, hk, hlo, hhi⟩ | ⟨ha, hb, hk, hlo⟩
  · rw [hk, if_pos rfl]; omega
  · rw [hk, if_neg (by decide), if_pos rfl]; omega
  · rw [hk, if_neg (by decide), if_neg (by decide)]; omega
theorem cov_before {p t : Int} (hp : 2 ≤ p) {n : Nat} {ts : List Int} {B : List TRow} (hB : TabOk p n B) (hK : TabK p ts B) {k k' : K2} {kl : List Int} {v : Int} (h : Cov B k kl) (hs : Step p t k k' v) : Cov (beforeT p t B) k' (v :: kl) := by
  obtain ⟨r, hr, rfl, hc⟩ := h
  rw [before_agg]
  refine cov_fold hp (n := n + 1) (ts := t :: ts) _ [] .nil (fun _ h => by cases h) (fun x hx => ?_) (.inr ⟨_, mem_cAll.mpr ⟨r, hr, k', v, hs, rfl⟩, rfl, .cons (.inl rfl) hc⟩)
  obtain ⟨r', hr', k2, v2, hs2, rfl⟩ := mem_cAll.mp hx
  exact step_put hp ⟨hB.row r' hr', hK r' hr'⟩ hs2
theorem cov_last {p t : Int} (hp : 2 ≤ p) {q : Quad} (hq : QuadOk p q) (ht : q.2.2.1 = t) : Cov (lastT p t) (q.1, q.2.1) [bitK q.2.2.2] := by
  rw [last_agg]
  refine cov_fold hp (n := 1) (ts := [t]) _ [] .nil (fun _ h => by cases h) (fun x hx => ?_) (.inr ⟨_, (mem_cLast hp).mpr ⟨q, hq, ht, rfl⟩, rfl, .cons (.inl rfl) .nil⟩)
  obtain ⟨q', hq', ht', rfl⟩ := (mem_cLast hp).mp hx
  rw [← ht']
  exact last_put hp hq'
end My
namespace My
open PySem L2 FL
/-! ## the sheet of a game has a row -/
def tabS (p : Int) : List Int → List TRow
  | [] => []
  | [t] => lastT p t
  | t :: u :: ts => beforeT p t (tabS p (u :: ts))
theorem tabS_front (p : Int) : ∀ (ts : List Int) (t : Int), tabS p (ts ++ [t]) = frontT p (lastT p t) ts
  | [], _ => rfl
  | [a], t => rfl
  | a :: b :: ts, t => by
    show beforeT p a (tabS p (b :: (ts ++ [t]))) = beforeT p a (frontT p (lastT p t) (b :: ts))
    rw [← tabS_front p (b :: ts) t]; rfl
theorem table_full {f p : Int} {sheet : List Int} (f1 : 1 ≤ f) (h : (sheet.length : Int) = f) : tableT f p sheet = tabS p sheet := by
  have hne : sheet ≠ [] := by rintro rfl; simp at h; omega
  unfold tableT
  rw [if_pos h]
  rcases List.eq_nil_or_concat sheet with rfl | ⟨ys, y, rfl⟩
  · exact absurd rfl hne
  · rw [List.concat_eq_append, tabS_front]; simp
theorem tabS_ok {p : Int} (hp : 2 ≤ p) (hp2 : p ≤ 10) : ∀ (ts : List Int), ts ≠ [] → ts.length ≤ 800 → TabOk p ts.length (tabS p ts) ∧ TabK p ts (tabS p ts)
  | [], h, _ => absurd rfl h
  | [t], _, _ => ⟨(last_ok t hp hp2).1, tabK_last hp⟩
  | t :: u :: ts, _, hl => by
    rw [List.length_cons] at hl
    obtain ⟨h1, h2⟩ := tabS_ok hp hp2 (u :: ts) (by simp) (by omega)
    exact ⟨(before_ok (total := t) hp hp2 (by omega) h1).1, tabK_before hp h1 h2⟩
def kindV (p : Int) (fr : List Int) : Int := if fr.headD 0 = p then 4 else if (fr.take 2).sum = p then 2 else 1
theorem kv_one (p : Int) (l : List Int) : kindV p (p :: l) = 4 := by simp [kindV]
theorem kv_two (p a c : Int) (l : List Int) : kindV p (a :: c :: l) = if a = p then 4 else if a + c = p then 2 else 1 := by simp [kindV]
def key2 (M : List Int) : K2 := (M.getD 0 0, M.getD 1 0)
theorem game_row {f p : Int} (hp : 2 ≤ p) (hp2 : p ≤ 10) : ∀ (fs : List (List Int)) (n : Int), fs ≠ [] → fs.length ≤ 800 → DoneOk f p n fs → n + (fs.length : Int) = f → (settledF f p n fs).length = fs.length ∧ Cov (tabS p (settledF f p n fs)) (key2 fs.flatten) (fs.map (kindV p))
  | [], _, h, _, _, _ => absurd rfl h
  | [fr], n, _, _, hd, hn => by
    obtain ⟨h1, hw, _⟩ := hd
    have hl : n + 1 = f := by simpa using hn
    have hfr := whole_ne hw
    have hnd := whole_needed hw
    rw [← last_eq] at hnd
    have hsz : sizeF f p n fr = fr.length := size_last _ hl
    have hs : settledF f p n [fr] = [fr.sum] := by
      rw [settled_cons _ _ _ _ _ hfr, if_pos ⟨hnd, by rw [hsz]; simp⟩, hsz]
      simp [settledF, partsF]
    rw [hs]
    refine ⟨rfl, ?_⟩
    rw [decide_eq_true hl] at hw
    match fr, hw with
    | [a], hw => cases hw.1
    | [a, c], hw =>
      obtain ⟨g1, g2, g3, g4⟩ := hw
      have g4' : a + c < p := g4
      have hq : QuadOk p (a, c, a + c, 0) := ⟨⟨g1, by show a ≤ p; omega, g3, by show c ≤ p; omega, fun _ => by show a + c ≤ p; omega⟩, .inr (.inr ⟨g2, g4', rfl, rfl⟩)⟩
      have := cov_last hp hq rfl
      have e : ([a, c] : List Int).sum = a + c := by simp
      have ek : kindV p [a, c] = bitK 0 := by
        rw [kv_two, if_neg (by omega), if_neg (by omega)]; rfl
      show Cov (lastT p ([a, c] : List Int).sum) (a, c) [kindV p [a, c]]
      rw [e, ek]; exact this
    | [a, c, d], hw =>
      obtain ⟨_, g1, g2, g3, g4, g5, g6, g7⟩ := hw
      have e : ([a, c, d] : List Int).sum = a + c + d := by simp; omega
      rcases g7 with ⟨rfl, g7⟩ | ⟨g7, g8⟩
      · have hq : QuadOk a (a, c, a + c + d, 2) := ⟨⟨g1, g2, g3, g4, fun h => by have h' : a < a := h; omega⟩, .inl ⟨rfl, rfl, by show a + c ≤ a + c + d; omega, by show a + c + d ≤ a + c + (if c = a then a else a - c); split <;> omega⟩⟩
        have := cov_last hp hq rfl
        have ek : kindV a [a, c, d] = bitK 2 := by
          rw [kv_one]; rfl
        show Cov (lastT a ([a, c, d] : List Int).sum) (a, c) [kindV a [a, c, d]]
        rw [e, ek]; exact this
      · have hq : QuadOk p (a, c, a + c + d, 1) := ⟨⟨g1, g2, g3, g4, fun _ => by show a + c ≤ p; omega⟩, .inr (.inl ⟨g7, g8, rfl, by show p ≤ a + c + d; omega, by show a + c + d ≤ p + p; omega⟩)⟩
        have := cov_last hp hq rfl
        have ek : kindV p [a, c, d] = bitK 1 := by
          rw [kv_two, if_neg (by omega), if_pos g8]; rfl
        show Cov (lastT p ([a, c, d] : List Int).sum) (a, c) [kindV p [a, c, d]]
        rw [e, ek]; exact this
  | fr :: g :: more, n, _, hlen, hd, hn => by
    rw [List.length_cons] at hlen
    obtain ⟨h1, hw, hd2⟩ := hd
    have hn2 : n + 1 + ((g :: more).length : Int) = f := by rw [List.length_cons (a := fr)] at hn; omega
    have hl : n + 1 < f := by rw [List.length_cons] at hn2; omega
    have hfr := whole_ne hw
    have hnd := whole_needed hw
    rw [← last_eq] at hnd
    obtain ⟨i1, i2⟩ := game_row hp hp2 (g :: more) (n + 1) (by simp) (by omega) hd2 hn2
    have hflat := done_two hd2 hn2 hl
    have hne : settledF f p (n + 1) (g :: more) ≠ [] := fun z => by rw [z] at i1; simp at i1
    obtain ⟨k1, k2⟩ := tabS_ok hp hp2 _ hne (by rw [i1]; omega)
    generalize hU : settledF f p (n + 1) (g :: more) = U at *
    generalize hM : (g :: more).flatten = M at *
    generalize hG : (g :: more).map (kindV p) = KL at *
    obtain ⟨m0, m1, M', rfl⟩ : ∃ m0 m1 M', M = m0 :: m1 :: M' := by
      match M, hflat with
      | m0 :: m1 :: M', _ => exact ⟨m0, m1, M', rfl⟩
    obtain ⟨u, U', rfl⟩ : ∃ u U', U = u :: U' := by
      cases U with
      | nil => exact absurd rfl hne
      | cons u U' => exact ⟨u, U', rfl⟩
    rw [decide_eq_false (by omega)] at hw
    have hkey : key2 (m0 :: m1 :: M') = (m0, m1) := rfl
    rw [hkey] at i2
    have step : ∀ (t : Int) (kk : K2) (v : Int), settledF f p n (fr :: g :: more) = t :: u :: U' → Step p t (m0, m1) kk v → key2 (fr :: g :: more).flatten = kk → kindV p fr = v → (settledF f p n (fr :: g :: more)).length = (fr :: g :: more).length ∧ Cov (tabS p (settledF f p n (fr :: g :: more))) (key2 (fr :: g :: more).flatten) ((fr :: g :: more).map (kindV p)) := by
      intro t kk v e1 e2 e3 e4
      rw [e1, e3, List.map_cons, e4, hG]
      refine ⟨by simp only [List.length_cons] at i1 ⊢; omega, ?_⟩
      exact cov_before hp k1 k2 i2 e2
    have hset : ∀ t, sizeF f p n fr ≤ (fr ++ m0 :: m1 :: M').length → ((fr ++ m0 :: m1 :: M').take (sizeF f p n fr)).sum = t → settledF f p n (fr :: g :: more) = t :: u :: U' := by
      intro t h2 h3
      rw [settled_cons _ _ _ _ _ hfr, hM, if_pos ⟨hnd, h2⟩, h3, hU]; rfl
    match fr, hw, hset, step with
    | [a], hw, hset, step =>
      obtain ⟨_, rfl⟩ := hw
      have hz : sizeF f a n [a] = 3 := size_three hl (by simp)
      refine step (a + m0 + m1) (a, m0) 4 (hset _ (by rw [hz]; simp) (by rw [hz]; simp; omega)) (.inl ⟨rfl, by show a + m0 + m1 = _; rfl, rfl⟩) (by rw [List.flatten_cons, hM]; rfl) (kv_one a [])
    | [a, c], hw, hset, step =>
      obtain ⟨g1, g2, g3, g4⟩ := hw
      have g4' : a + c ≤ p := g4
      have hk : key2 ([a, c] :: g :: more).flatten = (a, c) := rfl
      by_cases hs : a + c = p
      · have hz : sizeF f p n [a, c] = 3 := size_three hl (by simpa using hs)
        refine step (p + m0) (a, c) 2 (hset _ (by rw [hz]; simp) (by rw [hz]; simp; omega)) (.inr (.inl ⟨rfl, rfl, g1, g2, by show c = p - a; omega⟩)) hk (by rw [kv_two, if_neg (by omega), if_pos hs])
      · have hz : sizeF f p n [a, c] = 2 := size_open (by simpa using hs)
        refine step (a + c) (a, c) 1 (hset _ (by rw [hz]; simp) (by rw [hz]; simp)) (.inr (.inr ⟨rfl, by omega, g1, g2, by show a ≤ a + c; omega, by show c = a + c - a; omega⟩)) hk (by rw [kv_two, if_neg (by omega), if_neg hs])
    | [a, c, d], hw, _, _ => cases hw.1
/-! ## beginnings of a sheet -/
theorem keys_mono {p t : Int} {n m : Nat} {A B : List TRow} (hp : 2 ≤ p) (hp2 : p ≤ 10) (hn : n ≤ 900) (hm : m ≤ 900) (hA : TabOk p n A) (hB : TabOk p m B) (h : ∀ k, k ∈ A.map (·.1) → k ∈ B.map (·.1)) : ∀ k, k ∈ (beforeT p t A).map (·.1) → k ∈ (beforeT p t B).map (·.1) := by
  intro k hk
  obtain ⟨r, hr, hmk⟩ := ((before_ok (total := t) hp hp2 hn hA).2.1 k).mp hk
  obtain ⟨r', hr', e⟩ := List.mem_map.mp (h r.1 (List.mem_map_of_mem hr))
  exact ((before_ok (total := t) hp hp2 hm hB).2.1 k).mpr ⟨r', hr', by rw [e]; exact hmk⟩
theorem front_mono {p : Int} {n m : Nat} {A B : List TRow} (hp : 2 ≤ p) (hp2 : p ≤ 10) (hA : TabOk p n A) (hB : TabOk p m B) (h : ∀ k, k ∈ A.map (·.1) → k ∈ B.map (·.1)) : ∀ (ts : List Int), n + ts.length ≤ 900 → m + ts.length ≤ 900 → ∀ k, k ∈ (frontT p A ts).map (·.1) → k ∈ (frontT p B ts).map (·.1)
  | [], _, _ => h
  | t :: ts, hn, hm => by
    rw [List.length_cons] at hn hm
    exact keys_mono hp hp2 (by omega) (by omega) (front_ok hp hp2 hA ts (by omega)) (front_ok hp hp2 hB ts (by omega)) (front_mono hp hp2 hA hB h ts (by omega) (by omega))
theorem tabS_app (p : Int) : ∀ (us ts : List Int), ts ≠ [] → tabS p (us ++ ts) = frontT p (tabS p ts) us
  | [], _, _ => rfl
  | u :: us, ts, h => by
    have ih := tabS_app p us ts h
    have hne : us ++ ts ≠ [] := fun z => h (List.append_eq_nil_iff.mp z).2
    show tabS p (u :: (us ++ ts)) = beforeT p u (frontT p (tabS p ts) us)
    rw [← ih]
    cases e : us ++ ts with
    | nil => exact absurd e hne
    | cons a l => rfl
theorem table_take {f p : Int} (hp : 2 ≤ p) (hp2 : p ≤ 10) (f1 : 1 ≤ f) {sheet : List Int} (hl : (sheet.length : Int) = f) (hl2 : sheet.length ≤ 800) (h : tableT f p sheet ≠ []) (j : Nat) (hj : j < sheet.length) : tableT f p (sheet.take j) ≠ [] := by
  have hne : sheet.drop j ≠ [] := fun z => by have := congrArg List.length z; rw [List.length_drop] at this; simp at this; omega
  rw [table_full f1 hl] at h
  have e : sheet.take j ++ sheet.drop j = sheet := List.take_append_drop j sheet
  rw [← e, tabS_app p _ _ hne] at h
  have e2 : tableT f p (sheet.take j) = frontT p (anyT p) (sheet.take j) := by
    unfold tableT
    rw [if_neg (by rw [List.length_take]; omega)]
  rw [e2]
  obtain ⟨hT, _⟩ := tabS_ok hp hp2 (sheet.drop j) hne (by rw [List.length_drop]; omega)
  obtain ⟨hA, hA2, _⟩ := any_ok hp hp2
  have hm := front_mono hp hp2 hT hA (fun k hk => by
    obtain ⟨r, hr, rfl⟩ := List.mem_map.mp hk
    exact (hA2 _).mpr (hT.row r hr).key) (sheet.take j) (by rw [List.length_drop, List.length_take]; omega) (by rw [List.length_take]; omega)
  intro z
  cases hF : frontT p (tabS p (sheet.drop j)) (sheet.take j) with
  | nil => exact h hF
  | cons r T =>
    have := hm r.1 (by rw [hF]; exact List.mem_cons_self)
    rw [z] at this
    cases this
theorem first_none {f p : Int} (hp : 2 ≤ p) (hp2 : p ≤ 10) (f1 : 1 ≤ f) {sheet : List Int} (hl : (sheet.length : Int) = f) (hl2 : sheet.length ≤ 800) : firstF f p sheet (List.range sheet.length) = none ↔ tableT f p sheet ≠ [] := by
  have key : ∀ is : List Nat, firstF f p sheet is = none ↔ ∀ i ∈ is, tableT f p (sheet.take (i + 1)) ≠ [] := by
    intro is
    induction is with
    | nil => simp [firstF]
    | cons i is ih =>
      rw [firstF]
      by_cases h : (tableT f p (sheet.take (i + 1))).isEmpty = true
      · rw [if_pos h]
        constructor
        · intro z; cases z
        · intro z; exact absurd (List.isEmpty_iff.mp h) (z i List.mem_cons_self)
      · rw [if_neg h, ih]
        constructor
        · intro z j hj
          rcases List.mem_cons.mp hj with rfl | hj
          · exact fun e => h (List.isEmpty_iff.mpr e)
          · exact z j hj
        · intro z j hj; exact z j (List.mem_cons_of_mem _ hj)
  rw [key]
  constructor
  · intro h
    have := h (sheet.length - 1) (List.mem_range.mpr (by omega))
    rw [show sheet.length - 1 + 1 = sheet.length by omega, List.take_length] at this
    exact this
  · intro h i hi
    have hi' := List.mem_range.mp hi
    by_cases hlast : i + 1 = sheet.length
    · rw [hlast, List.take_length]; exact h
    · exact table_take hp hp2 f1 hl hl2 h (i + 1) (by omega)
/-! ## scores that a table with a row has -/
theorem tab_scores {p : Int} (hp : 2 ≤ p) (hp2 : p ≤ 10) : ∀ (ts : List Int), ts.length ≤ 800 → tabS p ts ≠ [] → ∀ t ∈ ts, 0 ≤ t ∧ t ≤ 3 * p
  | [], _, h => absurd rfl h
  | [t], _, h => by
    intro u hu
    rw [List.mem_singleton.mp hu]
    cases hT : tabS p [t] with
    | nil => exact absurd hT h
    | cons r T =>
      obtain ⟨q, hq, e, _⟩ := ((last_ok t hp hp2).2.1 r.1).mp (by have hT' : lastT p t = r :: T := hT; rw [hT']; exact List.mem_cons_self)
      obtain ⟨⟨h1, h2, h3, h4, _⟩, h5⟩ := hq
      simp only at h1 h2 h3 h4
      rcases h5 with ⟨_, _, g1, g2⟩ | h5 | h5
      · split at g2 <;> omega
      · omega
      · omega
  | t :: u :: ts, hl, h => by
    rw [List.length_cons] at hl
    obtain ⟨k1, _⟩ := tabS_ok hp hp2 (u :: ts) (by simp) (by omega)
    cases hT : tabS p (t :: u :: ts) with
    | nil => exact absurd hT h
    | cons r T =>
      obtain ⟨r', hr', hm⟩ := ((before_ok (total := t) hp hp2 (by omega) k1).2.1 r.1).mp (by have hT' : beforeT p t (tabS p (u :: ts)) = r :: T := hT; rw [hT']; exact List.mem_cons_self)
      have hne : tabS p (u :: ts) ≠ [] := fun z => by rw [z] at hr'; cases hr'
      obtain ⟨h1, h2, h3, h4, _⟩ := (k1.row r' hr').key
      have ht : 0 ≤ t ∧ t ≤ 3 * p := by
        rcases hm with h | h | h <;> omega
      intro v hv
      rcases List.mem_cons.mp hv with rfl | hv
      · exact ht
      · exact tab_scores hp hp2 (u :: ts) (by omega) hne v hv
end My
namespace My
open PySem L2 FL
/-! ## small facts about data -/
theorem flat_one (x : D) : ∀ n : Nat, (List.replicate n [x]).flatten = List.replicate n x
  | 0 => rfl
  | n + 1 => by rw [List.replicate_succ, List.flatten_cons, flat_one x n]; rfl
theorem mulL_one (x k : Int) (h0 : 0 ≤ k) (h1 : k ≤ 1000) : oMul (.lst [.int x]) (.int k) = some (.own (lI (List.replicate k.toNat x))) := by
  rw [mulL, if_pos ⟨h0, h1, by simp⟩, flat_one]
  simp
theorem mulL_str (x : Str) (k : Int) (h0 : 0 ≤ k) (h1 : k ≤ 1000) : oMul (.lst [.str x]) (.int k) = some (.own (.lst (List.replicate k.toNat (.str x)))) := by
  rw [mulL, if_pos ⟨h0, h1, by simp⟩, flat_one]
theorem addT_I (a b : List Int) (h : a.length + b.length ≤ 1000) : oAdd (tI a) (tI b) = some (.val (tI (a ++ b))) := by
  rw [FL.addT, if_pos (by simp only [List.length_map, cap]; omega)]
  simp
theorem eqDs_refl : ∀ xs : List D, (∀ x ∈ xs, eqD x x = true) → eqDs xs xs = true
  | [], _ => rfl
  | x :: xs, h => by
    rw [eqDs, h x List.mem_cons_self, eqDs_refl xs fun y hy => h y (List.mem_cons_of_mem _ hy)]; rfl
theorem bNe_lIs (a : List Int) : bNe (lI a) (lI a) = some false := by
  unfold bNe
  rw [lev_lst, all_ints, Bool.and_self, if_pos rfl, eqD_lst, eqDs_ints]
  simp
theorem bNe_tIs (a : List Int) : bNe (tI a) (tI a) = some false := by
  unfold bNe
  rw [lev_tup, all_ints, Bool.and_self, if_pos rfl, eqD_tup, eqDs_ints]
  simp
end My
namespace My
open PySem L2 FL
/-! ## the kinds of all rows hold those of each -/
theorem kinds_has {p : Int} (hp : 2 ≤ p) {ts kl : List Int} : ∀ (T : List TRow) (acc : List Int), TabK p ts T → Paired (KOk p) ts acc → (Paired HasK kl acc ∨ ∃ r ∈ T, Paired HasK kl r.2.2) → Paired HasK kl (T.foldl (fun acc r => List.zipWith Builtin.bitOr acc r.2.2) acc)
  | [], _, _, _, h => by
    rcases h with h | ⟨_, h, _⟩
    · exact h
    · cases h
  | r :: T, acc, hT, ha, h => by
    have hr := hT r List.mem_cons_self
    refine kinds_has hp T _ (fun q hq => hT q (List.mem_cons_of_mem _ hq)) (paired_or hp ha hr) ?_
    rcases h with h | ⟨q, hq, h⟩
    · exact .inl (paired_has_l hp ha hr h)
    · rcases List.mem_cons.mp hq with rfl | hq
      · exact .inl (paired_has_r hp ha hr h)
      · exact .inr ⟨q, hq, h⟩
theorem kindsT_has {p : Int} (hp : 2 ≤ p) {ts kl : List Int} {T : List TRow} (hT : TabK p ts T) {k : K2} (h : Cov T k kl) : Paired HasK kl (kindsT ts.length T) := by
  obtain ⟨r, hr, _, hc⟩ := h
  cases T with
  | nil => cases hr
  | cons q T =>
    unfold kindsT
    rw [List.foldl_cons, paired_zero (hT q List.mem_cons_self)]
    refine kinds_has hp T _ (fun x hx => hT x (List.mem_cons_of_mem _ hx)) (hT q List.mem_cons_self) ?_
    rcases List.mem_cons.mp hr with rfl | hr
    · exact .inl hc
    · exact .inr ⟨r, hr, hc⟩
end My
namespace My
open PySem L2 FL
/-! ## all games by their frames -/
def lastL (p : Int) : List (List Int) := (lastF p).map fun q => if q.2.2.2 = 0 then [q.1, q.2.1] else [q.1, q.2.1, q.2.2.1 - q.1 - q.2.1]
def wholeL (p : Int) : List (List Int) := [p] :: (List.range p.toNat).flatMap fun (a : Nat) => (List.range (p - (a : Int) + 1).toNat).map fun (b : Nat) => [(a : Int), (b : Int)]
def gf (p : Int) : Nat → List (List (List Int))
  | 0 => []
  | 1 => (lastL p).map fun fr => [fr]
  | n + 2 => (gf p (n + 1)).flatMap fun fs => (wholeL p).map fun fr => fr :: fs
def scF (p : Int) (fr M : List Int) : Int := if fr.sum = p then ((fr ++ M).take 3).sum else fr.sum
def shF (p : Int) : List (List Int) → List Int
  | [] => []
  | [fr] => [fr.sum]
  | fr :: g :: more => scF p fr (g :: more).flatten :: shF p (g :: more)
theorem mem_wholeL {p : Int} (hp : 2 ≤ p) {fr : List Int} : fr ∈ wholeL p ↔ Whole p false fr := by
  unfold wholeL
  rw [List.mem_cons]
  constructor
  · rintro (rfl | h)
    · exact ⟨rfl, rfl⟩
    · obtain ⟨a, ha, h⟩ := List.mem_flatMap.mp h
      obtain ⟨b, hb, rfl⟩ := List.mem_map.mp h
      have ha' := List.mem_range.mp ha
      have hb' := List.mem_range.mp hb
      refine ⟨Int.natCast_nonneg a, by omega, Int.natCast_nonneg b, ?_⟩
      show (a : Int) + b ≤ p
      omega
  · intro h
    match fr, h with
    | [a], h => exact .inl (by rw [h.2])
    | [a, c], h =>
      obtain ⟨h1, h2, h3, h4⟩ := h
      have h4' : a + c ≤ p := h4
      refine .inr (List.mem_flatMap.mpr ⟨a.toNat, List.mem_range.mpr (by omega), List.mem_map.mpr ⟨c.toNat, List.mem_range.mpr (by omega), ?_⟩⟩)
      rw [show ((a.toNat : Nat) : Int) = a by omega, show ((c.toNat : Nat) : Int) = c by omega]
    | [a, c, d], h => cases h.1
theorem mem_lastL {p : Int} (hp : 2 ≤ p) {fr : List Int} : fr ∈ lastL p ↔ Whole p true fr := by
  unfold lastL
  rw [List.mem_map]
  constructor
  · rintro ⟨q, hq, rfl⟩
    obtain ⟨⟨h1, h2, h3, h4, h5⟩, h⟩ := (mem_lastF hp).mp hq
    simp only at h1 h2 h3 h4 h5
    rcases h with ⟨ha, hk, g1, g2⟩ | ⟨ha, hb, hk, g1, g2⟩ | ⟨ha, hb, hk, g1⟩
    · rw [hk, if_neg (by decide)]
      refine ⟨rfl, h1, h2, h3, h4, by omega, ?_, ?_⟩
      · split at g2 <;> omega
      · refine .inl ⟨ha, ?_⟩
        split at g2
        · rename_i h; exact .inl h
        · right; omega
    · rw [hk, if_neg (by decide)]
      exact ⟨rfl, h1, h2, h3, h4, by omega, by omega, .inr ⟨ha, hb⟩⟩
    · rw [hk, if_pos rfl]
      exact ⟨h1, ha, h3, hb⟩
  · intro h
    match fr, h with
    | [a], h => cases h.1
    | [a, c], h =>
      obtain ⟨h1, h2, h3, h4⟩ := h
      have h4' : a + c < p := h4
      exact ⟨(a, c, a + c, 0), (mem_lastF hp).mpr ⟨⟨h1, by show a ≤ p; omega, h3, by show c ≤ p; omega, fun _ => by show a + c ≤ p; omega⟩, .inr (.inr ⟨h2, h4', rfl, rfl⟩)⟩, rfl⟩
    | [a, c, d], h =>
      obtain ⟨_, h1, h2, h3, h4, h5, h6, h7⟩ := h
      have e : a + c + d - a - c = d := by omega
      rcases h7 with ⟨rfl, h7⟩ | ⟨h7, h8⟩
      · refine ⟨(a, c, a + c + d, 2), (mem_lastF hp).mpr ⟨⟨h1, h2, h3, h4, fun h => by have h' : a < a := h; omega⟩, .inl ⟨rfl, rfl, by show a + c ≤ a + c + d; omega, by show a + c + d ≤ a + c + (if c = a then a else a - c); split <;> omega⟩⟩, ?_⟩
        show (if (2 : Int) = 0 then _ else [a, c, a + c + d - a - c]) = _
        rw [if_neg (by decide), e]
      · refine ⟨(a, c, a + c + d, 1), (mem_lastF hp).mpr ⟨⟨h1, h2, h3, h4, fun _ => by show a + c ≤ p; omega⟩, .inr (.inl ⟨h7, h8, rfl, by show p ≤ a + c + d; omega, by show a + c + d ≤ p + p; omega⟩)⟩, ?_⟩
        show (if (1 : Int) = 0 then _ else [a, c, a + c + d - a - c]) = _
        rw [if_neg (by decide), e]
/-- whole frames to the end of a game -/
def DoneF (p : Int) : List (List Int) → Prop
  | [] => False
  | [fr] => Whole p true fr
  | fr :: g :: more => Whole p false fr ∧ DoneF p (g :: more)
theorem mem_gf {p : Int} (hp : 2 ≤ p) : ∀ (n : Nat) (fs : List (List Int)), fs ∈ gf p n ↔ DoneF p fs ∧ fs.length = n
  | 0, fs => by
    constructor
    · intro h; cases h
    · rintro ⟨h, h2⟩
      rw [List.eq_nil_of_length_eq_zero h2] at h
      exact h.elim
  | 1, fs => by
    show fs ∈ (lastL p).map (fun fr => [fr]) ↔ _
    rw [List.mem_map]
    constructor
    · rintro ⟨fr, h, rfl⟩
      exact ⟨(mem_lastL hp).mp h, rfl⟩
    · rintro ⟨h, h2⟩
      match fs, h, h2 with
      | [fr], h, _ => exact ⟨fr, (mem_lastL hp).mpr h, rfl⟩
  | n + 2, fs => by
    show fs ∈ (gf p (n + 1)).flatMap (fun fs => (wholeL p).map fun fr => fr :: fs) ↔ _
    rw [List.mem_flatMap]
    constructor
    · rintro ⟨gs, hg, h⟩
      obtain ⟨fr, hf, rfl⟩ := List.mem_map.mp h
      obtain ⟨h1, h2⟩ := (mem_gf hp (n + 1) gs).mp hg
      match gs, h1, h2 with
      | g :: more, h1, h2 => exact ⟨⟨(mem_wholeL hp).mp hf, h1⟩, by rw [List.length_cons, h2]⟩
    · rintro ⟨h, h2⟩
      match fs, h, h2 with
      | [fr], _, h2 => simp at h2
      | fr :: g :: more, h, h2 =>
        exact ⟨g :: more, (mem_gf hp (n + 1) _).mpr ⟨h.2, by rw [List.length_cons] at h2; omega⟩, List.mem_map.mpr ⟨fr, (mem_wholeL hp).mpr h.1, rfl⟩⟩
theorem doneF_ok {f p : Int} : ∀ (fs : List (List Int)) (n : Int), DoneF p fs → n + (fs.length : Int) = f → DoneOk f p n fs
  | [], _, h, _ => h.elim
  | [fr], n, h, hn => by
    have hl : n + 1 = f := by simpa using hn
    exact ⟨by omega, by rw [decide_eq_true hl]; exact h, trivial⟩
  | fr :: g :: more, n, h, hn => by
    have hn2 : n + 1 + ((g :: more).length : Int) = f := by rw [List.length_cons] at hn; omega
    have hl : n + 1 < f := by rw [List.length_cons] at hn2; omega
    exact ⟨by omega, by rw [decide_eq_false (by omega)]; exact h.1, doneF_ok (g :: more) (n + 1) h.2 hn2⟩
theorem doneF_of {f p : Int} : ∀ (fs : List (List Int)) (n : Int), fs ≠ [] → DoneOk f p n fs → n + (fs.length : Int) = f → DoneF p fs
  | [], _, h, _, _ => absurd rfl h
  | [fr], n, _, h, hn => by
    have hl : n + 1 = f := by simpa using hn
    have := h.2.1
    rw [decide_eq_true hl] at this
    exact this
  | fr :: g :: more, n, _, h, hn => by
    have hn2 : n + 1 + ((g :: more).length : Int) = f := by rw [List.length_cons] at hn; omega
    have hl : n + 1 < f := by rw [List.length_cons] at hn2; omega
    have := h.2.1
    rw [decide_eq_false (by omega)] at this
    exact ⟨this, doneF_of (g :: more) (n + 1) (by simp) h.2.2 hn2⟩
theorem shF_settled {f p : Int} : ∀ (fs : List (List Int)) (n : Int), fs ≠ [] → DoneOk f p n fs → n + (fs.length : Int) = f → settledF f p n fs = shF p fs
  | [], _, h, _, _ => absurd rfl h
  | [fr], n, _, h, hn => by
    have hl : n + 1 = f := by simpa using hn
    have hw := h.2.1
    have hfr := whole_ne hw
    have hnd := whole_needed hw
    rw [← last_eq] at hnd
    have hsz : sizeF f p n fr = fr.length := size_last _ hl
    rw [settled_cons _ _ _ _ _ hfr, if_pos ⟨hnd, by rw [hsz]; simp⟩, hsz]
    simp [settledF, partsF, shF]
  | fr :: g :: more, n, _, h, hn => by
    have hn2 : n + 1 + ((g :: more).length : Int) = f := by rw [List.length_cons] at hn; omega
    have hl : n + 1 < f := by rw [List.length_cons] at hn2; omega
    have hw := h.2.1
    have hfr := whole_ne hw
    have hnd := whole_needed hw
    rw [← last_eq] at hnd
    have hflat := done_two h.2.2 hn2 hl
    have hpos : 1 ≤ fr.length := by
      cases fr with
      | nil => exact absurd rfl hfr
      | cons a r => simp
    by_cases hs : fr.sum = p
    · have hz : sizeF f p n fr = 3 := size_three hl hs
      rw [settled_cons _ _ _ _ _ hfr, if_pos ⟨hnd, by rw [hz, List.length_append]; omega⟩, hz, shF_settled (g :: more) (n + 1) (by simp) h.2.2 hn2]
      show _ = scF p fr (g :: more).flatten :: shF p (g :: more)
      unfold scF
      rw [if_pos hs]; rfl
    · have hz : sizeF f p n fr = fr.length := size_open hs
      rw [settled_cons _ _ _ _ _ hfr, if_pos ⟨hnd, by rw [hz, List.length_append]; omega⟩, hz, shF_settled (g :: more) (n + 1) (by simp) h.2.2 hn2]
      show _ = scF p fr (g :: more).flatten :: shF p (g :: more)
      unfold scF
      rw [if_neg hs, List.take_left]; rfl
/-- the rolls tell the frames -/
theorem split_done {f p : Int} (hp : 2 ≤ p) : ∀ (fs : List (List Int)) (done : List (List Int)), DoneOk f p (done.length : Int) fs → splitS f p (done, []) fs.flatten = some (done ++ fs, [])
  | [], done, _ => by simp [splitS]
  | fr :: more, done, h => by
    obtain ⟨h1, hw, h2⟩ := h
    have hl : ((done ++ [fr]).length : Int) = (done.length : Int) + 1 := by simp
    have ih := split_done hp more (done ++ [fr]) (by rw [hl]; exact h2)
    have step : splitS f p (done, []) fr = some (done ++ [fr], []) := by
      have hnd := whole_needed hw
      have hnf : ¬ f < (done.length : Int) + 1 := by omega
      match fr, hw, hnd with
      | [a], hw, hnd =>
        obtain ⟨g1, g2⟩ := hw
        rw [splitS_one]
        unfold FL.stepF
        rw [if_neg hnf, if_pos ⟨by omega, by show a ≤ p; omega⟩]
        show (if 0 < neededF p (decide ((done.length : Int) + 1 = f)) [a] then _ else _) = _
        rw [if_pos hnd]; rfl
      | [a, c], hw, hnd =>
        obtain ⟨g1, g2, g3, g4⟩ := hw
        have g5 : a + c ≤ p := by split at g4 <;> omega
        have n1 : ¬ 0 < neededF p (decide ((done.length : Int) + 1 = f)) [a] := by
          by_cases hq : (done.length : Int) + 1 = f
          · rw [decide_eq_true hq]; simp [neededF]
          · rw [decide_eq_false hq]; simp [neededF]; omega
        have e1 : FL.stepF f p (done, []) a = some (done, [a]) := by
          unfold FL.stepF
          rw [if_neg hnf, if_pos ⟨g1, by show a ≤ p; omega⟩]
          show (if 0 < neededF p (decide ((done.length : Int) + 1 = f)) [a] then _ else _) = _
          rw [if_neg n1]; rfl
        have e2 : FL.stepF f p (done, [a]) c = some (done ++ [[a, c]], []) := by
          have hs : standsF p [a] = p - a := by
            show (if p - a = 0 then p else p - a) = p - a
            rw [if_neg (by omega)]
          unfold FL.stepF
          rw [if_neg hnf, if_pos ⟨g3, by show c ≤ standsF p [a]; rw [hs]; omega⟩]
          show (if 0 < neededF p (decide ((done.length : Int) + 1 = f)) [a, c] then _ else _) = _
          rw [if_pos hnd]; rfl
        rw [splitS, e1]
        show splitS f p (done, [a]) [c] = _
        rw [splitS_one, e2]
      | [a, c, d], hw, hnd =>
        obtain ⟨hlast, g1, g2, g3, g4, g5, g6, g7⟩ := hw
        have hq : (done.length : Int) + 1 = f := of_decide_eq_true hlast
        have n1 : ¬ 0 < neededF p (decide ((done.length : Int) + 1 = f)) [a] := by rw [decide_eq_true hq]; simp [neededF]
        have n2 : ¬ 0 < neededF p (decide ((done.length : Int) + 1 = f)) [a, c] := by
          rw [decide_eq_true hq]
          rcases g7 with ⟨h, _⟩ | ⟨h, h'⟩ <;> simp [neededF] <;> omega
        have e1 : FL.stepF f p (done, []) a = some (done, [a]) := by
          unfold FL.stepF
          rw [if_neg hnf, if_pos ⟨g1, by show a ≤ p; omega⟩]
          show (if 0 < neededF p (decide ((done.length : Int) + 1 = f)) [a] then _ else _) = _
          rw [if_neg n1]; rfl
        have e2 : FL.stepF f p (done, [a]) c = some (done, [a, c]) := by
          have hs : c ≤ standsF p [a] := by
            show c ≤ (if p - a = 0 then p else p - a)
            rcases g7 with ⟨h, _⟩ | ⟨h, h'⟩
            · rw [if_pos (by omega)]; omega
            · rw [if_neg (by omega)]; omega
          unfold FL.stepF
          rw [if_neg hnf, if_pos ⟨g3, hs⟩]
          show (if 0 < neededF p (decide ((done.length : Int) + 1 = f)) [a, c] then _ else _) = _
          rw [if_neg n2]; rfl
        have e3 : FL.stepF f p (done, [a, c]) d = some (done ++ [[a, c, d]], []) := by
          have hs : d ≤ standsF p [a, c] := by
            simp only [standsF, List.foldl]
            rcases g7 with ⟨h, h'⟩ | ⟨h, h'⟩
            · rw [if_pos (show p - a = 0 by omega)]
              rcases h' with h' | h'
              · rw [if_pos (by omega)]; omega
              · split <;> omega
            · rw [if_neg (show ¬ p - a = 0 by omega), if_pos (by omega)]; omega
          unfold FL.stepF
          rw [if_neg hnf, if_pos ⟨g5, hs⟩]
          show (if 0 < neededF p (decide ((done.length : Int) + 1 = f)) [a, c, d] then _ else _) = _
          rw [if_pos hnd]; rfl
        rw [splitS, e1]
        show splitS f p (done, [a]) [c, d] = _
        rw [splitS, e2]
        show splitS f p (done, [a, c]) [d] = _
        rw [splitS_one, e3]
    rw [List.flatten_cons, splitS_append, step]
    show splitS f p (done ++ [fr], []) more.flatten = _
    rw [ih, List.append_assoc]; rfl
end My
namespace My
open PySem L2 FL
/-! ## a table counts games -/
theorem ite_iff {P Q : Prop} [Decidable P] [Decidable Q] (h : P ↔ Q) (x y : Int) : (if P then x else y) = if Q then x else y := by
  by_cases hp : P
  · rw [if_pos hp, if_pos (h.mp hp)]
  · rw [if_neg hp, if_neg (fun z => hp (h.mpr z))]
theorem sum_flat {α β : Type} (g : α → List β) (h : β → Int) : ∀ l : List α, ((l.flatMap g).map h).sum = (l.map fun a => ((g a).map h).sum).sum
  | [] => rfl
  | a :: l => by rw [List.flatMap_cons, List.map_append, List.sum_append, sum_flat g h l, List.map_cons, List.sum_cons]
theorem sum_point (a t : Int) (ψ : Int → Int) : ∀ N : Nat, ((List.range N).map fun (b : Nat) => if a + (b : Int) = t then ψ (b : Int) else 0).sum = if a ≤ t ∧ t < a + (N : Int) then ψ (t - a) else 0
  | 0 => by
    rw [if_neg (by omega)]; rfl
  | N + 1 => by
    rw [List.range_succ, List.map_append, List.sum_append, sum_point a t ψ N]
    simp only [List.map_cons, List.map_nil, List.sum_cons, List.sum_nil, Int.add_zero]
    by_cases h1 : a + (N : Int) = t
    · rw [if_pos h1, if_neg (by omega), if_pos (by omega), Int.zero_add]
      congr 1; omega
    · rw [if_neg h1, Int.add_zero]
      by_cases h2 : a ≤ t ∧ t < a + (N : Int)
      · rw [if_pos h2, if_pos (by omega)]
      · rw [if_neg h2, if_neg (by omega)]
theorem ways_sum (φ : K2 → Int) {p t : Int} (hp : 2 ≤ p) (m0 m1 : Int) (M : List Int) : ((wholeL p).map fun fr => if scF p fr (m0 :: m1 :: M) = t then φ (key2 (fr ++ m0 :: m1 :: M)) else 0).sum = ways φ p t (m0, m1) := by
  unfold wholeL ways
  rw [List.map_cons, List.sum_cons, sum_flat]
  have e1 : scF p [p] (m0 :: m1 :: M) = p + m0 + m1 := by
    unfold scF
    rw [if_pos (by simp)]
    simp; omega
  have ek : key2 ([p] ++ m0 :: m1 :: M) = (p, m0) := rfl
  rw [e1, ek]
  congr 2
  apply List.map_congr_left
  intro a ha
  have ha' := List.mem_range.mp ha
  rw [List.map_map]
  obtain ⟨N, hN⟩ : ∃ N : Nat, N = (p - (a : Int)).toNat := ⟨_, rfl⟩
  have hN1 : (p - (a : Int) + 1).toNat = N + 1 := by omega
  have hNi : (N : Int) = p - a := by omega
  rw [hN1, List.range_succ, List.map_append, List.sum_append]
  have e2 : ((List.range N).map ((fun fr => if scF p fr (m0 :: m1 :: M) = t then φ (key2 (fr ++ m0 :: m1 :: M)) else 0) ∘ fun (b : Nat) => [(a : Int), (b : Int)])) = (List.range N).map fun (b : Nat) => if (a : Int) + (b : Int) = t then (fun z => φ ((a : Int), z)) (b : Int) else 0 := by
    apply List.map_congr_left
    intro b hb
    have hb' := List.mem_range.mp hb
    show (if scF p [(a : Int), (b : Int)] (m0 :: m1 :: M) = t then φ ((a : Int), (b : Int)) else 0) = _
    have : scF p [(a : Int), (b : Int)] (m0 :: m1 :: M) = (a : Int) + b := by
      unfold scF
      rw [if_neg (by simp; omega)]
      simp
    rw [this]
  rw [e2, sum_point (a : Int) t (fun z => φ ((a : Int), z)) N]
  simp only [List.map_cons, List.map_nil, List.sum_cons, List.sum_nil, Int.add_zero, Function.comp]
  have e3 : scF p [(a : Int), (N : Int)] (m0 :: m1 :: M) = p + m0 := by
    unfold scF
    rw [if_pos (by simp; omega)]
    simp; omega
  have e4 : key2 ([(a : Int), (N : Int)] ++ m0 :: m1 :: M) = ((a : Int), p - a) := by rw [hNi]; rfl
  rw [e3, e4]
  unfold waysI
  rw [Int.add_comm]
  congr 1
  by_cases h : t < p ∧ (a : Int) ≤ t
  · rw [if_pos h, if_pos (by omega)]
  · rw [if_neg h, if_neg (by omega)]
theorem doneF_two {p : Int} : ∀ (fs : List (List Int)), DoneF p fs → 2 ≤ fs.flatten.length
  | [], h => h.elim
  | [fr], h => by
    match fr, h with
    | [a], h => cases h.1
    | [a, c], _ => simp
    | [a, c, d], _ => simp
  | fr :: g :: more, h => by
    have := doneF_two (g :: more) h.2
    rw [List.flatten_cons, List.length_append]; omega
theorem tot_gf {p : Int} (hp : 2 ≤ p) (hp2 : p ≤ 10) : ∀ (ts : List Int) (φ : K2 → Int), ts ≠ [] → ts.length ≤ 800 → totW φ (tabS p ts) = ((gf p ts.length).map fun fs => if shF p fs = ts then φ (key2 fs.flatten) else 0).sum
  | [], _, h, _ => absurd rfl h
  | [t], φ, _, _ => by
    show totW φ (lastT p t) = (((lastL p).map fun fr => [fr]).map fun fs => if shF p fs = [t] then φ (key2 fs.flatten) else 0).sum
    rw [totW_last φ hp]
    unfold lastL
    rw [List.map_map, List.map_map]
    congr 1
    apply List.map_congr_left
    intro q hq
    obtain ⟨_, h⟩ := (mem_lastF hp).mp hq
    show _ = (if shF p [if q.2.2.2 = 0 then [q.1, q.2.1] else [q.1, q.2.1, q.2.2.1 - q.1 - q.2.1]] = [t] then φ (key2 [if q.2.2.2 = 0 then [q.1, q.2.1] else [q.1, q.2.1, q.2.2.1 - q.1 - q.2.1]].flatten) else 0)
    by_cases hk : q.2.2.2 = 0
    · rw [if_pos hk]
      have e : ([q.1, q.2.1] : List Int).sum = q.2.2.1 := by
        rcases h with h | h | h
        · omega
        · omega
        · simp; omega
      exact ite_iff (by show _ ↔ [([q.1, q.2.1] : List Int).sum] = [t]; rw [e]; simp) _ _
    · rw [if_neg hk]
      have e : ([q.1, q.2.1, q.2.2.1 - q.1 - q.2.1] : List Int).sum = q.2.2.1 := by simp; omega
      exact ite_iff (by show _ ↔ [([q.1, q.2.1, q.2.2.1 - q.1 - q.2.1] : List Int).sum] = [t]; rw [e]; simp) _ _
  | t :: u :: ts, φ, _, hl => by
    rw [List.length_cons] at hl
    obtain ⟨k1, _⟩ := tabS_ok hp hp2 (u :: ts) (by simp) (by omega)
    show totW φ (beforeT p t (tabS p (u :: ts))) = (((gf p (ts.length + 1)).flatMap fun fs => (wholeL p).map fun fr => fr :: fs).map fun fs => if shF p fs = t :: u :: ts then φ (key2 fs.flatten) else 0).sum
    rw [totW_before φ hp k1, tot_gf hp hp2 (u :: ts) _ (by simp) (by omega), sum_flat]
    congr 1
    apply List.map_congr_left
    intro fs hfs
    obtain ⟨hd, hln⟩ := (mem_gf hp _ fs).mp hfs
    have hln' : fs.length = ts.length + 1 := hln
    have hflat := doneF_two fs hd
    rw [List.map_map]
    match fs, hd, hflat with
    | g :: more, hd, hflat =>
      by_cases h : shF p (g :: more) = u :: ts
      · rw [if_pos h]
        obtain ⟨m0, m1, M', hM⟩ : ∃ m0 m1 M', (g :: more).flatten = m0 :: m1 :: M' := by
          match (g :: more).flatten, hflat with
          | m0 :: m1 :: M', _ => exact ⟨m0, m1, M', rfl⟩
        rw [hM]
        have := ways_sum φ (t := t) hp m0 m1 M'
        show ways φ p t (m0, m1) = _
        rw [← this]
        congr 1
        apply List.map_congr_left
        intro fr _
        show _ = (if shF p (fr :: g :: more) = t :: u :: ts then φ (key2 (fr :: g :: more).flatten) else 0)
        have e1 : shF p (fr :: g :: more) = scF p fr (g :: more).flatten :: shF p (g :: more) := rfl
        rw [List.flatten_cons, hM]
        exact ite_iff (by rw [e1, h, hM]; simp) _ _
      · rw [if_neg h]
        symm
        have : ((wholeL p).map ((fun fs => if shF p fs = t :: u :: ts then φ (key2 fs.flatten) else 0) ∘ fun fr => fr :: g :: more)) = (wholeL p).map fun _ => 0 := by
          apply List.map_congr_left
          intro fr _
          show (if shF p (fr :: g :: more) = t :: u :: ts then _ else (0 : Int)) = 0
          rw [if_neg]
          intro z
          have e1 : shF p (fr :: g :: more) = scF p fr (g :: more).flatten :: shF p (g :: more) := rfl
          rw [e1] at z
          exact h (List.cons.inj z).2
        rw [this]
        have hz : ∀ l : List (List Int), (l.map fun _ => (0 : Int)).sum = 0 := by
          intro l
          induction l with
          | nil => rfl
          | cons a l ih => rw [List.map_cons, List.sum_cons, ih]; rfl
        exact hz _
theorem sum_count {α : Type} (P : α → Bool) : ∀ l : List α, (l.map fun a => if P a = true then (1 : Int) else 0).sum = ((l.filter P).length : Int)
  | [] => rfl
  | a :: l => by
    rw [List.map_cons, List.sum_cons, sum_count P l]
    by_cases h : P a = true
    · rw [if_pos h, List.filter_cons_of_pos h, List.length_cons]; omega
    · rw [if_neg h, List.filter_cons_of_neg h]; omega
theorem cnt_gf {p : Int} (hp : 2 ≤ p) (hp2 : p ≤ 10) (ts : List Int) (h : ts ≠ []) (hl : ts.length ≤ 800) : cntT (tabS p ts) = (((gf p ts.length).filter fun fs => decide (shF p fs = ts)).length : Int) := by
  rw [cnt_tot, tot_gf hp hp2 ts _ h hl, ← sum_count]
  congr 1
  apply List.map_congr_left
  intro fs _
  by_cases hs : shF p fs = ts
  · rw [if_pos hs, if_pos (decide_eq_true hs)]
  · rw [if_neg hs, if_neg (by simpa using hs)]
end My
namespace My
open PySem L2 FL
/-! ## each kind in a table comes from a game -/
def K3 (kv : Int) : Prop := kv = 1 ∨ kv = 2 ∨ kv = 4
def Src (p : Int) (ts : List Int) (k : K2) (ks : List Int) : Prop := ∀ (i : Nat) (kv v : Int), ks[i]? = some v → K3 kv → HasK kv v → ∃ fs, DoneF p fs ∧ shF p fs = ts ∧ key2 fs.flatten = k ∧ (fs[i]?).map (kindV p) = some kv
def TabG (p : Int) (ts : List Int) (T : List TRow) : Prop := ∀ r ∈ T, Src p ts r.1 r.2.2
theorem or_has {p t a c kv : Int} (hp : 2 ≤ p) (h3 : K3 kv) (h1 : KOk p t a) (h2 : KOk p t c) (h : HasK kv (Builtin.bitOr a c)) : HasK kv a ∨ HasK kv c := by
  have e11 : Builtin.bitOr 1 1 = 1 := by decide
  have e22 : Builtin.bitOr 2 2 = 2 := by decide
  have e24 : Builtin.bitOr 2 4 = 6 := by decide
  have e26 : Builtin.bitOr 2 6 = 6 := by decide
  have e42 : Builtin.bitOr 4 2 = 6 := by decide
  have e44 : Builtin.bitOr 4 4 = 4 := by decide
  have e46 : Builtin.bitOr 4 6 = 6 := by decide
  have e62 : Builtin.bitOr 6 2 = 6 := by decide
  have e64 : Builtin.bitOr 6 4 = 6 := by decide
  have e66 : Builtin.bitOr 6 6 = 6 := by decide
  unfold KOk HasK K3 at *
  rcases h1 with ⟨g1, rfl⟩ | ⟨g1, g2, rfl | rfl | rfl⟩ | ⟨g1, rfl⟩ <;> rcases h2 with ⟨k1, rfl⟩ | ⟨k1, k2, rfl | rfl | rfl⟩ | ⟨k1, rfl⟩ <;>
    first | (exfalso; omega) | (rw [e11] at h; omega) | (rw [e22] at h; omega) | (rw [e24] at h; omega) | (rw [e26] at h; omega) | (rw [e42] at h; omega) | (rw [e44] at h; omega) | (rw [e46] at h; omega) | (rw [e62] at h; omega) | (rw [e64] at h; omega) | (rw [e66] at h; omega)
theorem paired_get {p : Int} : ∀ {ts vs : List Int} {i : Nat} {v : Int}, Paired (KOk p) ts vs → vs[i]? = some v → ∃ t, ts[i]? = some t ∧ KOk p t v
  | _, _, _, _, .nil, h => by simp at h
  | _, _, 0, _, .cons h _, e => by simp at e; subst e; exact ⟨_, rfl, h⟩
  | _, _, i + 1, _, .cons _ t, e => by simpa using paired_get t (by simpa using e)
theorem zip_get {as bs : List Int} {i : Nat} {v : Int} (h : (List.zipWith Builtin.bitOr as bs)[i]? = some v) : ∃ a c, as[i]? = some a ∧ bs[i]? = some c ∧ v = Builtin.bitOr a c := by
  rw [List.getElem?_zipWith] at h
  cases ha : as[i]? with
  | none => rw [ha] at h; cases h
  | some a =>
    cases hb : bs[i]? with
    | none => rw [ha, hb] at h; cases h
    | some c =>
      rw [ha, hb] at h
      exact ⟨a, c, rfl, rfl, (Option.some.inj h).symm⟩
theorem src_or {p : Int} (hp : 2 ≤ p) {ts : List Int} {k : K2} {as bs : List Int} (h1 : Paired (KOk p) ts as) (h2 : Paired (KOk p) ts bs) (g1 : Src p ts k as) (g2 : Src p ts k bs) : Src p ts k (List.zipWith Builtin.bitOr as bs) := by
  intro i kv v hv h3 hk
  obtain ⟨a, c, ha, hc, rfl⟩ := zip_get hv
  obtain ⟨t, ht, ka⟩ := paired_get h1 ha
  obtain ⟨t', ht', kc⟩ := paired_get h2 hc
  rw [ht] at ht'
  cases ht'
  rcases or_has hp h3 ka kc hk with h | h
  · exact g1 i kv a ha h3 h
  · exact g2 i kv c hc h3 h
theorem TabG.add {p : Int} (hp : 2 ≤ p) {ts : List Int} {T : List TRow} (hK : TabK p ts T) (h : TabG p ts T) {x : TRow} (hx : Paired (KOk p) ts x.2.2) (hs : Src p ts x.1 x.2.2) : TabG p ts (addR T x) := by
  unfold addR addT
  cases e : findT T x.1 with
  | none =>
    intro r hr
    rcases putT_mem hr with hr | rfl
    · exact h r hr
    · exact hs
  | some v =>
    have hv := findT_mem e
    intro r hr
    rcases putT_mem hr with hr | rfl
    · exact h r hr
    · exact src_or hp (hK _ hv) hx (h _ hv) hs
theorem tabG_fold {p : Int} (hp : 2 ≤ p) {n : Nat} {ts : List Int} : ∀ (L T : List TRow), TabOk p n T → TabK p ts T → TabG p ts T → (∀ x ∈ L, PutOk p n ts x ∧ Src p ts x.1 x.2.2) → TabG p ts (L.foldl addR T)
  | [], _, _, _, h, _ => h
  | x :: L, T, hT, hK, h, hL => by
    obtain ⟨hx, hs⟩ := hL x List.mem_cons_self
    rw [List.foldl_cons]
    exact tabG_fold hp L _ (hT.add hx.row.key hx.row.pos hx.row.len) (hK.add hp hx.kok) (h.add hp hK hx.kok hs) fun y hy => hL y (List.mem_cons_of_mem _ hy)
theorem kok_some {p t v : Int} (h : KOk p t v) : ∃ kv, K3 kv ∧ HasK kv v := by
  rcases h with ⟨_, rfl⟩ | ⟨_, _, rfl | rfl | rfl⟩ | ⟨_, rfl⟩
  · exact ⟨1, .inl rfl, .inl rfl⟩
  · exact ⟨2, .inr (.inl rfl), .inl rfl⟩
  · exact ⟨4, .inr (.inr rfl), .inl rfl⟩
  · exact ⟨2, .inr (.inl rfl), .inr ⟨rfl, .inl rfl⟩⟩
  · exact ⟨4, .inr (.inr rfl), .inl rfl⟩
theorem src_some {p : Int} {ts : List Int} {k : K2} {ks : List Int} (hne : ts ≠ []) (h1 : Paired (KOk p) ts ks) (h : Src p ts k ks) : ∃ fs, DoneF p fs ∧ shF p fs = ts ∧ key2 fs.flatten = k := by
  cases h1 with
  | nil => exact absurd rfl hne
  | cons h2 _ =>
    obtain ⟨kv, k3, hk⟩ := kok_some h2
    obtain ⟨fs, g1, g2, g3, _⟩ := h 0 kv _ rfl k3 hk
    exact ⟨fs, g1, g2, g3⟩
theorem has_one {kv v : Int} (h : HasK kv v) (h2 : v = 1 ∨ v = 2 ∨ v = 4) : v = kv := by
  unfold HasK at h; omega
theorem tabG_last {p t : Int} (hp : 2 ≤ p) : TabG p [t] (lastT p t) := by
  rw [last_agg]
  refine tabG_fold hp (n := 1) _ [] .nil (fun _ h => by cases h) (fun _ h => by cases h) fun x hx => ?_
  obtain ⟨q, hq, ht, rfl⟩ := (mem_cLast hp).mp hx
  refine ⟨by rw [← ht]; exact last_put hp hq, fun i kv v hv h3 hk => ?_⟩
  have hq' := hq
  obtain ⟨⟨h1, h2, h3', h4, h5⟩, h⟩ := hq
  simp only at h1 h2 h3' h4 h5
  match i, hv with
  | 0, hv =>
    have hv' : bitK q.2.2.2 = v := Option.some.inj hv
    rcases h with ⟨ha, hkd, g1, g2⟩ | ⟨ha, hb, hkd, g1, g2⟩ | ⟨ha, hb, hkd, g1⟩
    · have ev : v = 4 := by rw [← hv', hkd]; rfl
      have := has_one hk (by omega)
      have hw : Whole p true [q.1, q.2.1, q.2.2.1 - q.1 - q.2.1] := ⟨rfl, h1, h2, h3', h4, by omega, by split at g2 <;> omega, .inl ⟨ha, by split at g2 <;> omega⟩⟩
      refine ⟨[[q.1, q.2.1, q.2.2.1 - q.1 - q.2.1]], hw, ?_, rfl, ?_⟩
      · show [([q.1, q.2.1, q.2.2.1 - q.1 - q.2.1] : List Int).sum] = [t]
        rw [← ht]; simp; omega
      · show some (kindV p [q.1, q.2.1, q.2.2.1 - q.1 - q.2.1]) = some kv
        rw [kv_two, if_pos ha, ← this, ev]
    · have ev : v = 2 := by rw [← hv', hkd]; rfl
      have := has_one hk (by omega)
      have hw : Whole p true [q.1, q.2.1, q.2.2.1 - q.1 - q.2.1] := ⟨rfl, h1, h2, h3', h4, by omega, by omega, .inr ⟨ha, hb⟩⟩
      refine ⟨[[q.1, q.2.1, q.2.2.1 - q.1 - q.2.1]], hw, ?_, rfl, ?_⟩
      · show [([q.1, q.2.1, q.2.2.1 - q.1 - q.2.1] : List Int).sum] = [t]
        rw [← ht]; simp; omega
      · show some (kindV p [q.1, q.2.1, q.2.2.1 - q.1 - q.2.1]) = some kv
        rw [kv_two, if_neg (by omega), if_pos hb, ← this, ev]
    · have ev : v = 1 := by rw [← hv', hkd]; rfl
      have := has_one hk (by omega)
      have hw : Whole p true [q.1, q.2.1] := ⟨h1, ha, h3', hb⟩
      refine ⟨[[q.1, q.2.1]], hw, ?_, rfl, ?_⟩
      · show [([q.1, q.2.1] : List Int).sum] = [t]
        rw [← ht]; simp; omega
      · show some (kindV p [q.1, q.2.1]) = some kv
        rw [kv_two, if_neg (by omega), if_neg (by omega), ← this, ev]
  | i + 1, hv => simp at hv
/-- a frame in front -/
theorem front_frame {p t : Int} (hp : 2 ≤ p) {k k' : K2} {v : Int} (hk : KeyOk p k) (hs : Step p t k k' v) (fs : List (List Int)) (hd : DoneF p fs) (hkey : key2 fs.flatten = k) :
    ∃ fr, DoneF p (fr :: fs) ∧ scF p fr fs.flatten = t ∧ key2 (fr :: fs).flatten = k' ∧ kindV p fr = v := by
  obtain ⟨h1, h2, h3, h4, h5⟩ := hk
  have hflat := doneF_two fs hd
  obtain ⟨m0, m1, M', hM⟩ : ∃ m0 m1 M', fs.flatten = m0 :: m1 :: M' := by
    match fs.flatten, hflat with
    | m0 :: m1 :: M', _ => exact ⟨m0, m1, M', rfl⟩
  rw [hM] at hkey
  have hk0 : m0 = k.1 := by rw [← hkey]; rfl
  have hk1 : m1 = k.2 := by rw [← hkey]; rfl
  have cons : ∀ fr, Whole p false fr → DoneF p (fr :: fs) := fun fr hf => by
    match fs, hd with
    | g :: more, hd => exact ⟨hf, hd⟩
  rcases hs with ⟨rfl, g1, rfl⟩ | ⟨rfl, g1, g2, g3, g4⟩ | ⟨rfl, g1, g2, g3, g4, g5⟩
  · refine ⟨[p], cons _ ⟨rfl, rfl⟩, ?_, ?_, kv_one p []⟩
    · unfold scF
      rw [if_pos (by simp), hM]; simp; omega
    · rw [List.flatten_cons, hM, hk0]; rfl
  · obtain ⟨a, b⟩ := k'
    simp only at g2 g3 g4
    refine ⟨[a, b], cons _ ⟨g2, g3, by omega, by show a + b ≤ p; omega⟩, ?_, rfl, by rw [kv_two, if_neg (by omega), if_pos (by omega)]⟩
    unfold scF
    rw [if_pos (by simp; omega), hM]; simp; omega
  · obtain ⟨a, b⟩ := k'
    simp only at g2 g3 g4 g5
    refine ⟨[a, b], cons _ ⟨g2, g3, by omega, by show a + b ≤ p; omega⟩, ?_, rfl, by rw [kv_two, if_neg (by omega), if_neg (by omega)]⟩
    unfold scF
    rw [if_neg (by simp; omega)]; simp; omega
theorem shF_cons {p : Int} (fr : List Int) {fs : List (List Int)} (h : DoneF p fs) : shF p (fr :: fs) = scF p fr fs.flatten :: shF p fs := by
  match fs, h with
  | g :: more, _ => rfl
theorem tabG_before {p t : Int} (hp : 2 ≤ p) {n : Nat} {ts : List Int} {B : List TRow} (hne : ts ≠ []) (hB : TabOk p n B) (hK : TabK p ts B) (h : TabG p ts B) : TabG p (t :: ts) (beforeT p t B) := by
  rw [before_agg]
  refine tabG_fold hp (n := n + 1) _ [] .nil (fun _ h => by cases h) (fun _ h => by cases h) fun x hx => ?_
  obtain ⟨r, hr, k, v, hs, rfl⟩ := mem_cAll.mp hx
  have hrow := hB.row r hr
  refine ⟨step_put hp ⟨hrow, hK r hr⟩ hs, fun i kv w hw h3 hk => ?_⟩
  match i, hw with
  | 0, hw =>
    have hv : v = w := Option.some.inj hw
    obtain ⟨fs, g1, g2, g3⟩ := src_some hne (hK r hr) (h r hr)
    obtain ⟨fr, f1, f2, f3, f4⟩ := front_frame hp hrow.key hs fs g1 g3
    have hv3 : v = 1 ∨ v = 2 ∨ v = 4 := by rcases hs with hs | hs | hs <;> omega
    have := has_one hk (by rw [← hv]; exact hv3)
    refine ⟨fr :: fs, f1, by rw [shF_cons fr g1, f2, g2], f3, ?_⟩
    show some (kindV p fr) = some kv
    rw [f4, hv, this]
  | i + 1, hw =>
    obtain ⟨fs, g1, g2, g3, g4⟩ := h r hr i kv w (by simpa using hw) h3 hk
    obtain ⟨fr, f1, f2, f3, f4⟩ := front_frame hp hrow.key hs fs g1 g3
    exact ⟨fr :: fs, f1, by rw [shF_cons fr g1, f2, g2], f3, by simpa using g4⟩
theorem tabG_ok {p : Int} (hp : 2 ≤ p) (hp2 : p ≤ 10) : ∀ (ts : List Int), ts ≠ [] → ts.length ≤ 800 → TabG p ts (tabS p ts)
  | [], h, _ => absurd rfl h
  | [t], _, _ => tabG_last hp
  | t :: u :: ts, _, hl => by
    rw [List.length_cons] at hl
    obtain ⟨k1, k2⟩ := tabS_ok hp hp2 (u :: ts) (by simp) (by omega)
    exact tabG_before hp (by simp) k1 k2 (tabG_ok hp hp2 (u :: ts) (by simp) (by omega))
theorem game_cov {p : Int} (hp : 2 ≤ p) (hp2 : p ≤ 10) {fs : List (List Int)} (hd : DoneF p fs) (hl : fs.length ≤ 800) : (shF p fs).length = fs.length ∧ Cov (tabS p (shF p fs)) (key2 fs.flatten) (fs.map (kindV p)) := by
  have hne : fs ≠ [] := by rintro rfl; exact hd
  have hdo := doneF_ok (f := (fs.length : Int)) fs 0 hd (by omega)
  have := game_row hp hp2 fs 0 hne hl hdo (by omega)
  rw [shF_settled fs 0 hne hdo (by omega)] at this
  exact this
theorem tab_game {p : Int} (hp : 2 ≤ p) (hp2 : p ≤ 10) {ts : List Int} (hne : ts ≠ []) (hl : ts.length ≤ 800) : tabS p ts ≠ [] ↔ ∃ fs, DoneF p fs ∧ shF p fs = ts ∧ fs.length = ts.length := by
  obtain ⟨k1, k2⟩ := tabS_ok hp hp2 ts hne hl
  have hg := tabG_ok hp hp2 ts hne hl
  have hlen : ∀ fs, shF p fs = ts → fs.length = ts.length := fun fs h => by
    have key : ∀ fs : List (List Int), (shF p fs).length = fs.length := by
      intro fs
      induction fs with
      | nil => rfl
      | cons a l ih =>
        cases l with
        | nil => rfl
        | cons b l => show (_ :: shF p (b :: l)).length = _; rw [List.length_cons, ih]; rfl
    rw [← h, key]
  constructor
  · intro h
    cases hT : tabS p ts with
    | nil => exact absurd hT h
    | cons r T =>
      have hr : r ∈ tabS p ts := by rw [hT]; exact List.mem_cons_self
      obtain ⟨fs, g1, g2, _⟩ := src_some hne (k2 r hr) (hg r hr)
      exact ⟨fs, g1, g2, hlen fs g2⟩
  · rintro ⟨fs, g1, g2, g3⟩
    obtain ⟨_, hc⟩ := game_cov hp hp2 g1 (by omega)
    rw [g2] at hc
    obtain ⟨r, hr, _⟩ := hc
    intro z; rw [z] at hr; cases hr
/-- the kinds of all rows are just those of games -/
theorem kinds_from {p : Int} {ts : List Int} : ∀ (T : List TRow) (acc : List Int), TabK p ts T → Paired (KOk p) ts acc → 2 ≤ p → ∀ (i : Nat) (kv v : Int), (T.foldl (fun acc r => List.zipWith Builtin.bitOr acc r.2.2) acc)[i]? = some v → K3 kv → HasK kv v → (∃ w, acc[i]? = some w ∧ HasK kv w) ∨ ∃ r ∈ T, ∃ w, r.2.2[i]? = some w ∧ HasK kv w
  | [], acc, _, _, _, i, kv, v, h, _, hk => .inl ⟨v, h, hk⟩
  | r :: T, acc, hT, ha, hp, i, kv, v, h, h3, hk => by
    have hr := hT r List.mem_cons_self
    rw [List.foldl_cons] at h
    rcases kinds_from T _ (fun q hq => hT q (List.mem_cons_of_mem _ hq)) (paired_or hp ha hr) hp i kv v h h3 hk with ⟨w, hw, hkw⟩ | ⟨q, hq, w, hw, hkw⟩
    · obtain ⟨a, c, h1, h2, rfl⟩ := zip_get hw
      obtain ⟨t, ht, ka⟩ := paired_get ha h1
      obtain ⟨t', ht', kc⟩ := paired_get hr h2
      rw [ht] at ht'
      cases ht'
      rcases or_has hp h3 ka kc hkw with h | h
      · exact .inl ⟨a, h1, h⟩
      · exact .inr ⟨r, List.mem_cons_self, c, h2, h⟩
    · exact .inr ⟨q, List.mem_cons_of_mem _ hq, w, hw, hkw⟩
theorem kindsT_iff {p : Int} (hp : 2 ≤ p) (hp2 : p ≤ 10) {ts : List Int} (hne : ts ≠ []) (hl : ts.length ≤ 800) (hT : tabS p ts ≠ []) {i : Nat} {v : Int} (hv : (kindsT ts.length (tabS p ts))[i]? = some v) {kv : Int} (h3 : K3 kv) :
    HasK kv v ↔ ∃ fs, DoneF p fs ∧ shF p fs = ts ∧ (fs[i]?).map (kindV p) = some kv := by
  obtain ⟨k1, k2⟩ := tabS_ok hp hp2 ts hne hl
  have hg := tabG_ok hp hp2 ts hne hl
  constructor
  · intro hk
    cases e : tabS p ts with
    | nil => exact absurd e hT
    | cons r T =>
      rw [e] at hv k2 hg
      unfold kindsT at hv
      rw [List.foldl_cons, paired_zero (k2 r List.mem_cons_self)] at hv
      have : ∃ q ∈ r :: T, ∃ w, q.2.2[i]? = some w ∧ HasK kv w := by
        rcases kinds_from T _ (fun q hq => k2 q (List.mem_cons_of_mem _ hq)) (k2 r List.mem_cons_self) hp i kv v hv h3 hk with h | ⟨q, hq, h⟩
        · exact ⟨r, List.mem_cons_self, h⟩
        · exact ⟨q, List.mem_cons_of_mem _ hq, h⟩
      obtain ⟨q, hq, w, hw, hkw⟩ := this
      obtain ⟨fs, g1, g2, _, g4⟩ := hg q hq i kv w hw h3 hkw
      exact ⟨fs, g1, g2, g4⟩
  · rintro ⟨fs, g1, g2, g3⟩
    have hlen : fs.length = ts.length := by
      have key : ∀ fs : List (List Int), (shF p fs).length = fs.length := by
        intro fs
        induction fs with
        | nil => rfl
        | cons a l ih =>
          cases l with
          | nil => rfl
          | cons b l => show (_ :: shF p (b :: l)).length = _; rw [List.length_cons, ih]; rfl
      rw [← g2, key]
    obtain ⟨_, hc⟩ := game_cov hp hp2 g1 (by omega)
    rw [g2] at hc
    have hh := kindsT_has hp k2 hc
    have get : ∀ {kl vs : List Int} {i : Nat} {v kv : Int}, Paired HasK kl vs → vs[i]? = some v → kl[i]? = some kv → HasK kv v := by
      intro kl vs i v kv h
      induction h generalizing i with
      | nil => intro h; simp at h
      | cons h1 _ ih =>
        intro h2 h4
        cases i with
        | zero => simp at h2 h4; subst h2 h4; exact h1
        | succ i => exact ih (by simpa using h2) (by simpa using h4)
    exact get hh hv (by rw [List.getElem?_map]; exact g3)
/-! ## beginnings -/
theorem key_game {p : Int} (hp : 2 ≤ p) : ∀ (m : Nat) (k : K2), KeyOk p k → ∃ gs, DoneF p gs ∧ gs.length = m + 1 ∧ key2 gs.flatten = k
  | 0, (a, b), ⟨h1, h2, h3, h4, h5⟩ => by
    simp only at h1 h2 h3 h4 h5
    by_cases ha : a = p
    · exact ⟨[[a, b, 0]], ⟨rfl, h1, h2, h3, h4, Int.le_refl 0, by omega, .inl ⟨ha, by omega⟩⟩, rfl, rfl⟩
    · by_cases hb : a + b = p
      · exact ⟨[[a, b, 0]], ⟨rfl, h1, h2, h3, h4, Int.le_refl 0, by omega, .inr ⟨by omega, hb⟩⟩, rfl, rfl⟩
      · exact ⟨[[a, b]], ⟨h1, by omega, h3, by show a + b < p; have := h5 (by omega); omega⟩, rfl, rfl⟩
  | m + 1, (a, b), ⟨h1, h2, h3, h4, h5⟩ => by
    simp only at h1 h2 h3 h4 h5
    by_cases ha : a = p
    · obtain ⟨gs, g1, g2, g3⟩ := key_game hp m (b, 0) ⟨h3, h4, Int.le_refl 0, by show (0 : Int) ≤ p; omega, fun _ => by show b + 0 ≤ p; omega⟩
      match gs, g1, g2, g3 with
      | g :: more, g1, g2, g3 =>
        have hflat := doneF_two _ g1
        refine ⟨[p] :: g :: more, ⟨⟨rfl, rfl⟩, g1⟩, by rw [List.length_cons, g2], ?_⟩
        rw [List.flatten_cons]
        match (g :: more).flatten, hflat, g3 with
        | m0 :: m1 :: M', _, g3 =>
          have : m0 = b := congrArg (·.1) g3
          show (p, m0) = (a, b)
          rw [this, ha]
    · obtain ⟨gs, g1, g2, g3⟩ := key_game hp m (0, 0) ⟨Int.le_refl 0, by show (0 : Int) ≤ p; omega, Int.le_refl 0, by show (0 : Int) ≤ p; omega, fun _ => by show (0 : Int) + 0 ≤ p; omega⟩
      match gs, g1, g2 with
      | g :: more, g1, g2 =>
        exact ⟨[a, b] :: g :: more, ⟨⟨h1, by omega, h3, by show a + b ≤ p; exact h5 (by omega)⟩, g1⟩, by rw [List.length_cons, g2], rfl⟩
theorem front_game {p : Int} (hp : 2 ≤ p) (hp2 : p ≤ 10) (m : Nat) : ∀ (ts : List Int), ts.length ≤ 800 → ∀ k, k ∈ (frontT p (anyT p) ts).map (·.1) → ∃ fs, DoneF p fs ∧ fs.length = ts.length + (m + 1) ∧ (shF p fs).take ts.length = ts ∧ key2 fs.flatten = k
  | [], _, k, hk => by
    obtain ⟨gs, g1, g2, g3⟩ := key_game hp m k (((any_ok hp hp2).2.1 k).mp hk)
    exact ⟨gs, g1, by rw [g2]; simp, rfl, g3⟩
  | t :: ts, hl, k, hk => by
    rw [List.length_cons] at hl
    have hT := front_ok hp hp2 (any_ok hp hp2).1 ts (by omega)
    obtain ⟨r, hr, hm⟩ := ((before_ok (total := t) hp hp2 (by omega) hT).2.1 k).mp hk
    obtain ⟨fs, g1, g2, g3, g4⟩ := front_game hp hp2 m ts (by omega) r.1 (List.mem_map_of_mem hr)
    have hs : ∃ v, Step p t r.1 k v := by
      obtain ⟨h1, h2, h3, h4, _⟩ := (hT.row r hr).key
      rcases hm with ⟨e1, e2⟩ | ⟨e1, e2, e3, e4⟩ | ⟨e1, e2, e3, e4⟩
      · exact ⟨4, .inl ⟨rfl, e1, e2⟩⟩
      · exact ⟨2, .inr (.inl ⟨rfl, e1, e2, e3, e4⟩)⟩
      · exact ⟨1, .inr (.inr ⟨rfl, e1, e2, by omega, by omega, by omega⟩)⟩
    obtain ⟨v, hs⟩ := hs
    obtain ⟨fr, f1, f2, f3, _⟩ := front_frame hp (hT.row r hr).key hs fs g1 g4
    refine ⟨fr :: fs, f1, by simp only [List.length_cons]; omega, ?_, f3⟩
    rw [shF_cons fr g1, f2, List.length_cons, List.take_succ_cons, g3]
theorem take_game {f p : Int} (hp : 2 ≤ p) (hp2 : p ≤ 10) (f1 : 1 ≤ f) {sheet : List Int} (hl : (sheet.length : Int) = f) (hl2 : sheet.length ≤ 800) {j : Nat} (hj : j ≤ sheet.length) (hj1 : 1 ≤ j) : tableT f p (sheet.take j) ≠ [] ↔ ∃ fs, DoneF p fs ∧ fs.length = sheet.length ∧ (shF p fs).take j = sheet.take j := by
  by_cases hfull : j = sheet.length
  · rw [hfull, List.take_length, table_full f1 hl, tab_game hp hp2 (by rintro rfl; simp at hl; omega) hl2]
    constructor
    · rintro ⟨fs, g1, g2, g3⟩
      exact ⟨fs, g1, g3, by rw [g2, List.take_length]⟩
    · rintro ⟨fs, g1, g2, g3⟩
      refine ⟨fs, g1, ?_, g2⟩
      obtain ⟨hln, _⟩ := game_cov hp hp2 g1 (by omega)
      rw [List.take_of_length_le (by omega)] at g3
      exact g3
  · have hlt : j < sheet.length := by omega
    have htl : (sheet.take j).length = j := by rw [List.length_take]; omega
    have e2 : tableT f p (sheet.take j) = frontT p (anyT p) (sheet.take j) := by
      unfold tableT
      rw [if_neg (by rw [htl]; omega)]
    constructor
    · intro h
      rw [e2] at h
      cases hT : frontT p (anyT p) (sheet.take j) with
      | nil => exact absurd hT h
      | cons r T =>
        obtain ⟨fs, g1, g2, g3, _⟩ := front_game hp hp2 (sheet.length - j - 1) (sheet.take j) (by omega) r.1 (by rw [hT]; exact List.mem_cons_self)
        rw [htl] at g2 g3
        exact ⟨fs, g1, by omega, g3⟩
    · rintro ⟨fs, g1, g2, g3⟩
      obtain ⟨hln, hc⟩ := game_cov hp hp2 g1 (by omega)
      have hne : tableT f p (shF p fs) ≠ [] := by
        rw [table_full f1 (by omega)]
        obtain ⟨r, hr, _⟩ := hc
        intro z; rw [z] at hr; cases hr
      have := table_take hp hp2 f1 (sheet := shF p fs) (by omega) (by omega) hne j (by omega)
      rw [g3] at this
      exact this
end My
namespace My
open PySem L2 FL
/-! ## the list of all games, by frames -/
theorem split_game {f p : Int} (hp : 2 ≤ p) {fs : List (List Int)} (hd : DoneF p fs) (hl : (fs.length : Int) = f) : splitS f p ([], []) fs.flatten = some (fs, []) := by
  have := split_done (f := f) hp fs [] (by simpa using doneF_ok (f := f) fs 0 hd (by omega))
  simpa using this
theorem gf_nodup {p : Int} (h1 : (lastL p).Nodup) (h2 : (wholeL p).Nodup) : ∀ n, (gf p n).Nodup
  | 0 => List.nodup_nil
  | 1 => by
    show ((lastL p).map fun fr => [fr]).Nodup
    rw [List.nodup_iff_pairwise_ne, List.pairwise_map]
    exact (List.nodup_iff_pairwise_ne.mp h1).imp fun h e => h (by simpa using e)
  | n + 2 => by
    refine nodup_flatMap _ _ (gf_nodup h1 h2 (n + 1)) (fun fs _ => ?_) fun a _ b _ y ha hb => ?_
    · rw [List.nodup_iff_pairwise_ne, List.pairwise_map]
      exact (List.nodup_iff_pairwise_ne.mp h2).imp fun h e => h (by simpa using e)
    · obtain ⟨fr, _, rfl⟩ := List.mem_map.mp ha
      obtain ⟨fr', _, e⟩ := List.mem_map.mp hb
      injection e with _ e
      exact e.symm
theorem ends_game {f p : Int} (f1 : 1 ≤ f) (f2 : f ≤ 10) (p1 : 2 ≤ p) (p2 : p ≤ 10) (m : List Int) : Ends p (sOf f p []) m ↔ ∃ fs, fs ∈ gf p f.toNat ∧ fs.flatten = m := by
  constructor
  · intro h
    obtain ⟨y, g, ho⟩ := (Game.nil f1 f2 p1 p2).ended h
    rw [List.nil_append] at g ho
    have hlen : (y.1.length : Int) = f := g.over.mp ho
    have hs := shown_over hlen
    refine ⟨y.1, (mem_gf p1 _ _).mpr ⟨doneF_of (f := f) y.1 0 (fun z => by rw [z] at hlen; simp at hlen; omega) g.done (by omega), by omega⟩, ?_⟩
    rw [← hs]; exact g.rolls_eq.symm
  · rintro ⟨fs, hfs, rfl⟩
    obtain ⟨hd, hl⟩ := (mem_gf p1 _ _).mp hfs
    have hl2 : (fs.length : Int) = f := by omega
    have g : Game f p ([] ++ fs.flatten) (fs, []) := ⟨f1, f2, p1, p2, by rw [List.nil_append]; exact split_game p1 hd hl2⟩
    exact (Game.nil f1 f2 p1 p2).ends g (g.over.mpr hl2)
def frOf (f p : Int) (m : List Int) : List (List Int) := ((splitS f p ([], []) m).map (·.1)).getD []
theorem fr_of {f p : Int} (f1 : 1 ≤ f) (hp : 2 ≤ p) {fs : List (List Int)} (h : fs ∈ gf p f.toNat) : frOf f p fs.flatten = fs := by
  obtain ⟨hd, hl⟩ := (mem_gf hp _ _).mp h
  unfold frOf
  rw [split_game hp hd (by omega)]
  rfl
theorem games_list {f p : Int} (f1 : 1 ≤ f) (f2 : f ≤ 10) (p1 : 2 ≤ p) (p2 : p ≤ 10) (h1 : (lastL p).Nodup) (h2 : (wholeL p).Nodup) {A : List (List Int)} (hA : ∀ m, m ∈ A ↔ Ends p (sOf f p []) m) (hn : A.Nodup) :
    ∃ G : List (List (List Int)), A = G.map List.flatten ∧ G.Perm (gf p f.toNat) := by
  have hgn : ((gf p f.toNat).map List.flatten).Nodup := by
    rw [List.nodup_iff_pairwise_ne, List.pairwise_map]
    refine (List.nodup_iff_pairwise_ne.mp (gf_nodup h1 h2 f.toNat)).imp_of_mem fun {a b} ha hb hne e => hne ?_
    rw [← fr_of f1 p1 ha, ← fr_of f1 p1 hb, e]
  have hperm : A.Perm ((gf p f.toNat).map List.flatten) := by
    rw [List.perm_ext_iff_of_nodup hn hgn]
    intro m
    rw [hA, ends_game f1 f2 p1 p2, List.mem_map]
  refine ⟨A.map (frOf f p), ?_, ?_⟩
  · rw [List.map_map]
    have : A.map (List.flatten ∘ frOf f p) = A.map id := by
      apply List.map_congr_left
      intro m hm
      obtain ⟨fs, hfs, rfl⟩ := List.mem_map.mp (hperm.mem_iff.mp hm)
      show (frOf f p fs.flatten).flatten = fs.flatten
      rw [fr_of f1 p1 hfs]
    rw [this, List.map_id]
  · have h3 := hperm.map (frOf f p)
    rw [List.map_map] at h3
    have : (gf p f.toNat).map (frOf f p ∘ List.flatten) = (gf p f.toNat).map id := by
      apply List.map_congr_left
      intro fs hfs
      exact fr_of f1 p1 hfs
    rw [this, List.map_id] at h3
    exact h3
/-! ## the games of one sheet -/
def rowsG (p : Int) (L : List (List (List Int))) (s : List Int) : List (List (List Int)) := L.filter fun fs => decide (shF p fs = s)
def anyK (p : Int) (L : List (List (List Int))) (s : List Int) (i : Nat) (kv : Int) : Bool := (rowsG p L s).any fun fs => decide ((fs[i]?).map (kindV p) = some kv)
theorem rows_count {f p : Int} (f1 : 1 ≤ f) (f2 : f ≤ 10) (p1 : 2 ≤ p) (p2 : p ≤ 10) {G : List (List (List Int))} (hG : G.Perm (gf p f.toNat)) {s : List Int} (hs : (s.length : Int) = f) : cntT (tableT f p s) = ((rowsG p G s).length : Int) := by
  have hn : s.length = f.toNat := by omega
  rw [table_full f1 hs, cnt_gf p1 p2 s (by rintro rfl; simp at hs; omega) (by omega), hn]
  unfold rowsG
  rw [(hG.filter _).length_eq]
theorem mem_rows {f p : Int} (p1 : 2 ≤ p) {G : List (List (List Int))} (hG : G.Perm (gf p f.toNat)) {s : List Int} {fs : List (List Int)} : fs ∈ rowsG p G s ↔ DoneF p fs ∧ fs.length = f.toNat ∧ shF p fs = s := by
  unfold rowsG
  rw [List.mem_filter, hG.mem_iff, mem_gf p1, decide_eq_true_iff]
  exact and_assoc
theorem shF_len {p : Int} : ∀ fs : List (List Int), (shF p fs).length = fs.length
  | [] => rfl
  | [_] => rfl
  | a :: b :: l => by
    show (_ :: shF p (b :: l)).length = _
    rw [List.length_cons, shF_len (b :: l)]; rfl
theorem any_iff {f p : Int} (p1 : 2 ≤ p) {G : List (List (List Int))} (hG : G.Perm (gf p f.toNat)) {s : List Int} (hs : (s.length : Int) = f) (i : Nat) (kv : Int) : anyK p G s i kv = true ↔ ∃ fs, DoneF p fs ∧ shF p fs = s ∧ (fs[i]?).map (kindV p) = some kv := by
  unfold anyK
  rw [List.any_eq_true]
  constructor
  · rintro ⟨fs, h1, h2⟩
    obtain ⟨g1, g2, g3⟩ := (mem_rows p1 hG).mp h1
    exact ⟨fs, g1, g3, of_decide_eq_true h2⟩
  · rintro ⟨fs, g1, g2, g3⟩
    have := shF_len (p := p) fs
    rw [g2] at this
    exact ⟨fs, (mem_rows p1 hG).mpr ⟨g1, by omega, g2⟩, decide_eq_true g3⟩
theorem marks_any {f p : Int} (f1 : 1 ≤ f) (f2 : f ≤ 10) (p1 : 2 ≤ p) (p2 : p ≤ 10) {G : List (List (List Int))} (hG : G.Perm (gf p f.toNat)) {s : List Int} (hs : (s.length : Int) = f) {i : Nat} {v : Int} (hv : (kindsT s.length (tableT f p s))[i]? = some v) :
    bitB v 0 = anyK p G s i 1 ∧ bitB v 1 = anyK p G s i 2 ∧ bitB v 2 = anyK p G s i 4 := by
  have hne : s ≠ [] := by rintro rfl; simp at hs; omega
  rw [table_full f1 hs] at hv
  by_cases hT : tabS p s = []
  · rw [hT] at hv
    have h0 : v = 0 := by
      have : v ∈ List.replicate s.length (0 : Int) := List.mem_of_getElem? hv
      exact (List.mem_replicate.mp this).2
    have hno : ∀ kv, anyK p G s i kv = false := fun kv => by
      rw [Bool.eq_false_iff]
      intro h
      obtain ⟨fs, g1, g2, _⟩ := (any_iff p1 hG hs i kv).mp h
      refine (tab_game p1 p2 hne (by omega)).mpr ⟨fs, g1, g2, ?_⟩ hT
      rw [← g2, shF_len]
    rw [hno, hno, hno, h0]
    decide
  · obtain ⟨k1, k2⟩ := tabS_ok p1 p2 s hne (by omega)
    have hk := kinds_pair p1 k2 hT
    obtain ⟨t, _, hk1⟩ := paired_get hk hv
    have hv2 : v = 1 ∨ v = 2 ∨ v = 4 ∨ v = 6 := by unfold KOk at hk1; omega
    have key : ∀ kv, K3 kv → (anyK p G s i kv = decide (v = kv ∨ (v = 6 ∧ (kv = 2 ∨ kv = 4)))) := fun kv h3 => by
      have h4 := kindsT_iff p1 p2 hne (by omega) hT hv h3
      have h5 := any_iff p1 hG hs i kv
      rw [Bool.eq_iff_iff, h5, decide_eq_true_iff, ← h4]
      rfl
    rw [key 1 (.inl rfl), key 2 (.inr (.inl rfl)), key 4 (.inr (.inr rfl))]
    rcases hv2 with rfl | rfl | rfl | rfl <;> decide
def badL (f p : Int) (s : List Int) (is : List Nat) : List Nat := is.filter fun i => decide (tableT f p (s.take (i + 1)) = [])
theorem bad_first {f p : Int} {s : List Int} : ∀ is : List Nat, (badL f p s is).head? = firstF f p s is
  | [] => rfl
  | i :: is => by
    unfold badL firstF
    rw [List.filter_cons]
    by_cases h : tableT f p (s.take (i + 1)) = []
    · simp [h]
    · have := bad_first (f := f) (p := p) (s := s) is
      unfold badL at this
      simp [h, this]
end My
namespace My
open PySem L2 FL
/-! ## the kinds of a game's frames -/
def kS (v : Int) : Str := if v = 4 then mkX else if v = 2 then mkS else mkO
abbrev kL (p : Int) (fs : List (List Int)) : List D := fs.map fun fr => .str (kS (kindV p fr))
def FrF (p : Int) (fr : List Int) : Prop := ∃ a l, fr = a :: l ∧ (l = [] → a = p) ∧ 0 ≤ a ∧ a ≤ p ∧ ∀ c m, l = c :: m → 0 ≤ c ∧ c ≤ p
theorem whole_frF {p : Int} {last : Bool} (hp : 2 ≤ p) {fr : List Int} (h : Whole p last fr) : FrF p fr := by
  match fr, h with
  | [a], ⟨h1, h2⟩ => exact ⟨a, [], rfl, fun _ => h2, by omega, by omega, fun c m e => by cases e⟩
  | [a, c], ⟨h1, h2, h3, h4⟩ =>
    have h5 : a + c ≤ p := by split at h4 <;> omega
    exact ⟨a, [c], rfl, (fun e => by cases e), h1, by omega, (fun d m e => by cases e; omega)⟩
  | [a, c, d], ⟨_, h1, h2, h3, h4, _⟩ => exact ⟨a, [c, d], rfl, (fun e => by cases e), h1, h2, (fun x m e => by cases e; exact ⟨h3, h4⟩)⟩
theorem kind_ok {p : Int} (hp2 : p ≤ 10) {fr : List Int} (h : FrF p fr) : fnLawKind [.val (.int p), .val (tI fr)] = some (.val (.str (kS (kindV p fr))), [.val (.int p), .val (tI fr)]) := by
  obtain ⟨a, l, rfl, h1, h2, h3, h4⟩ := h
  have x0 : oIx (tI (a :: l)) (.int 0) = some (.val (.int a)) := by rw [ixT]; simp
  rw [fnLawKind, defF_eq]
  by_cases ha : a = p
  · subst ha
    rw [kv_one]
    generalize tI (a :: l) = FD at *
    simp [gLawKind, x0, kS, -ixT]
  · match l, h1, h4 with
    | [], h1, _ => exact absurd (h1 rfl) ha
    | c :: m, _, h4 =>
      have hc := h4 c m rfl
      have x1 : oIx (tI (a :: c :: m)) (.int 1) = some (.val (.int c)) := by rw [ixT]; simp
      have r1 : -1000000 ≤ a + c ∧ a + c ≤ 1000000 := by omega
      rw [kv_two, if_neg ha]
      generalize tI (a :: c :: m) = FD at *
      by_cases hb : a + c = p
      · simp [gLawKind, x0, x1, kS, ha, hb, r1, -ixT]
      · simp [gLawKind, x0, x1, kS, ha, hb, r1, -ixT]
theorem kinds_comp {f p : Int} (hp2 : p ≤ 10) (s0 s1 s3 s4 s5 s6 s7 s8 s9 s10 s11 s12 s13 s14 s16 s17 : Sl) : ∀ (frs : List (List Int)) (acc : List D), (∀ fr ∈ frs, FrF p fr) → acc.length + frs.length ≤ 1000 →
    lcL (.nm 15) (fC (.bl true)) gLaw_e1 [15] (frs.map tI) acc [s0, s1, .val (rulesD f p), s3, s4, s5, s6, s7, s8, s9, s10, s11, s12, s13, s14, .no, s16, s17] = some (acc ++ kL p frs, [s0, s1, .val (rulesD f p), s3, s4, s5, s6, s7, s8, s9, s10, s11, s12, s13, s14, .no, s16, s17])
  | [], acc, _, _ => by simp
  | fr :: frs, acc, hf, hl => by
    rw [List.length_cons] at hl
    have ih := kinds_comp (f := f) hp2 s0 s1 s3 s4 s5 s6 s7 s8 s9 s10 s11 s12 s13 s14 s16 s17 frs (acc ++ [.str (kS (kindV p fr))]) (fun q hq => hf q (List.mem_cons_of_mem _ hq)) (by simp; omega)
    have hk := kind_ok hp2 (hf fr List.mem_cons_self)
    have hc : acc.length < 1000000 := by omega
    have e2 : acc ++ kL p (fr :: frs) = (acc ++ [.str (kS (kindV p fr))]) ++ kL p frs := by simp [kL]
    rw [e2, ← ih, List.map_cons, lcL_cons]
    generalize tI fr = FD at *
    simp [gLaw_e1, hk, cap, hc]
/-! ## dicts whose keys are sheets -/
theorem keysOf_I : ∀ ns : List Int, keysOf (ns.map D.int) = some (ns.map Sum.inl)
  | [] => rfl
  | n :: ns => by
    rw [List.map_cons, keysOf, keysOf_I ns]; rfl
theorem eqDs_over : ∀ ns : List Int, eqDs (ns.map D.int) overD = false
  | [] => rfl
  | [_] => by simp [overD, eqDs]
  | [_, _] => by simp [overD, eqDs]
  | [_, _, _] => by simp [overD, eqDs]
  | a :: b :: c :: d :: l => by
    have : eqD (.int d) (.str "over") = false := rfl
    simp [overD, eqDs, this]
theorem toKey_I (ns : List Int) : toKey (ns.map D.int) = some (ns.map Sum.inl) := by
  unfold toKey
  rw [eqDs_over, if_neg (by decide), keysOf_I]
abbrev kI (ns : List Int) : List Key := ns.map Sum.inl
theorem kI_inj {a b : List Int} : kI a = kI b ↔ a = b := by
  constructor
  · intro h
    induction a generalizing b with
    | nil => cases b with
      | nil => rfl
      | cons _ _ => cases h
    | cons x a ih => cases b with
      | nil => cases h
      | cons y b =>
        injection h with h1 h2
        injection h1 with h1
        rw [h1, ih h2]
  · intro h; rw [h]
theorem valD_other {kvs : List (List Key × D)} {k k' : List Key} {v : D} (h : k' ≠ k) : valD (putD kvs k v) k' = valD kvs k' := by
  unfold putD
  split
  · unfold valD
    rw [List.find?_map]
    have e : ((fun kv : List Key × D => decide (kv.1 = k')) ∘ fun kv => if kv.1 = k then (kv.1, v) else kv) = fun kv => decide (kv.1 = k') := by
      funext kv
      show decide ((if kv.1 = k then (kv.1, v) else kv).1 = k') = _
      split <;> rfl
    rw [e]
    cases hq : kvs.find? (fun kv => decide (kv.1 = k')) with
    | none => rfl
    | some q =>
      have hq2 := List.find?_some hq
      have hq3 : q.1 = k' := of_decide_eq_true hq2
      show some (if q.1 = k then (q.1, v) else q).2 = some q.2
      rw [if_neg (by rw [hq3]; exact h)]
  · unfold valD
    rw [List.find?_append]
    cases hq : kvs.find? (fun kv => decide (kv.1 = k')) with
    | none =>
      have : List.find? (fun kv : List Key × D => decide (kv.1 = k')) [(k, v)] = none := by
        rw [List.find?_cons]
        rw [decide_eq_false (fun z => h z.symm)]
        rfl
      rw [this]; rfl
    | some q => rfl
theorem putD_len (kvs : List (List Key × D)) (k : List Key) (v : D) : (putD kvs k v).length ≤ kvs.length + 1 := by
  unfold putD
  split
  · rw [List.length_map]; omega
  · rw [List.length_append]; exact Nat.le_refl _
theorem putD_ne (kvs : List (List Key × D)) (k : List Key) (v : D) : putD kvs k v ≠ [] := by
  unfold putD
  split
  · rename_i h
    intro z
    rw [List.map_eq_nil_iff] at z
    rw [z] at h; cases h
  · intro z
    rw [List.append_eq_nil_iff] at z
    exact absurd z.2 (by simp)
end My
namespace My
open PySem L2 FL
/-! ## the two dicts -/
theorem beg_step (s0 s1 s2 s3 s5 s7 s9 s10 s11 s12 s13 s14 s15 s16 s17 : Sl) (sh : List Int) (bg : List (List Key × D)) (j : Nat) (hl : bg.length < 1000000) :
    gLaw_b2 [s0, s1, s2, s3, .own false (.dic bg), s5, .val (tI sh), s7, .val (.int (j : Int)), s9, s10, s11, s12, s13, s14, s15, s16, s17] = some (.nx, [s0, s1, s2, s3, .own false (.dic (putD bg (kI (sh.take j)) (.bl true))), s5, .val (tI sh), s7, .val (.int (j : Int)), s9, s10, s11, s12, s13, s14, s15, s16, s17]) := by
  have h1 := slice_take sh (k := (j : Int)) (by omega)
  rw [Int.toNat_natCast] at h1
  have h2 := toKey_I (sh.take j)
  generalize sh.take j = TK at *
  generalize (j : Int) = ji at *
  generalize tI sh = SH at *
  simp [gLaw_b2, h1, h2, cap, hl, -sliceT]
def isIn (bg : List (List Key × D)) (ns : List Int) : Bool := (valD bg (kI ns)).isSome
theorem isIn_put (bg : List (List Key × D)) (ns ms : List Int) (v : D) : isIn (putD bg (kI ms) v) ns = (isIn bg ns || decide (ns = ms)) := by
  unfold isIn
  by_cases h : ns = ms
  · rw [h, valD_put, decide_eq_true rfl, Bool.or_true]; rfl
  · rw [valD_other (fun z => h (kI_inj.mp z)), decide_eq_false h, Bool.or_false]
theorem beg_loop (s0 s1 s2 s3 s5 s7 s9 s10 s11 s12 s13 s14 s15 s16 s17 : Sl) (sh : List Int) : ∀ (js : List Nat) (bg : List (List Key × D)) (s8 : Sl), bg.length + js.length < 1000000 → Loose s8 →
    ∃ bg' t8, Loose t8 ∧ bg'.length ≤ bg.length + js.length ∧ (∀ ns, isIn bg' ns = true ↔ isIn bg ns = true ∨ ∃ j ∈ js, ns = sh.take j) ∧
    forL (.nm 8) gLaw_b2 (js.map fun (j : Nat) => D.int (j : Int)) [s0, s1, s2, s3, .own false (.dic bg), s5, .val (tI sh), s7, s8, s9, s10, s11, s12, s13, s14, s15, s16, s17] = some (.nx, [s0, s1, s2, s3, .own false (.dic bg'), s5, .val (tI sh), s7, t8, s9, s10, s11, s12, s13, s14, s15, s16, s17])
  | [], bg, s8, _, h8 => ⟨bg, s8, h8, Nat.le_refl _, fun ns => by simp, rfl⟩
  | j :: js, bg, s8, hl, h8 => by
    rw [List.length_cons] at hl
    have hp := putD_len bg (kI (sh.take j)) (.bl true)
    obtain ⟨bg', t8, q8, q1, q2, e⟩ := beg_loop s0 s1 s2 s3 s5 s7 s9 s10 s11 s12 s13 s14 s15 s16 s17 sh js (putD bg (kI (sh.take j)) (.bl true)) (.val (.int (j : Int))) (by omega) (Loose.val _)
    refine ⟨bg', t8, q8, by rw [List.length_cons]; omega, fun ns => ?_, ?_⟩
    · rw [q2, isIn_put, Bool.or_eq_true, decide_eq_true_iff]
      constructor
      · rintro ((h | h) | ⟨c, hc, h⟩)
        · exact .inl h
        · exact .inr ⟨j, List.mem_cons_self, h⟩
        · exact .inr ⟨c, List.mem_cons_of_mem _ hc, h⟩
      · rintro (h | ⟨c, hc, h⟩)
        · exact .inl (.inl h)
        · rcases List.mem_cons.mp hc with rfl | hc
          · exact .inl (.inr h)
          · exact .inr ⟨c, hc, h⟩
    · have hs := beg_step s0 s1 s2 s3 s5 s7 s9 s10 s11 s12 s13 s14 s15 s16 s17 sh bg j (by omega)
      have e0 : asg (.nm 8) (.int (j : Int)) [s0, s1, s2, s3, .own false (.dic bg), s5, .val (tI sh), s7, s8, s9, s10, s11, s12, s13, s14, s15, s16, s17] = some [s0, s1, s2, s3, .own false (.dic bg), s5, .val (tI sh), s7, .val (.int (j : Int)), s9, s10, s11, s12, s13, s14, s15, s16, s17] := by
        generalize (j : Int) = ji at *
        generalize tI sh = SH at *
        simp [h8.stored]
      rw [List.map_cons, forL_cons, e0, Option.bind_some, hs, forO_nx, e]
theorem b3_run (f p : Int) (RL SP : D) (FRS KDS KS xs : List D) (k : List Key) (kvs bg : List (List Key × D)) (s0 s1 s6 s7 s8 s9 s10 s11 s12 s13 s14 : Sl) (R : Option (Out × List Sl)) (h6 : FL.stored s6 = true) (h7 : FL.stored s7 = true) (rf : -1000000 ≤ f + 1 ∧ f + 1 ≤ 1000000)
    (hset : fnLawSettled [.val (rulesD f p), .val RL] = some (.own (.lst KS), [.val (rulesD f p), .val RL]))
    (hsp : fnLawSplit [.val (rulesD f p), .val RL] = some (.own SP, [.val (rulesD f p), .val RL]))
    (hcut : oSlice SP none (some f) = some (.own (.lst FRS)))
    (hlc : ∀ s7, lcL (.nm 15) (fC (.bl true)) gLaw_e1 [15] FRS [] [s0, s1, .val (rulesD f p), .own false (.dic kvs), .own false (.dic bg), .val RL, .val (.tup KS), s7, s8, s9, s10, s11, s12, s13, s14, .no, .no, .no] = some (KDS, [s0, s1, .val (rulesD f p), .own false (.dic kvs), .own false (.dic bg), .val RL, .val (.tup KS), s7, s8, s9, s10, s11, s12, s13, s14, .no, .no, .no]))
    (htk : toKey KS = some k) (hv : (valD kvs k = none ∧ xs = []) ∨ valD kvs k = some (.lst xs)) (hl : kvs.length < 1000000) (hx : xs.length + 1 ≤ 1000000)
    (hfor : forL (.nm 8) gLaw_b2 (rg2 1 f.toNat) [s0, s1, .val (rulesD f p), .own false (.dic (putD kvs k (.lst (xs ++ [.lst KDS])))), .own false (.dic bg), .val RL, .val (.tup KS), .val (.lst KDS), s8, s9, s10, s11, s12, s13, s14, .no, .no, .no] = R) :
    gLaw_b3 [s0, s1, .val (rulesD f p), .own false (.dic kvs), .own false (.dic bg), .val RL, s6, s7, s8, s9, s10, s11, s12, s13, s14, .no, .no, .no] = R := by
  have e1 : f + 1 - 1 = f := by omega
  rcases hv with ⟨hv, rfl⟩ | hv
  · rw [List.nil_append] at hfor
    simp [gLaw_b3, h6, h7, rf, hset, hsp, hcut, hlc, htk, hv, hl, hx, cap, e1, hfor, -sliceT, -sliceL]
  · simp [gLaw_b3, h6, h7, rf, hset, hsp, hcut, hlc, htk, hv, hl, hx, cap, e1, hfor, -sliceT, -sliceL]
abbrev rowD (p : Int) (fs : List (List Int)) : D := .lst (kL p fs)
structure TabI (p : Int) (f : Nat) (L : List (List (List Int))) (kvs : List (List Key × D)) : Prop where
  keys : ∀ kv ∈ kvs, ∃ ns : List Int, kv.1 = kI ns ∧ ns.length = f
  vals : ∀ s, valD kvs (kI s) = if rowsG p L s = [] then none else some (.lst ((rowsG p L s).map (rowD p)))
  len : kvs.length ≤ L.length
  ne : L ≠ [] → kvs ≠ []
structure BegI (p : Int) (f : Nat) (L : List (List (List Int))) (bg : List (List Key × D)) : Prop where
  has : ∀ ns, isIn bg ns = true ↔ ns = [] ∨ ∃ fs ∈ L, ∃ j, 1 ≤ j ∧ j ≤ f ∧ ns = (shF p fs).take j
  len : bg.length ≤ 1 + f * L.length
theorem TabI.nil {p : Int} {f : Nat} : TabI p f [] [] := ⟨(fun _ h => by cases h), (fun s => by simp [rowsG, valD]), Nat.le_refl _, fun h => absurd rfl h⟩
theorem BegI.nil {p : Int} {f : Nat} : BegI p f [] [([], .bl true)] := ⟨fun ns => by
  cases ns with
  | nil => simp [isIn, valD]
  | cons a l => simp [isIn, valD], by simp⟩
theorem rowsG_snoc (p : Int) (L : List (List (List Int))) (fs : List (List Int)) (s : List Int) : rowsG p (L ++ [fs]) s = rowsG p L s ++ if shF p fs = s then [fs] else [] := by
  unfold rowsG
  rw [List.filter_append]
  congr 1
  by_cases h : shF p fs = s <;> simp [h]
theorem TabI.add {p : Int} {f : Nat} {L : List (List (List Int))} {kvs : List (List Key × D)} (h : TabI p f L kvs) {fs : List (List Int)} (hl : fs.length = f) :
    TabI p f (L ++ [fs]) (putD kvs (kI (shF p fs)) (.lst ((rowsG p L (shF p fs)).map (rowD p) ++ [rowD p fs]))) := by
  refine ⟨fun kv hkv => ?_, fun s => ?_, ?_, fun _ => putD_ne _ _ _⟩
  · rcases put_mem hkv with h1 | rfl
    · exact h.keys kv h1
    · exact ⟨shF p fs, rfl, by rw [shF_len, hl]⟩
  · rw [rowsG_snoc]
    by_cases hs : shF p fs = s
    · rw [← hs, valD_put, if_pos rfl, if_neg (by simp), List.map_append]; rfl
    · rw [valD_other (fun z => hs (kI_inj.mp z).symm), if_neg hs, List.append_nil]
      exact h.vals s
  · have := putD_len kvs (kI (shF p fs)) (.lst ((rowsG p L (shF p fs)).map (rowD p) ++ [rowD p fs]))
    have := h.len
    rw [List.length_append]; simp; omega
theorem doneF_frF {p : Int} (hp : 2 ≤ p) : ∀ fs : List (List Int), DoneF p fs → ∀ fr ∈ fs, FrF p fr
  | [], h, _, _ => h.elim
  | [g], h, fr, hf => by
    rw [List.mem_singleton] at hf
    rw [hf]; exact whole_frF hp h
  | g :: g2 :: more, h, fr, hf => by
    rcases List.mem_cons.mp hf with rfl | hf
    · exact whole_frF hp h.1
    · exact doneF_frF hp (g2 :: more) h.2 fr hf
theorem rg2_one (n : Nat) : rg2 1 n = (List.range' 1 n).map fun (j : Nat) => D.int (j : Int) := by
  unfold rg2
  rw [List.range'_eq_map_range, List.map_map]
  apply List.map_congr_left
  intro i _
  show D.int (1 + (i : Int)) = D.int ((1 + i : Nat) : Int)
  rw [Int.natCast_add]; rfl
theorem games_loop {f p : Int} (f1 : 1 ≤ f) (f2 : f ≤ 10) (p1 : 2 ≤ p) (p2 : p ≤ 10) (s0 s1 s9 s10 s11 s12 s13 s14 : Sl) : ∀ (Gs done : List (List (List Int))) (kvs bg : List (List Key × D)) (s5 s6 s7 s8 : Sl), (∀ fs ∈ Gs, DoneF p fs ∧ (fs.length : Int) = f) → done.length + Gs.length ≤ 10000 → TabI p f.toNat done kvs → BegI p f.toNat done bg →
    FL.stored s5 = true → FL.stored s6 = true → FL.stored s7 = true → Loose s8 →
    ∃ kvs' bg' t5 t6 t7 t8, FL.stored t5 = true ∧ FL.stored t6 = true ∧ FL.stored t7 = true ∧ Loose t8 ∧ TabI p f.toNat (done ++ Gs) kvs' ∧ BegI p f.toNat (done ++ Gs) bg' ∧
    forL (.nm 5) gLaw_b3 (Gs.map fun fs => tI fs.flatten) [s0, s1, .val (rulesD f p), .own false (.dic kvs), .own false (.dic bg), s5, s6, s7, s8, s9, s10, s11, s12, s13, s14, .no, .no, .no] = some (.nx, [s0, s1, .val (rulesD f p), .own false (.dic kvs'), .own false (.dic bg'), t5, t6, t7, t8, s9, s10, s11, s12, s13, s14, .no, .no, .no])
  | [], done, kvs, bg, s5, s6, s7, s8, _, _, hT, hB, h5, h6, h7, h8 => ⟨kvs, bg, s5, s6, s7, s8, h5, h6, h7, h8, by rw [List.append_nil]; exact hT, by rw [List.append_nil]; exact hB, rfl⟩
  | fs :: Gs, done, kvs, bg, s5, s6, s7, s8, hG, hl, hT, hB, h5, h6, h7, h8 => by
    rw [List.length_cons] at hl
    obtain ⟨hd, hlen⟩ := hG fs List.mem_cons_self
    have hfl : fs.length = f.toNat := by omega
    have hne : fs ≠ [] := by rintro rfl; exact hd
    have g : Game f p fs.flatten (fs, []) := ⟨f1, f2, p1, p2, split_game p1 hd hlen⟩
    have hdo := doneF_ok (f := f) fs 0 hd (by omega)
    have hset := settled_ok f p fs.flatten (fs, []) g
    rw [shown_over (x := (fs, [])) hlen, shF_settled fs 0 hne hdo (by omega)] at hset
    have hsp := split_ok f p fs.flatten (by have := g.few; omega)
    rw [split_game p1 hd hlen] at hsp
    have hcut : oSlice (frD (fs, [])) none (some f) = some (.own (.lst (fs.map tI))) := by
      rw [frD, sliceL, shown_cut (by omega) (fs, []), shown_over (x := (fs, [])) hlen]
    have hlc := fun s7 => kinds_comp (f := f) (p := p) p2 s0 s1 (.own false (.dic kvs)) (.own false (.dic bg)) (.val (tI fs.flatten)) (.val (tI (shF p fs))) s7 s8 s9 s10 s11 s12 s13 s14 .no .no fs [] (doneF_frF p1 fs hd) (by simp; omega)
    have htk := toKey_I (shF p fs)
    have hTl := hT.len
    have hBl := hB.len
    have hmul : f.toNat * done.length ≤ 10 * 10000 := Nat.mul_le_mul (by omega) (by omega)
    have hv : (valD kvs (kI (shF p fs)) = none ∧ (rowsG p done (shF p fs)).map (rowD p) = []) ∨ valD kvs (kI (shF p fs)) = some (.lst ((rowsG p done (shF p fs)).map (rowD p))) := by
      rw [hT.vals]
      by_cases h0 : rowsG p done (shF p fs) = []
      · rw [if_pos h0, h0]; exact .inl ⟨rfl, rfl⟩
      · rw [if_neg h0]; exact .inr rfl
    have hrl : (rowsG p done (shF p fs)).length ≤ done.length := List.length_filter_le _ _
    obtain ⟨bg', t8, q8, qb1, qb2, e1⟩ := beg_loop s0 s1 (.val (rulesD f p)) (.own false (.dic (putD kvs (kI (shF p fs)) (.lst ((rowsG p done (shF p fs)).map (rowD p) ++ [rowD p fs]))))) (.val (tI fs.flatten)) (.val (rowD p fs)) s9 s10 s11 s12 s13 s14 .no .no .no (shF p fs) (List.range' 1 f.toNat) bg s8 (by rw [List.length_range']; omega) h8
    rw [← rg2_one] at e1
    rw [List.length_range'] at qb1
    have hB' : BegI p f.toNat (done ++ [fs]) bg' := by
      refine ⟨fun ns => ?_, ?_⟩
      · rw [qb2, hB.has]
        constructor
        · rintro ((h | ⟨gs, h1, j, h2, h3, h4⟩) | ⟨j, hj, h⟩)
          · exact .inl h
          · exact .inr ⟨gs, List.mem_append_left _ h1, j, h2, h3, h4⟩
          · rw [List.mem_range'_1] at hj
            exact .inr ⟨fs, by simp, j, by omega, by omega, h⟩
        · rintro (h | ⟨gs, h1, j, h2, h3, h4⟩)
          · exact .inl (.inl h)
          · rcases List.mem_append.mp h1 with h1 | h1
            · exact .inl (.inr ⟨gs, h1, j, h2, h3, h4⟩)
            · rw [List.mem_singleton] at h1
              subst h1
              exact .inr ⟨j, List.mem_range'_1.mpr ⟨by omega, by omega⟩, h4⟩
      · rw [List.length_append, List.length_singleton, Nat.mul_add, Nat.mul_one]
        omega
    obtain ⟨kvs2, bg2, t5, t6, t7, u8, a5, a6, a7, a8, hT2, hB2, e2⟩ := games_loop f1 f2 p1 p2 s0 s1 s9 s10 s11 s12 s13 s14 Gs (done ++ [fs]) _ bg' (.val (tI fs.flatten)) (.val (tI (shF p fs))) (.val (rowD p fs)) t8 (fun q hq => hG q (List.mem_cons_of_mem _ hq)) (by rw [List.length_append]; simp; omega) (hT.add hfl) hB' rfl rfl rfl q8
    rw [List.append_assoc, List.singleton_append] at hT2 hB2
    refine ⟨kvs2, bg2, t5, t6, t7, u8, a5, a6, a7, a8, hT2, hB2, ?_⟩
    have e0 : asg (.nm 5) (tI fs.flatten) [s0, s1, .val (rulesD f p), .own false (.dic kvs), .own false (.dic bg), s5, s6, s7, s8, s9, s10, s11, s12, s13, s14, .no, .no, .no] = some [s0, s1, .val (rulesD f p), .own false (.dic kvs), .own false (.dic bg), .val (tI fs.flatten), s6, s7, s8, s9, s10, s11, s12, s13, s14, .no, .no, .no] := by
      generalize tI fs.flatten = FD at *
      simp [h5]
    have e3 := b3_run f p (tI fs.flatten) _ _ _ _ ((rowsG p done (shF p fs)).map (rowD p)) _ kvs bg s0 s1 s6 s7 s8 s9 s10 s11 s12 s13 s14 _ h6 h7 (by omega) hset hsp hcut hlc htk hv (by omega) (by rw [List.length_map]; omega) e1
    rw [List.map_cons, forL_cons, e0, Option.bind_some, e3, forO_nx]
    exact e2
end My
namespace My
open PySem L2 FL
/-! ## the signs of a frame in all games of a sheet -/
theorem kS_eq {a c : Int} (ha : K3 a) (hc : K3 c) : bEq (.str (kS a)) (.str (kS c)) = some (decide (a = c)) := by
  rcases ha with rfl | rfl | rfl <;> rcases hc with rfl | rfl | rfl <;> decide +kernel
theorem kindV_K3 (p : Int) (fr : List Int) : K3 (kindV p fr) := by
  unfold kindV K3
  split
  · exact .inr (.inr rfl)
  · split
    · exact .inr (.inl rfl)
    · exact .inl rfl
theorem kS_lev (n : Nat) {a : Int} (ha : K3 a) : lev n (.str (kS a)) = true := by
  rw [lev_strE]
  rcases ha with rfl | rfl | rfl <;> decide +kernel
def hasK (p : Int) (i : Nat) (kv : Int) (fs : List (List Int)) : Bool := decide ((fs[i]?).map (kindV p) = some kv)
theorem row_comp {p : Int} {i : Nat} {kv : Int} (hk : K3 kv) (s0 s1 s2 s3 s4 s5 s6 s7 s8 s9 s10 s11 s12 s14 s15 : Sl) : ∀ (R : List (List (List Int))) (acc : List (List (List Int))), (∀ fs ∈ R, i < fs.length) → acc.length + R.length ≤ 10000 →
    lcL (.nm 16) (fOp2 (oB bEq) (fOp2 oIx (fVar 16) (fVar 13)) (fVar 17)) gLaw_e5 [16] (R.map (rowD p)) (acc.map (rowD p)) [s0, s1, s2, s3, s4, s5, s6, s7, s8, s9, s10, s11, s12, .val (.int (i : Int)), s14, s15, .no, .val (.str (kS kv))] = some ((acc ++ R.filter (hasK p i kv)).map (rowD p), [s0, s1, s2, s3, s4, s5, s6, s7, s8, s9, s10, s11, s12, .val (.int (i : Int)), s14, s15, .no, .val (.str (kS kv))])
  | [], acc, _, _ => by simp
  | fs :: R, acc, hi, hl => by
    rw [List.length_cons] at hl
    have hil := hi fs List.mem_cons_self
    have hg : fs[i]? = some fs[i] := List.getElem?_eq_getElem hil
    have hx : oIx (rowD p fs) (.int (i : Int)) = some (.val (.str (kS (kindV p fs[i])))) := by
      rw [rowD, ixL, FL.atI_nat (by omega) (by rw [List.length_map]; omega), Int.toNat_natCast, List.getElem?_map, hg]; rfl
    have hb := kS_eq (kindV_K3 p fs[i]) hk
    have hh : hasK p i kv fs = decide (kindV p fs[i] = kv) := by
      unfold hasK
      rw [hg]
      simp
    have hc : (acc.map (rowD p)).length < 1000000 := by rw [List.length_map]; omega
    by_cases h : kindV p fs[i] = kv
    · have ih := row_comp (p := p) hk s0 s1 s2 s3 s4 s5 s6 s7 s8 s9 s10 s11 s12 s14 s15 R (acc ++ [fs]) (fun q hq => hi q (List.mem_cons_of_mem _ hq)) (by simp; omega)
      have e2 : acc ++ (fs :: R).filter (hasK p i kv) = (acc ++ [fs]) ++ R.filter (hasK p i kv) := by
        rw [List.filter_cons, hh, decide_eq_true h]; simp
      rw [decide_eq_true h] at hb
      rw [e2, ← ih, List.map_cons, lcL_cons, List.map_append]
      rw [List.map_cons (f := rowD p) (l := []), List.map_nil]
      generalize rowD p fs = RD at *
      generalize acc.map (rowD p) = ACC at *
      generalize (i : Int) = ii at *
      generalize kS (kindV p fs[i]) = k1 at *
      generalize kS kv = k2 at *
      simp [gLaw_e5, hx, hb, cap, hc]
    · have ih := row_comp (p := p) hk s0 s1 s2 s3 s4 s5 s6 s7 s8 s9 s10 s11 s12 s14 s15 R acc (fun q hq => hi q (List.mem_cons_of_mem _ hq)) (by omega)
      have e2 : acc ++ (fs :: R).filter (hasK p i kv) = acc ++ R.filter (hasK p i kv) := by
        rw [List.filter_cons, hh, decide_eq_false h]; simp
      rw [decide_eq_false h] at hb
      rw [e2, ← ih, List.map_cons, lcL_cons]
      generalize rowD p fs = RD at *
      generalize acc.map (rowD p) = ACC at *
      generalize (i : Int) = ii at *
      generalize kS (kindV p fs[i]) = k1 at *
      generalize kS kv = k2 at *
      simp [gLaw_e5, hx, hb, cap, hc]
theorem bNe_rows (p : Int) (R : List (List (List Int))) : bNe (.lst (R.map (rowD p))) (.lst []) = some (!R.isEmpty) := by
  rw [bNe_nil]
  · cases R <;> rfl
  · rw [List.all_eq_true]
    intro d hd
    obtain ⟨fs, _, rfl⟩ := List.mem_map.mp hd
    show lev (18 + 1) (.lst (kL p fs)) = true
    rw [lev_lst, List.all_eq_true]
    intro x hx
    obtain ⟨fr, _, rfl⟩ := List.mem_map.mp hx
    exact kS_lev 18 (kindV_K3 p fr)
theorem filter_any {α : Type} (q : α → Bool) : ∀ l : List α, (!(l.filter q).isEmpty) = l.any q
  | [] => rfl
  | a :: l => by
    rw [List.filter_cons, List.any_cons, ← filter_any q l]
    cases q a <;> simp
abbrev signC : Ev := (fOp2 (oB bNe) (fLc (itSeq (fVar 11)) (.nm 16) (fOp2 (oB bEq) (fOp2 oIx (fVar 16) (fVar 13)) (fVar 17)) gLaw_e5 [16]) (fLst []))
theorem sign_cond {p : Int} {i : Nat} {kv : Int} (hk : K3 kv) (R : List (List (List Int))) (hi : ∀ fs ∈ R, i < fs.length) (hl : R.length ≤ 10000) (s0 s1 s2 s3 s4 s5 s6 s7 s8 s9 s10 s11 s12 s14 s15 : Sl) (h11 : s11 = .val (.lst (R.map (rowD p))) ∨ s11 = .own false (.lst (R.map (rowD p)))) :
    signC [s0, s1, s2, s3, s4, s5, s6, s7, s8, s9, s10, s11, s12, .val (.int (i : Int)), s14, s15, .no, .val (.str (kS kv))] = some (.val (.bl (R.any (hasK p i kv))), [s0, s1, s2, s3, s4, s5, s6, s7, s8, s9, s10, .val (.lst (R.map (rowD p))), s12, .val (.int (i : Int)), s14, s15, .no, .val (.str (kS kv))]) := by
  have e := row_comp (p := p) (i := i) hk s0 s1 s2 s3 s4 s5 s6 s7 s8 s9 s10 (.val (.lst (R.map (rowD p)))) s12 s14 s15 R [] hi (by simpa using hl)
  rw [List.nil_append, List.map_nil] at e
  have hb := bNe_rows p (R.filter (hasK p i kv))
  rw [filter_any] at hb
  generalize R.any (hasK p i kv) = B at *
  generalize (R.filter (hasK p i kv)).map (rowD p) = FR at *
  generalize R.map (rowD p) = RD at *
  generalize (i : Int) = ii at *
  generalize kS kv = k2 at *
  rcases h11 with rfl | rfl <;> simp [signC, e, hb]
def sigL (b0 b1 b2 : Bool) : List Str := (if b0 = true then [mkO] else []) ++ ((if b1 = true then [mkS] else []) ++ (if b2 = true then [mkX] else []))
theorem join3 (b0 b1 b2 : Bool) : oJoin (.str "") (.lst ((sigL b0 b1 b2).map D.str)) = some (.val (.str (Txt.join "" (sigL b0 b1 b2)))) := by
  have l0 : Str.length mkO = 1 := rfl
  have l1 : Str.length mkS = 1 := rfl
  have l2 : Str.length mkX = 1 := rfl
  have hz : Str.length "" = 0 := rfl
  rw [join_strs, if_pos]
  cases b0 <;> cases b1 <;> cases b2 <;> simp [sigL, l0, l1, l2, hz]
theorem signs_is : signs "-/X" = [.str mkO, .str mkS, .str mkX] := by rfl
theorem sign_comp (C : Ev) (b0 b1 b2 : Bool) (s0 s1 s2 s3 s4 s5 s6 s7 s8 s9 s10 s11 t11 s12 s13 s14 s15 : Sl)
    (h0 : C [s0, s1, s2, s3, s4, s5, s6, s7, s8, s9, s10, s11, s12, s13, s14, s15, .no, .val (.str mkO)] = some (.val (.bl b0), [s0, s1, s2, s3, s4, s5, s6, s7, s8, s9, s10, t11, s12, s13, s14, s15, .no, .val (.str mkO)]))
    (h1 : C [s0, s1, s2, s3, s4, s5, s6, s7, s8, s9, s10, t11, s12, s13, s14, s15, .no, .val (.str mkS)] = some (.val (.bl b1), [s0, s1, s2, s3, s4, s5, s6, s7, s8, s9, s10, t11, s12, s13, s14, s15, .no, .val (.str mkS)]))
    (h2 : C [s0, s1, s2, s3, s4, s5, s6, s7, s8, s9, s10, t11, s12, s13, s14, s15, .no, .val (.str mkX)] = some (.val (.bl b2), [s0, s1, s2, s3, s4, s5, s6, s7, s8, s9, s10, t11, s12, s13, s14, s15, .no, .val (.str mkX)])) :
    lcL (.nm 17) C gLaw_e6 [17] [.str mkO, .str mkS, .str mkX] [] [s0, s1, s2, s3, s4, s5, s6, s7, s8, s9, s10, s11, s12, s13, s14, s15, .no, .no] = some ((sigL b0 b1 b2).map D.str, [s0, s1, s2, s3, s4, s5, s6, s7, s8, s9, s10, t11, s12, s13, s14, s15, .no, .no]) := by
  cases b0 <;> cases b1 <;> cases b2 <;> simp [lcL_cons, gLaw_e6, h0, h1, h2, cap, sigL]
abbrev dueS (p : Int) (R : List (List (List Int))) (i : Nat) : Str := Txt.join "" (sigL (R.any (hasK p i 1)) (R.any (hasK p i 2)) (R.any (hasK p i 4)))
theorem b7_run {p : Int} {i : Nat} (R : List (List (List Int))) (hi : ∀ fs ∈ R, i < fs.length) (hl : R.length ≤ 10000) (s0 s1 s2 s3 s4 s5 s6 s7 s8 s9 s10 s11 s14 s15 : Sl) (h11 : s11 = .val (.lst (R.map (rowD p))) ∨ s11 = .own false (.lst (R.map (rowD p)))) (acc : List D) (ha : acc.length < 1000000) :
    gLaw_b7 [s0, s1, s2, s3, s4, s5, s6, s7, s8, s9, s10, s11, .own false (.lst acc), .val (.int (i : Int)), s14, s15, .no, .no] = some (.nx, [s0, s1, s2, s3, s4, s5, s6, s7, s8, s9, s10, .val (.lst (R.map (rowD p))), .own false (.lst (acc ++ [.str (dueS p R i)])), .val (.int (i : Int)), s14, s15, .no, .no]) := by
  have c0 := sign_cond (p := p) (i := i) (kv := 1) (.inl rfl) R hi hl s0 s1 s2 s3 s4 s5 s6 s7 s8 s9 s10 s11 (.own false (.lst acc)) s14 s15 h11
  have c1 := sign_cond (p := p) (i := i) (kv := 2) (.inr (.inl rfl)) R hi hl s0 s1 s2 s3 s4 s5 s6 s7 s8 s9 s10 (.val (.lst (R.map (rowD p)))) (.own false (.lst acc)) s14 s15 (.inl rfl)
  have c2 := sign_cond (p := p) (i := i) (kv := 4) (.inr (.inr rfl)) R hi hl s0 s1 s2 s3 s4 s5 s6 s7 s8 s9 s10 (.val (.lst (R.map (rowD p)))) (.own false (.lst acc)) s14 s15 (.inl rfl)
  have e := sign_comp signC _ _ _ s0 s1 s2 s3 s4 s5 s6 s7 s8 s9 s10 s11 _ (.own false (.lst acc)) (.val (.int (i : Int))) s14 s15 c0 c1 c2
  have j := join3 (R.any (hasK p i 1)) (R.any (hasK p i 2)) (R.any (hasK p i 4))
  have e1 : ∀ ρ, seqI (.str "-/X", ρ) = some ([.str mkO, .str mkS, .str mkX], ρ) := fun ρ => rfl
  unfold signC at e
  unfold dueS
  generalize Txt.join "" (sigL (R.any (hasK p i 1)) (R.any (hasK p i 2)) (R.any (hasK p i 4))) = JS at *
  generalize (sigL (R.any (hasK p i 1)) (R.any (hasK p i 2)) (R.any (hasK p i 4))).map D.str = SL at *
  generalize R.map (rowD p) = RD at *
  generalize (i : Int) = ii at *
  clear c0 c1 c2 h11
  simp [gLaw_b7, e1, e, j, cap, ha]
theorem due_loop {p : Int} (R : List (List (List Int))) (hl : R.length ≤ 10000) (s0 s1 s2 s3 s4 s5 s6 s7 s8 s9 s10 s14 s15 : Sl) : ∀ (is : List Nat) (acc : List D) (s11 s13 : Sl), (s11 = .val (.lst (R.map (rowD p))) ∨ s11 = .own false (.lst (R.map (rowD p)))) → (∀ i ∈ is, ∀ fs ∈ R, i < fs.length) → acc.length + is.length ≤ 1000 → FL.stored s13 = true →
    ∃ t11 t13, FL.stored t11 = true ∧ FL.stored t13 = true ∧ forL (.nm 13) gLaw_b7 (is.map fun (i : Nat) => D.int (i : Int)) [s0, s1, s2, s3, s4, s5, s6, s7, s8, s9, s10, s11, .own false (.lst acc), s13, s14, s15, .no, .no] = some (.nx, [s0, s1, s2, s3, s4, s5, s6, s7, s8, s9, s10, t11, .own false (.lst (acc ++ is.map fun i => .str (dueS p R i))), t13, s14, s15, .no, .no])
  | [], acc, s11, s13, h11, _, _, h13 => ⟨s11, s13, by rcases h11 with rfl | rfl <;> rfl, h13, by simp⟩
  | i :: is, acc, s11, s13, h11, hi, ha, h13 => by
    rw [List.length_cons] at ha
    obtain ⟨t11, t13, q1, q, e⟩ := due_loop R hl s0 s1 s2 s3 s4 s5 s6 s7 s8 s9 s10 s14 s15 is (acc ++ [.str (dueS p R i)]) (.val (.lst (R.map (rowD p)))) (.val (.int (i : Int))) (.inl rfl) (fun k hk => hi k (List.mem_cons_of_mem _ hk)) (by simp; omega) rfl
    have h1 := b7_run (p := p) R (hi i List.mem_cons_self) hl s0 s1 s2 s3 s4 s5 s6 s7 s8 s9 s10 s11 s14 s15 h11 acc (by omega)
    refine ⟨t11, t13, q1, q, ?_⟩
    have e0 : asg (.nm 13) (.int (i : Int)) [s0, s1, s2, s3, s4, s5, s6, s7, s8, s9, s10, s11, .own false (.lst acc), s13, s14, s15, .no, .no] = some [s0, s1, s2, s3, s4, s5, s6, s7, s8, s9, s10, s11, .own false (.lst acc), .val (.int (i : Int)), s14, s15, .no, .no] := by
      generalize (i : Int) = ii at *
      simp [h13]
    rw [List.map_cons, forL_cons, e0, Option.bind_some, h1, forO_nx, e, List.map_cons, List.append_assoc, List.singleton_append]
/-! ## the beginnings that no game has -/
theorem bad_comp {f p : Int} (bg : List (List Key × D)) (sh : List Int) (s0 s1 s2 s3 s5 s7 s9 s10 s11 s12 s13 s14 s15 s16 s17 : Sl) : ∀ (is : List Nat) (acc : List Nat), acc.length + is.length ≤ 1000 → (∀ i ∈ is, i ≤ 1000 ∧ (isIn bg (sh.take (i + 1)) = true ↔ tableT f p (sh.take (i + 1)) ≠ [])) →
    lcL (.nm 8) (fInD true (fSlice (fVar 6) none (some (fVar 8))) (fVar 4)) gLaw_e8 [8] (is.map fun (i : Nat) => D.int (1 + (i : Int))) (acc.map fun (i : Nat) => D.int (i : Int)) [s0, s1, s2, s3, .own false (.dic bg), s5, .val (tI sh), s7, .no, s9, s10, s11, s12, s13, s14, s15, s16, s17] = some ((acc ++ badL f p sh is).map fun (i : Nat) => D.int (i : Int), [s0, s1, s2, s3, .own false (.dic bg), s5, .val (tI sh), s7, .no, s9, s10, s11, s12, s13, s14, s15, s16, s17])
  | [], acc, _, _ => by simp [badL]
  | i :: is, acc, hl, hb => by
    rw [List.length_cons] at hl
    obtain ⟨hi, hiff⟩ := hb i List.mem_cons_self
    have hs := slice_take sh (k := 1 + (i : Int)) (by omega)
    have hn : (1 + (i : Int)).toNat = i + 1 := by omega
    rw [hn] at hs
    have htk := toKey_I (sh.take (i + 1))
    have hc : (acc.map fun (i : Nat) => D.int (i : Int)).length < 1000000 := by rw [List.length_map]; omega
    have r1 : -1000000 ≤ (i : Int) ∧ (i : Int) ≤ 1000000 := by omega
    have e1 : 1 + (i : Int) - 1 = (i : Int) := by omega
    by_cases h : tableT f p (sh.take (i + 1)) = []
    · have ih := bad_comp (f := f) (p := p) bg sh s0 s1 s2 s3 s5 s7 s9 s10 s11 s12 s13 s14 s15 s16 s17 is (acc ++ [i]) (by simp; omega) (fun k hk => hb k (List.mem_cons_of_mem _ hk))
      have e2 : acc ++ badL f p sh (i :: is) = (acc ++ [i]) ++ badL f p sh is := by
        unfold badL
        rw [List.filter_cons, decide_eq_true h]; simp
      have hin : isIn bg (sh.take (i + 1)) = false := by
        rw [Bool.eq_false_iff]; exact fun z => hiff.mp z h
      have hn2 : valD bg ((sh.take (i + 1)).map Sum.inl) = none := by
        unfold isIn at hin
        cases hq : valD bg ((sh.take (i + 1)).map Sum.inl) with
        | none => rfl
        | some v => rw [hq] at hin; cases hin
      rw [e2, ← ih, List.map_cons, lcL_cons, List.map_append, List.map_cons (l := []), List.map_nil]
      generalize (sh.take (i + 1)).map Sum.inl = KK at *
      generalize (acc.map fun (i : Nat) => D.int (i : Int)) = ACC at *
      generalize sh.take (i + 1) = TK at *
      generalize tI sh = SH at *
      generalize (i : Int) = ii at *
      simp [gLaw_e8, hs, inD_eq, htk, hn2, cap, hc, r1, e1, -sliceT]
    · have ih := bad_comp (f := f) (p := p) bg sh s0 s1 s2 s3 s5 s7 s9 s10 s11 s12 s13 s14 s15 s16 s17 is acc (by omega) (fun k hk => hb k (List.mem_cons_of_mem _ hk))
      have e2 : acc ++ badL f p sh (i :: is) = acc ++ badL f p sh is := by
        unfold badL
        rw [List.filter_cons, decide_eq_false h]; simp
      have hin : isIn bg (sh.take (i + 1)) = true := hiff.mpr h
      obtain ⟨v, hn2⟩ : ∃ v, valD bg ((sh.take (i + 1)).map Sum.inl) = some v := by
        unfold isIn at hin
        cases hq : valD bg ((sh.take (i + 1)).map Sum.inl) with
        | none => rw [hq] at hin; cases hin
        | some v => exact ⟨v, rfl⟩
      rw [e2, ← ih, List.map_cons, lcL_cons]
      generalize (sh.take (i + 1)).map Sum.inl = KK at *
      generalize (acc.map fun (i : Nat) => D.int (i : Int)) = ACC at *
      generalize sh.take (i + 1) = TK at *
      generalize tI sh = SH at *
      generalize (i : Int) = ii at *
      simp [gLaw_e8, hs, inD_eq, htk, hn2, cap, hc, r1, e1, -sliceT]
end My
namespace My
open PySem L2 FL
/-! ## one turn -/
theorem like_str1 (n : Nat) (x : Str) (h : bEq (.str x) (.str x) = some true) : fnLawLike (n + 1) [.val (.str x), .val (.str x)] = some (.val (.bl true), [.val (.str x), .val (.str x)]) := by
  rw [fnLawLike, defF_eq]
  simp [gLawLike, h]
theorem intsK_I : ∀ ns : List Int, keysI.intsK (kI ns) = some ns
  | [] => rfl
  | n :: ns => by
    show (keysI.intsK (kI ns)).map _ = _
    rw [intsK_I ns]; rfl
theorem keys_of {f : Nat} : ∀ kvs : List (List Key × D), (∀ kv ∈ kvs, ∃ ns : List Int, kv.1 = kI ns ∧ ns.length = f) → ∃ nss, keysI kvs = some nss ∧ nss.length = kvs.length ∧ ∀ ns ∈ nss, ns.length = f
  | [], _ => ⟨[], rfl, rfl, fun _ h => by cases h⟩
  | kv :: kvs, h => by
    obtain ⟨ns, h1, h2⟩ := h kv List.mem_cons_self
    obtain ⟨nss, h3, h4, h5⟩ := keys_of kvs fun q hq => h q (List.mem_cons_of_mem _ hq)
    refine ⟨ns :: nss, ?_, by rw [List.length_cons, List.length_cons, h4], fun m hm => ?_⟩
    · rw [keysI, h1, intsK_I, Option.bind_some, h3]; rfl
    · rcases List.mem_cons.mp hm with rfl | hm
      · exact h2
      · exact h5 m hm
theorem sort_keys {f : Nat} (f1 : 1 ≤ f) (kvs : List (List Key × D)) (h : ∀ kv ∈ kvs, ∃ ns : List Int, kv.1 = kI ns ∧ ns.length = f) : ∃ nss : List (List Int), oSortD [.dic kvs] = some (.own (.lst (nss.map tI))) ∧ nss.length = kvs.length ∧ ∀ ns ∈ nss, ns.length = f := by
  obtain ⟨nss, h1, h2, h3⟩ := keys_of kvs h
  refine ⟨sortT nss, ?_, by rw [(sortT_perm nss).length_eq, h2], fun ns hns => h3 ns ((sortT_perm nss).mem_iff.mp hns)⟩
  rw [sortD_dic, h1, Option.bind_some, if_pos]
  refine .inr (List.all_eq_true.mpr fun ns hns => ?_)
  have := h3 ns hns
  cases ns with
  | nil => simp at this; omega
  | cons a l => rfl
abbrev head9 (T : Stm) : Stm := (sSeq (sAsg 10 (fOpN oSortD [(fVar 3)]))
    (sSeq (sAsg 6 (fOp2 oIx (fVar 10) (fCall fnLawDraw [(fVar 1), (fOpN oLen [(fVar 10)])])))
    (sSeq (sIf (fOp2 (oB bGt) (fVar 9) (fC (.int 9))) (sAsg 6 (fOpN oTuple [(fLc (itRg1 (fOp2 oIx (fVar 2) (fC (.int 0)))) (.nm 15) (fC (.bl true)) gLaw_e4 [15])])) sNx) T)))
abbrev rest9 : Stm := (sSeq (sAsg 11 (fGet2 (fVar 3) (fVar 6) (fLst [])))
    (sSeq (sIf (fNot (fCall (fnLawLike 4) [(fCall fnCountSheet [(fVar 2), (fVar 6)]), (fOpN oLen [(fVar 11)])])) (sRet (fC (.bl false))) sNx)
    (sSeq (sAsg 12 (fLst []))
    (sSeq (sFor (itRg1 (fOp2 oIx (fVar 2) (fC (.int 0)))) (.nm 13) gLaw_b7)
    (sSeq (sIf (fNot (fCall (fnLawLike 4) [(fCall fnKinds [(fVar 2), (fVar 6)]), (fVar 12)])) (sRet (fC (.bl false))) sNx)
    (sSeq (sAsg 14 (fLc (itRg2 (fC (.int 1)) (fOp2 oAdd (fOp2 oIx (fVar 2) (fC (.int 0))) (fC (.int 1)))) (.nm 8) (fInD true (fSlice (fVar 6) none (some (fVar 8))) (fVar 4)) gLaw_e8 [8]))
    (sIf (fNot (fCall (fnLawLike 4) [(fCall fnFirstWrong [(fVar 2), (fVar 6)]), (fIf (fOp2 (oB bNe) (fVar 14) (fLst [])) (fOp2 oIx (fVar 14) (fC (.int 0))) (fC .non))])) (sRet (fC (.bl false))) sNx)))))))
theorem b9_shape : gLaw_b9 = head9 rest9 := rfl
theorem head9_run (T : Stm) (f p w a : Int) (SL RW : List D) (S1 S2 TB BG t0 t1 t2 : D) (s0 s5 s6 s7 s8 s10 s11 s12 s13 s14 : Sl) (b : Bool) (R : Option (Out × List Sl)) (h6 : FL.stored s6 = true) (h10 : FL.stored s10 = true) (rf : -1000000 ≤ f ∧ f ≤ 1000000)
    (hsort : oSortD [TB] = some (.own (.lst SL))) (hl : SL.length ≤ 1000000)
    (hd : fnLawDraw [.own false t0, .val (.int (SL.length : Int))] = some (.val (.int a), [.own false t1, .val (.int (SL.length : Int))]))
    (hix : oIx (.lst SL) (.int a) = some (.val S1)) (hgt : bGt (.int w) (.int 9) = some b)
    (hlc : b = true → S2 = .tup RW ∧ lcL (.nm 15) (fC (.bl true)) gLaw_e4 [15] (rg1 f.toNat) [] [s0, .own false t1, .val (rulesD f p), .own false TB, .own false BG, s5, .val S1, s7, s8, .val (.int w), .own false (.lst SL), s11, s12, s13, s14, .no, .no, .no] = some (RW, [s0, .own false t2, .val (rulesD f p), .own false TB, .own false BG, s5, .val S1, s7, s8, .val (.int w), .own false (.lst SL), s11, s12, s13, s14, .no, .no, .no]))
    (hno : b = false → S2 = S1 ∧ t2 = t1)
    (hT : T [s0, .own false t2, .val (rulesD f p), .own false TB, .own false BG, s5, .val S2, s7, s8, .val (.int w), .own false (.lst SL), s11, s12, s13, s14, .no, .no, .no] = R) :
    head9 T [s0, .own false t0, .val (rulesD f p), .own false TB, .own false BG, s5, s6, s7, s8, .val (.int w), s10, s11, s12, s13, s14, .no, .no, .no] = R := by
  cases b with
  | true =>
    obtain ⟨rfl, hlc⟩ := hlc rfl
    simp [head9, h6, h10, rf, hsort, hl, hd, hix, hgt, hlc, cap, hT, -ixL]
  | false =>
    obtain ⟨rfl, rfl⟩ := hno rfl
    simp [head9, h6, h10, rf, hsort, hl, hd, hix, hgt, cap, hT, -ixL]
theorem rest9_run (f p : Int) (KS DS BL RS : List D) (k : List Key) (kvs bg : List (List Key × D)) (FW : D) (s0 s1 s5 s7 s8 s9 s10 s11 s12 s13 s14 : Sl) (h8 : Loose s8) (h11 : FL.stored s11 = true) (h12 : FL.stored s12 = true) (h14 : FL.stored s14 = true) (rf : -1000000 ≤ f ∧ f ≤ 100000)
    (htk : toKey KS = some k) (hv : (valD kvs k = none ∧ RS = []) ∨ valD kvs k = some (.lst RS)) (hl : RS.length ≤ 1000000)
    (hc : fnCountSheet [.val (rulesD f p), .val (.tup KS)] = some (.val (.int (RS.length : Int)), [.val (rulesD f p), .val (.tup KS)]))
    (hk : fnKinds [.val (rulesD f p), .val (.tup KS)] = some (.own (.lst DS), [.val (rulesD f p), .val (.tup KS)]))
    (hw : fnFirstWrong [.val (rulesD f p), .val (.tup KS)] = some (.val FW, [.val (rulesD f p), .val (.tup KS)]))
    (hl1 : fnLawLike 4 [.val (.int (RS.length : Int)), .val (.int (RS.length : Int))] = some (.val (.bl true), [.val (.int (RS.length : Int)), .val (.int (RS.length : Int))]))
    (hl2 : fnLawLike 4 [.own false (.lst DS), .own false (.lst DS)] = some (.val (.bl true), [.own false (.lst DS), .own false (.lst DS)]))
    (hl3 : fnLawLike 4 [.val FW, .val FW] = some (.val (.bl true), [.val FW, .val FW]))
    (hdue : ∀ s11, (s11 = .val (.lst RS) ∨ s11 = .own false (.lst RS)) → ∃ t11 t13, FL.stored t11 = true ∧ FL.stored t13 = true ∧ forL (.nm 13) gLaw_b7 (rg1 f.toNat) [s0, s1, .val (rulesD f p), .own false (.dic kvs), .own false (.dic bg), s5, .val (.tup KS), s7, s8, s9, s10, s11, .own false (.lst []), s13, s14, .no, .no, .no] = some (.nx, [s0, s1, .val (rulesD f p), .own false (.dic kvs), .own false (.dic bg), s5, .val (.tup KS), s7, s8, s9, s10, t11, .own false (.lst DS), t13, s14, .no, .no, .no]))
    (hbad : ∀ s11 s12 s13, lcL (.nm 8) (fInD true (fSlice (fVar 6) none (some (fVar 8))) (fVar 4)) gLaw_e8 [8] (rg2 1 f.toNat) [] [s0, s1, .val (rulesD f p), .own false (.dic kvs), .own false (.dic bg), s5, .val (.tup KS), s7, .no, s9, s10, s11, s12, s13, s14, .no, .no, .no] = some (BL, [s0, s1, .val (rulesD f p), .own false (.dic kvs), .own false (.dic bg), s5, .val (.tup KS), s7, .no, s9, s10, s11, s12, s13, s14, .no, .no, .no]))
    (hne : bNe (.lst BL) (.lst []) = some (!BL.isEmpty)) (hsel : (BL = [] ∧ FW = .non) ∨ ∃ tl, BL = FW :: tl) :
    ∃ t11 t13, FL.stored t11 = true ∧ FL.stored t13 = true ∧ rest9 [s0, s1, .val (rulesD f p), .own false (.dic kvs), .own false (.dic bg), s5, .val (.tup KS), s7, s8, s9, s10, s11, s12, s13, s14, .no, .no, .no] = some (.nx, [s0, s1, .val (rulesD f p), .own false (.dic kvs), .own false (.dic bg), s5, .val (.tup KS), s7, s8, s9, s10, t11, .own false (.lst DS), t13, .own false (.lst BL), .no, .no, .no]) := by
  have e1 : f + 1 - 1 = f := by omega
  have r2 : -1000000 ≤ f + 1 ∧ f + 1 ≤ 1000000 := by omega
  have r1 : -1000000 ≤ f ∧ f ≤ 1000000 := by omega
  have key : ∀ u11, (u11 = .val (.lst RS) ∨ u11 = .own false (.lst RS)) → ∃ t11 t13, FL.stored t11 = true ∧ FL.stored t13 = true ∧ (sSeq (sIf (fNot (fCall (fnLawLike 4) [(fCall fnCountSheet [(fVar 2), (fVar 6)]), (fOpN oLen [(fVar 11)])])) (sRet (fC (.bl false))) sNx)
    (sSeq (sAsg 12 (fLst []))
    (sSeq (sFor (itRg1 (fOp2 oIx (fVar 2) (fC (.int 0)))) (.nm 13) gLaw_b7)
    (sSeq (sIf (fNot (fCall (fnLawLike 4) [(fCall fnKinds [(fVar 2), (fVar 6)]), (fVar 12)])) (sRet (fC (.bl false))) sNx)
    (sSeq (sAsg 14 (fLc (itRg2 (fC (.int 1)) (fOp2 oAdd (fOp2 oIx (fVar 2) (fC (.int 0))) (fC (.int 1)))) (.nm 8) (fInD true (fSlice (fVar 6) none (some (fVar 8))) (fVar 4)) gLaw_e8 [8]))
    (sIf (fNot (fCall (fnLawLike 4) [(fCall fnFirstWrong [(fVar 2), (fVar 6)]), (fIf (fOp2 (oB bNe) (fVar 14) (fLst [])) (fOp2 oIx (fVar 14) (fC (.int 0))) (fC .non))])) (sRet (fC (.bl false))) sNx)))))) [s0, s1, .val (rulesD f p), .own false (.dic kvs), .own false (.dic bg), s5, .val (.tup KS), s7, s8, s9, s10, u11, s12, s13, s14, .no, .no, .no] = some (.nx, [s0, s1, .val (rulesD f p), .own false (.dic kvs), .own false (.dic bg), s5, .val (.tup KS), s7, s8, s9, s10, t11, .own false (.lst DS), t13, .own false (.lst BL), .no, .no, .no]) := by
    intro u11 hu
    obtain ⟨t11, t13, q1, q2, e⟩ := hdue u11 hu
    refine ⟨t11, t13, q1, q2, ?_⟩
    rcases hsel with ⟨rfl, rfl⟩ | ⟨tl, rfl⟩
    · rcases h8 with rfl | ⟨d8, rfl⟩ <;> rcases hu with rfl | rfl <;> simp [h12, h14, r1, r2, e1, hl, hc, hk, hw, hl1, hl2, hl3, e, hbad, hne, cap]
    · rcases h8 with rfl | ⟨d8, rfl⟩ <;> rcases hu with rfl | rfl <;> simp [h12, h14, r1, r2, e1, hl, hc, hk, hw, hl1, hl2, hl3, e, hbad, hne, cap]
  rcases hv with ⟨hv, rfl⟩ | hv
  · obtain ⟨t11, t13, q1, q2, e⟩ := key (.own false (.lst [])) (.inr rfl)
    refine ⟨t11, t13, q1, q2, ?_⟩
    rw [rest9, st_seq, ← e]
    have : sAsg 11 (fGet2 (fVar 3) (fVar 6) (fLst [])) [s0, s1, .val (rulesD f p), .own false (.dic kvs), .own false (.dic bg), s5, .val (.tup KS), s7, s8, s9, s10, s11, s12, s13, s14, .no, .no, .no] = some (.nx, [s0, s1, .val (rulesD f p), .own false (.dic kvs), .own false (.dic bg), s5, .val (.tup KS), s7, s8, s9, s10, .own false (.lst []), s12, s13, s14, .no, .no, .no]) := by
      simp [h11, htk, hv]
    rw [this, seqO_nx]
  · obtain ⟨t11, t13, q1, q2, e⟩ := key (.val (.lst RS)) (.inl rfl)
    refine ⟨t11, t13, q1, q2, ?_⟩
    rw [rest9, st_seq, ← e]
    have : sAsg 11 (fGet2 (fVar 3) (fVar 6) (fLst [])) [s0, s1, .val (rulesD f p), .own false (.dic kvs), .own false (.dic bg), s5, .val (.tup KS), s7, s8, s9, s10, s11, s12, s13, s14, .no, .no, .no] = some (.nx, [s0, s1, .val (rulesD f p), .own false (.dic kvs), .own false (.dic bg), s5, .val (.tup KS), s7, s8, s9, s10, .val (.lst RS), s12, s13, s14, .no, .no, .no]) := by
      simp [h11, htk, hv]
    rw [this, seqO_nx]
end My
namespace My
open PySem L2 FL
theorem k10_draws (f p : Int) (hp : 2 ≤ p) (hp2 : p ≤ 10) (s0 s3 s4 s5 s6 s7 s8 s9 s10 s11 s12 s13 s14 s16 s17 : Sl) : ∀ (ds : List D) (t : Tape) (acc : List Int), acc.length + ds.length ≤ 1000 →
    ∃ (t' : Tape) (vs : List Int), vs.length = ds.length ∧ lcL (.nm 15) (fC (.bl true)) gLaw_e4 [15] ds (acc.map D.int) [s0, .own false t.d, .val (rulesD f p), s3, s4, s5, s6, s7, s8, s9, s10, s11, s12, s13, s14, .no, s16, s17] = some ((acc ++ vs).map D.int, [s0, .own false t'.d, .val (rulesD f p), s3, s4, s5, s6, s7, s8, s9, s10, s11, s12, s13, s14, .no, s16, s17])
  | [], t, acc, _ => ⟨t, [], rfl, by simp⟩
  | d :: ds, t, acc, hl => by
    rw [List.length_cons] at hl
    have hd := draw_ok t (m := 3 * p + 2) (by omega) (by omega)
    obtain ⟨t', vs, hv, e⟩ := k10_draws f p hp hp2 s0 s3 s4 s5 s6 s7 s8 s9 s10 s11 s12 s13 s14 s16 s17 ds (t.rest (3 * p + 2)) (acc ++ [t.out (3 * p + 2)]) (by simp; omega)
    refine ⟨t', t.out (3 * p + 2) :: vs, by simp [hv], ?_⟩
    have hm : oMul (.int 3) (.int p) = some (.val (.int (3 * p))) := by
      rw [mulI, if_pos (mul_ok 3 p (by decide))]
    have hc : (acc.map D.int).length < 1000000 := by rw [List.length_map]; omega
    rw [List.append_cons, ← e, lcL_cons, List.map_append]
    generalize acc.map D.int = ACC at *
    simp [gLaw_e4, hm, hd, cap, hc, -mulI]
/-- what is expected of each sheet -/
theorem due_is {f p : Int} (f1 : 1 ≤ f) (f2 : f ≤ 10) (p1 : 2 ≤ p) (p2 : p ≤ 10) {G : List (List (List Int))} (hG : G.Perm (gf p f.toNat)) {s : List Int} (hs : (s.length : Int) = f) :
    (List.range f.toNat).map (fun i => D.str (dueS p (rowsG p G s) i)) = (kindsT s.length (tableT f p s)).map fun v => .str (markS v) := by
  have hlen : (kindsT s.length (tableT f p s)).length = f.toNat := by
    have hn : s.length = f.toNat := by omega
    by_cases hT : tableT f p s = []
    · rw [hT]; show (List.replicate s.length (0 : Int)).length = _
      rw [List.length_replicate, hn]
    · have := (kinds_pair p1 (tabK_table (f := f) p1 p2 f1 s (by omega)) hT).length
      omega
  apply List.ext_getElem?
  intro i
  rw [List.getElem?_map, List.getElem?_map]
  by_cases hi : i < f.toNat
  · have hv : (kindsT s.length (tableT f p s))[i]? = some (kindsT s.length (tableT f p s))[i] := List.getElem?_eq_getElem (by omega)
    obtain ⟨b0, b1, b2⟩ := marks_any f1 f2 p1 p2 hG hs hv
    rw [hv, List.getElem?_range hi]
    show some (D.str (dueS p (rowsG p G s) i)) = some (D.str (markS _))
    unfold markS marksL
    rw [b0, b1, b2]
    rfl
  · rw [List.getElem?_eq_none (by rw [List.length_range]; omega), List.getElem?_eq_none (by omega)]; rfl
theorem beg_iff {f p : Int} (f1 : 1 ≤ f) (f2 : f ≤ 10) (p1 : 2 ≤ p) (p2 : p ≤ 10) {G : List (List (List Int))} (hG : G.Perm (gf p f.toNat)) {bg : List (List Key × D)} (hB : BegI p f.toNat G bg) {s : List Int} (hs : (s.length : Int) = f) {j : Nat} (hj : 1 ≤ j) (hj2 : j ≤ f.toNat) : isIn bg (s.take j) = true ↔ tableT f p (s.take j) ≠ [] := by
  rw [hB.has, take_game p1 p2 f1 hs (by omega) (by omega) hj]
  have hsl : (s.take j).length = j := by rw [List.length_take]; omega
  have mem : ∀ fs, fs ∈ G ↔ DoneF p fs ∧ fs.length = f.toNat := fun fs => by rw [hG.mem_iff, mem_gf p1]
  constructor
  · rintro (h | ⟨fs, h1, k, h2, h3, h4⟩)
    · rw [h] at hsl; simp at hsl; omega
    · obtain ⟨g1, g2⟩ := (mem fs).mp h1
      refine ⟨fs, g1, by omega, ?_⟩
      have h5 := congrArg List.length h4
      rw [hsl, List.length_take, shF_len] at h5
      have : k = j := by omega
      rw [h4, this]
  · rintro ⟨fs, g1, g2, g3⟩
    exact .inr ⟨fs, (mem fs).mpr ⟨g1, by omega⟩, j, hj, hj2, g3.symm⟩
theorem like_marks (x : List Int) (hl : x.length ≤ 1000) : fnLawLike 4 [.own false (.lst (x.map fun v => .str (markS v))), .own false (.lst (x.map fun v => .str (markS v)))] = some (.val (.bl true), [.own false (.lst (x.map fun v => .str (markS v))), .own false (.lst (x.map fun v => .str (markS v)))]) :=
  like_seq 3 _ _ (x.map fun v => .str (markS v)) D.lst (.inr rfl) (.inr ⟨_, rfl⟩) (.inr ⟨_, rfl⟩) (by rw [List.length_map]; exact hl) fun d hd => by
    obtain ⟨v, _, rfl⟩ := List.mem_map.mp hd
    refine like_str1 2 (markS v) ?_
    unfold markS marksL
    cases bitB v 0 <;> cases bitB v 1 <;> cases bitB v 2 <;> decide +kernel
structure Ok10 (f p : Int) (G : List (List (List Int))) (kvs bg : List (List Key × D)) : Prop where
  f1 : 1 ≤ f
  f2 : f ≤ 10
  p1 : 2 ≤ p
  p2 : p ≤ 10
  perm : G.Perm (gf p f.toNat)
  few : G.length ≤ 10000
  ne : G ≠ []
  tab : TabI p f.toNat G kvs
  beg : BegI p f.toNat G bg
def J10 (f p : Int) (kvs bg : List (List Key × D)) (ρ : List Sl) : Prop := ∃ s5 s6 s7 s8 s10 s11 s12 s13 s14, ρ = [s5, s6, s7, s8, s10, s11, s12, s13, s14] ∧ FL.stored s6 = true ∧ Loose s8 ∧ FL.stored s10 = true ∧ FL.stored s11 = true ∧ FL.stored s12 = true ∧ FL.stored s13 = true ∧ FL.stored s14 = true
theorem bGt_int (a b : Int) : bGt (.int a) (.int b) = some (decide (a > b)) := rfl
theorem k10_turn {f p : Int} {G : List (List (List Int))} {kvs bg : List (List Key × D)} (ok : Ok10 f p G kvs bg) (ns : List Int) (t : Tape) (w : Int) (s5 s6 s7 s8 s10 s11 s12 s13 s14 : Sl) (h6 : FL.stored s6 = true) (h8 : Loose s8) (h10 : FL.stored s10 = true) (h11 : FL.stored s11 = true) (h12 : FL.stored s12 = true) (h13 : FL.stored s13 = true) (h14 : FL.stored s14 = true) :
    ∃ (t' : Tape) (t6 t10 t11 t12 t13 t14 : Sl), FL.stored t6 = true ∧ FL.stored t10 = true ∧ FL.stored t11 = true ∧ FL.stored t12 = true ∧ FL.stored t13 = true ∧ FL.stored t14 = true ∧
    gLaw_b9 [.val (.scr ns), .own false t.d, .val (rulesD f p), .own false (.dic kvs), .own false (.dic bg), s5, s6, s7, s8, .val (.int w), s10, s11, s12, s13, s14, .no, .no, .no] = some (.nx, [.val (.scr ns), .own false t'.d, .val (rulesD f p), .own false (.dic kvs), .own false (.dic bg), s5, t6, s7, s8, .val (.int w), t10, t11, t12, t13, t14, .no, .no, .no]) := by
  obtain ⟨f1, f2, p1, p2, hG, hfew, hne, hT, hB⟩ := ok
  obtain ⟨nss, hsort, hsl, hns⟩ := sort_keys (f := f.toNat) (by omega) kvs hT.keys
  have hkl := hT.len
  have hkn : 0 < kvs.length := List.length_pos_iff.mpr (hT.ne hne)
  have hL : (nss.map tI).length = nss.length := List.length_map _
  have o1 := t.out_lo (m := ((nss.map tI).length : Int)) (by omega)
  have o2 := t.out_hi (m := ((nss.map tI).length : Int)) (by omega)
  have hd := draw_ok t (m := ((nss.map tI).length : Int)) (by omega) (by omega)
  obtain ⟨a, ha⟩ : ∃ a, a = t.out ((nss.map tI).length : Int) := ⟨_, rfl⟩
  obtain ⟨tt, htt⟩ : ∃ tt, tt = t.rest ((nss.map tI).length : Int) := ⟨_, rfl⟩
  rw [← ha, ← htt] at hd
  rw [← ha] at o1 o2
  have hal : a.toNat < nss.length := by omega
  obtain ⟨sh0, hsh0⟩ : ∃ sh0, sh0 = nss[a.toNat] := ⟨_, rfl⟩
  have hl0 : sh0.length = f.toNat := by rw [hsh0]; exact hns _ (List.getElem_mem hal)
  have hix : oIx (.lst (nss.map tI)) (.int a) = some (.val (tI sh0)) := by
    rw [ixL, FL.atI_nat o1 (by omega), List.getElem?_map, List.getElem?_eq_getElem hal, ← hsh0]; rfl
  -- the sheet of this turn
  obtain ⟨b, hb⟩ : ∃ b, b = decide (w > 9) := ⟨_, rfl⟩
  have hgt : bGt (.int w) (.int 9) = some b := by rw [hb]; exact bGt_int w 9
  obtain ⟨t2, vs, hv, hlc⟩ := k10_draws f p p1 p2 (.val (.scr ns)) (.own false (.dic kvs)) (.own false (.dic bg)) s5 (.val (tI sh0)) s7 s8 (.val (.int w)) (.own false (.lst (nss.map tI))) s11 s12 s13 s14 .no .no (rg1 f.toNat) tt [] (by simp [rg1]; omega)
  rw [List.nil_append] at hlc
  have hvl : vs.length = f.toNat := by rw [hv]; simp [rg1]
  obtain ⟨sh, tu, hlen, hyes, hno⟩ : ∃ (sh : List Int) (tu : Tape), sh.length = f.toNat ∧ (b = true → sh = vs ∧ tu = t2) ∧ (b = false → sh = sh0 ∧ tu = tt) := by
    cases b with
    | true => exact ⟨vs, t2, hvl, (fun _ => ⟨rfl, rfl⟩), fun h => by cases h⟩
    | false => exact ⟨sh0, tt, hl0, (fun h => by cases h), fun _ => ⟨rfl, rfl⟩⟩
  have hs : (sh.length : Int) = f := by omega
  -- what the program answers
  have hc := count_ok f p sh f1 p1 p2 (by omega)
  rw [rows_count f1 f2 p1 p2 hG hs] at hc
  have hk := kinds_ok f p sh f1 p1 p2 (by omega)
  have hw := first_ok f p sh f1 p1 p2 (by omega)
  have hdue := due_is f1 f2 p1 p2 hG hs
  have hrl : (rowsG p G sh).length ≤ G.length := List.length_filter_le _ _
  have hkl2 : (kindsT sh.length (tableT f p sh)).length ≤ 1000 := by
    have := congrArg List.length hdue
    rw [List.length_map, List.length_map, List.length_range] at this
    omega
  have hrows : ∀ fs ∈ rowsG p G sh, fs.length = f.toNat := fun fs h => ((mem_rows p1 hG).mp h).2.1
  have hbl : ∀ s11 s12 s13, lcL (.nm 8) (fInD true (fSlice (fVar 6) none (some (fVar 8))) (fVar 4)) gLaw_e8 [8] (rg2 1 f.toNat) [] [.val (.scr ns), .own false tu.d, .val (rulesD f p), .own false (.dic kvs), .own false (.dic bg), s5, .val (tI sh), s7, .no, .val (.int w), .own false (.lst (nss.map tI)), s11, s12, s13, s14, .no, .no, .no] = some ((badL f p sh (List.range sh.length)).map fun (i : Nat) => D.int (i : Int), [.val (.scr ns), .own false tu.d, .val (rulesD f p), .own false (.dic kvs), .own false (.dic bg), s5, .val (tI sh), s7, .no, .val (.int w), .own false (.lst (nss.map tI)), s11, s12, s13, s14, .no, .no, .no]) := fun s11 s12 s13 => by
    have := bad_comp (f := f) (p := p) bg sh (.val (.scr ns)) (.own false tu.d) (.val (rulesD f p)) (.own false (.dic kvs)) s5 s7 (.val (.int w)) (.own false (.lst (nss.map tI))) s11 s12 s13 s14 .no .no .no (List.range sh.length) [] (by simp; omega) (fun i hi => by
      rw [List.mem_range] at hi
      exact ⟨by omega, beg_iff f1 f2 p1 p2 hG hB hs (by omega) (by omega)⟩)
    rw [List.nil_append, hlen] at this
    rw [hlen]
    exact this
  have hsel : ((badL f p sh (List.range sh.length)).map (fun (i : Nat) => D.int (i : Int)) = [] ∧ optD (firstF f p sh (List.range sh.length)) = .non) ∨ ∃ tl, (badL f p sh (List.range sh.length)).map (fun (i : Nat) => D.int (i : Int)) = optD (firstF f p sh (List.range sh.length)) :: tl := by
    have h1 := bad_first (f := f) (p := p) (s := sh) (List.range sh.length)
    rw [← h1]
    cases badL f p sh (List.range sh.length) with
    | nil => exact .inl ⟨rfl, rfl⟩
    | cons i l => exact .inr ⟨l.map fun (i : Nat) => D.int (i : Int), rfl⟩
  have hbne : bNe (.lst ((badL f p sh (List.range sh.length)).map fun (i : Nat) => D.int (i : Int))) (.lst []) = some (!((badL f p sh (List.range sh.length)).map fun (i : Nat) => D.int (i : Int)).isEmpty) := by
    refine bNe_nil _ (List.all_eq_true.mpr fun d hd => ?_)
    obtain ⟨i, _, rfl⟩ := List.mem_map.mp hd
    exact lev_int 19 _
  have hat : atom (optD (firstF f p sh (List.range sh.length))) = true := by
    cases firstF f p sh (List.range sh.length) <;> rfl
  have hval : (valD kvs (kI sh) = none ∧ (rowsG p G sh).map (rowD p) = []) ∨ valD kvs (kI sh) = some (.lst ((rowsG p G sh).map (rowD p))) := by
    rw [hT.vals]
    by_cases h0 : rowsG p G sh = []
    · rw [if_pos h0, h0]; exact .inl ⟨rfl, rfl⟩
    · rw [if_neg h0]; exact .inr rfl
  have hrm : ((rowsG p G sh).map (rowD p)).length = (rowsG p G sh).length := List.length_map _
  rw [← hrm] at hc
  have hl1 := like_int 3 (((rowsG p G sh).map (rowD p)).length : Int)
  obtain ⟨t11, t13, q11, q13, e9⟩ := rest9_run f p (sh.map D.int) _ _ _ _ kvs bg _ (.val (.scr ns)) (.own false tu.d) s5 s7 s8 (.val (.int w)) (.own false (.lst (nss.map tI))) s11 s12 s13 s14 h8 h11 h12 h14 (by omega) (toKey_I sh) hval (by omega) hc hk hw hl1 (like_marks _ hkl2) (like_atom 3 _ hat)
    (fun u11 hu => by
      obtain ⟨t11, t13, q1, q2, e⟩ := due_loop (p := p) (rowsG p G sh) (by omega) (.val (.scr ns)) (.own false tu.d) (.val (rulesD f p)) (.own false (.dic kvs)) (.own false (.dic bg)) s5 (.val (tI sh)) s7 s8 (.val (.int w)) (.own false (.lst (nss.map tI))) s14 .no (List.range f.toNat) [] u11 s13 hu (fun i hi fs hfs => by rw [hrows fs hfs]; exact List.mem_range.mp hi) (by simp; omega) h13
      rw [List.nil_append, hdue] at e
      exact ⟨t11, t13, q1, q2, e⟩) hbl hbne hsel
  have H := head9_run rest9 f p w a (nss.map tI) (vs.map D.int) (tI sh0) (tI sh) (.dic kvs) (.dic bg) t.d tt.d tu.d (.val (.scr ns)) s5 s6 s7 s8 s10 s11 s12 s13 s14 b _ h6 h10 (by omega) hsort (by omega) hd hix hgt
      (fun hbt => by
        obtain ⟨e1, e2⟩ := hyes hbt
        rw [e1, e2]
        exact ⟨rfl, hlc⟩)
      (fun hbf => by
        obtain ⟨e1, e2⟩ := hno hbf
        rw [e1, e2]
        exact ⟨rfl, rfl⟩) e9
  exact ⟨tu, .val (tI sh), .own false (.lst (nss.map tI)), t11, .own false (.lst _), t13, .own false (.lst _), rfl, rfl, q11, rfl, q13, rfl, H⟩
end My
namespace My
open PySem L2 FL
theorem k10_turns {f p : Int} {G : List (List (List Int))} {kvs bg : List (List Key × D)} (ok : Ok10 f p G kvs bg) (ns : List Int) (s5 s7 s8 : Sl) (h8 : Loose s8) : ∀ (ws : List Nat) (t : Tape) (s6 s9 s10 s11 s12 s13 s14 : Sl), FL.stored s6 = true → FL.stored s9 = true → FL.stored s10 = true → FL.stored s11 = true → FL.stored s12 = true → FL.stored s13 = true → FL.stored s14 = true →
    ∃ ρ', forL (.nm 9) gLaw_b9 (ws.map fun (k : Nat) => D.int (k : Int)) [.val (.scr ns), .own false t.d, .val (rulesD f p), .own false (.dic kvs), .own false (.dic bg), s5, s6, s7, s8, s9, s10, s11, s12, s13, s14, .no, .no, .no] = some (.nx, ρ')
  | [], t, s6, s9, s10, s11, s12, s13, s14, _, _, _, _, _, _, _ => ⟨_, rfl⟩
  | k :: ws, t, s6, s9, s10, s11, s12, s13, s14, h6, h9, h10, h11, h12, h13, h14 => by
    obtain ⟨t', t6, t10, t11, t12, t13, t14, q6, q10, q11, q12, q13, q14, e⟩ := k10_turn ok ns t (k : Int) s5 s6 s7 s8 s10 s11 s12 s13 s14 h6 h8 h10 h11 h12 h13 h14
    obtain ⟨ρ', e2⟩ := k10_turns ok ns s5 s7 s8 h8 ws t' t6 (.val (.int (k : Int))) t10 t11 t12 t13 t14 q6 rfl q10 q11 q12 q13 q14
    refine ⟨ρ', ?_⟩
    have e0 : asg (.nm 9) (.int (k : Int)) [.val (.scr ns), .own false t.d, .val (rulesD f p), .own false (.dic kvs), .own false (.dic bg), s5, s6, s7, s8, s9, s10, s11, s12, s13, s14, .no, .no, .no] = some [.val (.scr ns), .own false t.d, .val (rulesD f p), .own false (.dic kvs), .own false (.dic bg), s5, s6, s7, s8, .val (.int (k : Int)), s10, s11, s12, s13, s14, .no, .no, .no] := by
      generalize (k : Int) = kk at *
      simp [h9]
    rw [List.map_cons, forL_cons, e0, Option.bind_some, e, forO_nx, e2]
def start10 (T : Stm) : Stm := (sSeq (sAsg 1 (fLst [(fOpN oList [(fVar 0)]), (fC (.int 0)), (fC (.int 0))]))
    (sSeq (sAsg 2 (fTup [(fOp2 oAdd (fC (.int 1)) (fCall fnLawDraw [(fVar 1), (fC (.int 3))])), (fC (.int 2))]))
    (sSeq (sIf (fOp2 (oB bLt) (fOp2 oIx (fVar 2) (fC (.int 0))) (fC (.int 3))) (sAsg 2 (fTup [(fOp2 oIx (fVar 2) (fC (.int 0))), (fOp2 oAdd (fC (.int 2)) (fCall fnLawDraw [(fVar 1), (fC (.int 2))]))])) sNx) T)))
def mid10 (FA : Fn) (T : Stm) : Stm := (sSeq (sPar [3, 4] [fDic, (fDic1 true)])
    (sSeq (sFor (itSeq (fCall FA [(fVar 2), (fTup [])])) (.nm 5) gLaw_b3)
    (sSeq (sFor (itRg1 (fC (.int 20))) (.nm 9) gLaw_b9) T)))
def tail10 (FC FK : Fn) : Stm := (sRet (fAnd (fOp2 (oB bEq) (fCall FC [(fTup [(fC (.int 2)), (fC (.int 10))]), (fTup [(fC (.int 17)), (fC (.int 7))])]) (fC (.int 18))) (fOp2 (oB bEq) (fCall FK [(fTup [(fC (.int 2)), (fC (.int 10))]), (fTup [(fC (.int 17)), (fC (.int 7))])]) (fLst [(fC (.str "/X")), (fC (.str "-"))]))))
theorem law_shape : gLaw = start10 (mid10 fnLawAll (tail10 fnCountSheet fnKinds)) := rfl
def Set10 (f p : Int) : Prop := (f = 1 ∨ f = 2) ∧ (p = 2 ∨ p = 3) ∨ f = 3 ∧ p = 2
theorem start10_run (ns : List Int) : ∃ (f p : Int) (t : Tape), Set10 f p ∧ ∀ T : Stm, start10 T [.val (.scr ns), .no, .no, .no, .no, .no, .no, .no, .no, .no, .no, .no, .no, .no, .no, .no, .no, .no] = T [.val (.scr ns), .own false t.d, .val (rulesD f p), .no, .no, .no, .no, .no, .no, .no, .no, .no, .no, .no, .no, .no, .no, .no] := by
  obtain ⟨t, ht⟩ : ∃ t : Tape, t = ⟨ns, 0, 0⟩ := ⟨_, rfl⟩
  have htd : D.lst [.lst (ns.map .int), .int 0, .int 0] = t.d := by rw [ht]; rfl
  have o1 := t.out_lo (m := 3) (by decide)
  have o2 := t.out_hi (m := 3) (by decide)
  have hd := draw_ok t (m := 3) (by decide) (by decide)
  obtain ⟨u, hu⟩ : ∃ u, u = t.rest 3 := ⟨_, rfl⟩
  rw [← hu] at hd
  have o3 := u.out_lo (m := 2) (by decide)
  have o4 := u.out_hi (m := 2) (by decide)
  have hd2 := draw_ok u (m := 2) (by decide) (by decide)
  obtain ⟨a, ha⟩ : ∃ a, a = t.out 3 := ⟨_, rfl⟩
  rw [← ha] at hd o1 o2
  have r1 : -1000000 ≤ 1 + a ∧ 1 + a ≤ 1000000 := by omega
  have r2 : -1000000 ≤ 2 + u.out 2 ∧ 2 + u.out 2 ≤ 1000000 := by omega
  by_cases h : 1 + a < 3
  · refine ⟨1 + a, 2 + u.out 2, u.rest 2, .inl ⟨by omega, by omega⟩, fun T => ?_⟩
    clear hu ha o1 o2 o3 o4
    generalize t.d = td at *
    generalize (u.rest 2).d = ud at *
    generalize u.out 2 = b at *
    generalize u.d = ud0 at *
    simp [start10, cap, htd, hd, hd2, h, r1, r2]
  · refine ⟨1 + a, 2, u, .inr ⟨by omega, rfl⟩, fun T => ?_⟩
    clear hu ha o1 o2 o3 o4
    generalize t.d = td at *
    generalize u.d = ud0 at *
    simp [start10, cap, htd, hd, h, r1]
theorem mid10_run (FA : Fn) (T : Stm) (f p : Int) (t : D) (s0 : Sl) (AL : List D) (ρ1 ρ2 : List Sl) (R : Option (Out × List Sl)) (hA : FA [.val (rulesD f p), .val (.tup [])] = some (.own (.lst AL), [.val (rulesD f p), .val (.tup [])]))
    (h1 : forL (.nm 5) gLaw_b3 AL [s0, .own false t, .val (rulesD f p), .own false (.dic []), .own false (.dic [([], .bl true)]), .no, .no, .no, .no, .no, .no, .no, .no, .no, .no, .no, .no, .no] = some (.nx, ρ1))
    (h2 : forL (.nm 9) gLaw_b9 (rg1 20) ρ1 = some (.nx, ρ2)) (hT : T ρ2 = R) :
    mid10 FA T [s0, .own false t, .val (rulesD f p), .no, .no, .no, .no, .no, .no, .no, .no, .no, .no, .no, .no, .no, .no, .no] = R := by
  simp [mid10, cap, hA, h1, h2, hT]
theorem tail10_run (FC FK : Fn) (KX : D) (ρ : List Sl) (hc : FC [.val (.tup [.int 2, .int 10]), .val (.tup [.int 17, .int 7])] = some (.val (.int 18), [.val (.tup [.int 2, .int 10]), .val (.tup [.int 17, .int 7])]))
    (hk : FK [.val (.tup [.int 2, .int 10]), .val (.tup [.int 17, .int 7])] = some (.own KX, [.val (.tup [.int 2, .int 10]), .val (.tup [.int 17, .int 7])])) (hb : bEq KX (.lst [.str "/X", .str "-"]) = some true) :
    tail10 FC FK ρ = some (.rt (.val (.bl true)), ρ) := by
  simp [tail10, cap, hc, hk, hb]
theorem set_all {f p : Int} (h : Set10 f p) : 1 ≤ f ∧ f ≤ 10 ∧ 2 ≤ p ∧ p ≤ 10 ∧ (lastL p).Nodup ∧ (wholeL p).Nodup ∧ ((2 * f + 1).toNat + 1) * (p.toNat + 1) ^ (2 * f + 1).toNat ≤ 40000 ∧ geo (p.toNat + 1) ((2 * f + 1).toNat + 1) ≤ 10000 ∧ (gf p f.toNat) ≠ [] := by
  have hf : ∃ fs, fs ∈ gf p f.toNat := by
    rcases h with ⟨h1 | h1, h2 | h2⟩ | ⟨h1, h2⟩ <;> subst h1 <;> subst h2
    · exact ⟨[[0, 0]], by decide +kernel⟩
    · exact ⟨[[0, 0]], by decide +kernel⟩
    · exact ⟨[[0, 0], [0, 0]], by decide +kernel⟩
    · exact ⟨[[0, 0], [0, 0]], by decide +kernel⟩
    · exact ⟨[[0, 0], [0, 0], [0, 0]], (mem_gf (by decide) 3 _).mpr ⟨⟨⟨by decide, by decide, by decide, by decide⟩, ⟨by decide, by decide, by decide, by decide⟩, ⟨by decide, by decide, by decide, by decide⟩⟩, rfl⟩⟩
  have hne : gf p f.toNat ≠ [] := by
    obtain ⟨fs, hfs⟩ := hf
    intro z; rw [z] at hfs; cases hfs
  rcases h with ⟨h1 | h1, h2 | h2⟩ | ⟨h1, h2⟩ <;> subst h1 <;> subst h2 <;> exact ⟨by decide, by decide, by decide, by decide, by decide +kernel, by decide +kernel, by decide +kernel, by decide +kernel, hne⟩
theorem plain : ∀ ns : List Int, ns.length ≤ 63 → ∃ ρ', fnLaw [.val (.scr ns)] = some (.val (.bl true), ρ') := by
  intro ns _
  obtain ⟨f, p, t, hset, hstart⟩ := start10_run ns
  obtain ⟨f1, f2, p1, p2, n1, n2, hB, hgeo, hgne⟩ := set_all hset
  have g0 := Game.nil f1 f2 p1 p2
  obtain ⟨A, hA, hmem, hnd, _, _, hAl⟩ := law_all_ok g0 (K := (2 * f + 1).toNat) (fun k hk => openK_end g0 (by simp; omega)) (by omega) hB
  obtain ⟨G, rfl, hG⟩ := games_list f1 f2 p1 p2 n1 n2 hmem hnd
  rw [List.length_map] at hAl
  have hGm : ∀ fs ∈ G, DoneF p fs ∧ (fs.length : Int) = f := fun fs h => by
    obtain ⟨h1, h2⟩ := (mem_gf p1 _ _).mp (hG.mem_iff.mp h)
    exact ⟨h1, by omega⟩
  obtain ⟨kvs, bg, t5, t6, t7, t8, q5, q6, q7, q8, hT, hBg, e1⟩ := games_loop f1 f2 p1 p2 (.val (.scr ns)) (.own false t.d) .no .no .no .no .no .no G [] [] [([], .bl true)] .no .no .no .no hGm (by simp; omega) TabI.nil BegI.nil rfl rfl rfl Loose.no
  rw [List.nil_append] at hT hBg
  have ok : Ok10 f p G kvs bg := ⟨f1, f2, p1, p2, hG, by omega, fun z => hgne (by rw [z] at hG; exact hG.symm.eq_nil), hT, hBg⟩
  obtain ⟨ρ2, e2⟩ := k10_turns ok ns t5 t7 t8 q8 (List.range 20) t t6 .no .no .no .no .no .no q6 rfl rfl rfl rfl rfl rfl
  have e2' : forL (.nm 9) gLaw_b9 (rg1 20) _ = some (.nx, ρ2) := e2
  have hmm : (G.map List.flatten).map tI = G.map fun fs => tI fs.flatten := by rw [List.map_map]; rfl
  rw [hmm] at hA
  have hc := count_ok 2 10 [17, 7] (by decide) (by decide) (by decide) (by decide)
  have ec : cntT (tableT 2 10 [17, 7]) = 18 := by decide +kernel
  rw [ec] at hc
  have hk := kinds_ok 2 10 [17, 7] (by decide) (by decide) (by decide) (by decide)
  have ek : kindsT ([17, 7] : List Int).length (tableT 2 10 [17, 7]) = [6, 1] := by decide +kernel
  rw [ek] at hk
  have hb : bEq (.lst (([6, 1] : List Int).map fun v => D.str (markS v))) (.lst [.str "/X", .str "-"]) = some true := by decide +kernel
  have h3 := (hstart (mid10 fnLawAll (tail10 fnCountSheet fnKinds))).trans (mid10_run fnLawAll (tail10 fnCountSheet fnKinds) f p t.d (.val (.scr ns)) _ _ ρ2 _ hA e1 e2' (tail10_run fnCountSheet fnKinds _ ρ2 hc hk hb))
  refine ⟨outs [.val (.scr ns)] ρ2, ?_⟩
  rw [fnLaw, defF_eq, law_shape]
  have h4 := congrArg (fun z => Option.bind z (defO [.val (.scr ns)])) h3
  exact h4
end My
namespace My
open PySem L2 FL
theorem all_mk {l : PySem.W.OpenLaw} {w : World} {K : PySem.W.Frag} {h : Heap} {mg : Str → Option Value} {fa f1 f2 f3 f4 f5 f6 f7 f8 f9 f10 f11 f12 f13 f14 f15 f16 f17 f18 f19 : Addr} (X : K.In h) (G : h.Ns mainGlobals mg) (hfa : mg "law" = some (.ref fa))
    {od1 od2 od3 od4 od5 od6 od7 od8 od9 od10 od11 od12 od13 od14 od15 od16 od17 od18 od19 an1 an2 an3 an4 an5 an6 an7 an8 an9 an10 an11 an12 an13 an14 an15 an16 an17 an18 an19 : Option Addr} {sl1 sl2 sl3 sl4 sl5 sl6 sl7 sl8 sl9 sl10 sl11 sl12 sl13 sl14 sl15 sl16 sl17 sl18 sl19 : Array (Option Value)} {oc1 oc2 oc3 oc4 oc5 oc6 oc7 oc8 oc9 oc10 oc11 oc12 oc13 oc14 oc15 oc16 oc17 oc18 oc19 kV1 kV2 kV3 kV4 kV5 kV6 kV7 kV8 kV9 kV10 kV11 kV12 kV13 kV14 kV15 kV16 kV17 kV18 kV19 dc1 dc2 dc3 dc4 dc5 dc6 dc7 dc8 dc9 dc10 dc11 dc12 dc13 dc14 dc15 dc16 dc17 dc18 dc19 pm1 pm2 pm3 pm4 pm5 pm6 pm7 pm8 pm9 pm10 pm11 pm12 pm13 pm14 pm15 pm16 pm17 pm18 pm19 cd1 cd2 cd3 cd4 cd5 cd6 cd7 cd8 cd9 cd10 cd11 cd12 cd13 cd14 cd15 cd16 cd17 cd18 cd19 ct1 ct2 ct3 ct4 ct5 ct6 ct7 ct8 ct9 ct10 ct11 ct12 ct13 ct14 ct15 ct16 ct17 ct18 ct19 : Value}
    (a1 : PySem.W.nsIn K mainGlobals "last_frames" = some (some (.ref f1))) (l1 : K.lookup f1 = some ⟨oc1, od1, .func (PySem.W.fnOf "last_frames" "last_frames" (defArgs sLastFrames) (defBody sLastFrames) (defScope sLastFrames) .none kV1 dc1 pm1 an1 cd1 ct1), sl1⟩) (c1 : PySem.W.codeIn K cd1 "last_frames" = true) (k1 : PySem.W.keepIn K (.ref f1) = true)
    (a2 : PySem.W.nsIn K mainGlobals "add_row" = some (some (.ref f2))) (l2 : K.lookup f2 = some ⟨oc2, od2, .func (PySem.W.fnOf "add_row" "add_row" (defArgs sAddRow) (defBody sAddRow) (defScope sAddRow) .none kV2 dc2 pm2 an2 cd2 ct2), sl2⟩) (c2 : PySem.W.codeIn K cd2 "add_row" = true) (k2 : PySem.W.keepIn K (.ref f2) = true)
    (a3 : PySem.W.nsIn K mainGlobals "any_rolls" = some (some (.ref f3))) (l3 : K.lookup f3 = some ⟨oc3, od3, .func (PySem.W.fnOf "any_rolls" "any_rolls" (defArgs sAnyRolls) (defBody sAnyRolls) (defScope sAnyRolls) .none kV3 dc3 pm3 an3 cd3 ct3), sl3⟩) (c3 : PySem.W.codeIn K cd3 "any_rolls" = true) (k3 : PySem.W.keepIn K (.ref f3) = true)
    (a4 : PySem.W.nsIn K mainGlobals "last_table" = some (some (.ref f4))) (l4 : K.lookup f4 = some ⟨oc4, od4, .func (PySem.W.fnOf "last_table" "last_table" (defArgs sLastTable) (defBody sLastTable) (defScope sLastTable) .none kV4 dc4 pm4 an4 cd4 ct4), sl4⟩) (c4 : PySem.W.codeIn K cd4 "last_table" = true) (k4 : PySem.W.keepIn K (.ref f4) = true)
    (a5 : PySem.W.nsIn K mainGlobals "table_before" = some (some (.ref f5))) (l5 : K.lookup f5 = some ⟨oc5, od5, .func (PySem.W.fnOf "table_before" "table_before" (defArgs sTableBefore) (defBody sTableBefore) (defScope sTableBefore) .none kV5 dc5 pm5 an5 cd5 ct5), sl5⟩) (c5 : PySem.W.codeIn K cd5 "table_before" = true) (k5 : PySem.W.keepIn K (.ref f5) = true)
    (a6 : PySem.W.nsIn K mainGlobals "table_of" = some (some (.ref f6))) (l6 : K.lookup f6 = some ⟨oc6, od6, .func (PySem.W.fnOf "table_of" "table_of" (defArgs sTableOf) (defBody sTableOf) (defScope sTableOf) .none kV6 dc6 pm6 an6 cd6 ct6), sl6⟩) (c6 : PySem.W.codeIn K cd6 "table_of" = true) (k6 : PySem.W.keepIn K (.ref f6) = true)
    (a7 : PySem.W.nsIn K mainGlobals "count_sheet" = some (some (.ref f7))) (l7 : K.lookup f7 = some ⟨oc7, od7, .func (PySem.W.fnOf "count_sheet" "count_sheet" (defArgs sCountSheet) (defBody sCountSheet) (defScope sCountSheet) .none kV7 dc7 pm7 an7 cd7 ct7), sl7⟩) (c7 : PySem.W.codeIn K cd7 "count_sheet" = true) (k7 : PySem.W.keepIn K (.ref f7) = true)
    (a8 : PySem.W.nsIn K mainGlobals "kinds" = some (some (.ref f8))) (l8 : K.lookup f8 = some ⟨oc8, od8, .func (PySem.W.fnOf "kinds" "kinds" (defArgs sKinds) (defBody sKinds) (defScope sKinds) .none kV8 dc8 pm8 an8 cd8 ct8), sl8⟩) (c8 : PySem.W.codeIn K cd8 "kinds" = true) (k8 : PySem.W.keepIn K (.ref f8) = true)
    (a9 : PySem.W.nsIn K mainGlobals "first_wrong" = some (some (.ref f9))) (l9 : K.lookup f9 = some ⟨oc9, od9, .func (PySem.W.fnOf "first_wrong" "first_wrong" (defArgs sFirstWrong) (defBody sFirstWrong) (defScope sFirstWrong) .none kV9 dc9 pm9 an9 cd9 ct9), sl9⟩) (c9 : PySem.W.codeIn K cd9 "first_wrong" = true) (k9 : PySem.W.keepIn K (.ref f9) = true)
    (a10 : PySem.W.nsIn K mainGlobals "_law_draw" = some (some (.ref f10))) (l10 : K.lookup f10 = some ⟨oc10, od10, .func (PySem.W.fnOf "_law_draw" "_law_draw" (defArgs sLawDraw) (defBody sLawDraw) (defScope sLawDraw) .none kV10 dc10 pm10 an10 cd10 ct10), sl10⟩) (c10 : PySem.W.codeIn K cd10 "_law_draw" = true) (k10 : PySem.W.keepIn K (.ref f10) = true)
    (a11 : PySem.W.nsIn K mainGlobals "_law_like" = some (some (.ref f11))) (l11 : K.lookup f11 = some ⟨oc11, od11, .func (PySem.W.fnOf "_law_like" "_law_like" (defArgs sLawLike) (defBody sLawLike) (defScope sLawLike) .none kV11 dc11 pm11 an11 cd11 ct11), sl11⟩) (c11 : PySem.W.codeIn K cd11 "_law_like" = true) (k11 : PySem.W.keepIn K (.ref f11) = true)
    (a12 : PySem.W.nsIn K mainGlobals "_law_needed" = some (some (.ref f12))) (l12 : K.lookup f12 = some ⟨oc12, od12, .func (PySem.W.fnOf "_law_needed" "_law_needed" (defArgs sLawNeeded) (defBody sLawNeeded) (defScope sLawNeeded) .none kV12 dc12 pm12 an12 cd12 ct12), sl12⟩) (c12 : PySem.W.codeIn K cd12 "_law_needed" = true) (k12 : PySem.W.keepIn K (.ref f12) = true)
    (a13 : PySem.W.nsIn K mainGlobals "_law_stands" = some (some (.ref f13))) (l13 : K.lookup f13 = some ⟨oc13, od13, .func (PySem.W.fnOf "_law_stands" "_law_stands" (defArgs sLawStands) (defBody sLawStands) (defScope sLawStands) .none kV13 dc13 pm13 an13 cd13 ct13), sl13⟩) (c13 : PySem.W.codeIn K cd13 "_law_stands" = true) (k13 : PySem.W.keepIn K (.ref f13) = true)
    (a14 : PySem.W.nsIn K mainGlobals "_law_split" = some (some (.ref f14))) (l14 : K.lookup f14 = some ⟨oc14, od14, .func (PySem.W.fnOf "_law_split" "_law_split" (defArgs sLawSplit) (defBody sLawSplit) (defScope sLawSplit) .none kV14 dc14 pm14 an14 cd14 ct14), sl14⟩) (c14 : PySem.W.codeIn K cd14 "_law_split" = true) (k14 : PySem.W.keepIn K (.ref f14) = true)
    (a15 : PySem.W.nsIn K mainGlobals "_law_parts" = some (some (.ref f15))) (l15 : K.lookup f15 = some ⟨oc15, od15, .func (PySem.W.fnOf "_law_parts" "_law_parts" (defArgs sLawParts) (defBody sLawParts) (defScope sLawParts) .none kV15 dc15 pm15 an15 cd15 ct15), sl15⟩) (c15 : PySem.W.codeIn K cd15 "_law_parts" = true) (k15 : PySem.W.keepIn K (.ref f15) = true)
    (a16 : PySem.W.nsIn K mainGlobals "_law_settled" = some (some (.ref f16))) (l16 : K.lookup f16 = some ⟨oc16, od16, .func (PySem.W.fnOf "_law_settled" "_law_settled" (defArgs sLawSettled) (defBody sLawSettled) (defScope sLawSettled) .none kV16 dc16 pm16 an16 cd16 ct16), sl16⟩) (c16 : PySem.W.codeIn K cd16 "_law_settled" = true) (k16 : PySem.W.keepIn K (.ref f16) = true)
    (a17 : PySem.W.nsIn K mainGlobals "_law_all" = some (some (.ref f17))) (l17 : K.lookup f17 = some ⟨oc17, od17, .func (PySem.W.fnOf "_law_all" "_law_all" (defArgs sLawAll) (defBody sLawAll) (defScope sLawAll) .none kV17 dc17 pm17 an17 cd17 ct17), sl17⟩) (c17 : PySem.W.codeIn K cd17 "_law_all" = true) (k17 : PySem.W.keepIn K (.ref f17) = true)
    (a18 : PySem.W.nsIn K mainGlobals "_law_kind" = some (some (.ref f18))) (l18 : K.lookup f18 = some ⟨oc18, od18, .func (PySem.W.fnOf "_law_kind" "_law_kind" (defArgs sLawKind) (defBody sLawKind) (defScope sLawKind) .none kV18 dc18 pm18 an18 cd18 ct18), sl18⟩) (c18 : PySem.W.codeIn K cd18 "_law_kind" = true) (k18 : PySem.W.keepIn K (.ref f18) = true)
    (a19 : PySem.W.nsIn K mainGlobals "law" = some (some (.ref f19))) (l19 : K.lookup f19 = some ⟨oc19, od19, .func (PySem.W.fnOf "law" "law" (defArgs sLaw) (defBody sLaw) (defScope sLaw) .none kV19 dc19 pm19 an19 cd19 ct19), sl19⟩) (c19 : PySem.W.codeIn K cd19 "law" = true) (k19 : PySem.W.keepIn K (.ref f19) = true)
    {tMARKS : Tok} (gMARKS : PySem.W.nsIn K mainGlobals "MARKS" = some (some (.str "-/X" tMARKS)))
    (zlen : PySem.W.nsIn K mainGlobals "len" = some none)
    (zsum : PySem.W.nsIn K mainGlobals "sum" = some none)
    (zlist : PySem.W.nsIn K mainGlobals "list" = some none)
    (ztuple : PySem.W.nsIn K mainGlobals "tuple" = some none)
    (zbool : PySem.W.nsIn K mainGlobals "bool" = some none)
    (zsorted : PySem.W.nsIn K mainGlobals "sorted" = some none)
    (zrange : PySem.W.nsIn K mainGlobals "range" = some none)
    (zenumerate : PySem.W.nsIn K mainGlobals "enumerate" = some none)
    (zzip : PySem.W.nsIn K mainGlobals "zip" = some none)
    (zisinstance : PySem.W.nsIn K mainGlobals "isinstance" = some none) :
    ∃ fd : FuncData, (∀ (s : Shared) (v : Value), BindsTo s fd ⟨[v], []⟩ [("script", v)]) ∧ ∀ base : Heap, K.In base → base.Ns mainGlobals mg → FnOk l.prog w K mg base CX0 5 fa fd ["script"] (spV K 1 fnLaw) := by
  have e := hfa.symm.trans (PySem.W.mg_of X G a19)
  cases e
  have G1 : Gb mg := ⟨PySem.W.mg_none_of X G zlen, PySem.W.mg_none_of X G zsum, PySem.W.mg_none_of X G zlist, PySem.W.mg_none_of X G ztuple, PySem.W.mg_none_of X G zbool, PySem.W.mg_none_of X G zsorted, PySem.W.mg_none_of X G zrange, PySem.W.mg_none_of X G zenumerate, PySem.W.mg_none_of X G zzip, PySem.W.mg_none_of X G zisinstance, trivial⟩
  have T1 : Tx K mg := ⟨⟨_, PySem.W.mg_of X G gMARKS⟩, trivial⟩
  refine ⟨PySem.W.fnOf "law" "law" (defArgs sLaw) (defBody sLaw) (defScope sLaw) .none kV19 dc19 pm19 an19 cd19 ct19, fun s v => .of_eq rfl, fun base _ _ => ?_⟩
  have C_LastFrames : Cal l.prog w K mg base "last_frames" 1 1 fnLastFrames := calLastFrames (fun_mk (st := sLastFrames) l1 c1 k1) (PySem.W.mg_of X G a1) G1 T1 
  have C_AddRow : Cal l.prog w K mg base "add_row" 1 4 fnAddRow := calAddRow (fun_mk (st := sAddRow) l2 c2 k2) (PySem.W.mg_of X G a2) G1 T1 
  have C_AnyRolls : Cal l.prog w K mg base "any_rolls" 1 1 fnAnyRolls := calAnyRolls (fun_mk (st := sAnyRolls) l3 c3 k3) (PySem.W.mg_of X G a3) G1 T1 
  have C_LastTable : Cal l.prog w K mg base "last_table" 2 2 fnLastTable := calLastTable (fun_mk (st := sLastTable) l4 c4 k4) (PySem.W.mg_of X G a4) G1 T1 C_LastFrames C_AddRow
  have C_TableBefore : Cal l.prog w K mg base "table_before" 2 3 fnTableBefore := calTableBefore (fun_mk (st := sTableBefore) l5 c5 k5) (PySem.W.mg_of X G a5) G1 T1 C_AddRow
  have C_TableOf : Cal l.prog w K mg base "table_of" 3 2 fnTableOf := calTableOf (fun_mk (st := sTableOf) l6 c6 k6) (PySem.W.mg_of X G a6) G1 T1 C_LastTable C_AnyRolls C_TableBefore
  have C_CountSheet : Cal l.prog w K mg base "count_sheet" 4 2 fnCountSheet := calCountSheet (fun_mk (st := sCountSheet) l7 c7 k7) (PySem.W.mg_of X G a7) G1 T1 C_TableOf
  have C_Kinds : Cal l.prog w K mg base "kinds" 4 2 fnKinds := calKinds (fun_mk (st := sKinds) l8 c8 k8) (PySem.W.mg_of X G a8) G1 T1 C_TableOf
  have C_FirstWrong : Cal l.prog w K mg base "first_wrong" 4 2 fnFirstWrong := calFirstWrong (fun_mk (st := sFirstWrong) l9 c9 k9) (PySem.W.mg_of X G a9) G1 T1 C_TableOf
  have C_LawDraw : Cal l.prog w K mg base "_law_draw" 1 2 fnLawDraw := calLawDraw (fun_mk (st := sLawDraw) l10 c10 k10) (PySem.W.mg_of X G a10) G1 T1 
  have C_LawLike : Cal l.prog w K mg base "_law_like" 4 2 (fnLawLike 4) := calLawLike (fun_mk (st := sLawLike) l11 c11 k11) (PySem.W.mg_of X G a11) G1 T1  4
  have C_LawNeeded : Cal l.prog w K mg base "_law_needed" 1 3 fnLawNeeded := calLawNeeded (fun_mk (st := sLawNeeded) l12 c12 k12) (PySem.W.mg_of X G a12) G1 T1 
  have C_LawStands : Cal l.prog w K mg base "_law_stands" 1 2 fnLawStands := calLawStands (fun_mk (st := sLawStands) l13 c13 k13) (PySem.W.mg_of X G a13) G1 T1 
  have C_LawSplit : Cal l.prog w K mg base "_law_split" 2 2 fnLawSplit := calLawSplit (fun_mk (st := sLawSplit) l14 c14 k14) (PySem.W.mg_of X G a14) G1 T1 C_LawStands C_LawNeeded
  have C_LawParts : Cal l.prog w K mg base "_law_parts" 3 2 fnLawParts := calLawParts (fun_mk (st := sLawParts) l15 c15 k15) (PySem.W.mg_of X G a15) G1 T1 C_LawSplit C_LawNeeded
  have C_LawSettled : Cal l.prog w K mg base "_law_settled" 4 2 fnLawSettled := calLawSettled (fun_mk (st := sLawSettled) l16 c16 k16) (PySem.W.mg_of X G a16) G1 T1 C_LawParts
  have C_LawAll : Cal l.prog w K mg base "_law_all" 3 2 fnLawAll := calLawAll (fun_mk (st := sLawAll) l17 c17 k17) (PySem.W.mg_of X G a17) G1 T1 C_LawSplit C_LawStands
  have C_LawKind : Cal l.prog w K mg base "_law_kind" 1 2 fnLawKind := calLawKind (fun_mk (st := sLawKind) l18 c18 k18) (PySem.W.mg_of X G a18) G1 T1 
  exact okLaw (fun_mk (st := sLaw) l19 c19 k19) G1 T1 C_LawDraw C_LawAll C_LawSettled C_LawSplit C_LawKind C_LawLike C_CountSheet C_Kinds C_FirstWrong
/-- what is left: the plain law -/
abbrev Plain : Prop := ∀ ns : List Int, ns.length ≤ 63 → ∃ ρ', fnLaw [.val (.scr ns)] = some (.val (.bl true), ρ')
theorem walk (hp : Plain) {l : PySem.W.OpenLaw} {q : Program} {loose : List Str} {XP : (Str → Option Value) → Heap → Prop} {YP : World → Heap → Prop} {d : DefRec} {K : Params → PySem.W.Frag} (hn : l.most = some 63) (hdf : d.params.defaults = [])
    (hY : ∀ (w : World) (h : Heap), YP w h → (K w.params).In h)
    (F : ∀ (w : World) (mg : Str → Option Value) (fa : Addr) (h : Heap), (K w.params).In h → h.Ns mainGlobals mg → mg d.name = some (.ref fa) →
      ∃ fd : FuncData, (∀ (s : Shared) (u : Value), BindsTo s fd ⟨[u], []⟩ [("script", u)]) ∧ ∀ base : Heap, (K w.params).In base → base.Ns mainGlobals mg → FnOk l.prog w (K w.params) mg base CX0 5 fa fd ["script"] (spV (K w.params) 1 fnLaw)) :
    PySem.W.WalkO q loose XP YP l.row.toRowW d [] (fun f vs => PySem.call f vs) :=
  L2.walk_of (n := 63) (k := 5) (x := "script") (CX := fun _ => CX0) (sp := fun w => spV (K w.params) 1 fnLaw) hn (by decide) hdf ⟨rfl, by decide, by decide⟩ hY F (fun _ _ a ns hl _ hS => let ⟨_, e⟩ := hp ns hl; sp_law hS e) fun _ _ _ _ _ z => z
end My

open PySem PySem.W PyProof.Rows in
set_option maxRecDepth 100000 in
set_option maxHeartbeats 0 in
theorem PySem.Challenge.cw_pinframes_k10_whole_sheets_of_short_game_holds : PySem.Challenge.rw_pinframes_k10_whole_sheets_of_short_game.Holds := by
  w_on; o_law; k_head; (case hw => w_witness2)
  k_fill
  refine My.walk My.plain (l := PySem.Challenge.rw_pinframes_k10_whole_sheets_of_short_game) rfl rfl (fun w h Y => PySem.W.kIn_of Y) ?F
  case F =>
    intro w mg fa h KX G hmg
    refine' My.all_mk KX G hmg ?a1 ?l1 ?c1 ?k1 ?a2 ?l2 ?c2 ?k2 ?a3 ?l3 ?c3 ?k3 ?a4 ?l4 ?c4 ?k4 ?a5 ?l5 ?c5 ?k5 ?a6 ?l6 ?c6 ?k6 ?a7 ?l7 ?c7 ?k7 ?a8 ?l8 ?c8 ?k8 ?a9 ?l9 ?c9 ?k9 ?a10 ?l10 ?c10 ?k10 ?a11 ?l11 ?c11 ?k11 ?a12 ?l12 ?c12 ?k12 ?a13 ?l13 ?c13 ?k13 ?a14 ?l14 ?c14 ?k14 ?a15 ?l15 ?c15 ?k15 ?a16 ?l16 ?c16 ?k16 ?a17 ?l17 ?c17 ?k17 ?a18 ?l18 ?c18 ?k18 ?a19 ?l19 ?c19 ?k19 ?gMARKS ?zlen ?zsum ?zlist ?ztuple ?zbool ?zsorted ?zrange ?zenumerate ?zzip ?zisinstance
    (case a1 => k_is)
    (case l1 => k_is)
    (case c1 => k_is)
    (case k1 => k_is)
    (case a2 => k_is)
    (case l2 => k_is)
    (case c2 => k_is)
    (case k2 => k_is)
    (case a3 => k_is)
    (case l3 => k_is)
    (case c3 => k_is)
    (case k3 => k_is)
    (case a4 => k_is)
    (case l4 => k_is)
    (case c4 => k_is)
    (case k4 => k_is)
    (case a5 => k_is)
    (case l5 => k_is)
    (case c5 => k_is)
    (case k5 => k_is)
    (case a6 => k_is)
    (case l6 => k_is)
    (case c6 => k_is)
    (case k6 => k_is)
    (case a7 => k_is)
    (case l7 => k_is)
    (case c7 => k_is)
    (case k7 => k_is)
    (case a8 => k_is)
    (case l8 => k_is)
    (case c8 => k_is)
    (case k8 => k_is)
    (case a9 => k_is)
    (case l9 => k_is)
    (case c9 => k_is)
    (case k9 => k_is)
    (case a10 => k_is)
    (case l10 => k_is)
    (case c10 => k_is)
    (case k10 => k_is)
    (case a11 => k_is)
    (case l11 => k_is)
    (case c11 => k_is)
    (case k11 => k_is)
    (case a12 => k_is)
    (case l12 => k_is)
    (case c12 => k_is)
    (case k12 => k_is)
    (case a13 => k_is)
    (case l13 => k_is)
    (case c13 => k_is)
    (case k13 => k_is)
    (case a14 => k_is)
    (case l14 => k_is)
    (case c14 => k_is)
    (case k14 => k_is)
    (case a15 => k_is)
    (case l15 => k_is)
    (case c15 => k_is)
    (case k15 => k_is)
    (case a16 => k_is)
    (case l16 => k_is)
    (case c16 => k_is)
    (case k16 => k_is)
    (case a17 => k_is)
    (case l17 => k_is)
    (case c17 => k_is)
    (case k17 => k_is)
    (case a18 => k_is)
    (case l18 => k_is)
    (case c18 => k_is)
    (case k18 => k_is)
    (case a19 => k_is)
    (case l19 => k_is)
    (case c19 => k_is)
    (case k19 => k_is)
    (case gMARKS => k_is)
    (case zlen => k_is)
    (case zsum => k_is)
    (case zlist => k_is)
    (case ztuple => k_is)
    (case zbool => k_is)
    (case zsorted => k_is)
    (case zrange => k_is)
    (case zenumerate => k_is)
    (case zzip => k_is)
    (case zisinstance => k_is)
