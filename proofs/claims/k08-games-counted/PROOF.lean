import PyProof.Rows.All
import Wide.All
import OpenK.AllK
import Wide.FinOn
import HandS.ForMost
import HandS.Style
import HandS.TupAny
import HandS.TupMul
import HandS.TupLe
import HandS.Wide
import HandS.IsInst
import HandS.Walk
import HandS.Zip
import HandS.Conv
import HandS.Deep
import HandS.Star
import HandS.More
import HandS.SetFor
import HandS.Small
import HandS.SortInts
import HandS.WideBits
import KE.KSortedM
import KE.GoesNew
import KE.GoesNewDict
import KE.KTupSum
import KE.KSortTupAny
import HandS.SortOrd
import HandS.TupSets
import HandS.Strs
import PySem.Challenge.RW_pinframes_k08_whole_games_counted
set_option Elab.async false
set_option linter.all false
set_option maxRecDepth 100000
set_option maxHeartbeats 4000000
/-! # Values without addresses: data D, slots Sl, and what an expression or a statement gives as a plain function of the slots -/
namespace FL
open PySem L2

/-- data, deep -/
inductive D where
  | non | bl (b : Bool) | int (i : Int) | str (x : Str) | tup (xs : List D) | lst (xs : List D)
  | dic (kvs : List (List Key × D)) | scr (ns : List Int)

/-- what a slot holds: nothing known, a value that never changes, an object that this slot alone holds (pinned: an argument) -/
inductive Sl where
  | no | val (d : D) | own (p : Bool) (d : D)

/-- what an expression gives: a value, a new object, the object of a slot -/
inductive R where
  | val (d : D) | own (d : D) | al (i : Nat)

def overD : List D := [.int 0, .int 0, .int 0, .str "over", .int 0]
def overV : List V := [.int 0, .int 0, .int 0, .str "over", .int 0]

mutual
inductive Rep (K : PySem.W.Frag) (S : Hp) : V → D → Prop
  | non : Rep K S .non .non
  | bl (b : Bool) : Rep K S (.bl b) (.bl b)
  | int (i : Int) : Rep K S (.int i) (.int i)
  | str (x : Str) : Rep K S (.str x) (.str x)
  | tup {a : Addr} {vs : List V} {ds : List D} : S a = some (.tup vs) → Reps K S vs ds → Rep K S (.ref a) (.tup ds)
  | con {a : Addr} : SqT K (fun _ => none) a overV → Rep K S (.ref a) (.tup overD)
  | lst {a : Addr} {vs : List V} {ds : List D} : S a = some (.lst vs) → Reps K S vs ds → Rep K S (.ref a) (.lst ds)
  | dic {a : Addr} {ks : List (List Key × V)} {ds : List (List Key × D)} : Rd S a (.dT ks) → RepK K S ks ds → Rep K S (.ref a) (.dic ds)
  | scr {a : Addr} {ns : List Int} : SqL K S a (ns.map V.int) → Rep K S (.ref a) (.scr ns)
inductive Reps (K : PySem.W.Frag) (S : Hp) : List V → List D → Prop
  | nil : Reps K S [] []
  | cons {v : V} {d : D} {vs : List V} {ds : List D} : Rep K S v d → Reps K S vs ds → Reps K S (v :: vs) (d :: ds)
inductive RepK (K : PySem.W.Frag) (S : Hp) : List (List Key × V) → List (List Key × D) → Prop
  | nil : RepK K S [] []
  | cons {k : List Key} {v : V} {d : D} {vs : List (List Key × V)} {ds : List (List Key × D)} : Rep K S v d → RepK K S vs ds → RepK K S ((k, v) :: vs) ((k, d) :: ds)
end

/-- what is known stays known -/
structure Le (S S' : Hp) : Prop where
  tup : ∀ a vs, S a = some (.tup vs) → S' a = some (.tup vs)
  lst : ∀ a vs, S a = some (.lst vs) → S' a = some (.lst vs)
  dic : ∀ a ks, Rd S a (.dT ks) → Rd S' a (.dT ks)
  rdl : ∀ a vs, Rd S a (.lst vs) → Rd S' a (.lst vs)
theorem Le.of {S S' : Hp} (h : Same S S') : Le S S' :=
  ⟨fun a _ e => h a _ e, fun a _ e => h a _ e, fun a _ e => e.elim (fun q => .inl (h a _ q)) fun ⟨o, q⟩ => .inr ⟨o, h a _ q⟩, fun a _ e => e.elim (fun q => .inl (h a _ q)) fun ⟨o, q⟩ => .inr ⟨o, h a _ q⟩⟩

section
variable {K : PySem.W.Frag} {S S' H H' : Hp}
mutual
theorem Rep.le (h : Le S S') : ∀ {v : V} {d : D}, Rep K S v d → Rep K S' v d
  | _, _, .non => .non
  | _, _, .bl b => .bl b
  | _, _, .int i => .int i
  | _, _, .str x => .str x
  | _, _, .tup e r => .tup (h.tup _ _ e) (Reps.le h r)
  | _, _, .con e => .con e
  | _, _, .lst e r => .lst (h.lst _ _ e) (Reps.le h r)
  | _, _, .dic e r => .dic (h.dic _ _ e) (RepK.le h r)
  | _, _, .scr e => .scr (e.elim (fun q => .inl (h.rdl _ _ q)) .inr)
theorem Reps.le (h : Le S S') : ∀ {vs : List V} {ds : List D}, Reps K S vs ds → Reps K S' vs ds
  | _, _, .nil => .nil
  | _, _, .cons r t => .cons (Rep.le h r) (Reps.le h t)
theorem RepK.le (h : Le S S') : ∀ {vs : List (List Key × V)} {ds : List (List Key × D)}, RepK K S vs ds → RepK K S' vs ds
  | _, _, .nil => .nil
  | _, _, .cons r t => .cons (Rep.le h r) (RepK.le h t)
end
theorem Rep.mono (h : Same S S') {v : V} {d : D} (r : Rep K S v d) : Rep K S' v d := r.le (.of h)
theorem Reps.mono (h : Same S S') {v : List V} {d : List D} (r : Reps K S v d) : Reps K S' v d := r.le (.of h)
theorem RepK.mono (h : Same S S') {v : List (List Key × V)} {d : List (List Key × D)} (r : RepK K S v d) : RepK K S' v d := r.le (.of h)
theorem Reps.length : ∀ {vs : List V} {ds : List D}, Reps K S vs ds → vs.length = ds.length
  | _, _, .nil => rfl
  | _, _, .cons _ t => congrArg (· + 1) (Reps.length t)
theorem Reps.get : ∀ {vs : List V} {ds : List D}, Reps K S vs ds → ∀ {i : Nat} {d : D}, ds[i]? = some d → ∃ v, vs[i]? = some v ∧ Rep K S v d
  | _, _, .nil, i, d, e => by simp at e
  | _, _, .cons (v := v) r _, 0, d, e => by simp at e; subst e; exact ⟨v, rfl, r⟩
  | _, _, .cons _ t, i + 1, d, e => by simpa using Reps.get t (by simpa using e)
theorem Reps.getV : ∀ {vs : List V} {ds : List D}, Reps K S vs ds → ∀ {i : Nat} {v : V}, vs[i]? = some v → ∃ d, ds[i]? = some d ∧ Rep K S v d
  | _, _, .nil, i, d, e => by simp at e
  | _, _, .cons (d := d) r _, 0, v, e => by simp at e; subst e; exact ⟨d, rfl, r⟩
  | _, _, .cons _ t, i + 1, d, e => by simpa using Reps.getV t (by simpa using e)
theorem Reps.append : ∀ {vs us : List V} {ds es : List D}, Reps K S vs ds → Reps K S us es → Reps K S (vs ++ us) (ds ++ es)
  | _, _, _, _, .nil, s => s
  | _, _, _, _, .cons r t, s => .cons r (Reps.append t s)
theorem Reps.take : ∀ {vs : List V} {ds : List D} (n : Nat), Reps K S vs ds → Reps K S (vs.take n) (ds.take n)
  | _, _, 0, _ => by simp; exact .nil
  | _, _, _ + 1, .nil => .nil
  | _, _, n + 1, .cons r t => .cons r (Reps.take n t)
theorem Reps.drop : ∀ {vs : List V} {ds : List D} (n : Nat), Reps K S vs ds → Reps K S (vs.drop n) (ds.drop n)
  | _, _, 0, r => r
  | _, _, _ + 1, .nil => .nil
  | _, _, n + 1, .cons _ t => Reps.drop n t
theorem Reps.set : ∀ {vs : List V} {ds : List D} {v : V} {d : D} (n : Nat), Rep K S v d → Reps K S vs ds → Reps K S (vs.set n v) (ds.set n d)
  | _, _, _, _, _, _, .nil => .nil
  | _, _, _, _, 0, q, .cons _ t => .cons q t
  | _, _, _, _, n + 1, q, .cons r t => .cons r (Reps.set n q t)
theorem Reps.one {v : V} {d : D} (r : Rep K S v d) : Reps K S [v] [d] := .cons r .nil
theorem Reps.ints : ∀ (ns : List Int), Reps K S (ns.map V.int) (ns.map D.int)
  | [] => .nil
  | n :: ns => .cons (.int n) (Reps.ints ns)
theorem Reps.rep {v : V} {d : D} (r : Rep K S v d) : ∀ n : Nat, Reps K S (List.replicate n v) (List.replicate n d)
  | 0 => .nil
  | n + 1 => by rw [List.replicate_succ, List.replicate_succ]; exact .cons r (Reps.rep r n)
theorem Reps.flat {vs : List V} {ds : List D} (r : Reps K S vs ds) : ∀ n : Nat, Reps K S (List.replicate n vs).flatten (List.replicate n ds).flatten
  | 0 => .nil
  | n + 1 => by rw [List.replicate_succ, List.replicate_succ, List.flatten_cons, List.flatten_cons]; exact Reps.append r (Reps.flat r n)
theorem Reps.reverse : ∀ {vs : List V} {ds : List D}, Reps K S vs ds → Reps K S vs.reverse ds.reverse
  | _, _, .nil => .nil
  | _, _, .cons r t => by rw [List.reverse_cons, List.reverse_cons]; exact Reps.append (Reps.reverse t) (.one r)
theorem over_reps : Reps K S overV overD := .cons (.int 0) (.cons (.int 0) (.cons (.int 0) (.cons (.str _) (.cons (.int 0) .nil))))
end

/-- the content of an object that is owned -/
def Own (K : PySem.W.Frag) (S H : Hp) (a : Addr) (d : D) : Prop := S a = none ∧ match d with
  | .lst ds => ∃ vs, H a = some (.lst vs) ∧ Reps K S vs ds
  | .dic ds => ∃ ks, H a = some (.dT ks) ∧ RepK K S ks ds
  | _ => False

def Owns (σ : L2.St) (ρ : List Sl) (a : Addr) : Prop := ∃ (i : Nat) (p : Bool) (d : D), ρ[i]? = some (Sl.own p d) ∧ σ[i]? = some (some (V.ref a))

structure Env (K : PySem.W.Frag) (S : Hp) (σ : L2.St) (H : Hp) (ρ : List Sl) : Prop where
  ex : Same S H
  len : ρ.length = σ.length
  val : ∀ (i : Nat) (d : D), ρ[i]? = some (Sl.val d) → ∃ v, σ[i]? = some (some v) ∧ Rep K S v d
  own : ∀ (i : Nat) (p : Bool) (d : D), ρ[i]? = some (Sl.own p d) → ∃ a, σ[i]? = some (some (V.ref a)) ∧ Own K S H a d
  inj : ∀ (i j : Nat) (p q : Bool) (d e : D) (a : Addr), ρ[i]? = some (Sl.own p d) → ρ[j]? = some (Sl.own q e) → σ[i]? = some (some (V.ref a)) → σ[j]? = some (some (V.ref a)) → i = j

structure Go (σ : L2.St) (ρ : List Sl) (S H : Hp) (σ' : L2.St) (ρ' : List Sl) (S' H' : Hp) : Prop where
  st : Same S S'
  keep : ∀ a o, H a = some o → ¬ Owns σ ρ a → H' a = some o
  dom : ∀ a, H a ≠ none → H' a ≠ none
  new : ∀ a, S a = none → H a ≠ none → ¬ Owns σ ρ a → S' a = none
  own : ∀ a, Owns σ' ρ' a → Owns σ ρ a ∨ H a = none
  pin : ∀ (i : Nat) (d : D), ρ'[i]? = some (Sl.own true d) → (∃ d0, ρ[i]? = some (Sl.own true d0)) ∧ σ'[i]? = σ[i]?
  len : σ'.length = σ.length

section
variable {K : PySem.W.Frag} {S S' S'' H H' H'' : Hp} {σ σ' σ'' : L2.St} {ρ ρ' ρ'' : List Sl} {a : Addr} {d : D}
theorem Own.there (h : Own K S H a d) : H a ≠ none := by
  obtain ⟨_, h⟩ := h
  cases d with
  | lst ds => obtain ⟨vs, e, _⟩ := h; rw [e]; simp
  | dic ds => obtain ⟨vs, e, _⟩ := h; rw [e]; simp
  | _ => exact h.elim
theorem Own.keep (h : Own K S H a d) (s : Same S S') (n : S' a = none) (k : ∀ o, H a = some o → H' a = some o) : Own K S' H' a d := by
  obtain ⟨_, h⟩ := h
  refine ⟨n, ?_⟩
  cases d with
  | lst ds => obtain ⟨vs, e, r⟩ := h; exact ⟨vs, k _ e, r.mono s⟩
  | dic ds => obtain ⟨vs, e, r⟩ := h; exact ⟨vs, k _ e, r.mono s⟩
  | _ => exact h.elim
theorem Env.there (E : Env K S σ H ρ) (h : Owns σ ρ a) : H a ≠ none ∧ S a = none := by
  obtain ⟨i, p, d, e1, e2⟩ := h
  obtain ⟨b, e3, o⟩ := E.own i p d e1
  rw [e2] at e3; cases e3
  exact ⟨o.there, o.1⟩
theorem Go.refl : Go σ ρ S H σ ρ S H := ⟨fun _ _ e => e, fun _ _ e _ => e, fun _ e => e, fun _ e _ _ => e, fun _ e => .inl e, fun _ d e => ⟨⟨d, e⟩, rfl⟩, rfl⟩
theorem Go.trans (x : Go σ ρ S H σ' ρ' S' H') (y : Go σ' ρ' S' H' σ'' ρ'' S'' H'') : Go σ ρ S H σ'' ρ'' S'' H'' where
  st := fun a o e => y.st a o (x.st a o e)
  keep := fun a o e n => y.keep a o (x.keep a o e n) fun q => (x.own a q).elim n fun z => by rw [e] at z; cases z
  dom := fun a e => y.dom a (x.dom a e)
  new := fun a e h n => y.new a (x.new a e h n) (x.dom a h) fun q => (x.own a q).elim n fun z => h z
  own := fun a q => (y.own a q).elim (x.own a) fun z => by
    cases e : H a with
    | none => exact .inr rfl
    | some o => exact absurd z (x.dom a (by rw [e]; simp))
  pin := fun i d e => by
    obtain ⟨⟨d1, e1⟩, s1⟩ := y.pin i d e
    obtain ⟨q, s2⟩ := x.pin i d1 e1
    exact ⟨q, s1.trans s2⟩
  len := y.len.trans x.len
end

/-! ### operands that have been evaluated -/
def RepR (K : PySem.W.Frag) (S H : Hp) (σ : L2.St) (ρ : List Sl) (v : V) : R → Prop
  | .val d => Rep K S v d
  | .own d => ∃ a, v = .ref a ∧ Own K S H a d ∧ ¬ Owns σ ρ a
  | .al i => σ[i]? = some (some v)

inductive RepRs (K : PySem.W.Frag) (S H : Hp) (σ : L2.St) (ρ : List Sl) : List V → List R → Prop
  | nil : RepRs K S H σ ρ [] []
  | cons {v : V} {r : R} {vs : List V} {rs : List R} : RepR K S H σ ρ v r → (∀ d a, r = .own d → v = .ref a → ∀ d' , (V.ref a, R.own d') ∉ vs.zip rs) → RepRs K S H σ ρ vs rs → RepRs K S H σ ρ (v :: vs) (r :: rs)

/-- from (σ, ρ, S, H) operands vs, rs have been made; now (σ, ρ', S', H') -/
structure Cur (K : PySem.W.Frag) (σ : L2.St) (ρ : List Sl) (S H : Hp) (vs : List V) (rs : List R) (ρ' : List Sl) (S' H' : Hp) : Prop where
  env : Env K S' σ H' ρ'
  go : Go σ ρ S H σ ρ' S' H'
  rep : RepRs K S' H' σ ρ' vs rs
  nw : ∀ a d, (V.ref a, R.own d) ∈ vs.zip rs → Owns σ ρ a ∨ H a = none
end FL
namespace FL
open PySem L2

section
variable {K : PySem.W.Frag} {S S1 S2 S' H H1 H2 H' : Hp} {σ σ' : L2.St} {ρ ρ1 ρ2 ρ' : List Sl} {a : Addr} {d : D} {v w : V} {r : R} {vs : List V} {rs : List R}

theorem Cur.init (E : Env K S σ H ρ) : Cur K σ ρ S H [] [] ρ S H := ⟨E, .refl, .nil, fun _ _ h => nomatch h⟩
theorem RepR.go (h : RepR K S1 H1 σ ρ1 v r) (E : Env K S1 σ H1 ρ1) (g : Go σ ρ1 S1 H1 σ ρ2 S2 H2) : RepR K S2 H2 σ ρ2 v r := by
  cases r with
  | val d => exact Rep.mono g.st h
  | al i => exact h
  | own d =>
    obtain ⟨a, rfl, o, n⟩ := h
    refine ⟨a, rfl, o.keep g.st (g.new a o.1 o.there n) fun u e => g.keep a u e n, fun q => ?_⟩
    exact (g.own a q).elim n fun z => o.there z
theorem Cur.cons (x : Cur K σ ρ S H [v] [r] ρ1 S1 H1) (y : Cur K σ ρ1 S1 H1 vs rs ρ2 S2 H2) : Cur K σ ρ S H (v :: vs) (r :: rs) ρ2 S2 H2 := by
  cases x.rep with
  | cons hr _ _ =>
    refine ⟨y.env, x.go.trans y.go, .cons (hr.go x.env y.go) ?_ y.rep, ?_⟩
    · intro d a e1 e2 d' hm
      subst e1 e2
      obtain ⟨b, e, o, n⟩ := hr
      cases e
      exact (y.nw a d' hm).elim n fun z => o.there z
    · intro a d hm
      rw [List.zip_cons_cons] at hm
      rcases List.mem_cons.mp hm with e | hm
      · exact x.nw a d (by cases e; simp)
      · rcases y.nw a d hm with q | q
        · exact x.go.own a q
        · cases e : H a with
          | none => exact .inr rfl
          | some o => exact absurd q (x.go.dom a (by rw [e]; simp))

/-- what a look at an operand tells -/
inductive See (K : PySem.W.Frag) (S H : Hp) : V → D → Prop
  | of {v : V} {d : D} : Rep K S v d → See K S H v d
  | lst {a : Addr} {vs : List V} {ds : List D} : H a = some (.lst vs) → Reps K S vs ds → See K S H (.ref a) (.lst ds)
  | dic {a : Addr} {ks : List (List Key × V)} {ds : List (List Key × D)} : H a = some (.dT ks) → RepK K S ks ds → See K S H (.ref a) (.dic ds)
def see (ρ : List Sl) : R → Option D
  | .val d => some d
  | .own d => some d
  | .al i => match ρ[i]? with
    | some (.own _ d) => some d
    | some (.val d) => some d
    | _ => none
theorem Own.see (o : Own K S H a d) : See K S H (.ref a) d := by
  obtain ⟨_, h⟩ := o
  cases d with
  | lst ds => obtain ⟨vs, e, r⟩ := h; exact .lst e r
  | dic ds => obtain ⟨vs, e, r⟩ := h; exact .dic e r
  | _ => exact h.elim
theorem RepR.see (h : RepR K S H σ ρ v r) (E : Env K S σ H ρ) (e : see ρ r = some d) : See K S H v d := by
  cases r with
  | val d' => cases e; exact .of h
  | own d' => cases e; obtain ⟨a, rfl, o, _⟩ := h; exact o.see
  | al i =>
    have h' : σ[i]? = some (some v) := h
    cases q : ρ[i]? with
    | none => simp [FL.see, q] at e
    | some sl =>
      cases sl with
      | no => simp [FL.see, q] at e
      | val d' =>
        simp [FL.see, q] at e; subst e
        obtain ⟨u, e1, r⟩ := E.val i d' q
        rw [h'] at e1; cases e1
        exact .of r
      | own p d' =>
        simp [FL.see, q] at e; subst e
        obtain ⟨b, e1, o⟩ := E.own i p d' q
        rw [h'] at e1; cases e1
        exact o.see
/-- what a look tells, by the data -/
theorem See.tup {ds : List D} (h : See K S H v (.tup ds)) (ex : Same S H) : ∃ a vs, v = .ref a ∧ SqT K H a vs ∧ Reps K S vs ds := by
  cases h with
  | of r =>
    cases r with
    | tup e q => exact ⟨_, _, rfl, .inl (.inl (ex _ _ e)), q⟩
    | con e => exact ⟨_, _, rfl, e.elim (fun z => by rcases z with z | ⟨_, z⟩ <;> exact absurd z (by simp)) .inr, over_reps⟩
theorem See.lst' {ds : List D} (h : See K S H v (.lst ds)) (ex : Same S H) : ∃ a vs, v = .ref a ∧ H a = some (.lst vs) ∧ Reps K S vs ds := by
  cases h with
  | of r => cases r with | lst e q => exact ⟨_, _, rfl, ex _ _ e, q⟩
  | lst e q => exact ⟨_, _, rfl, e, q⟩
theorem See.dic' {ds : List (List Key × D)} (h : See K S H v (.dic ds)) (ex : Same S H) : ∃ a ks, v = .ref a ∧ Rd H a (.dT ks) ∧ RepK K S ks ds := by
  cases h with
  | of r => cases r with | dic e q => exact ⟨_, _, rfl, (Le.of ex).dic _ _ e, q⟩
  | dic e q => exact ⟨_, _, rfl, .inl e, q⟩
theorem See.int {i : Int} (h : See K S H v (.int i)) : v = .int i := by cases h with | of r => cases r; rfl
theorem See.bl {b : Bool} (h : See K S H v (.bl b)) : v = .bl b := by cases h with | of r => cases r; rfl
theorem See.str {x : Str} (h : See K S H v (.str x)) : v = .str x := by cases h with | of r => cases r; rfl
theorem See.non (h : See K S H v .non) : v = .non := by cases h with | of r => cases r; rfl
theorem See.scr {ns : List Int} (h : See K S H v (.scr ns)) (ex : Same S H) : ∃ a, v = .ref a ∧ SqL K H a (ns.map V.int) := by
  cases h with
  | of r => cases r with | scr e => exact ⟨_, rfl, e.elim (fun q => .inl ((Le.of ex).rdl _ _ q)) .inr⟩

/-- a result made from what stands, all kept -/
structure Fresh (K : PySem.W.Frag) (S H : Hp) (w : V) (res : R) (S' H' : Hp) : Prop where
  st : Same S S'
  keep : Same H H'
  new : ∀ a, S a = none → H a ≠ none → S' a = none
  ex : Same S' H'
  rep : match res with
    | .val d => Rep K S' w d
    | .own d => ∃ a, w = .ref a ∧ H a = none ∧ Own K S' H' a d
    | .al _ => False
theorem Env.fresh {res : R} (E : Env K S σ H ρ) (f : Fresh K S H w res S' H') : Env K S' σ H' ρ :=
  ⟨f.ex, E.len, fun i d e => let ⟨v, e1, r⟩ := E.val i d e; ⟨v, e1, r.mono f.st⟩, fun i p d e => let ⟨a, e1, o⟩ := E.own i p d e; ⟨a, e1, o.keep f.st (f.new a o.1 o.there) (f.keep a)⟩, E.inj⟩
theorem Go.fresh {res : R} (f : Fresh K S H w res S' H') : Go σ ρ S H σ ρ S' H' :=
  ⟨f.st, fun a o e _ => f.keep a o e, fun a h => by
    cases e : H a with
    | none => exact absurd e h
    | some o => rw [f.keep a o e]; simp, fun a e h _ => f.new a e h, fun _ q => .inl q, fun _ d e => ⟨⟨d, e⟩, rfl⟩, rfl⟩
theorem Cur.fin {res : R} (x : Cur K σ ρ S H vs rs ρ1 S1 H1) (f : Fresh K S1 H1 w res S2 H2) : Cur K σ ρ S H [w] [res] ρ1 S2 H2 := by
  have hn : ∀ a d, w = .ref a → res = .own d → H1 a = none := fun a d e1 e2 => by
    have q := f.rep
    subst e2
    obtain ⟨b, e, n, _⟩ := q
    rw [e1] at e; cases e; exact n
  refine ⟨x.env.fresh f, x.go.trans (.fresh f), .cons ?_ (fun _ _ _ _ _ h => nomatch h) .nil, ?_⟩
  · have q := f.rep
    cases res with
    | val d => exact q
    | al i => exact q.elim
    | own d =>
      obtain ⟨a, rfl, n, o⟩ := q
      exact ⟨a, rfl, o, fun z => (x.env.there z).1 n⟩
  · intro a d hm
    rw [List.zip_cons_cons] at hm
    rcases List.mem_cons.mp hm with e | hm
    · cases e
      have n := hn a d rfl rfl
      cases e : H a with
      | none => exact .inr rfl
      | some o => exact absurd n (x.go.dom a (by rw [e]; simp))
    · exact nomatch hm
/-- the kinds of results -/
theorem Fresh.flat {d : D} (ex : Same S H) (r : Rep K S w d) : Fresh K S H w (.val d) S H := ⟨fun _ _ e => e, fun _ _ e => e, fun _ e _ => e, ex, r⟩
theorem same_new {p : Addr} {o : HO} (h : H p = none) : Same H (upd H p o) := fun b u e => by rw [upd_ne (ne_of_none e h)]; exact e
theorem none_of {p : Addr} (ex : Same S H) (h : H p = none) : S p = none := by
  cases e : S p with
  | none => rfl
  | some o => rw [ex p o e] at h; cases h
theorem same_both {p : Addr} {o : HO} (ex : Same S H) : Same (upd S p o) (upd H p o) := fun b u e => by
  by_cases hb : b = p
  · subst hb; rw [upd_same] at e ⊢; exact e
  · rw [upd_ne hb] at e ⊢; exact ex b u e
theorem Fresh.tup {p : Addr} {vs : List V} {ds : List D} (ex : Same S H) (h : H p = none) (r : Reps K S vs ds) : Fresh K S H (.ref p) (.val (.tup ds)) (upd S p (.tup vs)) (upd H p (.tup vs)) :=
  ⟨same_new (none_of ex h), same_new h, fun a e n => by rw [upd_ne (fun z => n (by rw [z]; exact h))]; exact e, same_both ex, .tup upd_same (r.mono (same_new (none_of ex h)))⟩
theorem Fresh.lst {p : Addr} {vs : List V} {ds : List D} (ex : Same S H) (h : H p = none) (r : Reps K S vs ds) : Fresh K S H (.ref p) (.own (.lst ds)) S (upd H p (.lst vs)) :=
  ⟨fun _ _ e => e, same_new h, fun _ e _ => e, fun b o e => same_new h b o (ex b o e), ⟨p, rfl, h, none_of ex h, vs, upd_same, r⟩⟩
theorem Fresh.dic {p : Addr} {vs : List (List Key × V)} {ds : List (List Key × D)} (ex : Same S H) (h : H p = none) (r : RepK K S vs ds) : Fresh K S H (.ref p) (.own (.dic ds)) S (upd H p (.dT vs)) :=
  ⟨fun _ _ e => e, same_new h, fun _ e _ => e, fun b o e => same_new h b o (ex b o e), ⟨p, rfl, h, none_of ex h, vs, upd_same, r⟩⟩

/-! ### an operand is kept for good -/
def take (ρ : List Sl) : R → Option (D × List Sl)
  | .val d => some (d, ρ)
  | .own d => some (d, ρ)
  | .al i => match ρ[i]? with
    | some (.own _ d) => some (d, ρ.set i (.val d))
    | some (.val d) => some (d, ρ)
    | _ => none
theorem Own.frz (o : Own K S H a d) : ∃ u, H a = some u ∧ Rep K (upd S a u) (.ref a) d := by
  obtain ⟨n, h⟩ := o
  cases d with
  | lst ds => obtain ⟨vs, e, r⟩ := h; exact ⟨_, e, .lst upd_same (r.mono (same_new n))⟩
  | dic ds => obtain ⟨vs, e, r⟩ := h; exact ⟨_, e, .dic (.inl upd_same) (r.mono (same_new n))⟩
  | _ => exact h.elim
theorem RepRs.mono2 (h : RepRs K S H σ ρ vs rs) (f : ∀ v r, (v, r) ∈ vs.zip rs → RepR K S H σ ρ v r → RepR K S' H' σ ρ' v r) : RepRs K S' H' σ ρ' vs rs := by
  induction h with
  | nil => exact .nil
  | cons hr hd ht ih => exact .cons (f _ _ (by simp) hr) hd (ih fun v r hm => f v r (by rw [List.zip_cons_cons]; exact List.mem_cons_of_mem _ hm))
/-- S grows by the object at a, which stands in H and is neither owned by a slot of ρ2 nor by an operand -/
theorem Env.grow {u : HO} (E : Env K S σ H ρ) (hs : S a = none) (hu : H a = some u) (hn : ¬ Owns σ ρ a) : Env K (upd S a u) σ H ρ := by
  refine ⟨fun b o e => ?_, E.len, fun i d e => let ⟨v, e1, r⟩ := E.val i d e; ⟨v, e1, r.mono (same_new hs)⟩, fun i p d e => ?_, E.inj⟩
  · by_cases hb : b = a
    · subst hb; rw [upd_same] at e; cases e; exact hu
    · rw [upd_ne hb] at e; exact E.ex b o e
  · obtain ⟨b, e1, o⟩ := E.own i p d e
    have hb : b ≠ a := fun z => hn ⟨i, p, d, e, by rw [e1, z]⟩
    exact ⟨b, e1, o.keep (same_new hs) (by rw [upd_ne hb]; exact o.1) fun _ e => e⟩
theorem Go.grow {u : HO} (g : Go σ ρ S H σ' ρ1 S1 H1) (hs : S1 a = none) (hw : Owns σ ρ a ∨ H a = none) : Go σ ρ S H σ' ρ1 (upd S1 a u) H1 :=
  ⟨fun b o e => same_new hs b o (g.st b o e), g.keep, g.dom, fun b e h n => by
    rw [upd_ne]
    · exact g.new b e h n
    · rintro rfl; exact hw.elim n fun z => h z, g.own, g.pin, g.len⟩
theorem owns_set {i : Nat} {d' : D} (h : Owns σ (ρ.set i (.val d')) a) : Owns σ ρ a := by
  obtain ⟨j, p, d, e1, e2⟩ := h
  by_cases hj : j = i
  · subst hj
    by_cases hl : j < ρ.length
    · rw [List.getElem?_set_self hl] at e1; cases e1
    · rw [List.getElem?_eq_none (by simpa using hl)] at e1; cases e1
  · rw [List.getElem?_set_ne (Ne.symm hj)] at e1
    exact ⟨j, p, d, e1, e2⟩
theorem RepR.grow {u : HO} {ρ' : List Sl} (hs : S a = none) (ho : ∀ b, Owns σ ρ' b → Owns σ ρ b) (hne : ∀ d, (v, r) ≠ (.ref a, .own d)) (h : RepR K S H σ ρ v r) : RepR K (upd S a u) H σ ρ' v r := by
  cases r with
  | val d => exact Rep.mono (same_new hs) h
  | al i => exact h
  | own d =>
    obtain ⟨b, rfl, o, n⟩ := h
    have hb : b ≠ a := fun z => hne d (by rw [z])
    exact ⟨b, rfl, o.keep (same_new hs) (by rw [upd_ne hb]; exact o.1) (fun _ e => e), fun z => n (ho b z)⟩
theorem Cur.take (x : Cur K σ ρ S H (v :: vs) (r :: rs) ρ1 S1 H1) (e : FL.take ρ1 r = some (d, ρ2)) :
    ∃ S2, Same S1 S2 ∧ Rep K S2 v d ∧ Cur K σ ρ S H vs rs ρ2 S2 H1 := by
  have nw' : ∀ a d, (V.ref a, R.own d) ∈ vs.zip rs → Owns σ ρ a ∨ H a = none := fun a d hm => x.nw a d (by rw [List.zip_cons_cons]; exact List.mem_cons_of_mem _ hm)
  cases x.rep with
  | cons hr hd ht =>
    cases r with
    | val d' =>
      cases e
      exact ⟨S1, fun _ _ e => e, hr, x.env, x.go, ht, nw'⟩
    | own d' =>
      cases e
      obtain ⟨a, rfl, o, n⟩ := hr
      obtain ⟨u, hu, hrep⟩ := o.frz
      have hw := x.nw a d (by simp)
      refine ⟨upd S1 a u, same_new o.1, hrep, x.env.grow o.1 hu n, x.go.grow o.1 hw, ht.mono2 fun v r hm hv => ?_, nw'⟩
      refine hv.grow o.1 (fun _ z => z) fun d' z => ?_
      cases z
      exact hd _ a rfl rfl _ hm
    | al i =>
      have h' : σ[i]? = some (some v) := hr
      cases q : ρ1[i]? with
      | none => simp [FL.take, q] at e
      | some sl =>
        cases sl with
        | no => simp [FL.take, q] at e
        | val d' =>
          simp [FL.take, q] at e
          obtain ⟨rfl, rfl⟩ := e
          obtain ⟨u, e1, r⟩ := x.env.val i d' q
          rw [h'] at e1; cases e1
          exact ⟨S1, fun _ _ e => e, r, x.env, x.go, ht, nw'⟩
        | own p d' =>
          simp [FL.take, q] at e
          obtain ⟨rfl, rfl⟩ := e
          obtain ⟨a, e1, o⟩ := x.env.own i p d' q
          rw [h'] at e1; cases e1
          obtain ⟨u, hu, hrep⟩ := o.frz
          have hi : i < ρ1.length := (List.getElem?_eq_some_iff.mp q).1
          have hown : Owns σ ρ1 a := ⟨i, p, d', q, h'⟩
          have E2 : Env K S1 σ H1 (ρ1.set i .no) := by
            refine ⟨x.env.ex, by rw [List.length_set]; exact x.env.len, fun j e hj => ?_, fun j p e hj => ?_, fun j k p q e f b hj hk => ?_⟩
            · by_cases hji : j = i
              · subst hji; rw [List.getElem?_set_self hi] at hj; cases hj
              · rw [List.getElem?_set_ne (Ne.symm hji)] at hj; exact x.env.val j e hj
            · by_cases hji : j = i
              · subst hji; rw [List.getElem?_set_self hi] at hj; cases hj
              · rw [List.getElem?_set_ne (Ne.symm hji)] at hj; exact x.env.own j p e hj
            · by_cases hji : j = i
              · subst hji; rw [List.getElem?_set_self hi] at hj; cases hj
              · by_cases hki : k = i
                · subst hki; rw [List.getElem?_set_self hi] at hk; cases hk
                · rw [List.getElem?_set_ne (Ne.symm hji)] at hj
                  rw [List.getElem?_set_ne (Ne.symm hki)] at hk
                  exact x.env.inj j k p q e f b hj hk
          have hn2 : ¬ Owns σ (ρ1.set i .no) a := by
            rintro ⟨j, p', e', h1, h2⟩
            by_cases hji : j = i
            · subst hji; rw [List.getElem?_set_self hi] at h1; cases h1
            · rw [List.getElem?_set_ne (Ne.symm hji)] at h1
              exact hji (x.env.inj j i _ _ _ _ a h1 q h2 h')
          have E3 := E2.grow o.1 hu hn2
          have E4 : Env K (upd S1 a u) σ H1 (ρ1.set i (.val d')) := by
            refine ⟨E3.ex, by rw [List.length_set]; exact x.env.len, fun j e hj => ?_, fun j p e hj => ?_, fun j k p q e f b hj hk => ?_⟩
            · by_cases hji : j = i
              · subst hji; rw [List.getElem?_set_self hi] at hj; cases hj; exact ⟨_, h', hrep⟩
              · rw [List.getElem?_set_ne (Ne.symm hji)] at hj; exact E3.val j e (by rw [List.getElem?_set_ne (Ne.symm hji)]; exact hj)
            · by_cases hji : j = i
              · subst hji; rw [List.getElem?_set_self hi] at hj; cases hj
              · rw [List.getElem?_set_ne (Ne.symm hji)] at hj; exact E3.own j p e (by rw [List.getElem?_set_ne (Ne.symm hji)]; exact hj)
            · by_cases hji : j = i
              · subst hji; rw [List.getElem?_set_self hi] at hj; cases hj
              · by_cases hki : k = i
                · subst hki; rw [List.getElem?_set_self hi] at hk; cases hk
                · rw [List.getElem?_set_ne (Ne.symm hji)] at hj
                  rw [List.getElem?_set_ne (Ne.symm hki)] at hk
                  exact x.env.inj j k p q e f b hj hk
          have hw : Owns σ ρ a ∨ H a = none := x.go.own a hown
          refine ⟨upd S1 a u, same_new o.1, hrep, E4, ?_, ?_, nw'⟩
          · have g := x.go.grow (u := u) o.1 hw
            refine ⟨g.st, g.keep, g.dom, g.new, fun b z => g.own b (owns_set z), fun j e hj => ?_, g.len⟩
            by_cases hji : j = i
            · subst hji; rw [List.getElem?_set_self hi] at hj; cases hj
            · rw [List.getElem?_set_ne (Ne.symm hji)] at hj; exact g.pin j e hj
          · refine ht.mono2 fun v r hm hv => hv.grow o.1 (fun _ z => owns_set z) fun d'' z => ?_
            cases z
            obtain ⟨b, eb, _, nb⟩ := hv
            cases eb
            exact nb hown
def takes : List Sl → List R → Option (List D × List Sl)
  | ρ, [] => some ([], ρ)
  | ρ, r :: rs => (FL.take ρ r).bind fun p => (takes p.2 rs).map fun q => (p.1 :: q.1, q.2)
theorem Cur.takes : ∀ {vs : List V} {rs : List R} {ρ1 ρ2 : List Sl} {S1 : Hp} {ds : List D}, Cur K σ ρ S H vs rs ρ1 S1 H1 → FL.takes ρ1 rs = some (ds, ρ2) → ∃ S2, Same S1 S2 ∧ Reps K S2 vs ds ∧ Cur K σ ρ S H [] [] ρ2 S2 H1 := by
  intro vs
  induction vs with
  | nil =>
    intro rs ρ1 ρ2 S1 ds x e
    cases x.rep
    cases e
    exact ⟨S1, fun _ _ e => e, .nil, x⟩
  | cons v vs ih =>
    intro rs ρ1 ρ2 S1 ds x e
    cases rs with
    | nil => exact nomatch x.rep
    | cons r rs =>
      simp only [FL.takes] at e
      cases h1 : FL.take ρ1 r with
      | none => simp [h1] at e
      | some p =>
        simp only [h1, Option.bind_some] at e
        cases h2 : FL.takes p.2 rs with
        | none => simp [h2] at e
        | some q =>
          simp only [h2, Option.map_some, Option.some.injEq, Prod.mk.injEq] at e
          obtain ⟨rfl, rfl⟩ := e
          obtain ⟨S2, s1, r1, c1⟩ := x.take (d := p.1) (ρ2 := p.2) h1
          obtain ⟨S3, s2, r2, c2⟩ := ih c1 (ds := q.1) (ρ2 := q.2) h2
          exact ⟨S3, fun a o e => s2 a o (s1 a o e), .cons (r1.mono s2) r2, c2⟩
end
end FL
namespace FL
open PySem L2

abbrev Ev := List Sl → Option (R × List Sl)
def evs : List Ev → List Sl → Option (List R × List Sl)
  | [], ρ => some ([], ρ)
  | f :: fs, ρ => (f ρ).bind fun p => (evs fs p.2).map fun q => (p.1 :: q.1, q.2)
def tV (K : PySem.W.Frag) (f : Ev) : TE := fun σ H Q => ∃ S ρ r ρ', Env K S σ H ρ ∧ f ρ = some (r, ρ') ∧ ∀ v S' H', Cur K σ ρ S H [v] [r] ρ' S' H' → Q v H'
def tVA (K : PySem.W.Frag) (fs : List Ev) : TA := fun σ H Q => ∃ S ρ rs ρ', Env K S σ H ρ ∧ evs fs ρ = some (rs, ρ') ∧ ∀ vs S' H', Cur K σ ρ S H vs rs ρ' S' H' → Q vs H'
def tVT (K : PySem.W.Frag) (f : Ev) : TT := fun σ H Q => ∃ S ρ b ρ', Env K S σ H ρ ∧ f ρ = some (.val (.bl b), ρ') ∧ ∀ S' H', Cur K σ ρ S H [] [] ρ' S' H' → Q b H'
abbrev VE (X : Cx) (e : Expr) (f : Ev) : Prop := PE X e (tV X.K f)
abbrev VA (X : Cx) (es : List Expr) (fs : List Ev) : Prop := PA X es (tVA X.K fs)
abbrev VT (X : Cx) (e : Expr) (f : Ev) : Prop := PT X e (tVT X.K f)
abbrev VW (X : Cx) (e : Expr) (f : Ev) : Prop := PW X e (tVT X.K f)

/-! ### the functions -/
def fVar (i : Nat) : Ev := fun ρ => match ρ[i]? with
  | some (.val d) => some (.val d, ρ)
  | some (.own _ _) => some (.al i, ρ)
  | _ => none
def fC (d : D) : Ev := fun ρ => some (.val d, ρ)
def fOp1 (o : D → Option R) (f : Ev) : Ev := fun ρ => (f ρ).bind fun p => (see p.2 p.1).bind fun x => (o x).map fun r => (r, p.2)
def fOp2 (o : D → D → Option R) (f g : Ev) : Ev := fun ρ => (f ρ).bind fun p => (g p.2).bind fun q => (see q.2 p.1).bind fun x => (see q.2 q.1).bind fun y => (o x y).map fun r => (r, q.2)
def sees (ρ : List Sl) : List R → Option (List D)
  | [] => some []
  | r :: rs => (see ρ r).bind fun d => (sees ρ rs).map fun ds => d :: ds
def fOpN (o : List D → Option R) (fs : List Ev) : Ev := fun ρ => (evs fs ρ).bind fun p => (sees p.2 p.1).bind fun ds => (o ds).map fun r => (r, p.2)
/-- a method of a built-in type, its object looked at twice (its kind first) -/
def fMt (o : List D → Option R) (f : Ev) (fs : List Ev) : Ev := fun ρ => (f ρ).bind fun p => (evs fs p.2).bind fun q => (sees q.2 (p.1 :: q.1)).bind fun ds => (o ds).map fun r => (r, q.2)
def fChain (o o' : D → D → Option Bool) (f g h : Ev) : Ev := fun ρ => (f ρ).bind fun p => (g p.2).bind fun q => (see q.2 p.1).bind fun x => (see q.2 q.1).bind fun y => (o x y).bind fun b =>
  if b = true then (h q.2).bind fun r => (see r.2 q.1).bind fun y' => (see r.2 r.1).bind fun z => (o' y' z).map fun c => (.val (.bl c), r.2) else some (.val (.bl false), q.2)
def fAnd (f g : Ev) : Ev := fun ρ => (f ρ).bind fun p => match p.1 with
  | .val (.bl true) => g p.2
  | .val (.bl false) => some (.val (.bl false), p.2)
  | _ => none
def fOr (f g : Ev) : Ev := fun ρ => (f ρ).bind fun p => match p.1 with
  | .val (.bl true) => some (.val (.bl true), p.2)
  | .val (.bl false) => g p.2
  | _ => none
def fNot (f : Ev) : Ev := fun ρ => (f ρ).bind fun p => match p.1 with
  | .val (.bl b) => some (.val (.bl (!b)), p.2)
  | _ => none
def fIf (c f g : Ev) : Ev := fun ρ => (c ρ).bind fun p => match p.1 with
  | .val (.bl true) => f p.2
  | .val (.bl false) => g p.2
  | _ => none
def cap : Nat := 1000000
theorem cap_le {n : Nat} (h : n ≤ cap) : n ≤ sizeLine := Nat.le_trans h (by decide)
def fTup (fs : List Ev) : Ev := fun ρ => (evs fs ρ).bind fun p => (takes p.2 p.1).bind fun q => if q.1.length ≤ cap then some (.val (.tup q.1), q.2) else none
def fLst (fs : List Ev) : Ev := fun ρ => (evs fs ρ).bind fun p => (takes p.2 p.1).bind fun q => if q.1.length ≤ cap then some (.own (.lst q.1), q.2) else none

/-! ### the rules -/
theorem _root_.L2.PE.imp {X : Cx} {e : Expr} {t t' : TE} (h : PE X e t) (k : ∀ σ H Q, t' σ H Q → t σ H Q) : PE X e t' := ⟨fun pins s σ H Q I q => h.run pins s σ H Q I (k σ H Q q)⟩
theorem _root_.L2.PE.or {X : Cx} {e : Expr} {t t' : TE} (h : PE X e t) (h' : PE X e t') : PE X e fun σ H Q => t σ H Q ∨ t' σ H Q := ⟨fun pins s σ H Q I q => q.elim (h.run pins s σ H Q I) (h'.run pins s σ H Q I)⟩
theorem _root_.L2.PA.imp {X : Cx} {e : List Expr} {t t' : TA} (h : PA X e t) (k : ∀ σ H Q, t' σ H Q → t σ H Q) : PA X e t' := ⟨fun pos pins s σ H Q I q => h.run pos pins s σ H Q I (k σ H Q q)⟩
theorem _root_.L2.PT.imp {X : Cx} {e : Expr} {t t' : TT} (h : PT X e t) (k : ∀ σ H Q, t' σ H Q → t σ H Q) : PT X e t' := ⟨fun pins s σ H Q I q => h.run pins s σ H Q I (k σ H Q q)⟩
theorem _root_.L2.PW.imp {X : Cx} {e : Expr} {t t' : TT} (h : PW X e t) (k : ∀ σ H Q, t' σ H Q → t σ H Q) : PW X e t' := ⟨fun w pins s σ H Q I q => h.run w pins s σ H Q I (k σ H Q q)⟩
theorem bind_some {α β : Type} {a : Option α} {f : α → Option β} {b : β} (h : a.bind f = some b) : ∃ x, a = some x ∧ f x = some b := Option.bind_eq_some_iff.mp h
theorem map_some {α β : Type} {a : Option α} {f : α → β} {b : β} (h : a.map f = some b) : ∃ x, a = some x ∧ f x = b := Option.map_eq_some_iff.mp h

section
variable {K : PySem.W.Frag} {S H : Hp} {σ : L2.St} {ρ ρ1 ρ2 : List Sl}
theorem Cur.rep1 {σ : L2.St} {ρ ρ' : List Sl} {S H S' H' : Hp} {v : V} {r : R} (c : Cur K σ ρ S H [v] [r] ρ' S' H') : RepR K S' H' σ ρ' v r := by
  cases c.rep with | cons h _ _ => exact h
theorem Cur.drop {σ : L2.St} {ρ ρ' : List Sl} {S H S' H' : Hp} {vs : List V} {rs : List R} (c : Cur K σ ρ S H vs rs ρ' S' H') : Cur K σ ρ S H [] [] ρ' S' H' := ⟨c.env, c.go, .nil, fun _ _ h => nomatch h⟩
theorem bin {fa fb : Ev} {ra rb : R} {G : V → V → Hp → Prop} (E : Env K S σ H ρ) (h1 : fa ρ = some (ra, ρ1)) (h2 : fb ρ1 = some (rb, ρ2))
    (k : ∀ u v S2 H2, Cur K σ ρ S H [u, v] [ra, rb] ρ2 S2 H2 → G u v H2) : tV K fa σ H fun u H1 => tV K fb σ H1 fun v H2 => G u v H2 :=
  ⟨S, ρ, ra, ρ1, E, h1, fun u S1 H1 c1 => ⟨S1, ρ1, rb, ρ2, c1.env, h2, fun v S2 H2 c2 => k u v S2 H2 (c1.cons c2)⟩⟩
inductive Sees (K : PySem.W.Frag) (S H : Hp) : List V → List D → Prop
  | nil : Sees K S H [] []
  | cons {v : V} {d : D} {vs : List V} {ds : List D} : See K S H v d → Sees K S H vs ds → Sees K S H (v :: vs) (d :: ds)
theorem RepRs.sees {vs : List V} : ∀ {rs : List R} {ds : List D}, RepRs K S H σ ρ vs rs → Env K S σ H ρ → sees ρ rs = some ds → Sees K S H vs ds := by
  induction vs with
  | nil => intro rs ds h E e; cases h; cases e; exact .nil
  | cons v vs ih =>
    intro rs ds h E e
    cases h with
    | cons hr _ ht =>
      obtain ⟨d, e1, e2⟩ := bind_some e
      obtain ⟨ds', e3, rfl⟩ := map_some e2
      exact .cons (hr.see E e1) (ih ht E e3)
end

section
variable {X : Cx} {e a b c : Expr} {es : List Expr} {f g h : Ev} {fs : List Ev} {pos : Pos}
theorem ve_var {i : Nat} (hp : PE X e (tVar i)) : VE X e (fVar i) := hp.imp fun σ H Q q => by
  obtain ⟨S, ρ, r, ρ', E, e, k⟩ := q
  simp only [fVar] at e
  cases q : ρ[i]? with
  | none => simp [q] at e
  | some sl =>
    cases sl with
    | no => simp [q] at e
    | val d =>
      simp [q] at e; obtain ⟨rfl, rfl⟩ := e
      obtain ⟨v, e1, r⟩ := E.val i d q
      exact ⟨v, e1, k v S H ⟨E, .refl, .cons r (fun _ _ h => nomatch h) .nil, fun a d h => by simp at h⟩⟩
    | own p d =>
      simp [q] at e; obtain ⟨rfl, rfl⟩ := e
      obtain ⟨a, e1, o⟩ := E.own i p d q
      exact ⟨_, e1, k _ S H ⟨E, .refl, .cons e1 (fun _ _ h => nomatch h) .nil, fun a d h => by simp at h⟩⟩
theorem ve_c {v : V} {d : D} (hp : PE X e (tC v)) (hr : ∀ S, Rep X.K S v d) : VE X e (fC d) := hp.imp fun σ H Q q => by
  obtain ⟨S, ρ, r, ρ', E, e, k⟩ := q
  cases e
  exact k v S H ⟨E, .refl, .cons (hr S) (fun _ _ h => nomatch h) .nil, fun a d h => by simp at h⟩
theorem ve_int {i : Int} {j : Nat} : VE X (.Constant (.int i) j pos) (fC (.int i)) := ve_c pe_int fun _ => .int i
theorem ve_bl {i : Bool} {j : Nat} : VE X (.Constant (.bool i) j pos) (fC (.bl i)) := ve_c pe_bl fun _ => .bl i
theorem ve_str {i : Str} {j : Nat} : VE X (.Constant (.str i) j pos) (fC (.str i)) := ve_c pe_str fun _ => .str i
theorem ve_non {j : Nat} : VE X (.Constant .none j pos) (fC .non) := ve_c pe_non fun _ => .non
theorem va_nil : VA X [] [] := pa_nil.imp fun σ H Q q => by
  obtain ⟨S, ρ, rs, ρ', E, e, k⟩ := q
  cases e
  exact k [] S H (.init E)
theorem va_cons (ha : VE X e f) (hr : VA X es fs) (hs : starEach (e :: es) X.env = (false, eval e X.env) :: starEach es X.env := by rfl) : VA X (e :: es) (f :: fs) :=
  (pa_cons ha hr hs).imp fun σ H Q q => by
    obtain ⟨S, ρ, rs, ρ', E, e, k⟩ := q
    obtain ⟨p, e1, e2⟩ := bind_some e
    obtain ⟨p2, e3, e4⟩ := map_some e2
    cases e4
    exact ⟨S, ρ, p.1, p.2, E, e1, fun v S1 H1 c1 => ⟨S1, p.2, p2.1, p2.2, c1.env, e3, fun vs S2 H2 c2 => k (v :: vs) S2 H2 (c1.cons c2)⟩⟩

def Sound1 (K : PySem.W.Frag) (r : V → Hp → VK → Prop) (o : D → Option R) : Prop := ∀ S H v d res, Same S H → See K S H v d → o d = some res → ∀ Q : VK, (∀ w S' H', Fresh K S H w res S' H' → Q w H') → r v H Q
def Sound2 (K : PySem.W.Frag) (r : R2) (o : D → D → Option R) : Prop := ∀ S H u v x y res, Same S H → See K S H u x → See K S H v y → o x y = some res → ∀ Q : VK, (∀ w S' H', Fresh K S H w res S' H' → Q w H') → r u v H Q
def SoundN (K : PySem.W.Frag) (r : List V → Hp → VK → Prop) (o : List D → Option R) : Prop := ∀ S H vs ds res, Same S H → Sees K S H vs ds → o ds = some res → ∀ Q : VK, (∀ w S' H', Fresh K S H w res S' H' → Q w H') → r vs H Q

theorem sem1 {K : PySem.W.Frag} {r : V → Hp → VK → Prop} {o : D → Option R} (so : Sound1 K r o) {σ : L2.St} {H : Hp} {Q : VK} (q : tV K (fOp1 o f) σ H Q) : tUn r (tV K f) σ H Q := by
  obtain ⟨S, ρ, r, ρ', E, e, k⟩ := q
  obtain ⟨p, e1, e2⟩ := bind_some e
  obtain ⟨x, e3, e4⟩ := bind_some e2
  obtain ⟨r, e5, e6⟩ := map_some e4
  cases e6
  refine ⟨S, ρ, p.1, p.2, E, e1, fun v S1 H1 c => ?_⟩
  exact so S1 H1 v x r c.env.ex (c.rep1.see c.env e3) e5 Q fun w S2 H2 fr => k w S2 H2 (c.fin fr)
theorem sem2 {K : PySem.W.Frag} {r : R2} {o : D → D → Option R} (so : Sound2 K r o) {σ : L2.St} {H : Hp} {Q : VK} (q : tV K (fOp2 o f g) σ H Q) : tOp r (tV K f) (tV K g) σ H Q := by
  obtain ⟨S, ρ, r, ρ', E, e, k⟩ := q
  obtain ⟨p, e1, e2⟩ := bind_some e
  obtain ⟨p2, e3, e4⟩ := bind_some e2
  obtain ⟨x, e5, e6⟩ := bind_some e4
  obtain ⟨y, e7, e8⟩ := bind_some e6
  obtain ⟨r, e9, e10⟩ := map_some e8
  cases e10
  refine bin E e1 e3 fun u v S2 H2 c => ?_
  cases c.rep with
  | cons hu _ ht =>
    cases ht with
    | cons hv _ _ => exact so S2 H2 u v x y r c.env.ex (hu.see c.env e5) (hv.see c.env e7) e9 Q fun w S3 H3 fr => k w S3 H3 (c.fin fr)
theorem semN {K : PySem.W.Frag} {r : List V → Hp → VK → Prop} {o : List D → Option R} (so : SoundN K r o) {σ : L2.St} {H : Hp} {Q : VK} (q : tV K (fOpN o fs) σ H Q) : tCB r (tVA K fs) σ H Q := by
  obtain ⟨S, ρ, r, ρ', E, e, k⟩ := q
  obtain ⟨p, e1, e2⟩ := bind_some e
  obtain ⟨x, e3, e4⟩ := bind_some e2
  obtain ⟨r, e5, e6⟩ := map_some e4
  cases e6
  refine ⟨S, ρ, p.1, p.2, E, e1, fun v S1 H1 c => ?_⟩
  exact so S1 H1 v x r c.env.ex (c.rep.sees c.env e3) e5 Q fun w S2 H2 fr => k w S2 H2 (c.fin fr)
theorem ve_un {op : UnaryOp} {r : V → Hp → VK → Prop} {o : D → Option R} (ho : UnR X (unaryOp op) r) (so : Sound1 X.K r o) (ha : VE X a f) : VE X (.UnaryOp op a pos) (fOp1 o f) := (pe_un ho ha).imp fun _ _ _ q => sem1 so q
theorem ve_bin {op : Operator} {r : R2} {o : D → D → Option R} (ho : OpR X (binaryOp op) r) (so : Sound2 X.K r o) (ha : VE X a f) (hb : VE X b g) : VE X (.BinOp a op b pos) (fOp2 o f g) := (pe_op ho ha hb).imp fun _ _ _ q => sem2 so q
theorem ve_cmp {op : CmpOp} {r : R2} {o : D → D → Option R} (ho : OpR X (compareOp op) r) (so : Sound2 X.K r o) (ha : VE X a f) (hb : VE X b g) (hm : behindInMarks op b = false) : VE X (.Compare a [op] [b] pos) (fOp2 o f g) :=
  (pe_cmpR ho ha hb hm).imp fun _ _ _ q => sem2 so q
theorem ve_ix {r : R2} {o : D → D → Option R} (hr : IxR X r) (so : Sound2 X.K r o) (ha : VE X a f) (hb : VE X b g) (hs : PlainIx b) : VE X (.Subscript a b pos) (fOp2 o f g) := (pe_ix hr ha hb hs).imp fun _ _ _ q => sem2 so q
theorem ve_callB {x : Str} {p : Pos} {id : String} {r : List V → Hp → VK → Prop} {o : List D → Option R} (hc : CallR X (.builtin id) r) (so : SoundN X.K r o) (hg : Gl X x) (hm : X.mg x = none) (hv : bootBuiltins x = some (.builtin id)) (ha : VA X (e :: es) fs)
    (hn : x ≠ "__name__" := by decide) (hdb : (x == ("__debug__" : Str)) = false := by decide)
    (he : starEach (e :: es) X.env = (false, eval e X.env) :: starEach es X.env := by rfl) (hpl : (backTo pos (starEach es X.env)).any (·.1) = false := by rfl) : VE X (.Call (.Name x p) (e :: es) [] pos) (fOpN o fs) :=
  (pe_callB hc hg hm hv ha hn hdb he hpl).imp fun _ _ _ q => semN so q
theorem ve_callTy {x : Str} {p : Pos} {T : String} {r : List V → Hp → VK → Prop} {o : List D → Option R} (hc : CallR X (.type T) r) (so : SoundN X.K r o) (hg : Gl X x) (hm : X.mg x = none) (hv : bootBuiltins x = some (.type T)) (ha : VA X (e :: es) fs)
    (hn : x ≠ "__name__" := by decide) (hdb : (x == ("__debug__" : Str)) = false := by decide)
    (he : starEach (e :: es) X.env = (false, eval e X.env) :: starEach es X.env := by rfl) (hpl : (backTo pos (starEach es X.env)).any (·.1) = false := by rfl) : VE X (.Call (.Name x p) (e :: es) [] pos) (fOpN o fs) :=
  (pe_callTy hc hg hm hv ha hn hdb he hpl).imp fun _ _ _ q => semN so q
/-- two comparisons -/
def SoundB (K : PySem.W.Frag) (r : R2) (o : D → D → Option Bool) : Prop := ∀ S H u v x y b, Same S H → See K S H u x → See K S H v y → o x y = some b → ∀ Q : VK, Q (.bl b) H → r u v H Q
theorem sem_chain {K : PySem.W.Frag} {r r' : R2} {o o' : D → D → Option Bool} (so : SoundB K r o) (so' : SoundB K r' o') {σ : L2.St} {H : Hp} {Q : VK} (q : tV K (fChain o o' f g h) σ H Q) : tChain r r' (tV K f) (tV K g) (tV K h) σ H Q := by
  obtain ⟨S, ρ, r, ρ', E, e, k⟩ := q
  obtain ⟨p, e1, e2⟩ := bind_some e
  obtain ⟨p2, e3, e4⟩ := bind_some e2
  obtain ⟨x, e5, e6⟩ := bind_some e4
  obtain ⟨y, e7, e8⟩ := bind_some e6
  obtain ⟨t, e9, e10⟩ := bind_some e8
  refine bin (G := fun x y H2 => _) E e1 e3 fun u v S2 H2 c => ?_
  cases hrep : c.rep with
  | cons hu hd ht =>
    cases ht with
    | cons hv _ _ =>
      refine so S2 H2 u v x y t c.env.ex (hu.see c.env e5) (hv.see c.env e7) e9 _ ⟨t, rfl, ?_⟩
      cases t with
      | false =>
        rw [if_neg (by decide)] at e10 ⊢
        cases e10
        exact k _ S2 H2 (c.fin (.flat c.env.ex (.bl false)))
      | true =>
        rw [if_pos rfl] at e10 ⊢
        obtain ⟨p3, f1, f2⟩ := bind_some e10
        obtain ⟨y', f3, f4⟩ := bind_some f2
        obtain ⟨z, f5, f6⟩ := bind_some f4
        obtain ⟨t2, f7, f8⟩ := map_some f6
        cases f8
        refine ⟨S2, p2.2, p3.1, p3.2, c.env, f1, fun w S3 H3 c3 => ?_⟩
        have hv3 := hv.go c.env c3.go
        refine so' S3 H3 v w y' z t2 c3.env.ex (hv3.see c3.env f3) (c3.rep1.see c3.env f5) f7 _ ?_
        refine k _ S3 H3 (Cur.fin (vs := []) (rs := []) ⟨c3.env, c.go.trans c3.go, .nil, fun _ _ h => nomatch h⟩ (.flat c3.env.ex (.bl t2)))
theorem ve_chain {op op' : CmpOp} {r r' : R2} {o o' : D → D → Option Bool} (ho : OpR X (compareOp op) r) (ho' : OpR X (compareOp op') r') (so : SoundB X.K r o) (so' : SoundB X.K r' o') (ha : VE X a f) (hb : VE X b g) (hc : VE X c h)
    (hm : lastMarks [op, op'] [b, c] = false := by with_unfolding_all rfl) : VE X (.Compare a [op, op'] [b, c] pos) (fChain o o' f g h) := (pe_chain ho ho' ha hb hc hm).imp fun σ H Q q => sem_chain so so' q
end
end FL
namespace FL
open PySem L2

abbrev Fn := List Sl → Option (R × List Sl)
def spV (K : PySem.W.Frag) (n : Nat) (F : Fn) : Sp := fun vs H Q _ => vs.length = n ∧ tV K F (vs.map some) H Q
structure Cal (P : Program) (w : World) (K : PySem.W.Frag) (mg : Str → Option Value) (base : Heap) (x : Str) (k n : Nat) (F : Fn) : Prop where
  ex : ∃ f fd ps, mg x = some (.ref f) ∧ PySem.W.keepIn K (.ref f) = true ∧ Binds K fd ps [] ∧ ps.length = n ∧ FnOk P w K mg base CX0 k f fd ps (spV K n F)

def argOf (ρ : List Sl) : R → Option Sl
  | .val d => some (.val d)
  | .own d => some (.own false d)
  | .al i => match ρ[i]? with
    | some (.own _ d) => some (.own false d)
    | some (.val d) => some (.val d)
    | _ => none
def argsOf (ρ : List Sl) : List R → Option (List Sl)
  | [] => some []
  | r :: rs => (argOf ρ r).bind fun a => (argsOf ρ rs).map fun as => a :: as
def als (ρ : List Sl) : List R → List Nat
  | [] => []
  | .al i :: rs => match ρ[i]? with
    | some (.own _ _) => i :: als ρ rs
    | _ => als ρ rs
  | _ :: rs => als ρ rs
def flagAs (p : Bool) : Sl → Sl
  | .own _ d => .own p d
  | s => s
def back (ρ0 : List Sl) : List R → List Sl → List Sl → List Sl
  | .al i :: rs, a :: as, ρ => match ρ0[i]? with
    | some (.own p _) => back ρ0 rs as (ρ.set i (flagAs p a))
    | _ => back ρ0 rs as ρ
  | .val _ :: rs, _ :: as, ρ => back ρ0 rs as ρ
  | .own _ :: rs, _ :: as, ρ => back ρ0 rs as ρ
  | _, _, ρ => ρ
def fCall (F : Fn) (fs : List Ev) : Ev := fun ρ => (evs fs ρ).bind fun p => (argsOf p.2 p.1).bind fun args => if (als p.2 p.1).Nodup then (F args).bind fun q => match q.1 with
  | .al _ => none
  | r => some (r, back p.2 p.1 q.2 p.2) else none

section
variable {K : PySem.W.Frag} {S S1 S2 S' H H1 H2 H' : Hp} {σ σ' : L2.St} {ρ ρ0 ρ1 ρ2 ρ' : List Sl} {a : Addr} {d : D} {v w : V} {r : R} {vs : List V} {rs : List R} {as : List Sl}
theorem RepRs.len (h : RepRs K S H σ ρ vs rs) : vs.length = rs.length := by
  induction h with
  | nil => rfl
  | cons _ _ _ ih => exact congrArg (· + 1) ih
theorem RepRs.get (h : RepRs K S H σ ρ vs rs) : ∀ {k : Nat} {r : R}, rs[k]? = some r → ∃ v, vs[k]? = some v ∧ RepR K S H σ ρ v r := by
  induction h with
  | nil => intro k r e; simp at e
  | cons hr _ _ ih =>
    intro k r e
    cases k with
    | zero => simp at e; subst e; exact ⟨_, rfl, hr⟩
    | succ k => simpa using ih (by simpa using e)
theorem mem_zip_of {α β : Type} : ∀ {xs : List α} {ys : List β} {k : Nat} {x : α} {y : β}, xs[k]? = some x → ys[k]? = some y → (x, y) ∈ xs.zip ys
  | [], _, _, _, _, e, _ => by simp at e
  | _ :: _, [], _, _, _, _, e => by simp at e
  | x :: xs, y :: ys, 0, _, _, e1, e2 => by simp at e1 e2; subst e1 e2; simp
  | x :: xs, y :: ys, k + 1, _, _, e1, e2 => by rw [List.zip_cons_cons]; exact List.mem_cons_of_mem _ (mem_zip_of (by simpa using e1) (by simpa using e2))
theorem RepRs.dis (h : RepRs K S H σ ρ vs rs) : ∀ {k l : Nat} {d e : D} {a : Addr}, rs[k]? = some (R.own d) → rs[l]? = some (R.own e) → vs[k]? = some (V.ref a) → vs[l]? = some (V.ref a) → k = l := by
  induction h with
  | nil => intro k l d e a h; simp at h
  | cons hr hd ht ih =>
    intro k l d e a h1 h2 h3 h4
    cases k with
    | zero =>
      cases l with
      | zero => rfl
      | succ l =>
        simp at h1 h3 h2 h4
        exact absurd (mem_zip_of h4 h2) (hd _ a h1 h3 e)
    | succ k =>
      cases l with
      | zero =>
        simp at h1 h3 h2 h4
        exact absurd (mem_zip_of h3 h1) (hd _ a h2 h4 d)
      | succ l => simp at h1 h2 h3 h4; rw [ih h1 h2 h3 h4]
theorem argsOf_get : ∀ {rs : List R} {as : List Sl}, argsOf ρ rs = some as → as.length = rs.length ∧ ∀ {k : Nat} {s : Sl}, as[k]? = some s → ∃ r, rs[k]? = some r ∧ argOf ρ r = some s
  | [], as, e => by cases e; exact ⟨rfl, fun h => by simp at h⟩
  | r :: rs, as, e => by
    obtain ⟨a, e1, e2⟩ := bind_some e
    obtain ⟨as', e3, rfl⟩ := map_some e2
    obtain ⟨hl, hg⟩ := argsOf_get e3
    refine ⟨by simp [hl], fun {k s} h => ?_⟩
    cases k with
    | zero => simp at h; subst h; exact ⟨r, rfl, e1⟩
    | succ k => simpa using hg (by simpa using h)
theorem als_mem : ∀ {rs : List R} {i : Nat}, i ∈ als ρ rs → ∃ (k : Nat) (p : Bool) (d : D), rs[k]? = some (R.al i) ∧ ρ[i]? = some (Sl.own p d)
  | [], _, h => nomatch h
  | .val _ :: rs, i, h => by obtain ⟨k, p, d, e1, e2⟩ := als_mem (rs := rs) h; exact ⟨k + 1, p, d, by simpa using e1, e2⟩
  | .own _ :: rs, i, h => by obtain ⟨k, p, d, e1, e2⟩ := als_mem (rs := rs) h; exact ⟨k + 1, p, d, by simpa using e1, e2⟩
  | .al j :: rs, i, h => by
    simp only [als] at h
    split at h
    · rename_i p d e
      rcases List.mem_cons.mp h with rfl | h
      · exact ⟨0, p, d, rfl, e⟩
      · obtain ⟨k, p, d, e1, e2⟩ := als_mem (rs := rs) h; exact ⟨k + 1, p, d, by simpa using e1, e2⟩
    · obtain ⟨k, p, d, e1, e2⟩ := als_mem (rs := rs) h; exact ⟨k + 1, p, d, by simpa using e1, e2⟩
theorem mem_als {p : Bool} : ∀ {rs : List R} {i k : Nat}, rs[k]? = some (R.al i) → ρ[i]? = some (Sl.own p d) → i ∈ als ρ rs
  | [], _, _, h, _ => by simp at h
  | .val _ :: rs, i, 0, h, _ => by simp at h
  | .own _ :: rs, i, 0, h, _ => by simp at h
  | .al j :: rs, i, 0, h, e => by simp at h; subst h; simp [als, e]
  | .val _ :: rs, i, k + 1, h, e => mem_als (rs := rs) (by simpa using h) e
  | .own _ :: rs, i, k + 1, h, e => mem_als (rs := rs) (by simpa using h) e
  | .al j :: rs, i, k + 1, h, e => by
    have q := mem_als (rs := rs) (by simpa using h) e
    simp only [als]
    split
    · exact List.mem_cons_of_mem _ q
    · exact q
theorem als_inj {p : Bool} : ∀ {rs : List R} {i k l : Nat}, (als ρ rs).Nodup → rs[k]? = some (R.al i) → rs[l]? = some (R.al i) → ρ[i]? = some (Sl.own p d) → k = l
  | [], _, _, _, _, h, _, _ => by simp at h
  | .val _ :: rs, i, k, l, n, h1, h2, e => by
    cases k with
    | zero => simp at h1
    | succ k => cases l with
      | zero => simp at h2
      | succ l => exact congrArg (· + 1) (als_inj (rs := rs) (k := k) (l := l) n (by simpa using h1) (by simpa using h2) e)
  | .own _ :: rs, i, k, l, n, h1, h2, e => by
    cases k with
    | zero => simp at h1
    | succ k => cases l with
      | zero => simp at h2
      | succ l => exact congrArg (· + 1) (als_inj (rs := rs) (k := k) (l := l) n (by simpa using h1) (by simpa using h2) e)
  | .al j :: rs, i, k, l, n, h1, h2, e => by
    simp only [als] at n
    have n' : (als ρ rs).Nodup := by
      split at n
      · exact (List.nodup_cons.mp n).2
      · exact n
    cases k with
    | zero =>
      cases l with
      | zero => rfl
      | succ l =>
        simp at h1; subst h1
        rw [e] at n
        exact absurd (mem_als (by simpa using h2) e) (List.nodup_cons.mp n).1
    | succ k =>
      cases l with
      | zero =>
        simp at h2; subst h2
        rw [e] at n
        exact absurd (mem_als (by simpa using h1) e) (List.nodup_cons.mp n).1
      | succ l => exact congrArg (· + 1) (als_inj (rs := rs) (k := k) (l := l) n' (by simpa using h1) (by simpa using h2) e)
theorem back_len : ∀ {rs : List R} {as ρ : List Sl}, (back ρ0 rs as ρ).length = ρ.length
  | [], _, _ => by simp [back]
  | .val _ :: rs, [], _ => by simp [back]
  | .own _ :: rs, [], _ => by simp [back]
  | .al _ :: rs, [], _ => by simp [back]
  | .val _ :: rs, _ :: as, _ => by simp only [back]; exact back_len
  | .own _ :: rs, _ :: as, _ => by simp only [back]; exact back_len
  | .al _ :: rs, _ :: as, _ => by
    simp only [back]
    split
    · rw [back_len, List.length_set]
    · exact back_len
theorem back_out : ∀ {rs : List R} {as ρ : List Sl} {j : Nat}, j ∉ als ρ0 rs → (back ρ0 rs as ρ)[j]? = ρ[j]?
  | [], _, _, _, _ => by simp [back]
  | .val _ :: rs, [], _, _, _ => by simp [back]
  | .own _ :: rs, [], _, _, _ => by simp [back]
  | .al _ :: rs, [], _, _, _ => by simp [back]
  | .val _ :: rs, _ :: as, _, _, h => by simp only [back]; exact back_out (by simpa [als] using h)
  | .own _ :: rs, _ :: as, _, _, h => by simp only [back]; exact back_out (by simpa [als] using h)
  | .al i :: rs, a :: as, ρ, j, h => by
    simp only [back]
    simp only [als] at h
    split
    · rename_i p d e
      rw [e] at h
      have h' : j ≠ i ∧ j ∉ als ρ0 rs := by simpa using h
      rw [back_out h'.2, List.getElem?_set_ne (Ne.symm h'.1)]
    · rename_i e
      refine back_out ?_
      split at h
      · rename_i p d q; exact absurd q (e p d)
      · exact h
theorem back_in {p : Bool} : ∀ {rs : List R} {as ρ : List Sl} {k i : Nat} {s : Sl}, (als ρ0 rs).Nodup → rs[k]? = some (R.al i) → ρ0[i]? = some (Sl.own p d) → as[k]? = some s → i < ρ.length → (back ρ0 rs as ρ)[i]? = some (flagAs p s)
  | [], _, _, _, _, _, _, h, _, _, _ => by simp at h
  | _ :: _, [], _, _, _, _, _, _, _, h, _ => by simp at h
  | .val _ :: rs, _ :: as, ρ, k, i, s, n, h1, h2, h3, hl => by
    cases k with
    | zero => simp at h1
    | succ k => simp only [back]; exact back_in n (by simpa using h1) h2 (by simpa using h3) hl
  | .own _ :: rs, _ :: as, ρ, k, i, s, n, h1, h2, h3, hl => by
    cases k with
    | zero => simp at h1
    | succ k => simp only [back]; exact back_in n (by simpa using h1) h2 (by simpa using h3) hl
  | .al j :: rs, a :: as, ρ, k, i, s, n, h1, h2, h3, hl => by
    simp only [als] at n
    cases k with
    | zero =>
      simp at h1 h3; subst h1 h3
      simp only [back, h2]
      rw [h2] at n
      rw [back_out (List.nodup_cons.mp n).1, List.getElem?_set_self hl]
    | succ k =>
      have n' : (als ρ0 rs).Nodup := by
        split at n
        · exact (List.nodup_cons.mp n).2
        · exact n
      simp only [back]
      split
      · exact back_in n' (by simpa using h1) h2 (by simpa using h3) (by rw [List.length_set]; exact hl)
      · exact back_in n' (by simpa using h1) h2 (by simpa using h3) hl

theorem vmap_get {vs : List V} {k : Nat} {v : V} : (vs.map some)[k]? = some (some v) ↔ vs[k]? = some v := by
  rw [List.getElem?_map]; cases vs[k]? <;> simp
theorem Cur.args {args : List Sl} (c : Cur K σ ρ S H vs rs ρ1 S1 H1) (e : argsOf ρ1 rs = some args) (n : (als ρ1 rs).Nodup) :
    Env K S1 (vs.map some) H1 args ∧ (∀ a, Owns (vs.map some) args a → (∃ i, i ∈ als ρ1 rs ∧ σ[i]? = some (some (V.ref a))) ∨ (¬ Owns σ ρ1 a ∧ (Owns σ ρ a ∨ H a = none))) := by
  obtain ⟨hl, hg⟩ := argsOf_get e
  have key : ∀ (k : Nat) (p : Bool) (d : D), args[k]? = some (Sl.own p d) → ∃ a, vs[k]? = some (V.ref a) ∧ Own K S1 H1 a d ∧ ((∃ (i : Nat) (q : Bool), rs[k]? = some (R.al i) ∧ ρ1[i]? = some (Sl.own q d) ∧ σ[i]? = some (some (V.ref a))) ∨ (rs[k]? = some (R.own d) ∧ ¬ Owns σ ρ1 a ∧ (Owns σ ρ a ∨ H a = none))) := by
    intro k p d h
    obtain ⟨r, e1, e2⟩ := hg h
    obtain ⟨v, e3, hr⟩ := c.rep.get e1
    cases r with
    | val d' => simp [argOf] at e2
    | own d' =>
      simp [argOf] at e2
      obtain ⟨_, rfl⟩ := e2
      obtain ⟨a, rfl, o, nn⟩ := hr
      exact ⟨a, e3, o, .inr ⟨e1, nn, c.nw a d' (mem_zip_of e3 e1)⟩⟩
    | al i =>
      have hr' : σ[i]? = some (some v) := hr
      cases q : ρ1[i]? with
      | none => simp [argOf, q] at e2
      | some sl =>
        cases sl with
        | no => simp [argOf, q] at e2
        | val d' => simp [argOf, q] at e2
        | own p' d' =>
          simp [argOf, q] at e2
          obtain ⟨_, rfl⟩ := e2
          obtain ⟨a, e4, o⟩ := c.env.own i p' d' q
          rw [hr'] at e4; cases e4
          exact ⟨a, e3, o, .inl ⟨i, p', e1, q, hr'⟩⟩
  refine ⟨⟨c.env.ex, by rw [List.length_map, hl, c.rep.len], fun k d h => ?_, fun k p d h => ?_, fun k l p q d e a h1 h2 h3 h4 => ?_⟩, fun a h => ?_⟩
  · obtain ⟨r, e1, e2⟩ := hg h
    obtain ⟨v, e3, hr⟩ := c.rep.get e1
    cases r with
    | val d' => simp [argOf] at e2; subst e2; exact ⟨v, vmap_get.mpr e3, hr⟩
    | own d' => simp [argOf] at e2
    | al i =>
      have hr' : σ[i]? = some (some v) := hr
      cases q : ρ1[i]? with
      | none => simp [argOf, q] at e2
      | some sl =>
        cases sl with
        | no => simp [argOf, q] at e2
        | own p' d' => simp [argOf, q] at e2
        | val d' =>
          simp [argOf, q] at e2; subst e2
          obtain ⟨u, e4, o⟩ := c.env.val i d' q
          rw [hr'] at e4; cases e4
          exact ⟨v, vmap_get.mpr e3, o⟩
  · obtain ⟨a, e1, o, _⟩ := key k p d h
    exact ⟨a, vmap_get.mpr e1, o⟩
  · obtain ⟨a1, f1, o1, w1⟩ := key k p d h1
    obtain ⟨a2, f2, o2, w2⟩ := key l q e h2
    rw [vmap_get] at h3 h4
    rw [f1] at h3; cases h3
    rw [f2] at h4; cases h4
    rcases w1 with ⟨i, q1, g1, g2, g3⟩ | ⟨g1, g2, _⟩
    · rcases w2 with ⟨j, q2, k1, k2, k3⟩ | ⟨k1, k2, _⟩
      · have ij := c.env.inj i j _ _ _ _ a g2 k2 g3 k3
        subst ij
        exact als_inj n g1 k1 g2
      · exact absurd ⟨i, _, _, g2, g3⟩ k2
    · rcases w2 with ⟨j, q2, k1, k2, k3⟩ | ⟨k1, k2, _⟩
      · exact absurd ⟨j, _, _, k2, k3⟩ g2
      · exact c.rep.dis g1 k1 f1 f2
  · obtain ⟨k, p, d, h1, h2⟩ := h
    obtain ⟨a1, f1, o1, w1⟩ := key k p d h1
    rw [vmap_get, f1] at h2; cases h2
    rcases w1 with ⟨i, q1, g1, g2, g3⟩ | ⟨_, g2, g3⟩
    · exact .inl ⟨i, mem_als g1 g2, g3⟩
    · exact .inr ⟨g2, g3⟩

theorem Cur.called {args args' : List Sl} (c : Cur K σ ρ S H vs rs ρ1 S1 H1) (e : argsOf ρ1 rs = some args) (n : (als ρ1 rs).Nodup) (hr : ∀ i, r ≠ .al i)
    (c2 : Cur K (vs.map some) args S1 H1 [v] [r] args' S2 H2) : Cur K σ ρ S H [v] [r] (back ρ1 rs args' ρ1) S2 H2 := by
  obtain ⟨E1, ho⟩ := c.args e n
  have hln : args'.length = rs.length := by rw [c2.env.len, List.length_map, c.rep.len]
  have hl2 : (back ρ1 rs args' ρ1).length = ρ1.length := back_len
  -- what an argument owns, the beginning owned, or it was not there
  have ho' : ∀ a, Owns (vs.map some) args a → Owns σ ρ a ∨ H a = none := fun a h => by
    rcases ho a h with ⟨i, hi, hs⟩ | ⟨_, h⟩
    · obtain ⟨k, p, d, _, e2⟩ := als_mem hi
      exact c.go.own a ⟨i, p, d, e2, hs⟩
    · exact h
  have nn : ∀ a, H1 a = none → H a = none := fun a h => by
    cases q : H a with
    | none => rfl
    | some o => exact absurd h (c.go.dom a (by rw [q]; simp))
  -- a slot behind the call
  have inn : ∀ j, j ∈ als ρ1 rs → ∃ (k : Nat) (p : Bool) (d : D) (s : Sl) (v : V), rs[k]? = some (R.al j) ∧ ρ1[j]? = some (Sl.own p d) ∧ args'[k]? = some s ∧ vs[k]? = some v ∧ σ[j]? = some (some v) ∧ (back ρ1 rs args' ρ1)[j]? = some (flagAs p s) := by
    intro j hj
    obtain ⟨k, p, d, e1, e2⟩ := als_mem hj
    have hk : k < args'.length := by rw [hln]; exact (List.getElem?_eq_some_iff.mp e1).1
    have e3 : args'[k]? = some args'[k] := List.getElem?_eq_getElem hk
    obtain ⟨u, e4, hu⟩ := c.rep.get e1
    exact ⟨k, p, d, _, u, e1, e2, e3, e4, hu, back_in n e1 e2 e3 (List.getElem?_eq_some_iff.mp e2).1⟩
  have notin : ∀ j p d a, j ∉ als ρ1 rs → ρ1[j]? = some (Sl.own p d) → σ[j]? = some (some (V.ref a)) → ¬ Owns (vs.map some) args a := fun j p d a hj h1 h2 h => by
    rcases ho a h with ⟨i, hi, hs⟩ | ⟨h3, _⟩
    · obtain ⟨k, p', d', _, e2⟩ := als_mem hi
      have := c.env.inj j i _ _ _ _ a h1 e2 h2 hs
      exact hj (this ▸ hi)
    · exact h3 ⟨j, p, d, h1, h2⟩
  have ownb : ∀ a, Owns σ (back ρ1 rs args' ρ1) a → Owns (vs.map some) args' a ∨ (Owns σ ρ1 a ∧ ¬ Owns (vs.map some) args a) := by
    rintro a ⟨j, p, d, h1, h2⟩
    by_cases hj : j ∈ als ρ1 rs
    · obtain ⟨k, p', d', s, u, e1, e2, e3, e4, e5, e6⟩ := inn j hj
      rw [e6] at h1
      rw [e5] at h2; cases h2
      cases s with
      | no => cases h1
      | val _ => cases h1
      | own q d'' => exact .inl ⟨k, q, d'', e3, vmap_get.mpr e4⟩
    · rw [back_out hj] at h1
      exact .inr ⟨⟨j, p, d, h1, h2⟩, notin j p d a hj h1 h2⟩
  have backOwn : ∀ a, Owns (vs.map some) args' a → Owns σ ρ a ∨ H a = none := fun a h => (c2.go.own a h).elim (ho' a) fun z => .inr (nn a z)
  have E2 : Env K S2 σ H2 (back ρ1 rs args' ρ1) := by
    refine ⟨c2.env.ex, by rw [hl2]; exact c.env.len, fun j d h => ?_, fun j p d h => ?_, fun j l p q d e a h1 h2 h3 h4 => ?_⟩
    · by_cases hj : j ∈ als ρ1 rs
      · obtain ⟨k, p', d', s, u, e1, e2, e3, e4, e5, e6⟩ := inn j hj
        rw [e6] at h
        cases s with
        | no => cases h
        | own _ _ => cases h
        | val d'' =>
          cases h
          obtain ⟨u', g1, g2⟩ := c2.env.val k d e3
          rw [vmap_get, e4] at g1; cases g1
          exact ⟨u, e5, g2⟩
      · rw [back_out hj] at h
        obtain ⟨u, g1, g2⟩ := c.env.val j d h
        exact ⟨u, g1, g2.mono c2.go.st⟩
    · by_cases hj : j ∈ als ρ1 rs
      · obtain ⟨k, p', d', s, u, e1, e2, e3, e4, e5, e6⟩ := inn j hj
        rw [e6] at h
        cases s with
        | no => cases h
        | val _ => cases h
        | own q d'' =>
          cases h
          obtain ⟨a, g1, g2⟩ := c2.env.own k q d e3
          rw [vmap_get, e4] at g1; cases g1
          exact ⟨a, e5, g2⟩
      · rw [back_out hj] at h
        obtain ⟨a, g1, g2⟩ := c.env.own j p d h
        have hn := notin j p d a hj h g1
        exact ⟨a, g1, g2.keep c2.go.st (c2.go.new a g2.1 g2.there hn) fun o e => c2.go.keep a o e hn⟩
    · have oj : Owns σ (back ρ1 rs args' ρ1) a := ⟨j, p, d, h1, h3⟩
      by_cases hj : j ∈ als ρ1 rs
      · obtain ⟨k, p', d', s, u, e1, e2, e3, e4, e5, e6⟩ := inn j hj
        rw [e6] at h1
        rw [e5] at h3; cases h3
        cases s with
        | no => cases h1
        | val _ => cases h1
        | own q' d'' =>
          by_cases hl' : l ∈ als ρ1 rs
          · obtain ⟨k', p'', d3, s', u', f1, f2, f3, f4, f5, f6⟩ := inn l hl'
            rw [f6] at h2
            rw [f5] at h4; cases h4
            cases s' with
            | no => cases h2
            | val _ => cases h2
            | own q'' d4 =>
              have kk := c2.env.inj k k' _ _ _ _ a e3 f3 (vmap_get.mpr e4) (vmap_get.mpr f4)
              subst kk
              rw [e1] at f1; cases f1; rfl
          · rw [back_out hl'] at h2
            have hn := notin l q e a hl' h2 h4
            have hz : H1 a ≠ none := (c.env.there ⟨l, q, e, h2, h4⟩).1
            exact absurd (c2.go.own a ⟨k, q', d'', e3, vmap_get.mpr e4⟩) (by rintro (z | z); exact hn z; exact hz z)
      · rw [back_out hj] at h1
        have hn := notin j p d a hj h1 h3
        have hz : H1 a ≠ none := (c.env.there ⟨j, p, d, h1, h3⟩).1
        by_cases hl' : l ∈ als ρ1 rs
        · obtain ⟨k', p'', d3, s', u', f1, f2, f3, f4, f5, f6⟩ := inn l hl'
          rw [f6] at h2
          rw [f5] at h4; cases h4
          cases s' with
          | no => cases h2
          | val _ => cases h2
          | own q'' d4 => exact absurd (c2.go.own a ⟨k', q'', d4, f3, vmap_get.mpr f4⟩) (by rintro (z | z); exact hn z; exact hz z)
        · rw [back_out hl'] at h2
          exact c.env.inj j l _ _ _ _ a h1 h2 h3 h4
  have nowns : ∀ a, ¬ Owns σ ρ a → H a ≠ none → ¬ Owns (vs.map some) args a := fun a h1 h2 h3 => (ho' a h3).elim h1 h2
  refine ⟨E2, ⟨fun b o e => c2.go.st b o (c.go.st b o e), fun b o e q => c2.go.keep b o (c.go.keep b o e q) (nowns b q (by rw [e]; simp)), fun b h => c2.go.dom b (c.go.dom b h), fun b e h q => c2.go.new b (c.go.new b e h q) (c.go.dom b h) (nowns b q h), fun b h => ?_, fun j d h => ?_, rfl⟩, .cons ?_ (fun _ _ _ _ _ h => nomatch h) .nil, ?_⟩
  · rcases ownb b h with h | ⟨h, _⟩
    · exact backOwn b h
    · exact c.go.own b h
  · have : ∃ d0, ρ1[j]? = some (Sl.own true d0) := by
      by_cases hj : j ∈ als ρ1 rs
      · obtain ⟨k, p', d', s, u, e1, e2, e3, e4, e5, e6⟩ := inn j hj
        rw [e6] at h
        cases s with
        | no => cases h
        | val _ => cases h
        | own q' d'' => cases h; exact ⟨_, e2⟩
      · rw [back_out hj] at h; exact ⟨d, h⟩
    obtain ⟨d0, h0⟩ := this
    obtain ⟨q, _⟩ := c.go.pin j d0 h0
    exact ⟨q, rfl⟩
  · have q := c2.rep1
    cases r with
    | val d => exact q
    | al i => exact absurd rfl (hr i)
    | own d =>
      obtain ⟨a, rfl, o, hn⟩ := q
      refine ⟨a, rfl, o, fun h => ?_⟩
      rcases ownb a h with h | ⟨h, h2⟩
      · exact hn h
      · rcases c2.nw a d (by simp) with z | z
        · exact h2 z
        · exact (c.env.there h).1 z
  · intro a d hm
    rcases c2.nw a d hm with z | z
    · exact ho' a z
    · exact .inr (nn a z)
end

section
variable {X : Cx} {e : Expr} {es : List Expr} {fs : List Ev} {pos p : Pos} {x : Str} {k n : Nat} {F : Fn}
theorem ve_call (C : Cal X.prog X.w X.K X.mg X.base x k n F) (hr : Room k X.A) (ha : VA X (e :: es) fs) (hn : fs.length = n) (hg : Gl X x)
    (hdb : (x == ("__debug__" : Str)) = false := by decide) (he : starEach (e :: es) X.env = (false, eval e X.env) :: starEach es X.env := by rfl) (hpl : (backTo pos (starEach es X.env)).any (·.1) = false := by rfl) :
    VE X (.Call (.Name x p) (e :: es) [] pos) (fCall F fs) := by
  obtain ⟨f, fd, ps, hm, kp, hb, hl, G⟩ := C.ex
  refine (pe_call G hr hg hm kp hb .nil pass0 ha hdb he hpl).imp fun σ H Q q => ?_
  obtain ⟨S, ρ, r, ρ', E, e, k⟩ := q
  obtain ⟨p1, e1, e2⟩ := bind_some e
  obtain ⟨args, e3, e4⟩ := bind_some e2
  split at e4
  · rename_i nd
    obtain ⟨q1, e5, e6⟩ := bind_some e4
    refine ⟨S, ρ, p1.1, p1.2, E, e1, fun vs S1 H1 c => ⟨?_, ?_⟩⟩
    · rw [List.append_nil, c.rep.len]
      have : ∀ {fs : List Ev} {ρ : List Sl} {q : List R × List Sl}, evs fs ρ = some q → q.1.length = fs.length := by
        intro fs
        induction fs with
        | nil => intro ρ q h; cases h; rfl
        | cons f fs ih =>
          intro ρ q h
          obtain ⟨a, h1, h2⟩ := bind_some h
          obtain ⟨b, h3, rfl⟩ := map_some h2
          simp [ih h3]
      rw [this e1]; exact hn
    · rw [List.append_nil]
      obtain ⟨E1, _⟩ := c.args e3 nd
      have hr : (∀ i, q1.1 ≠ .al i) ∧ (q1.1, back p1.2 p1.1 q1.2 p1.2) = (r, ρ') := by
        revert e6
        cases q1.1 with
        | al i => intro h; cases h
        | val d => intro h; exact ⟨fun _ h => (by cases h), (by cases h; rfl)⟩
        | own d => intro h; exact ⟨fun _ h => (by cases h), (by cases h; rfl)⟩
      obtain ⟨hr1, hr2⟩ := hr
      cases hr2
      exact ⟨S1, args, q1.1, q1.2, E1, e5, fun v S2 H2 c2 => k v S2 H2 (c.called e3 nd hr1 c2)⟩
  · cases e4
end
end FL
namespace FL
open PySem L2

section
variable {X : Cx} {e a b c : Expr} {es rest : List Expr} {f g h : Ev} {fs : List Ev} {pos : Pos}
/-! ### tests -/
theorem vt_val (he : VE X e f) (hs : ∀ whole, isTrue e X.env whole = (do let v ← whole; standAt e.pos; holding [v] (truthy v)) := by intro _; rfl) : VT X e f := (pt_val he hs).imp fun σ H Q q => by
  obtain ⟨S, ρ, b, ρ', E, e, k⟩ := q
  refine ⟨S, ρ, _, ρ', E, e, fun v S' H' c => ?_⟩
  have := c.rep1
  cases this
  exact ⟨b, rfl, k S' H' c.drop⟩
def tru : D → Option Bool
  | .non => some false
  | .bl b => some b
  | .int i => some (i != 0)
  | .tup xs => some (!xs.isEmpty)
  | .lst xs => some (!xs.isEmpty)
  | _ => none
def fTru (f : Ev) : Ev := fun ρ => (f ρ).bind fun p => (see p.2 p.1).bind fun d => (tru d).map fun b => (.val (.bl b), p.2)
theorem reps_empty {K : PySem.W.Frag} {S : Hp} {vs : List V} {ds : List D} (r : Reps K S vs ds) : (!vs.isEmpty) = (!ds.isEmpty) := by cases r <;> rfl
theorem vt_tru (he : VE X e f) (hs : ∀ whole, isTrue e X.env whole = (do let v ← whole; standAt e.pos; holding [v] (truthy v)) := by intro _; rfl) : VT X e (fTru f) := (pt_truth he hs).imp fun σ H Q q => by
  obtain ⟨S, ρ, b, ρ', E, e, k⟩ := q
  obtain ⟨p, e1, e2⟩ := bind_some e
  obtain ⟨x, e3, e4⟩ := bind_some e2
  obtain ⟨r, e5, e6⟩ := map_some e4
  cases e6
  refine ⟨S, ρ, p.1, p.2, E, e1, fun v S1 H1 c => ⟨b, ?_, k S1 H1 c.drop⟩⟩
  have s := c.rep1.see c.env e3
  cases x with
  | non => cases e5; rw [s.non]; rfl
  | bl i => cases e5; rw [s.bl]; rfl
  | int i => cases e5; rw [s.int]; rfl
  | tup xs => cases e5; obtain ⟨a, vs, rfl, h1, h2⟩ := s.tup c.env.ex; exact .inr (.inl ⟨vs, h1, (reps_empty h2).symm⟩)
  | lst xs => cases e5; obtain ⟨a, vs, rfl, h1, h2⟩ := s.lst' c.env.ex; exact .inl ⟨vs, .inl (.inl h1), (reps_empty h2).symm⟩
  | str z => cases e5
  | dic z => cases e5
  | scr z => cases e5
theorem sem_and {K : PySem.W.Frag} {σ : L2.St} {H : Hp} {Q : Bool → Hp → Prop} (q : tVT K (fAnd f g) σ H Q) : tAnd (tVT K f) (tVT K g) σ H Q := by
  obtain ⟨S, ρ, b, ρ', E, e, k⟩ := q
  obtain ⟨p, e1, e2⟩ := bind_some e
  split at e2
  · rename_i h1
    refine ⟨S, ρ, true, p.2, E, by rw [e1, ← h1], fun S1 H1 c => ?_⟩
    refine iteT ?_
    refine ⟨S1, p.2, b, ρ', c.env, e2, fun S2 H2 c2 => k S2 H2 ⟨c2.env, c.go.trans c2.go, .nil, fun _ _ h => nomatch h⟩⟩
  · rename_i h1
    cases e2
    refine ⟨S, ρ, false, p.2, E, by rw [e1, ← h1], fun S1 H1 c => ?_⟩
    refine iteF ?_
    exact k S1 H1 c
  · cases e2
theorem sem_or {K : PySem.W.Frag} {σ : L2.St} {H : Hp} {Q : Bool → Hp → Prop} (q : tVT K (fOr f g) σ H Q) : tOr (tVT K f) (tVT K g) σ H Q := by
  obtain ⟨S, ρ, b, ρ', E, e, k⟩ := q
  obtain ⟨p, e1, e2⟩ := bind_some e
  split at e2
  · rename_i h1
    cases e2
    refine ⟨S, ρ, true, p.2, E, by rw [e1, ← h1], fun S1 H1 c => ?_⟩
    refine iteT ?_
    exact k S1 H1 c
  · rename_i h1
    refine ⟨S, ρ, false, p.2, E, by rw [e1, ← h1], fun S1 H1 c => ?_⟩
    refine iteF ?_
    refine ⟨S1, p.2, b, ρ', c.env, e2, fun S2 H2 c2 => k S2 H2 ⟨c2.env, c.go.trans c2.go, .nil, fun _ _ h => nomatch h⟩⟩
  · cases e2
theorem vw_and1 (ha : VT X a f) : VW X (.BoolOp .And [a] pos) f := pw_and1 ha
theorem vw_or1 (ha : VT X a f) : VW X (.BoolOp .Or [a] pos) f := pw_or1 ha
theorem vw_and (ha : VT X a f) (hb : VW X (.BoolOp .And (b :: rest) pos) g) : VW X (.BoolOp .And (a :: b :: rest) pos) (fAnd f g) := (pw_and ha hb).imp fun _ _ _ q => sem_and q
theorem vw_or (ha : VT X a f) (hb : VW X (.BoolOp .Or (b :: rest) pos) g) : VW X (.BoolOp .Or (a :: b :: rest) pos) (fOr f g) := (pw_or ha hb).imp fun _ _ _ q => sem_or q
theorem vt_not (ha : VT X a f) : VT X (.UnaryOp .Not a pos) (fNot f) := (pt_not ha).imp fun σ H Q q => by
  obtain ⟨S, ρ, b, ρ', E, e, k⟩ := q
  obtain ⟨p, e1, e2⟩ := bind_some e
  split at e2
  · rename_i c h1
    cases e2
    exact ⟨S, ρ, c, p.2, E, by rw [e1, ← h1], fun S1 H1 c1 => k S1 H1 c1⟩
  · cases e2
theorem cur_bl {K : PySem.W.Frag} {σ : L2.St} {ρ ρ1 : List Sl} {S H S1 H1 : Hp} {b : Bool} (c : Cur K σ ρ S H [] [] ρ1 S1 H1) : Cur K σ ρ S H [.bl b] [.val (.bl b)] ρ1 S1 H1 := c.fin (.flat c.env.ex (.bl b))
theorem ve_one {op} (ha : VE X a f) : VE X (.BoolOp op [a] pos) f := pe_one ha
/-- and, or, not as values: truth values alone (the last of and, or: any) -/
theorem ve_and (ha : VE X a f) (hb : VE X (.BoolOp .And (b :: rest) pos) g) : VE X (.BoolOp .And (a :: b :: rest) pos) (fAnd f g) := (pe_and ha hb).imp fun σ H Q q => by
  obtain ⟨S, ρ, r, ρ', E, e, k⟩ := q
  obtain ⟨p, e1, e2⟩ := bind_some e
  refine ⟨S, ρ, p.1, p.2, E, e1, fun v S1 H1 c => ?_⟩
  split at e2
  · rename_i h1
    have q := c.rep1
    rw [h1] at q
    cases q
    refine ⟨true, rfl, ?_⟩
    refine iteT ?_
    refine ⟨S1, p.2, r, ρ', c.env, e2, fun w S2 H2 c2 => k w S2 H2 ?_⟩
    refine ⟨c2.env, c.go.trans c2.go, c2.rep, fun a d hm => ?_⟩
    exact (c2.nw a d hm).elim (c.go.own a) fun z => .inr (by
      cases q : H a with
      | none => rfl
      | some o => exact absurd z (c.go.dom a (by rw [q]; simp)))
  · rename_i h1
    have q := c.rep1
    rw [h1] at q
    cases q
    cases e2
    refine ⟨false, rfl, ?_⟩
    refine iteF ?_
    exact k _ S1 H1 (cur_bl c.drop)
  · cases e2
theorem Cur.then {K : PySem.W.Frag} {σ : L2.St} {ρ ρ1 ρ2 : List Sl} {S H S1 H1 S2 H2 : Hp} {vs : List V} {rs : List R} {v : V} {r : R} (c : Cur K σ ρ S H vs rs ρ1 S1 H1) (c2 : Cur K σ ρ1 S1 H1 [v] [r] ρ2 S2 H2) : Cur K σ ρ S H [v] [r] ρ2 S2 H2 :=
  ⟨c2.env, c.go.trans c2.go, c2.rep, fun a d hm => (c2.nw a d hm).elim (c.go.own a) fun z => .inr (by
      cases q : H a with
      | none => rfl
      | some o => exact absurd z (c.go.dom a (by rw [q]; simp)))⟩
theorem ve_or (ha : VE X a f) (hb : VE X (.BoolOp .Or (b :: rest) pos) g) : VE X (.BoolOp .Or (a :: b :: rest) pos) (fOr f g) := (pe_or ha hb).imp fun σ H Q q => by
  obtain ⟨S, ρ, r, ρ', E, e, k⟩ := q
  obtain ⟨p, e1, e2⟩ := bind_some e
  refine ⟨S, ρ, p.1, p.2, E, e1, fun v S1 H1 c => ?_⟩
  split at e2
  · rename_i h1
    have q := c.rep1
    rw [h1] at q
    cases q
    cases e2
    refine ⟨true, rfl, ?_⟩
    refine iteT ?_
    exact k _ S1 H1 (cur_bl c.drop)
  · rename_i h1
    have q := c.rep1
    rw [h1] at q
    cases q
    refine ⟨false, rfl, ?_⟩
    refine iteF ?_
    exact ⟨S1, p.2, r, ρ', c.env, e2, fun w S2 H2 c2 => k w S2 H2 (c.then c2)⟩
  · cases e2
theorem ve_not (ha : VE X a f) : VE X (.UnaryOp .Not a pos) (fNot f) := (pe_not ha).imp fun σ H Q q => by
  obtain ⟨S, ρ, r, ρ', E, e, k⟩ := q
  obtain ⟨p, e1, e2⟩ := bind_some e
  split at e2
  · rename_i b h1
    cases e2
    refine ⟨S, ρ, p.1, p.2, E, e1, fun v S1 H1 c => ?_⟩
    have q := c.rep1
    rw [h1] at q
    cases q
    exact ⟨b, rfl, k _ S1 H1 (cur_bl c.drop)⟩
  · cases e2
theorem ve_if (hc : VT X c h) (ha : VE X a f) (hb : VE X b g) : VE X (.IfExp c a b pos) (fIf h f g) := (pe_ifExp hc ha hb).imp fun σ H Q q => by
  obtain ⟨S, ρ, r, ρ', E, e, k⟩ := q
  obtain ⟨p, e1, e2⟩ := bind_some e
  split at e2
  · rename_i h1
    refine ⟨S, ρ, true, p.2, E, by rw [e1, ← h1], fun S1 H1 c => ?_⟩
    refine iteT ?_
    exact ⟨S1, p.2, r, ρ', c.env, e2, fun w S2 H2 c2 => k w S2 H2 (c.then c2)⟩
  · rename_i h1
    refine ⟨S, ρ, false, p.2, E, by rw [e1, ← h1], fun S1 H1 c => ?_⟩
    refine iteF ?_
    exact ⟨S1, p.2, r, ρ', c.env, e2, fun w S2 H2 c2 => k w S2 H2 (c.then c2)⟩
  · cases e2

/-! ### displays -/
theorem Cur.freshen {K : PySem.W.Frag} {σ : L2.St} {ρ ρ1 ρ2 : List Sl} {S H S1 H1 : Hp} {vs : List V} {rs : List R} {ds : List D} (c : Cur K σ ρ S H vs rs ρ1 S1 H1) (e : FL.takes ρ1 rs = some (ds, ρ2)) :
    ∃ S2, Reps K S2 vs ds ∧ Cur K σ ρ S H [] [] ρ2 S2 H1 := let ⟨S2, _, r, c2⟩ := c.takes e; ⟨S2, r, c2⟩
theorem ve_tup {x1} (ha : VA X es fs) : VE X (.Tuple es x1 pos) (fTup fs) := (pe_tup ha).imp fun σ H Q q => by
  obtain ⟨S, ρ, r, ρ', E, e, k⟩ := q
  obtain ⟨p, e1, e2⟩ := bind_some e
  obtain ⟨p2, e3, e4⟩ := bind_some e2
  split at e4
  · rename_i hl
    cases e4
    refine ⟨S, ρ, p.1, p.2, E, e1, fun vs S1 H1 c => ?_⟩
    obtain ⟨S2, rp, c2⟩ := c.freshen e3
    exact ⟨by rw [rp.length]; exact cap_le hl, fun q hq => k _ _ _ (c2.fin (.tup c2.env.ex hq rp))⟩
  · cases e4
theorem ve_lst (ha : VA X es fs) : VE X (.List es pos) (fLst fs) := (pe_lst ha).imp fun σ H Q q => by
  obtain ⟨S, ρ, r, ρ', E, e, k⟩ := q
  obtain ⟨p, e1, e2⟩ := bind_some e
  obtain ⟨p2, e3, e4⟩ := bind_some e2
  split at e4
  · rename_i hl
    cases e4
    refine ⟨S, ρ, p.1, p.2, E, e1, fun vs S1 H1 c => ?_⟩
    obtain ⟨S2, rp, c2⟩ := c.freshen e3
    exact ⟨by rw [rp.length]; exact cap_le hl, fun q hq => k _ _ _ (c2.fin (.lst c2.env.ex hq rp))⟩
  · cases e4
/-- displays with stars: each part's items -/
def evsS : List (Bool × Ev) → List Sl → Option (List D × List Sl)
  | [], ρ => some ([], ρ)
  | (false, f) :: fs, ρ => (f ρ).bind fun p => (evsS fs p.2).bind fun q => match p.1 with
    | .val d => some (d :: q.1, q.2)
    | _ => none
  | (true, f) :: fs, ρ => (f ρ).bind fun p => match p.1 with
    | .val (.tup ds) => (evsS fs p.2).map fun q => (ds ++ q.1, q.2)
    | _ => none
def tVAS (K : PySem.W.Frag) (fs : List (Bool × Ev)) : TA := fun σ H Q => ∃ S ρ ds ρ', Env K S σ H ρ ∧ evsS fs ρ = some (ds, ρ') ∧ ∀ vs S' H', Cur K σ ρ S H [] [] ρ' S' H' → Reps K S' vs ds → Q vs H'
abbrev VAS (X : Cx) (es : List Expr) (fs : List (Bool × Ev)) : Prop := PA X es (tVAS X.K fs)
def fTupS (fs : List (Bool × Ev)) : Ev := fun ρ => (evsS fs ρ).bind fun p => if p.1.length ≤ cap then some (.val (.tup p.1), p.2) else none
variable {gs : List (Bool × Ev)}
theorem vas_nil : VAS X [] [] := pa_nil.imp fun σ H Q q => by
  obtain ⟨S, ρ, rs, ρ', E, e, k⟩ := q
  cases e
  exact k [] S H (.init E) .nil
theorem vas_cons (ha : VE X e f) (hr : VAS X es gs) (hs : starEach (e :: es) X.env = (false, eval e X.env) :: starEach es X.env := by rfl) : VAS X (e :: es) ((false, f) :: gs) :=
  (pa_cons ha hr hs).imp fun σ H Q q => by
    obtain ⟨S, ρ, rs, ρ', E, e, k⟩ := q
    obtain ⟨p, e1, e2⟩ := bind_some e
    obtain ⟨p2, e3, e4⟩ := bind_some e2
    refine ⟨S, ρ, p.1, p.2, E, e1, fun v S1 H1 c1 => ⟨S1, p.2, p2.1, p2.2, c1.env, e3, fun vs S2 H2 c2 r2 => ?_⟩⟩
    split at e4
    · rename_i d h1
      cases e4
      have q := c1.rep1
      rw [h1] at q
      exact k (v :: vs) S2 H2 ⟨c2.env, c1.go.trans c2.go, .nil, fun _ _ h => nomatch h⟩ (.cons (Rep.mono c2.go.st q) r2)
    · cases e4
theorem vas_star {sp : Pos} (ha : VE X e f) (hr : VAS X es gs) (hs : starEach (.Starred e sp :: es) X.env = (true, eval e X.env) :: starEach es X.env := by rfl) : VAS X (.Starred e sp :: es) ((true, f) :: gs) :=
  (StX.pa_star ha hr hs).imp fun σ H Q q => by
    obtain ⟨S, ρ, rs, ρ', E, e, k⟩ := q
    obtain ⟨p, e1, e2⟩ := bind_some e
    split at e2
    · rename_i ds h1
      obtain ⟨p2, e3, e4⟩ := map_some e2
      cases e4
      refine ⟨S, ρ, p.1, p.2, E, e1, fun v S1 H1 c1 => ?_⟩
      have q := c1.rep1
      rw [h1] at q
      obtain ⟨a, vs, rfl, h2, h3⟩ := See.tup (.of q) c1.env.ex
      exact ⟨a, vs, rfl, .inl h2, S1, p.2, p2.1, p2.2, c1.env, e3, fun us S2 H2 c2 r2 => k (vs ++ us) S2 H2 ⟨c2.env, c1.go.trans c2.go, .nil, fun _ _ h => nomatch h⟩ (.append (h3.mono c2.go.st) r2)⟩
    · cases e2
theorem ve_tupS {x1} (ha : VAS X es gs) : VE X (.Tuple es x1 pos) (fTupS gs) := (pe_tup ha).imp fun σ H Q q => by
  obtain ⟨S, ρ, r, ρ', E, e, k⟩ := q
  obtain ⟨p, e1, e2⟩ := bind_some e
  split at e2
  · rename_i hl
    cases e2
    refine ⟨S, ρ, p.1, p.2, E, e1, fun vs S1 H1 c rp => ?_⟩
    exact ⟨by rw [rp.length]; exact cap_le hl, fun q hq => k _ _ _ (c.fin (.tup c.env.ex hq rp))⟩
  · cases e2
/-- a new dict for keys that are tuples -/
def fDic : Ev := fun ρ => some (.own (.dic []), ρ)
theorem ve_dic : VE X (.Dict [] [] pos) fDic := pe_dnewT.imp fun σ H Q q => by
  obtain ⟨S, ρ, r, ρ', E, e, k⟩ := q
  cases e
  exact fun p hp => k _ _ _ ((Cur.init E).fin (.dic E.ex hp .nil))

/-! ### slices -/
def optI : Option (Option D) → Option (Option Int)
  | none => some none
  | some (some (.int i)) => some (some i)
  | _ => none
def fPart : Option Ev → List Sl → Option (Option Int × List Sl)
  | none, ρ => some (none, ρ)
  | some f, ρ => (f ρ).bind fun p => match p.1 with
    | .val (.int i) => some (some i, p.2)
    | _ => none
def cutD {α : Type} (xs : List α) (lo hi : Option Int) : List α := (xs.drop (HT.sIx xs.length 0 lo)).take (HT.sIx xs.length xs.length hi - HT.sIx xs.length 0 lo)
def oSlice : D → Option Int → Option Int → Option R
  | .lst xs, lo, hi => some (.own (.lst (cutD xs lo hi)))
  | .tup xs, lo, hi => some (.val (.tup (cutD xs lo hi)))
  | .str x, lo, hi => if x.length ≤ cap then some (.val (.str (cutS x lo hi))) else none
  | _, _, _ => none
def fSlice (f : Ev) (lo hi : Option Ev) : Ev := fun ρ => (f ρ).bind fun p => (fPart lo p.2).bind fun q => (fPart hi q.2).bind fun t => (see t.2 p.1).bind fun x => (oSlice x q.1 t.1).map fun r => (r, t.2)
def tVO (K : PySem.W.Frag) (f : Option Ev) : TO := fun σ H Q => ∃ S ρ o ρ', Env K S σ H ρ ∧ fPart f ρ = some (o, ρ') ∧ ∀ S' H', Cur K σ ρ S H [] [] ρ' S' H' → Q o H'
theorem vo_none : PO X none (tVO X.K none) := ⟨fun pins s σ H Q I q => po_none.run pins s σ H Q I (by
  obtain ⟨S, ρ, o, ρ', E, e, k⟩ := q
  cases e
  exact k S H (.init E))⟩
theorem vo_some (he : VE X e f) : PO X (some e) (tVO X.K (some f)) := ⟨fun pins s σ H Q I q => (po_some he).run pins s σ H Q I (by
  obtain ⟨S, ρ, o, ρ', E, e, k⟩ := q
  obtain ⟨p, e1, e2⟩ := bind_some e
  refine ⟨S, ρ, p.1, p.2, E, e1, fun v S1 H1 c => ?_⟩
  split at e2
  · rename_i i h1
    cases e2
    have q := c.rep1
    rw [h1] at q
    cases q
    exact ⟨i, rfl, k S1 H1 c.drop⟩
  · cases e2)⟩
theorem cut_len {K : PySem.W.Frag} {S : Hp} {vs : List V} {ds : List D} (h : Reps K S vs ds) (lo hi : Option Int) : Reps K S (cutV vs lo hi) (cutD ds lo hi) := by
  unfold cutV cutD
  rw [h.length]
  exact (h.drop _).take _
theorem cut_whole {α : Type} {xs : List α} {lo hi : Option Int} (h : HT.sIx xs.length 0 lo = 0 ∧ HT.sIx xs.length xs.length hi = xs.length) : cutD xs lo hi = xs := by
  unfold cutD
  rw [h.1, h.2]; simp
theorem ve_slice {lo hi : Option Expr} {flo fhi : Option Ev} {p2 : Pos} (ha : VE X a f) (hl : PO X lo (tVO X.K flo)) (hh : PO X hi (tVO X.K fhi)) : VE X (.Subscript a (.Slice lo hi none p2) pos) (fSlice f flo fhi) :=
  (pe_slice (SlR.or sl_list (SlR.or sl_tupA sl_str)) ha hl hh).imp fun σ H Q q => by
    obtain ⟨S, ρ, r, ρ', E, e, k⟩ := q
    obtain ⟨p, e1, e2⟩ := bind_some e
    obtain ⟨q1, e3, e4⟩ := bind_some e2
    obtain ⟨q2, e5, e6⟩ := bind_some e4
    obtain ⟨x, e7, e8⟩ := bind_some e6
    obtain ⟨r, e9, e10⟩ := map_some e8
    cases e10
    refine ⟨S, ρ, p.1, p.2, E, e1, fun v S1 H1 c1 => ⟨S1, p.2, q1.1, q1.2, c1.env, e3, fun S2 H2 c2 => ⟨S2, q1.2, q2.1, q2.2, c2.env, e5, fun S3 H3 c3 => ?_⟩⟩⟩
    have hr := (c1.rep1.go c1.env c2.go).go c2.env c3.go
    have sv := hr.see c3.env e7
    have cc : Cur X.K σ ρ S H [] [] q2.2 S3 H3 := ⟨c3.env, (c1.go.trans c2.go).trans c3.go, .nil, fun _ _ h => nomatch h⟩
    cases x with
    | lst xs =>
      cases e9
      obtain ⟨a, vs, rfl, h1, h2⟩ := sv.lst' c3.env.ex
      exact .inl ⟨a, vs, rfl, .inl (.inl h1), fun p hp => k _ _ _ (cc.fin (.lst c3.env.ex hp (cut_len h2 _ _)))⟩
    | tup xs =>
      cases e9
      have sv' := sv
      obtain ⟨a, vs, rfl, h1, h2⟩ := sv.tup c3.env.ex
      refine .inr (.inl ⟨a, vs, rfl, h1, fun hw => ?_, fun _ p hp => k _ _ _ (cc.fin (.tup c3.env.ex hp (cut_len h2 _ _)))⟩)
      refine k _ _ _ (cc.fin (.flat c3.env.ex ?_))
      rw [h2.length] at hw
      rw [cut_whole hw]
      cases sv' with | of r => exact r
    | str z =>
      simp only [oSlice] at e9
      split at e9
      · rename_i hz
        cases e9
        exact .inr (.inr ⟨z, sv.str, cap_le hz, k _ _ _ (cc.fin (.flat c3.env.ex (.str _)))⟩)
      · cases e9
    | _ => cases e9
end
end FL
namespace FL
open PySem L2

inductive Out where
  | nx | bk | ct | rt (r : R)
abbrev Stm := List Sl → Option (Out × List Sl)

/-- what is to be shown behind a statement that began at (σ, ρ, S, H), ends by o and leaves ρ' -/
def Fin (K : PySem.W.Frag) (D : Ends) (σ : L2.St) (ρ : List Sl) (S H : Hp) (o : Out) (ρ' : List Sl) : Prop := match o with
  | .nx => ∀ S' σ' H', Env K S' σ' H' ρ' → Go σ ρ S H σ' ρ' S' H' → D.nx σ' H'
  | .bk => ∀ S' σ' H', Env K S' σ' H' ρ' → Go σ ρ S H σ' ρ' S' H' → D.bk σ' H'
  | .ct => ∀ S' σ' H', Env K S' σ' H' ρ' → Go σ ρ S H σ' ρ' S' H' → D.ct σ' H'
  | .rt r => ∀ v S' σ' H', Env K S' σ' H' ρ' → Go σ ρ S H σ' ρ' S' H' → RepR K S' H' σ' ρ' v r → (∀ i, r ≠ .al i) → (∀ a d, v = .ref a → r = .own d → Owns σ ρ a ∨ H a = none) → D.rt v H'
def tVS (K : PySem.W.Frag) (f : Stm) : TS := fun D σ H => ∃ S ρ o ρ', Env K S σ H ρ ∧ f ρ = some (o, ρ') ∧ Fin K D σ ρ S H o ρ'
abbrev VS (X : Cx) (st : Stmt) (f : Stm) : Prop := PS X st (tVS X.K f)
abbrev VSs (X : Cx) (st : List Stmt) (f : Stm) : Prop := PSs X st (tVS X.K f)
theorem _root_.L2.PS.imp {X : Cx} {e : Stmt} {t t' : TS} (h : PS X e t) (k : ∀ D σ H, t' D σ H → t D σ H) : PS X e t' := ⟨fun pins s σ H D I q => h.run pins s σ H D I (k D σ H q)⟩
theorem _root_.L2.PSs.imp {X : Cx} {e : List Stmt} {t t' : TS} (h : PSs X e t) (k : ∀ D σ H, t' D σ H → t D σ H) : PSs X e t' := ⟨fun pins s σ H D I q => h.run pins s σ H D I (k D σ H q)⟩

def sSeq (f g : Stm) : Stm := fun ρ => (f ρ).bind fun p => match p.1 with
  | .nx => g p.2
  | o => some (o, p.2)
def sNx : Stm := fun ρ => some (.nx, ρ)
def sBk : Stm := fun ρ => some (.bk, ρ)
def sCt : Stm := fun ρ => some (.ct, ρ)
def sRet (f : Ev) : Stm := fun ρ => (f ρ).bind fun p => match p.1 with
  | .al i => match p.2[i]? with
    | some (.own _ d) => some (.rt (.own d), p.2.set i .no)
    | some (.val d) => some (.rt (.val d), p.2)
    | _ => none
  | r => some (.rt r, p.2)
def sIf (c : Ev) (f g : Stm) : Stm := fun ρ => (c ρ).bind fun p => match p.1 with
  | .val (.bl true) => f p.2
  | .val (.bl false) => g p.2
  | _ => none
def sDrop (f : Ev) : Stm := fun ρ => (f ρ).map fun p => (.nx, p.2)

section
variable {K : PySem.W.Frag} {S S1 S2 S' H H1 H2 H' : Hp} {σ σ' σ1 : L2.St} {ρ ρ0 ρ1 ρ2 ρ' : List Sl} {a : Addr} {d : D} {v w : V} {r : R} {vs : List V} {rs : List R} {D D' : Ends} {o : Out}
theorem hnone (g : Go σ ρ S H σ' ρ' S' H') (h : H' a = none) : H a = none := by
  cases q : H a with
  | none => rfl
  | some o => exact absurd h (g.dom a (by rw [q]; simp))
theorem Fin.before (g : Go σ ρ S H σ1 ρ1 S1 H1) (h : Fin K D σ ρ S H o ρ') : Fin K D σ1 ρ1 S1 H1 o ρ' := by
  cases o with
  | nx => exact fun S' σ' H' E q => h S' σ' H' E (g.trans q)
  | bk => exact fun S' σ' H' E q => h S' σ' H' E (g.trans q)
  | ct => exact fun S' σ' H' E q => h S' σ' H' E (g.trans q)
  | rt r => exact fun v S' σ' H' E q rr nr nw => h v S' σ' H' E (g.trans q) rr nr fun a d e1 e2 => (nw a d e1 e2).elim (g.own a) fun z => .inr (hnone g z)
theorem owns_no {i : Nat} (h : Owns σ (ρ.set i .no) a) : Owns σ ρ a ∧ ∀ p d, ρ[i]? = some (Sl.own p d) → σ[i]? = some (some (V.ref a)) → Env K S σ H ρ → False := by
  obtain ⟨j, p, d, e1, e2⟩ := h
  by_cases hj : j = i
  · subst hj
    by_cases hl : j < ρ.length
    · rw [List.getElem?_set_self hl] at e1; cases e1
    · rw [List.getElem?_eq_none (by simpa using hl)] at e1; cases e1
  · rw [List.getElem?_set_ne (Ne.symm hj)] at e1
    exact ⟨⟨j, p, d, e1, e2⟩, fun p' d' f1 f2 E => hj (E.inj j i _ _ _ _ a e1 f1 e2 f2)⟩
/-- slots forgotten -/
theorem Env.forget (E : Env K S σ H ρ) (i : Nat) : Env K S σ H (ρ.set i .no) := by
  have key : ∀ (j : Nat) (s : Sl), (ρ.set i .no)[j]? = some s → s = .no ∨ ρ[j]? = some s := by
    intro j s h
    by_cases hj : j = i
    · subst hj
      by_cases hl : j < ρ.length
      · rw [List.getElem?_set_self hl] at h; cases h; exact .inl rfl
      · rw [List.getElem?_eq_none (by simpa using hl)] at h; cases h
    · rw [List.getElem?_set_ne (Ne.symm hj)] at h; exact .inr h
  refine ⟨E.ex, by rw [List.length_set]; exact E.len, fun j d h => ?_, fun j p d h => ?_, fun j k p q d e a h1 h2 => ?_⟩
  · rcases key j _ h with z | z
    · cases z
    · exact E.val j d z
  · rcases key j _ h with z | z
    · cases z
    · exact E.own j p d z
  · rcases key j _ h1 with z | z
    · cases z
    · rcases key k _ h2 with z2 | z2
      · cases z2
      · exact E.inj j k p q d e a z z2
theorem Go.forget (E : Env K S σ H ρ) (g : Go σ0 ρ0 S0 H0 σ ρ S H) (i : Nat) : Go σ0 ρ0 S0 H0 σ (ρ.set i .no) S H :=
  ⟨g.st, g.keep, g.dom, g.new, fun a h => g.own a (owns_no (K := K) (S := S) (H := H) h).1, fun j d h => by
    by_cases hj : j = i
    · subst hj
      by_cases hl : j < ρ.length
      · rw [List.getElem?_set_self hl] at h; cases h
      · rw [List.getElem?_eq_none (by simpa using hl)] at h; cases h
    · rw [List.getElem?_set_ne (Ne.symm hj)] at h; exact g.pin j d h, g.len⟩
/-- a slot is stored: a value, or an object that nobody else holds -/
def stored : Sl → Bool
  | .own true _ => false
  | _ => true
theorem Env.store {s : Sl} {i : Nat} (E : Env K S σ H ρ) (hi : ∃ s0, ρ[i]? = some s0)
    (hs : match s with | .val d => Rep K S v d | .own _ d => ∃ a, v = .ref a ∧ Own K S H a d ∧ ¬ Owns σ ρ a | .no => True) : Env K S (σ.set i (some v)) H (ρ.set i s) := by
  obtain ⟨s0, h0⟩ := hi
  have hl : i < ρ.length := (List.getElem?_eq_some_iff.mp h0).1
  have hl2 : i < σ.length := by rw [← E.len]; exact hl
  refine ⟨E.ex, by rw [List.length_set, List.length_set]; exact E.len, fun j d h => ?_, fun j p d h => ?_, fun j k p q d e a h1 h2 h3 h4 => ?_⟩
  · by_cases hj : j = i
    · subst hj
      rw [List.getElem?_set_self hl] at h; cases h
      exact ⟨v, List.getElem?_set_self hl2, hs⟩
    · rw [List.getElem?_set_ne (Ne.symm hj)] at h ⊢; exact E.val j d h
  · by_cases hj : j = i
    · subst hj
      rw [List.getElem?_set_self hl] at h; cases h
      obtain ⟨a, rfl, o, _⟩ := hs
      exact ⟨a, List.getElem?_set_self hl2, o⟩
    · rw [List.getElem?_set_ne (Ne.symm hj)] at h ⊢; exact E.own j p d h
  · by_cases hj : j = i
    · subst hj
      by_cases hk : k = j
      · exact hk.symm
      · rw [List.getElem?_set_self hl] at h1; cases h1
        rw [List.getElem?_set_self hl2] at h3
        obtain ⟨b, rfl, o, n⟩ := hs
        cases h3
        rw [List.getElem?_set_ne (Ne.symm hk)] at h2 h4
        exact absurd ⟨k, q, e, h2, h4⟩ n
    · rw [List.getElem?_set_ne (Ne.symm hj)] at h1 h3
      by_cases hk : k = i
      · subst hk
        rw [List.getElem?_set_self hl] at h2; cases h2
        rw [List.getElem?_set_self hl2] at h4
        obtain ⟨b, rfl, o, n⟩ := hs
        cases h4
        exact absurd ⟨j, p, d, h1, h3⟩ n
      · rw [List.getElem?_set_ne (Ne.symm hk)] at h2 h4
        exact E.inj j k p q d e a h1 h2 h3 h4
theorem Go.store {σ0 : L2.St} {S0 H0 : Hp} {s : Sl} {i : Nat} (g : Go σ0 ρ0 S0 H0 σ ρ S H) (hi : ∃ s0, ρ[i]? = some s0 ∧ stored s0 = true) (hp : ∀ d, s ≠ .own true d)
    (hl2 : i < σ.length) (hw : ∀ p d a, s = .own p d → v = .ref a → Owns σ0 ρ0 a ∨ H0 a = none) : Go σ0 ρ0 S0 H0 (σ.set i (some v)) (ρ.set i s) S H := by
  obtain ⟨s0, h0, hst⟩ := hi
  have hl : i < ρ.length := (List.getElem?_eq_some_iff.mp h0).1
  refine ⟨g.st, g.keep, g.dom, g.new, fun a h => ?_, fun j d h => ?_, by rw [List.length_set]; exact g.len⟩
  · obtain ⟨j, p, d, e1, e2⟩ := h
    by_cases hj : j = i
    · subst hj
      rw [List.getElem?_set_self hl] at e1; cases e1
      rw [List.getElem?_set_self hl2] at e2; cases e2
      exact hw p d a rfl rfl
    · rw [List.getElem?_set_ne (Ne.symm hj)] at e1 e2
      exact g.own a ⟨j, p, d, e1, e2⟩
  · by_cases hj : j = i
    · subst hj
      rw [List.getElem?_set_self hl] at h; cases h
      exact absurd rfl (hp d)
    · rw [List.getElem?_set_ne (Ne.symm hj)] at h ⊢
      exact g.pin j d h
end

section
variable {X : Cx} {e a b c : Expr} {es rest : List Expr} {f g h : Ev} {fs : List Ev} {pos : Pos} {st : Stmt} {sts sus : List Stmt} {u t : Stm}
theorem fin_seq {K : PySem.W.Frag} {σ : L2.St} {H : Hp} {D : Ends} (q : tVS K (sSeq t u) D σ H) : tSeq (tVS K t) (tVS K u) D σ H := by
  obtain ⟨S, ρ, o, ρ', E, e, k⟩ := q
  obtain ⟨p, e1, e2⟩ := bind_some e
  refine ⟨S, ρ, p.1, p.2, E, e1, ?_⟩
  cases hp : p.1 with
  | nx =>
    rw [hp] at e2
    exact fun S' σ' H' E' G' => ⟨S', p.2, o, ρ', E', e2, k.before G'⟩
  | bk => rw [hp] at e2; cases e2; exact k
  | ct => rw [hp] at e2; cases e2; exact k
  | rt r => rw [hp] at e2; cases e2; exact k
theorem vss_cons (h1 : VS X st t) (h2 : VSs X sts u) : VSs X (st :: sts) (sSeq t u) := (pss_cons h1 h2).imp fun _ _ _ q => fin_seq q
theorem vss_one (h1 : VS X st t) : VSs X [st] t := pss_one h1
theorem fin_nx {K : PySem.W.Frag} {σ : L2.St} {H : Hp} {D : Ends} (q : tVS K sNx D σ H) : D.nx σ H := by
  obtain ⟨S, ρ, o, ρ', E, e, k⟩ := q
  cases e
  exact k S σ H E .refl
theorem vss_nil : VSs X [] sNx := pss_nil.imp fun D σ H q => fin_nx q
theorem vs_pass : VS X (.Pass pos) sNx := ps_pass.imp fun D σ H q => fin_nx q
theorem vs_doc {x j pos'} : VS X (.Expr (.Constant (.str x) j pos) pos') sNx := ps_doc.imp fun D σ H q => fin_nx q
theorem vs_break : VS X (.Break pos) sBk := ps_break.imp fun D σ H q => by
  obtain ⟨S, ρ, o, ρ', E, e, k⟩ := q
  cases e
  exact k S σ H E .refl
theorem vs_continue : VS X (.Continue pos) sCt := ps_continue.imp fun D σ H q => by
  obtain ⟨S, ρ, o, ρ', E, e, k⟩ := q
  cases e
  exact k S σ H E .refl
theorem vs_ret (he : VE X e f) : VS X (.Return (some e) pos) (sRet f) := (ps_ret he).imp fun D σ H q => by
  obtain ⟨S, ρ, o, ρ', E, e, k⟩ := q
  obtain ⟨p, e1, e2⟩ := bind_some e
  refine ⟨S, ρ, p.1, p.2, E, e1, fun v S1 H1 c => ?_⟩
  cases hp : p.1 with
  | val d =>
    rw [hp] at e2 c; cases e2
    exact k v S1 σ H1 c.env c.go c.rep1 (fun _ h => by cases h) (fun _ _ _ h => by cases h)
  | own d =>
    rw [hp] at e2 c; cases e2
    exact k v S1 σ H1 c.env c.go c.rep1 (fun _ h => by cases h) (fun a d' h1 h2 => c.nw a d' (by rw [h1, h2]; simp))
  | al i =>
    rw [hp] at e2 c
    have hr : σ[i]? = some (some v) := c.rep1
    cases hq : p.2[i]? with
    | none => simp [hq] at e2
    | some sl =>
      cases sl with
      | no => simp [hq] at e2
      | val d =>
        simp [hq] at e2
        obtain ⟨rfl, rfl⟩ := e2
        obtain ⟨u, h1, h2⟩ := c.env.val i d hq
        rw [hr] at h1; cases h1
        exact k v S1 σ H1 c.env c.go h2 (fun _ h => by cases h) (fun _ _ _ h => by cases h)
      | own pp d =>
        simp [hq] at e2
        obtain ⟨rfl, rfl⟩ := e2
        obtain ⟨a, h1, h2⟩ := c.env.own i pp d hq
        rw [hr] at h1; cases h1
        refine k _ S1 σ H1 (c.env.forget i) (.forget c.env c.go i) ⟨a, rfl, h2, fun z => ?_⟩ (fun _ h => by cases h) (fun b d' h3 h4 => ?_)
        · exact (owns_no (K := X.K) (S := S1) (H := H1) z).2 pp d hq hr c.env
        · cases h3
          exact c.go.own a ⟨i, pp, d, hq, hr⟩
theorem vs_retN : VS X (.Return none pos) (sRet (fC .non)) := ps_retN.imp fun D σ H q => by
  obtain ⟨S, ρ, o, ρ', E, e, k⟩ := q
  cases e
  exact k .non S σ H E .refl .non (fun _ h => by cases h) (fun _ _ _ h => by cases h)
theorem vs_if (hc : VT X c h) (ha : VSs X sts t) (hb : VSs X sus u) : VS X (.If c sts sus pos) (sIf h t u) := (ps_if hc ha hb).imp fun D σ H q => by
  obtain ⟨S, ρ, o, ρ', E, e, k⟩ := q
  obtain ⟨p, e1, e2⟩ := bind_some e
  split at e2
  · rename_i h1
    refine ⟨S, ρ, true, p.2, E, by rw [e1, ← h1], fun S1 H1 c1 => ?_⟩
    refine iteT ?_
    exact ⟨S1, p.2, o, ρ', c1.env, e2, k.before c1.go⟩
  · rename_i h1
    refine ⟨S, ρ, false, p.2, E, by rw [e1, ← h1], fun S1 H1 c1 => ?_⟩
    refine iteF ?_
    exact ⟨S1, p.2, o, ρ', c1.env, e2, k.before c1.go⟩
  · cases e2
theorem vs_expr (he : VE X e f) (hs : swapsWith e none pos.line X.env = pure false := by rfl) : VS X (.Expr e pos) (sDrop f) := (ps_expr he hs).imp fun D σ H q => by
  obtain ⟨S, ρ, o, ρ', E, e, k⟩ := q
  obtain ⟨p, e1, e2⟩ := map_some e
  cases e2
  exact ⟨S, ρ, p.1, p.2, E, e1, fun v S1 H1 c => k S1 σ H1 c.env c.go⟩
/-! ### stores -/
def okAt (ρ : List Sl) (i : Nat) : Bool := match ρ[i]? with
  | some s => stored s
  | none => false
def putR (i : Nat) (r : R) (ρ : List Sl) : Option (List Sl) := if okAt ρ i = true then match r with
  | .val d => some (ρ.set i (.val d))
  | .own d => some (ρ.set i (.own false d))
  | .al j => (take ρ (.al j)).bind fun q => if okAt q.2 i = true then some (q.2.set i (.val q.1)) else none
  else none
def sAsg (i : Nat) (f : Ev) : Stm := fun ρ => (f ρ).bind fun p => (putR i p.1 p.2).map fun ρ1 => (.nx, ρ1)
theorem ok_at {ρ : List Sl} {i : Nat} (h : okAt ρ i = true) : ∃ s0, ρ[i]? = some s0 ∧ stored s0 = true := by
  unfold okAt at h
  split at h
  · rename_i s e; exact ⟨s, e, h⟩
  · cases h
theorem fin_put {K : PySem.W.Frag} {σ : L2.St} {ρ ρ1 ρ2 : List Sl} {S H S1 H1 : Hp} {v : V} {r : R} {i : Nat} (c : Cur K σ ρ S H [v] [r] ρ1 S1 H1) (e : putR i r ρ1 = some ρ2) :
    ∃ S2, Env K S2 (σ.set i (some v)) H1 ρ2 ∧ Go σ ρ S H (σ.set i (some v)) ρ2 S2 H1 := by
  unfold putR at e
  split at e
  · rename_i hok
    obtain ⟨s0, h0, hst⟩ := ok_at hok
    have hl : i < σ.length := by rw [← c.env.len]; exact (List.getElem?_eq_some_iff.mp h0).1
    cases r with
    | val d =>
      cases e
      exact ⟨S1, c.env.store (s := .val d) ⟨s0, h0⟩ c.rep1, c.go.store ⟨s0, h0, hst⟩ (fun _ h => by cases h) hl (fun _ _ _ h => by cases h)⟩
    | own d =>
      cases e
      refine ⟨S1, c.env.store (s := .own false d) ⟨s0, h0⟩ c.rep1, c.go.store ⟨s0, h0, hst⟩ (fun _ h => by cases h) hl (fun p d' a h1 h2 => c.nw a d (by rw [h2]; simp))⟩
    | al j =>
      obtain ⟨q, e1, e2⟩ := bind_some e
      split at e2
      · rename_i hok2
        cases e2
        obtain ⟨s1, h1, hst1⟩ := ok_at hok2
        obtain ⟨S2, s12, hr, c2⟩ := c.take (d := q.1) (ρ2 := q.2) e1
        exact ⟨S2, c2.env.store (s := .val q.1) ⟨s1, h1⟩ hr, c2.go.store ⟨s1, h1, hst1⟩ (fun _ h => by cases h) hl (fun _ _ _ h => by cases h)⟩
      · cases e2
  · cases e
theorem fin_asg {K : PySem.W.Frag} {σ : L2.St} {H : Hp} {D : Ends} {i : Nat} (q : tVS K (sAsg i f) D σ H) : tAsg (tV K f) (gName i) D σ H := by
  obtain ⟨S, ρ, o, ρ', E, e, k⟩ := q
  obtain ⟨p, e1, e2⟩ := bind_some e
  obtain ⟨ρ1, e3, e4⟩ := map_some e2
  cases e4
  refine ⟨S, ρ, p.1, p.2, E, e1, fun v S1 H1 c => ?_⟩
  obtain ⟨S2, E2, G2⟩ := fin_put c e3
  exact k S2 _ H1 E2 G2
theorem vs_set {i : Nat} {x : Str} {pos' : Pos} (hN : X.N.Nodup) (hi : X.N[i]? = some x) (hx : Loc X.env.scope x) (he : VE X e f) (hs : swapsWith e (some (.Name x pos')) pos.line X.env = pure false := by rfl)
    (hf : X.fn x = true ∨ X.env.scope.names.lookup x = some .local := by first | exact .inl rfl | exact .inr rfl | assumption) : VS X (.Assign [.Name x pos'] e pos) (sAsg i f) :=
  (ps_set hN hi hx he hs hf).imp fun D σ H q => fin_asg q

/-! ### targets: names and tuples of them; values alone -/
inductive Tg where
  | nm (i : Nat) | tp (ts : List Tg)
mutual
def asg : Tg → FL.D → List Sl → Option (List Sl)
  | .nm i, d, ρ => if okAt ρ i = true then some (ρ.set i (.val d)) else none
  | .tp ts, .tup ds, ρ => asgs ts ds ρ
  | .tp _, _, _ => none
def asgs : List Tg → List FL.D → List Sl → Option (List Sl)
  | [], [], ρ => some ρ
  | t :: ts, d :: ds, ρ => (asg t d ρ).bind fun ρ1 => asgs ts ds ρ1
  | _, _, _ => none
end
mutual
def gOf (K : PySem.W.Frag) : Tg → TG
  | .nm i => gName i
  | .tp ts => gTup K ts.length (gsOf K ts)
def gsOf (K : PySem.W.Frag) : List Tg → TGs
  | [] => gNil
  | t :: ts => gCons (gOf K t) (gsOf K ts)
end
theorem asgs_len : ∀ {ts : List Tg} {ds : List FL.D} {ρ ρ' : List Sl}, asgs ts ds ρ = some ρ' → ds.length = ts.length
  | [], [], _, _, _ => rfl
  | [], _ :: _, _, _, h => by simp [asgs] at h
  | _ :: _, [], _, _, h => by simp [asgs] at h
  | t :: ts, d :: ds, ρ, ρ', h => by
    rw [asgs] at h
    obtain ⟨ρ1, _, h2⟩ := bind_some h
    simp [asgs_len h2]
section
variable {K : PySem.W.Frag}
mutual
def tgHas : Tg → Nat → Bool
  | .nm i, j => i == j
  | .tp ts, j => tgsHas ts j
def tgsHas : List Tg → Nat → Bool
  | [], _ => false
  | t :: ts, j => tgHas t j || tgsHas ts j
end
mutual
theorem gOf_ok : ∀ (t : Tg) {d : FL.D} {ρ0 ρ ρ' : List Sl} {σ0 σ : L2.St} {S0 H0 S H : Hp} {v : V} {Q : L2.St → Hp → Prop}, asg t d ρ = some ρ' → Env K S σ H ρ → Go σ0 ρ0 S0 H0 σ ρ S H → Rep K S v d →
    (∀ σ', Env K S σ' H ρ' → Go σ0 ρ0 S0 H0 σ' ρ' S H → (∀ j, tgHas t j = false → σ'[j]? = σ[j]?) → Q σ' H) → gOf K t v σ H Q
  | .nm i, d, ρ0, ρ, ρ', σ0, σ, S0, H0, S, H, v, Q, h, E, G, r, k => by
    rw [asg] at h
    split at h
    · rename_i hok
      cases h
      obtain ⟨s0, h0, hst⟩ := ok_at hok
      have hl : i < σ.length := by rw [← E.len]; exact (List.getElem?_eq_some_iff.mp h0).1
      exact k _ (E.store (s := .val d) ⟨s0, h0⟩ r) (G.store ⟨s0, h0, hst⟩ (fun _ h => by cases h) hl (fun _ _ _ h => by cases h)) fun j hj => List.getElem?_set_ne (by rw [tgHas] at hj; simpa using hj)
    · cases h
  | .tp ts, .tup ds, ρ0, ρ, ρ', σ0, σ, S0, H0, S, H, v, Q, h, E, G, r, k => by
    rw [asg] at h
    obtain ⟨a, vs, rfl, h1, h2⟩ := See.tup (.of r) E.ex
    rw [gOf]
    refine ⟨a, vs, rfl, h1, by rw [h2.length]; exact asgs_len h, ?_⟩
    exact gsOf_ok ts h E G h2 fun σ' E' G' hj => k σ' E' G' fun j h => hj j (by rw [tgHas] at h; exact h)
  | .tp _, .non, _, _, _, _, _, _, _, _, _, _, _, h, _, _, _, _ => by rw [asg] at h; cases h; intro _ h; cases h
  | .tp _, .bl _, _, _, _, _, _, _, _, _, _, _, _, h, _, _, _, _ => by rw [asg] at h; cases h; intro _ h; cases h
  | .tp _, .int _, _, _, _, _, _, _, _, _, _, _, _, h, _, _, _, _ => by rw [asg] at h; cases h; intro _ h; cases h
  | .tp _, .str _, _, _, _, _, _, _, _, _, _, _, _, h, _, _, _, _ => by rw [asg] at h; cases h; intro _ h; cases h
  | .tp _, .lst _, _, _, _, _, _, _, _, _, _, _, _, h, _, _, _, _ => by rw [asg] at h; cases h; intro _ h; cases h
  | .tp _, .dic _, _, _, _, _, _, _, _, _, _, _, _, h, _, _, _, _ => by rw [asg] at h; cases h; intro _ h; cases h
  | .tp _, .scr _, _, _, _, _, _, _, _, _, _, _, _, h, _, _, _, _ => by rw [asg] at h; cases h; intro _ h; cases h
theorem gsOf_ok : ∀ (ts : List Tg) {ds : List FL.D} {ρ0 ρ ρ' : List Sl} {σ0 σ : L2.St} {S0 H0 S H : Hp} {vs : List V} {Q : L2.St → Hp → Prop}, asgs ts ds ρ = some ρ' → Env K S σ H ρ → Go σ0 ρ0 S0 H0 σ ρ S H → Reps K S vs ds →
    (∀ σ', Env K S σ' H ρ' → Go σ0 ρ0 S0 H0 σ' ρ' S H → (∀ j, tgsHas ts j = false → σ'[j]? = σ[j]?) → Q σ' H) → gsOf K ts vs σ H Q
  | [], [], ρ0, ρ, ρ', σ0, σ, S0, H0, S, H, vs, Q, h, E, G, r, k => by
    rw [asgs] at h; cases h
    cases r
    exact ⟨rfl, k σ E G fun _ _ => rfl⟩
  | [], _ :: _, _, _, _, _, _, _, _, _, _, _, _, h, _, _, _, _ => by simp [asgs] at h
  | _ :: _, [], _, _, _, _, _, _, _, _, _, _, _, h, _, _, _, _ => by simp [asgs] at h
  | t :: ts, d :: ds, ρ0, ρ, ρ', σ0, σ, S0, H0, S, H, vs, Q, h, E, G, r, k => by
    rw [asgs] at h
    obtain ⟨ρ1, h1, h2⟩ := bind_some h
    cases r with
    | cons r1 rt => exact ⟨_, _, rfl, gOf_ok t h1 E G r1 fun σ' E' G' hj => gsOf_ok ts h2 E' G' rt fun σ2 E2 G2 hj2 => k σ2 E2 G2 fun j h => by
      rw [tgsHas, Bool.or_eq_false_iff] at h
      exact (hj2 j h.2).trans (hj j h.1)⟩
end
end
abbrev VG (X : Cx) (tg : Expr) (t : Tg) : Prop := PG X tg (gOf X.K t)
abbrev VGs (X : Cx) (tg : List Expr) (t : List Tg) : Prop := PGs X tg (gsOf X.K t)
theorem vg_name {i : Nat} {x : Str} (hN : X.N.Nodup) (hi : X.N[i]? = some x) (hx : Loc X.env.scope x) (hf : X.fn x = true ∨ X.env.scope.names.lookup x = some .local := by first | exact .inl rfl | exact .inr rfl | assumption) : VG X (.Name x pos) (.nm i) := by
  have h := pg_name (pos := pos) hN hi hx hf
  show PG X _ (gOf X.K (.nm i))
  rw [gOf]; exact h
theorem vgs_nil : VGs X [] [] := by
  show PGs X _ (gsOf X.K [])
  rw [gsOf]; exact pgs_nil
theorem vgs_cons {e : Expr} {es : List Expr} {t : Tg} {ts : List Tg} (h1 : VG X e t) (h2 : VGs X es ts) (hs : (assignEach (e :: es) X.env).map (·.2) = assign e X.env :: (assignEach es X.env).map (·.2) := by rfl) : VGs X (e :: es) (t :: ts) := by
  show PGs X _ (gsOf X.K (t :: ts))
  rw [gsOf]; exact pgs_cons h1 h2 hs
theorem vg_tup {es : List Expr} {k : Nat} {ts : List Tg} (hc : X.calm = true) (h : VGs X es ts) (hn : (assignEach es X.env).length = ts.length := by rfl) (hst : (assignEach es X.env).findIdx? (·.1) = none := by rfl) : VG X (.Tuple es k pos) (.tp ts) := by
  show PG X _ (gOf X.K (.tp ts))
  rw [gOf]; exact pg_tup hc h hn hst
/-- a tuple is unpacked -/
def sUnp (t : Tg) (f : Ev) : Stm := fun ρ => (f ρ).bind fun p => match p.1 with
  | .val d => (asg t d p.2).map fun ρ1 => (.nx, ρ1)
  | _ => none
theorem vs_unp {tg : Expr} {t : Tg} (he : VE X e f) (hg : VG X tg t) (hs : swapsWithSole [tg] e pos.line X.env = pure false := by rfl) (hw : swappedStores [tg] e X.env = pure none := by rfl)
    (h1 : (assignEach [tg] X.env).map (·.2) = [assign tg X.env] := by rfl) : VS X (.Assign [tg] e pos) (sUnp t f) := (ps_asg he hg hs hw h1).imp fun D σ H q => by
  obtain ⟨S, ρ, o, ρ', E, e, k⟩ := q
  obtain ⟨p, e1, e2⟩ := bind_some e
  refine ⟨S, ρ, p.1, p.2, E, e1, fun v S1 H1 c => ?_⟩
  split at e2
  · rename_i d h1
    obtain ⟨ρ1, e3, e4⟩ := map_some e2
    cases e4
    have q := c.rep1
    rw [h1] at q
    exact gOf_ok t e3 c.env c.go q fun σ' E' G' _ => k S1 σ' H1 E' G'
  · cases e2
/-- two, three names at once -/
def put1 (i : Nat) (r : R) (ρ : List Sl) : Option (List Sl) := if okAt ρ i = true then match r with
  | .val d => some (ρ.set i (.val d))
  | .own d => some (ρ.set i (.own false d))
  | .al _ => none
  else none
def puts : List Nat → List R → List Sl → Option (List Sl)
  | [], [], ρ => some ρ
  | i :: is, r :: rs, ρ => (put1 i r ρ).bind fun ρ1 => puts is rs ρ1
  | _, _, _ => none
def sPar (is : List Nat) (fs : List Ev) : Stm := fun ρ => (evs fs ρ).bind fun p => (puts is p.1 p.2).map fun ρ1 => (.nx, ρ1)
end
end FL
namespace FL
open PySem L2

section
variable {K : PySem.W.Frag} {S S1 S2 S' H H1 H2 H' : Hp} {σ σ' σ1 : L2.St} {ρ ρ0 ρ1 ρ2 ρ' : List Sl} {a : Addr} {d : D} {v w : V} {r : R} {vs : List V} {rs : List R}
def setsσ : List Nat → List V → L2.St → L2.St
  | i :: is, v :: vs, σ => setsσ is vs (σ.set i (some v))
  | _, _, σ => σ
theorem owns_store {i : Nat} {s : Sl} (hl : i < ρ.length) (hl2 : i < σ.length) (h : Owns (σ.set i (some v)) (ρ.set i s) a) : (∃ p d, s = .own p d ∧ v = .ref a) ∨ Owns σ ρ a := by
  obtain ⟨j, p, d, e1, e2⟩ := h
  by_cases hj : j = i
  · subst hj
    rw [List.getElem?_set_self hl] at e1; cases e1
    rw [List.getElem?_set_self hl2] at e2; cases e2
    exact .inl ⟨p, d, rfl, rfl⟩
  · rw [List.getElem?_set_ne (Ne.symm hj)] at e1 e2
    exact .inr ⟨j, p, d, e1, e2⟩
theorem RepRs.noal (h : RepRs K S H σ ρ vs rs) (n : ∀ i, R.al i ∉ rs) (f : ∀ a, (∃ d, (V.ref a, R.own d) ∈ vs.zip rs) → Owns σ' ρ' a → Owns σ ρ a) : RepRs K S H σ' ρ' vs rs := by
  induction h with
  | nil => exact .nil
  | @cons v r vs rs hr hd ht ih =>
    refine .cons ?_ hd (ih (fun i hi => n i (List.mem_cons_of_mem _ hi)) fun a ⟨d, hm⟩ => f a ⟨d, by rw [List.zip_cons_cons]; exact List.mem_cons_of_mem _ hm⟩)
    cases r with
    | val d => exact hr
    | al i => exact absurd List.mem_cons_self (n i)
    | own d =>
      obtain ⟨a, rfl, o, nn⟩ := hr
      exact ⟨a, rfl, o, fun z => nn (f a ⟨d, by simp⟩ z)⟩
theorem puts_noal : ∀ {is : List Nat} {rs : List R} {ρ ρ' : List Sl}, puts is rs ρ = some ρ' → ∀ i, R.al i ∉ rs
  | [], [], _, _, _, _, h => nomatch h
  | [], _ :: _, _, _, h, _, _ => by simp [puts] at h
  | _ :: _, [], _, _, h, _, _ => by simp [puts] at h
  | i :: is, r :: rs, ρ, ρ', h, j, hm => by
    rw [puts] at h
    obtain ⟨ρ1, h1, h2⟩ := bind_some h
    rcases List.mem_cons.mp hm with z | z
    · subst z
      unfold put1 at h1
      split at h1
      · cases h1
      · cases h1
    · exact puts_noal h2 j z
theorem puts_len : ∀ {is : List Nat} {rs : List R} {ρ ρ' : List Sl}, puts is rs ρ = some ρ' → rs.length = is.length
  | [], [], _, _, _ => rfl
  | [], _ :: _, _, _, h => by simp [puts] at h
  | _ :: _, [], _, _, h => by simp [puts] at h
  | i :: is, r :: rs, ρ, ρ', h => by
    rw [puts] at h
    obtain ⟨ρ1, h1, h2⟩ := bind_some h
    simp [puts_len h2]
theorem puts_ok {σ0 : L2.St} {ρ0 : List Sl} {S0 H0 : Hp} : ∀ {is : List Nat} {vs : List V} {rs : List R} {σ : L2.St} {ρ ρ' : List Sl}, puts is rs ρ = some ρ' → RepRs K S H σ ρ vs rs → Env K S σ H ρ → Go σ0 ρ0 S0 H0 σ ρ S H →
    (∀ a d, (V.ref a, R.own d) ∈ vs.zip rs → Owns σ0 ρ0 a ∨ H0 a = none) → Env K S (setsσ is vs σ) H ρ' ∧ Go σ0 ρ0 S0 H0 (setsσ is vs σ) ρ' S H
  | [], vs, [], σ, ρ, ρ', h, hr, E, G, nw => by
    cases hr; cases h; exact ⟨E, G⟩
  | [], _, _ :: _, _, _, _, h, _, _, _, _ => by simp [puts] at h
  | _ :: _, _, [], _, _, _, h, _, _, _, _ => by simp [puts] at h
  | i :: is, vs, r :: rs, σ, ρ, ρ', h, hr, E, G, nw => by
    have na := puts_noal h
    cases hr with
    | @cons v _ vs _ hr hd ht =>
      rw [puts] at h
      obtain ⟨ρ1, h1, h2⟩ := bind_some h
      have nw' : ∀ a d, (V.ref a, R.own d) ∈ vs.zip rs → Owns σ0 ρ0 a ∨ H0 a = none := fun a d hm => nw a d (by rw [List.zip_cons_cons]; exact List.mem_cons_of_mem _ hm)
      unfold put1 at h1
      split at h1
      · rename_i hok
        obtain ⟨s0, h0, hst⟩ := ok_at hok
        have hlr : i < ρ.length := (List.getElem?_eq_some_iff.mp h0).1
        have hl : i < σ.length := by rw [← E.len]; exact hlr
        cases r with
        | al j => exact absurd List.mem_cons_self (na j)
        | val d =>
          cases h1
          refine puts_ok (is := is) (vs := vs) (σ := σ.set i (some v)) h2 (ht.noal (fun j hj => na j (List.mem_cons_of_mem _ hj)) fun a _ z => (owns_store (s := .val d) hlr hl z).elim (fun ⟨_, _, q, _⟩ => by cases q) fun z => z) (E.store (s := .val d) ⟨s0, h0⟩ hr) (G.store ⟨s0, h0, hst⟩ (fun _ h => by cases h) hl (fun _ _ _ h => by cases h)) nw'
        | own d =>
          cases h1
          refine puts_ok (is := is) (vs := vs) (σ := σ.set i (some v)) h2 (ht.noal (fun j hj => na j (List.mem_cons_of_mem _ hj)) fun a ⟨d2, hm⟩ z => (owns_store (s := .own false d) hlr hl z).elim (fun ⟨_, _, q, q2⟩ => absurd hm (hd d a rfl q2 d2)) fun z => z) (E.store (s := .own false d) ⟨s0, h0⟩ hr)
            (G.store ⟨s0, h0, hst⟩ (fun _ h => by cases h) hl (fun p d' a h1 h2 => nw a d (by rw [h2]; simp))) nw'
      · cases h1
end

section
variable {X : Cx} {e a b c : Expr} {es rest : List Expr} {f g h : Ev} {fs : List Ev} {pos : Pos} {st : Stmt} {sts sus : List Stmt} {u t : Stm}
theorem vs_par {i j : Nat} {x y : Str} {px py pt : Pos} {kt k2 pt2} (hc : X.calm = true) (hN : X.N.Nodup) (hi : X.N[i]? = some x) (hj : X.N[j]? = some y) (hij : i ≠ j)
    (hx : X.env.scope.names.lookup x = some .local) (hy : X.env.scope.names.lookup y = some .local) (ha : VA X [a, b] fs)
    (hw : swappedStores [.Tuple [.Name x px, .Name y py] kt pt] (.Tuple [a, b] k2 pt2) X.env = pure (some [x, y]))
    (hs : swapsWithSole [.Tuple [.Name x px, .Name y py] kt pt] (.Tuple [a, b] k2 pt2) pos.line X.env = pure false := by rfl) :
    VS X (.Assign [.Tuple [.Name x px, .Name y py] kt pt] (.Tuple [a, b] k2 pt2) pos) (sPar [i, j] fs) := (ps_par hc hN hi hj hij hx hy ha hw hs).imp fun D σ H q => by
  obtain ⟨S, ρ, o, ρ', E, e, k⟩ := q
  obtain ⟨p, e1, e2⟩ := bind_some e
  obtain ⟨ρ1, e3, e4⟩ := map_some e2
  cases e4
  refine ⟨S, ρ, p.1, p.2, E, e1, fun vs S1 H1 c => ?_⟩
  obtain ⟨E2, G2⟩ := puts_ok e3 c.rep c.env c.go c.nw
  have hl : p.1.length = 2 := by
    exact puts_len e3
  match vs, c.rep.len with
  | [v, w], _ => exact ⟨v, w, rfl, k S1 _ H1 E2 G2⟩
  | [], h => rw [hl] at h; cases h
  | [_], h => rw [hl] at h; cases h
  | _ :: _ :: _ :: _, h => rw [hl] at h; cases h
theorem vs_par3 {i j l : Nat} {x y z : Str} {px py pz pt : Pos} {kt k2 pt2} (hc : X.calm = true) (hN : X.N.Nodup) (hi : X.N[i]? = some x) (hj : X.N[j]? = some y) (hk : X.N[l]? = some z) (hij : i ≠ j) (hil : i ≠ l) (hjl : j ≠ l)
    (hx : X.env.scope.names.lookup x = some .local) (hy : X.env.scope.names.lookup y = some .local) (hz : X.env.scope.names.lookup z = some .local) (ha : VA X [a, b, c] fs)
    (hw : swappedStores [.Tuple [.Name x px, .Name y py, .Name z pz] kt pt] (.Tuple [a, b, c] k2 pt2) X.env = pure (some [x, y, z]))
    (hs : swapsWithSole [.Tuple [.Name x px, .Name y py, .Name z pz] kt pt] (.Tuple [a, b, c] k2 pt2) pos.line X.env = pure false := by rfl) :
    VS X (.Assign [.Tuple [.Name x px, .Name y py, .Name z pz] kt pt] (.Tuple [a, b, c] k2 pt2) pos) (sPar [i, j, l] fs) := (ps_par3 hc hN hi hj hk hij hil hjl hx hy hz ha hw hs).imp fun D σ H q => by
  obtain ⟨S, ρ, o, ρ', E, e, k⟩ := q
  obtain ⟨p, e1, e2⟩ := bind_some e
  obtain ⟨ρ1, e3, e4⟩ := map_some e2
  cases e4
  refine ⟨S, ρ, p.1, p.2, E, e1, fun vs S1 H1 c => ?_⟩
  obtain ⟨E2, G2⟩ := puts_ok e3 c.rep c.env c.go c.nw
  have hl : p.1.length = 3 := by
    exact puts_len e3
  match vs, c.rep.len with
  | [v, w, w2], _ => exact ⟨v, w, w2, rfl, k S1 _ H1 E2 G2⟩
  | [], h => rw [hl] at h; cases h
  | [_], h => rw [hl] at h; cases h
  | [_, _], h => rw [hl] at h; cases h
  | _ :: _ :: _ :: _ :: _, h => rw [hl] at h; cases h

/-! ### walks -/
/-- behind S0 the iterator J walks ds -/
structure Walks (K : PySem.W.Frag) (J : It) (S0 : Hp) (ds : List FL.D) : Prop where
  goes : ∀ S H i, Same S0 S → Same S H → i < ds.length → J.go i H
  stops : ∀ S H, Same S0 S → Same S H → J.stop ds.length H
  gives : ∀ S H i x H', Same S0 S → Same S H → i < ds.length → J.yld i H x H' → ∃ S' d, ds[i]? = some d ∧ Rep K S' x d ∧ Same S S' ∧ Same H H' ∧ Same S' H' ∧ ∀ a, S a = none → H a ≠ none → S' a = none
abbrev Iv := List Sl → Option (List FL.D × List Sl)
def tVI (K : PySem.W.Frag) (it : Iv) : TI := fun σ H R => ∃ S ρ ds ρ', Env K S σ H ρ ∧ it ρ = some (ds, ρ') ∧ ∀ S' H' J, Env K S' σ H' ρ' → Go σ ρ S H σ ρ' S' H' → Walks K J S' ds → R J H'
abbrev VI (X : Cx) (tg iter : Expr) (it : Iv) : Prop := PI X tg iter (tVI X.K it)
theorem _root_.L2.PI.imp {X : Cx} {tg e : Expr} {t t' : TI} (h : PI X tg e t) (k : ∀ σ H R, t' σ H R → t σ H R) : PI X tg e t' := ⟨fun pins s σ H R I q => h.run pins s σ H R I (k σ H R q)⟩
theorem _root_.L2.PI.or {X : Cx} {tg e : Expr} {t t' : TI} (h : PI X tg e t) (h' : PI X tg e t') : PI X tg e fun σ H R => t σ H R ∨ t' σ H R := ⟨fun pins s σ H R I q => q.elim (h.run pins s σ H R I) (h'.run pins s σ H R I)⟩
def forL (t : Tg) (b : Stm) : List FL.D → Stm
  | [], ρ => some (.nx, ρ)
  | d :: ds, ρ => (asg t d ρ).bind fun ρ1 => (b ρ1).bind fun p => match p.1 with
    | .nx => forL t b ds p.2
    | .ct => forL t b ds p.2
    | .bk => some (.nx, p.2)
    | .rt r => some (.rt r, p.2)
def sFor (it : Iv) (t : Tg) (b : Stm) : Stm := fun ρ => (it ρ).bind fun p => forL t b p.1 p.2
theorem fin_for {K : PySem.W.Frag} {it : Iv} {tg : Tg} {σ : L2.St} {H : Hp} {D : Ends} (q : tVS K (sFor it tg t) D σ H) : tFor (tVI K it) (gOf K tg) (tVS K t) D σ H := by
  obtain ⟨S, ρ, o, ρ', E, e, k⟩ := q
  obtain ⟨p, e1, e2⟩ := bind_some e
  refine ⟨S, ρ, p.1, p.2, E, e1, fun S1 H1 J E1 G1 W1 => ?_⟩
  refine ⟨fun i m σi Hi => m = p.1.length - i ∧ i ≤ p.1.length ∧ ∃ Si ρi, Env K Si σi Hi ρi ∧ Go σ ρ S H σi ρi Si Hi ∧ Same S1 Si ∧ forL tg t (p.1.drop i) ρi = some (o, ρ'), ⟨_, rfl, Nat.zero_le _, S1, p.2, E1, G1, fun _ _ e => e, e2⟩, ?_⟩
  rintro i m σi Hi ⟨rfl, hi, Si, ρi, Ei, Gi, si, ei⟩
  by_cases hlt : i < p.1.length
  · refine .inr ⟨W1.goes Si Hi i si Ei.ex hlt, ?_⟩
    rw [List.drop_eq_getElem_cons hlt, forL] at ei
    obtain ⟨ρ1, f1, f2⟩ := bind_some ei
    obtain ⟨p2, f3, f4⟩ := bind_some f2
    refine ⟨fun σ' H' => ∃ Si ρi, Env K Si σ' H' ρi ∧ Go σ ρ S H σ' ρi Si H' ∧ Same S1 Si ∧ forL tg t (p.1.drop (i + 1)) ρi = some (o, ρ'), fun σ' H' ⟨Sj, ρj, w1, w2, w3, w4⟩ => ⟨p.1.length - (i + 1), by omega, rfl, hlt, Sj, ρj, w1, w2, w3, w4⟩, fun x H' hy => ?_⟩
    obtain ⟨S', d, hd, hr, ss, hh, sh, hn⟩ := W1.gives Si Hi i x H' si Ei.ex hlt hy
    rw [List.getElem?_eq_getElem hlt] at hd
    cases hd
    have E' : Env K S' σi H' ρi := ⟨sh, Ei.len, fun j d e => let ⟨v, a, r⟩ := Ei.val j d e; ⟨v, a, r.mono ss⟩, fun j p d e => let ⟨b, a, o⟩ := Ei.own j p d e; ⟨b, a, o.keep ss (hn b o.1 o.there) (hh b)⟩, Ei.inj⟩
    have G' : Go σi ρi Si Hi σi ρi S' H' := ⟨ss, fun a o e _ => hh a o e, fun a h => by
      cases q : Hi a with
      | none => exact absurd q h
      | some o => rw [hh a o q]; simp, fun a e h _ => hn a e h, fun _ q => .inl q, fun _ d e => ⟨⟨d, e⟩, rfl⟩, rfl⟩
    refine gOf_ok tg f1 E' (Gi.trans G') hr fun σ2 E2 G2 _ => ?_
    refine ⟨S', ρ1, p2.1, p2.2, E2, f3, ?_⟩
    have s1 : Same S1 S' := fun a o e => ss a o (si a o e)
    cases hp : p2.1 with
    | nx =>
      rw [hp] at f4
      exact fun S3 σ3 H3 E3 G3 => ⟨S3, p2.2, E3, G2.trans G3, fun a o e => G3.st a o (s1 a o e), f4⟩
    | ct =>
      rw [hp] at f4
      exact fun S3 σ3 H3 E3 G3 => ⟨S3, p2.2, E3, G2.trans G3, fun a o e => G3.st a o (s1 a o e), f4⟩
    | bk =>
      rw [hp] at f4
      cases f4
      exact fun S3 σ3 H3 E3 G3 => k S3 σ3 H3 E3 (G2.trans G3)
    | rt r =>
      rw [hp] at f4
      cases f4
      have := Fin.before (o := .rt r) G2 k
      exact this
  · have e0 : i = p.1.length := by omega
    subst e0
    rw [List.drop_length, forL] at ei
    cases ei
    exact .inl ⟨W1.stops Si Hi si Ei.ex, k Si σi Hi Ei Gi⟩
theorem vs_for {tg iter : Expr} {it : Iv} {tt : Tg} (hp : PassesOwn (model X.prog X.w) X.A X.env X.xe) (hc : X.calm = true) (hi : VI X tg iter it) (hg : VG X tg tt) (hb : VSs X sts t)
    (hs : ∀ x, foldedSetIterable iter X.env x = pure x := by intro _; rfl) : VS X (.For tg iter sts [] pos) (sFor it tt t) := (ps_for hp hc hi hg hb hs).imp fun D σ H q => fin_for q
def whileL (c : Ev) (b : Stm) : Nat → Stm
  | 0, _ => none
  | n + 1, ρ => (c ρ).bind fun p => match p.1 with
    | .val (.bl true) => (b p.2).bind fun q => match q.1 with
      | .nx => whileL c b n q.2
      | .ct => whileL c b n q.2
      | .bk => some (.nx, q.2)
      | .rt r => some (.rt r, q.2)
    | .val (.bl false) => some (.nx, p.2)
    | _ => none
/-- a while, at most n turns -/
def sWhile (n : Nat) (c : Ev) (b : Stm) : Stm := whileL c b n
theorem vs_while {n : Nat} {cd : Expr} (hp : PassesOwn (model X.prog X.w) X.A X.env X.xe) (hc : VT X cd f) (hb : VSs X sts t) : VS X (.While cd sts [] pos) (sWhile n f t) := (ps_while hp hc hb).imp fun D σ H q => by
  obtain ⟨S, ρ, o, ρ', E, e, k⟩ := q
  refine ⟨fun m σi Hi => ∃ Si ρi, Env X.K Si σi Hi ρi ∧ Go σ ρ S H σi ρi Si Hi ∧ whileL f t m ρi = some (o, ρ'), ⟨n, S, ρ, E, .refl, e⟩, ?_⟩
  rintro m σi Hi ⟨Si, ρi, Ei, Gi, ei⟩
  cases m with
  | zero => rw [whileL] at ei; cases ei
  | succ m =>
    rw [whileL] at ei
    obtain ⟨p, e1, e2⟩ := bind_some ei
    split at e2
    · rename_i h1
      refine ⟨Si, ρi, true, p.2, Ei, by rw [e1, ← h1], fun S1 H1 c1 => ?_⟩
      refine iteT ?_
      obtain ⟨p2, f3, f4⟩ := bind_some e2
      refine ⟨fun σ' H' => ∃ Sj ρj, Env X.K Sj σ' H' ρj ∧ Go σ ρ S H σ' ρj Sj H' ∧ whileL f t m ρj = some (o, ρ'), fun σ' H' h => ⟨m, Nat.lt_succ_self m, h⟩, ?_⟩
      refine ⟨S1, p.2, p2.1, p2.2, c1.env, f3, ?_⟩
      have G1 := Gi.trans c1.go
      cases hp : p2.1 with
      | nx => rw [hp] at f4; exact fun S3 σ3 H3 E3 G3 => ⟨S3, p2.2, E3, G1.trans G3, f4⟩
      | ct => rw [hp] at f4; exact fun S3 σ3 H3 E3 G3 => ⟨S3, p2.2, E3, G1.trans G3, f4⟩
      | bk => rw [hp] at f4; cases f4; exact fun S3 σ3 H3 E3 G3 => k S3 σ3 H3 E3 (G1.trans G3)
      | rt r => rw [hp] at f4; cases f4; have := Fin.before (o := .rt r) G1 k; exact this
    · rename_i h1
      refine ⟨Si, ρi, false, p.2, Ei, by rw [e1, ← h1], fun S1 H1 c1 => ?_⟩
      refine iteF ?_
      cases e2
      exact k S1 σi H1 c1.env (Gi.trans c1.go)
    · cases e2
end
end FL
namespace FL
open PySem L2

section
variable {K : PySem.W.Frag} {S S1 S2 S' H H1 H2 H' S0 H0 : Hp} {σ σ' σ0 σ1 : L2.St} {ρ ρ0 ρ1 ρ2 ρ' : List Sl} {a : Addr} {d : D} {v w : V} {r : R} {vs : List V} {rs : List R} {o : HO}
/-! ### an object outside is changed -/
theorem Env.mut (E : Env K S σ H ρ) (hs : S a = none) (hn : ¬ Owns σ ρ a) : Env K S σ (upd H a o) ρ :=
  ⟨fun b u e => by rw [upd_ne (ne_of_none e hs)]; exact E.ex b u e, E.len, E.val, fun i p d e => let ⟨b, e1, q⟩ := E.own i p d e; ⟨b, e1, q.keep (fun _ _ e => e) q.1 fun u h => by rw [upd_ne (fun z => hn ⟨i, p, d, e, by rw [e1, z]⟩)]; exact h⟩, E.inj⟩
theorem Go.mut (G : Go σ0 ρ0 S0 H0 σ ρ S H) (hw : Owns σ0 ρ0 a ∨ H0 a = none) : Go σ0 ρ0 S0 H0 σ ρ S (upd H a o) :=
  ⟨G.st, fun b u e n => by rw [upd_ne (fun z => by subst z; exact hw.elim n fun q => by rw [q] at e; cases e)]; exact G.keep b u e n, fun b h => by
    by_cases hb : b = a
    · subst hb; rw [upd_same]; simp
    · rw [upd_ne hb]; exact G.dom b h, G.new, G.own, G.pin, G.len⟩
/-! ### slots wiped for a comprehension, and given back -/
def wipeR (ρ : List Sl) : List Nat → List Sl
  | [] => ρ
  | v :: vs => (wipeR ρ vs).set v .no
def unwipe (o ρ : List Sl) : List Nat → List Sl
  | [] => ρ
  | v :: vs => (unwipe o ρ vs).set v (o.getD v .no)
def noOwn (ρ : List Sl) (vs : List Nat) : Bool := vs.all fun v => match ρ[v]? with
  | some (.own _ _) => false
  | _ => true
theorem wipe_len {vs : List Nat} : (wipe σ vs).length = σ.length := by induction vs with | nil => rfl | cons v vs ih => rw [wipe, List.length_set, ih]
theorem wipeR_len {vs : List Nat} : (wipeR ρ vs).length = ρ.length := by induction vs with | nil => rfl | cons v vs ih => rw [wipeR, List.length_set, ih]
theorem unwipe_len {vs : List Nat} : (unwipe ρ0 ρ vs).length = ρ.length := by induction vs with | nil => rfl | cons v vs ih => rw [unwipe, List.length_set, ih]
theorem wipe_out {vs : List Nat} {j : Nat} (h : j ∉ vs) : (wipe σ vs)[j]? = σ[j]? := by
  induction vs with
  | nil => rfl
  | cons v vs ih =>
    have h' : j ≠ v ∧ j ∉ vs := by simpa using h
    rw [wipe, List.getElem?_set_ne (Ne.symm h'.1), ih h'.2]
theorem wipe_in {vs : List Nat} {j : Nat} (h : j ∈ vs) (hl : j < σ.length) : (wipe σ vs)[j]? = some none := by
  induction vs with
  | nil => cases h
  | cons v vs ih =>
    rw [wipe]
    by_cases hj : j = v
    · subst hj; rw [List.getElem?_set_self (by rw [wipe_len]; exact hl)]
    · rw [List.getElem?_set_ne (Ne.symm hj)]; exact ih ((List.mem_cons.mp h).resolve_left hj)
theorem wipeR_out {vs : List Nat} {j : Nat} (h : j ∉ vs) : (wipeR ρ vs)[j]? = ρ[j]? := by
  induction vs with
  | nil => rfl
  | cons v vs ih =>
    have h' : j ≠ v ∧ j ∉ vs := by simpa using h
    rw [wipeR, List.getElem?_set_ne (Ne.symm h'.1), ih h'.2]
theorem wipeR_in {vs : List Nat} {j : Nat} {s : Sl} (h : j ∈ vs) (e : (wipeR ρ vs)[j]? = some s) : s = .no := by
  induction vs with
  | nil => cases h
  | cons v vs ih =>
    rw [wipeR] at e
    by_cases hj : j = v
    · subst hj
      by_cases hl : j < (wipeR ρ vs).length
      · rw [List.getElem?_set_self hl] at e; cases e; rfl
      · rw [List.getElem?_eq_none (by simpa using hl)] at e; cases e
    · rw [List.getElem?_set_ne (Ne.symm hj)] at e; exact ih ((List.mem_cons.mp h).resolve_left hj) e
theorem unwipe_out {vs : List Nat} {j : Nat} (h : j ∉ vs) : (unwipe ρ0 ρ vs)[j]? = ρ[j]? := by
  induction vs with
  | nil => rfl
  | cons v vs ih =>
    have h' : j ≠ v ∧ j ∉ vs := by simpa using h
    rw [unwipe, List.getElem?_set_ne (Ne.symm h'.1), ih h'.2]
theorem unwipe_in {vs : List Nat} {j : Nat} {s : Sl} (h : j ∈ vs) (e : (unwipe ρ0 ρ vs)[j]? = some s) : s = ρ0.getD j .no := by
  induction vs with
  | nil => cases h
  | cons v vs ih =>
    rw [unwipe] at e
    by_cases hj : j = v
    · subst hj
      by_cases hl : j < (unwipe ρ0 ρ vs).length
      · rw [List.getElem?_set_self hl] at e; cases e; rfl
      · rw [List.getElem?_eq_none (by simpa using hl)] at e; cases e
    · rw [List.getElem?_set_ne (Ne.symm hj)] at e; exact ih ((List.mem_cons.mp h).resolve_left hj) e
theorem Env.wiped {vs : List Nat} (E : Env K S σ H ρ) (hw : wipe σ vs = wipe σ' vs) : Env K S (wipe σ' vs) H (wipeR ρ vs) := by
  rw [← hw]
  refine ⟨E.ex, by rw [wipe_len, wipeR_len]; exact E.len, fun j d h => ?_, fun j p d h => ?_, fun j k p q d e a h1 h2 h3 h4 => ?_⟩
  · by_cases hj : j ∈ vs
    · cases wipeR_in hj h
    · rw [wipeR_out hj] at h; rw [wipe_out hj]; exact E.val j d h
  · by_cases hj : j ∈ vs
    · cases wipeR_in hj h
    · rw [wipeR_out hj] at h; rw [wipe_out hj]; exact E.own j p d h
  · by_cases hj : j ∈ vs
    · cases wipeR_in hj h1
    · by_cases hk : k ∈ vs
      · cases wipeR_in hk h2
      · rw [wipeR_out hj] at h1; rw [wipeR_out hk] at h2
        rw [wipe_out hj] at h3; rw [wipe_out hk] at h4
        exact E.inj j k p q d e a h1 h2 h3 h4
theorem owns_wiped {vs : List Nat} (h : Owns (wipe σ vs) (wipeR ρ vs) a) : Owns σ ρ a := by
  obtain ⟨j, p, d, e1, e2⟩ := h
  by_cases hj : j ∈ vs
  · cases wipeR_in hj e1
  · rw [wipeR_out hj] at e1; rw [wipe_out hj] at e2
    exact ⟨j, p, d, e1, e2⟩
theorem Go.wiped {vs : List Nat} (G : Go σ0 ρ0 S0 H0 σ ρ S H) (hw : wipe σ vs = wipe σ' vs) (hl : σ'.length = σ.length) (h0 : ∀ j, j ∉ vs → σ'[j]? = σ[j]?) : Go σ0 ρ0 S0 H0 (wipe σ' vs) (wipeR ρ vs) S H := by
  rw [← hw]
  refine ⟨G.st, G.keep, G.dom, G.new, fun a h => G.own a (owns_wiped h), fun j d h => ?_, by rw [wipe_len]; exact G.len⟩
  by_cases hj : j ∈ vs
  · cases wipeR_in hj h
  · rw [wipeR_out hj] at h; rw [wipe_out hj]; exact G.pin j d h
theorem wipe_eq {vs : List Nat} (h : ∀ j, j ∉ vs → σ'[j]? = (wipe σ vs)[j]?) (hl : σ'.length = σ.length) : wipe σ' vs = wipe σ vs := by
  refine List.ext_getElem? fun j => ?_
  by_cases hj : j ∈ vs
  · by_cases hb : j < σ.length
    · rw [wipe_in hj hb, wipe_in hj (by rw [hl]; exact hb)]
    · rw [List.getElem?_eq_none (by rw [wipe_len, hl]; omega), List.getElem?_eq_none (by rw [wipe_len]; omega)]
  · rw [wipe_out hj, h j hj]
end

/-! ### comprehensions -/
def lcL (t : Tg) (c e : Ev) (vs : List Nat) : List D → List D → List Sl → Option (List D × List Sl)
  | [], acc, ρ => some (acc, ρ)
  | d :: ds, acc, ρ => (asg t d ρ).bind fun ρ1 => (c ρ1).bind fun p => match p.1 with
    | .val (.bl true) => (e p.2).bind fun q => (take q.2 q.1).bind fun z => if acc.length < cap then lcL t c e vs ds (acc ++ [z.1]) (wipeR z.2 vs) else none
    | .val (.bl false) => lcL t c e vs ds acc (wipeR p.2 vs)
    | _ => none
def fLc (it : Iv) (t : Tg) (c e : Ev) (vs : List Nat) : Ev := fun ρ => (it ρ).bind fun p => if noOwn p.2 vs = true then (lcL t c e vs p.1 [] (wipeR p.2 vs)).map fun q => (.own (.lst q.1), unwipe p.2 q.2 vs) else none
theorem cap_lt {n : Nat} (h : n < cap) : n < sizeLine := Nat.lt_trans h (by decide)
theorem sem_lc {K : PySem.W.Frag} {it : Iv} {t : Tg} {c e : Ev} {vs : List Nat} {σ : L2.St} {H : Hp} {Q : VK} (hsub : ∀ j, j ∉ vs → tgHas t j = false) (q : tV K (fLc it t c e vs) σ H Q) : tLc (tVI K it) (gOf K t) (tVT K c) (tV K e) vs σ H Q := by
  obtain ⟨S, ρ, r, ρ', E, he, k⟩ := q
  obtain ⟨p, e1, e2⟩ := bind_some he
  split at e2
  · rename_i hno
    obtain ⟨fin, e3, e4⟩ := map_some e2
    cases e4
    refine ⟨S, ρ, p.1, p.2, E, e1, fun S1 H1 J E1 G1 W1 => ?_⟩
    intro D hD
    have hSD : S1 D = none := none_of E1.ex hD
    have Ew : Env K S1 (wipe σ vs) H1 (wipeR p.2 vs) := E1.wiped rfl
    have nD : ∀ {σ ρ}, Env K S1 σ H1 ρ → ¬ Owns σ ρ D := fun E h => (E.there h).1 hD
    refine ⟨fun i m Hi => m = p.1.length - i ∧ i ≤ p.1.length ∧ ∃ Si ρi acc vacc, Env K Si (wipe σ vs) Hi ρi ∧ Go (wipe σ vs) (wipeR p.2 vs) S1 H1 (wipe σ vs) ρi Si Hi ∧ Hi D = some (.lst vacc) ∧ Si D = none ∧ ¬ Owns (wipe σ vs) ρi D ∧ Reps K Si vacc acc ∧
        (∀ j, j ∈ vs → ∀ s, ρi[j]? = some s → s = .no) ∧ lcL t c e vs (p.1.drop i) acc ρi = some fin, ⟨_, rfl, Nat.zero_le _, S1, wipeR p.2 vs, [], [], Ew.mut hSD (nD Ew), Go.refl.mut (.inr hD), upd_same, hSD, nD Ew, .nil, fun j hj s h => wipeR_in hj h, e3⟩, ?_⟩
    rintro i m Hi ⟨rfl, hi, Si, ρi, acc, vacc, Ei, Gi, hDi, hSi, hni, hacc, hnoi, ei⟩
    by_cases hlt : i < p.1.length
    · refine .inr ⟨W1.goes Si Hi i Gi.st Ei.ex hlt, ?_⟩
      rw [List.drop_eq_getElem_cons hlt, lcL] at ei
      obtain ⟨ρ1, f1, f2⟩ := bind_some ei
      obtain ⟨p2, f3, f4⟩ := bind_some f2
      refine ⟨fun H' => ∃ Sj ρj acc vacc, Env K Sj (wipe σ vs) H' ρj ∧ Go (wipe σ vs) (wipeR p.2 vs) S1 H1 (wipe σ vs) ρj Sj H' ∧ H' D = some (.lst vacc) ∧ Sj D = none ∧ ¬ Owns (wipe σ vs) ρj D ∧ Reps K Sj vacc acc ∧
        (∀ j, j ∈ vs → ∀ s, ρj[j]? = some s → s = .no) ∧ lcL t c e vs (p.1.drop (i + 1)) acc ρj = some fin, fun H' h => ⟨p.1.length - (i + 1), by omega, rfl, hlt, h⟩, fun x H' hy => ?_⟩
      obtain ⟨S', d, hd, hr, ss, hh, sh, hn⟩ := W1.gives Si Hi i x H' Gi.st Ei.ex hlt hy
      rw [List.getElem?_eq_getElem hlt] at hd
      cases hd
      have E' : Env K S' (wipe σ vs) H' ρi := ⟨sh, Ei.len, fun j d e => let ⟨v, a, r⟩ := Ei.val j d e; ⟨v, a, r.mono ss⟩, fun j p d e => let ⟨b, a, o⟩ := Ei.own j p d e; ⟨b, a, o.keep ss (hn b o.1 o.there) (hh b)⟩, Ei.inj⟩
      have G' : Go (wipe σ vs) ρi Si Hi (wipe σ vs) ρi S' H' := ⟨ss, fun a o e _ => hh a o e, fun a h => by
        cases q : Hi a with
        | none => exact absurd q h
        | some o => rw [hh a o q]; simp, fun a e h _ => hn a e h, fun _ q => .inl q, fun _ d e => ⟨⟨d, e⟩, rfl⟩, rfl⟩
      have hDi0 : Hi D ≠ none := by rw [hDi]; simp
      refine gOf_ok t f1 E' G' hr fun σ2 E2 G2 hσ2 => ?_
      have hl2 : σ2.length = σ.length := by rw [G2.len, wipe_len]
      have hw2 : wipe σ2 vs = wipe σ vs := wipe_eq (fun j hj => hσ2 j (hsub j hj)) hl2
      have h02 : ∀ j, j ∉ vs → σ[j]? = σ2[j]? := fun j hj => by rw [hσ2 j (hsub j hj), wipe_out hj]
      refine ⟨hw2, S', ρ1, ?_⟩
      split at f4
      · rename_i h1
        refine ⟨true, p2.2, E2, by rw [f3, ← h1], fun S3 H3 c3 => ?_⟩
        refine iteT ?_
        obtain ⟨q, g1, g2⟩ := bind_some f4
        obtain ⟨z, g3, g4⟩ := bind_some g2
        split at g4
        · rename_i hcap
          refine ⟨S3, p2.2, q.1, q.2, c3.env, g1, fun y S4 H4 c4 => ?_⟩
          have G4 := (G2.trans c3.go).trans c4.go
          have c5 : Cur K (wipe σ vs) ρi Si Hi [] [] ρi Si Hi := .init Ei
          -- take the element, seen from the turn's start
          obtain ⟨S5, s45, r5, c6⟩ := Cur.take c4 g3
          have G6 := (G2.trans c3.go).trans c6.go
          have hD6 : H4 D = some (.lst vacc) := G6.keep D _ hDi hni
          have hS6 : S5 D = none := G6.new D hSi hDi0 hni
          have hn6 : ¬ Owns σ2 z.2 D := fun h => (G6.own D h).elim hni hDi0
          refine ⟨vacc, hD6, by rw [hacc.length]; exact cap_lt hcap, S5, wipeR z.2 vs, acc ++ [z.1], vacc ++ [y], ?_, ?_, upd_same, hS6, fun h => hn6 ?_, .append (hacc.mono G6.st) (.one r5), fun j hj s h => wipeR_in hj h, g4⟩
          · exact (c6.env.wiped hw2).mut hS6 fun h => hn6 (owns_wiped (by rw [hw2]; exact h))
          · exact ((Gi.trans G6).wiped hw2 (by rw [hl2]) h02).mut (.inr hD)
          · exact owns_wiped (by rw [hw2]; exact h)
        · cases g4
      · rename_i h1
        refine ⟨false, p2.2, E2, by rw [f3, ← h1], fun S3 H3 c3 => ?_⟩
        refine iteF ?_
        have G6 := G2.trans c3.go
        have hn6 : ¬ Owns σ2 p2.2 D := fun h => (G6.own D h).elim hni hDi0
        refine ⟨S3, wipeR p2.2 vs, acc, vacc, c3.env.wiped hw2, (Gi.trans G6).wiped hw2 (by rw [hl2]) h02, G6.keep D _ hDi hni, G6.new D hSi hDi0 hni, fun h => hn6 (owns_wiped (by rw [hw2]; exact h)), hacc.mono G6.st, fun j hj s h => wipeR_in hj h, f4⟩
      · cases f4
    · have e0 : i = p.1.length := by omega
      subst e0
      rw [List.drop_length, lcL] at ei
      cases ei
      refine .inl ⟨W1.stops Si Hi Gi.st Ei.ex, ?_⟩
      have back_own : ∀ a, Owns σ (unwipe p.2 ρi vs) a → Owns (wipe σ vs) ρi a := by
        rintro a ⟨j, q, d, h1, h2⟩
        by_cases hj : j ∈ vs
        · have hs := unwipe_in hj h1
          have hno' : (match p.2[j]? with | some (.own _ _) => false | _ => true) = true := List.all_eq_true.mp hno j hj
          rw [List.getD_eq_getElem?_getD] at hs
          cases hq : p.2[j]? with
          | none => rw [hq] at hs; cases hs
          | some s => rw [hq] at hs hno'; simp at hs; subst hs; cases hno'
        · rw [unwipe_out hj] at h1
          exact ⟨j, q, d, h1, by rw [wipe_out hj]; exact h2⟩
      have Gf : Go σ p.2 S1 H1 σ (unwipe p.2 ρi vs) Si Hi := by
        refine ⟨Gi.st, fun a o e n => Gi.keep a o e fun h => n (owns_wiped h), Gi.dom, fun a e h n => Gi.new a e h fun h => n (owns_wiped h), fun a h => (Gi.own a (back_own a h)).elim (fun h => .inl (owns_wiped h)) .inr, fun j d h => ?_, rfl⟩
        refine ⟨?_, rfl⟩
        by_cases hj : j ∈ vs
        · have hs := unwipe_in hj h
          rw [List.getD_eq_getElem?_getD] at hs
          cases hq : p.2[j]? with
          | none => rw [hq] at hs; cases hs
          | some s => rw [hq] at hs; simp at hs; subst hs; exact ⟨d, rfl⟩
        · rw [unwipe_out hj] at h
          obtain ⟨⟨d0, h0⟩, _⟩ := Gi.pin j d h
          rw [wipeR_out hj] at h0
          exact ⟨d0, h0⟩
      have Ef : Env K Si σ Hi (unwipe p.2 ρi vs) := by
        refine ⟨Ei.ex, by rw [unwipe_len, Ei.len, wipe_len], fun j d h => ?_, fun j q d h => ?_, fun j l q1 q2 d1 d2 a h1 h2 h3 h4 => ?_⟩
        · by_cases hj : j ∈ vs
          · have hs := unwipe_in hj h
            rw [List.getD_eq_getElem?_getD] at hs
            cases hq : p.2[j]? with
            | none => rw [hq] at hs; cases hs
            | some s =>
              rw [hq] at hs; simp at hs; subst hs
              obtain ⟨v, w1, w2⟩ := E1.val j d hq
              exact ⟨v, w1, w2.mono Gi.st⟩
          · rw [unwipe_out hj] at h
            obtain ⟨v, w1, w2⟩ := Ei.val j d h
            rw [wipe_out hj] at w1
            exact ⟨v, w1, w2⟩
        · by_cases hj : j ∈ vs
          · have hs := unwipe_in hj h
            have hno' : (match p.2[j]? with | some (.own _ _) => false | _ => true) = true := List.all_eq_true.mp hno j hj
            rw [List.getD_eq_getElem?_getD] at hs
            cases hq : p.2[j]? with
            | none => rw [hq] at hs; cases hs
            | some s => rw [hq] at hs hno'; simp at hs; subst hs; cases hno'
          · rw [unwipe_out hj] at h
            obtain ⟨v, w1, w2⟩ := Ei.own j q d h
            rw [wipe_out hj] at w1
            exact ⟨v, w1, w2⟩
        · have inn : ∀ j q d, (unwipe p.2 ρi vs)[j]? = some (Sl.own q d) → j ∉ vs := fun j q d h hj => by
            have hs := unwipe_in hj h
            have hno' : (match p.2[j]? with | some (.own _ _) => false | _ => true) = true := List.all_eq_true.mp hno j hj
            rw [List.getD_eq_getElem?_getD] at hs
            cases hq : p.2[j]? with
            | none => rw [hq] at hs; cases hs
            | some s => rw [hq] at hs hno'; simp at hs; subst hs; cases hno'
          have hj := inn j q1 d1 h1
          have hk := inn l q2 d2 h2
          rw [unwipe_out hj] at h1; rw [unwipe_out hk] at h2
          exact Ei.inj j l _ _ _ _ a h1 h2 (by rw [wipe_out hj]; exact h3) (by rw [wipe_out hk]; exact h4)
      have hDH : H D = none := hnone G1 hD
      refine k _ Si Hi ⟨Ef, G1.trans Gf, .cons ⟨D, rfl, ⟨hSi, vacc, hDi, hacc⟩, fun h => hni (back_own D h)⟩ (fun _ _ _ _ _ h => nomatch h) .nil, fun a d hm => ?_⟩
      simp at hm
      rw [hm.1]; exact .inr hDH
  · cases e2
abbrev VTs (X : Cx) (ifs : List Expr) (f : Ev) : Prop := PTs X ifs (tVT X.K f)
theorem vts_nil {X : Cx} : VTs X [] (fC (.bl true)) := ⟨fun pins s σ H Q I q => pts_nil.run pins s σ H Q I (by
  obtain ⟨S, ρ, b, ρ', E, e, k⟩ := q
  cases e
  exact k S H (.init E))⟩
theorem vts_one {X : Cx} {c : Expr} {f : Ev} (h : VT X c f) : VTs X [c] f := pts_one h
section
variable {X : Cx} {elt tg iter : Expr} {ifs : List Expr} {scope : Scope} {own : List (Str × Nat)} {pos : Pos} {it : Iv} {t : Tg} {c e : Ev}
theorem ve_lc (hc : X.calm = true) (hN : X.N.Nodup) (hi : VI X tg iter it) (ok : BlkOk X.N X.env.scope scope own)
    (hg : ∀ (s : Shared) (H : Hp) (C : Addr) (cl : List (Str × Addr)) (fp : List Addr), VG (X.blk s H scope (compEnvC scope cl C X.env) fp) tg t)
    (ht : ∀ (s : Shared) (H : Hp) (C : Addr) (cl : List (Str × Addr)) (fp : List Addr), VTs (X.blk s H scope (compEnvC scope cl C X.env) fp) ifs c)
    (he : ∀ (s : Shared) (H : Hp) (C : Addr) (cl : List (Str × Addr)) (fp : List Addr), VE (X.blk s H scope (compEnvC scope cl C X.env) fp) elt e) (hsub : ∀ j, j ∉ own.map (·.2) → tgHas t j = false) (hs : ∀ x, foldedSetIterable iter X.env x = pure x := by intro _; rfl) :
    VE X (.ListComp elt [⟨tg, iter, ifs, 0⟩] scope pos) (fLc it t c e (own.map (·.2))) := (pe_lc hc hN hi ok hg ht he hs).imp fun _ _ _ q => sem_lc hsub q
theorem vs_setLc {i : Nat} {y : Str} {py spos : Pos} (hc : X.calm = true) (hN : X.N.Nodup) (hy : X.N[i]? = some y) (hyl : X.env.scope.names.lookup y = some .local)
    (hsw : swapsWith (.ListComp elt [⟨tg, iter, ifs, 0⟩] scope pos) (some (.Name y py)) spos.line X.env = pure true) (hi : VI X tg iter it) (ok : BlkOk X.N X.env.scope scope own)
    (hg : ∀ (s : Shared) (H : Hp) (C : Addr) (cl : List (Str × Addr)) (fp : List Addr), VG (X.blk s H scope (compEnvC scope cl C X.env) fp) tg t)
    (ht : ∀ (s : Shared) (H : Hp) (C : Addr) (cl : List (Str × Addr)) (fp : List Addr), VTs (X.blk s H scope (compEnvC scope cl C X.env) fp) ifs c)
    (he : ∀ (s : Shared) (H : Hp) (C : Addr) (cl : List (Str × Addr)) (fp : List Addr), VE (X.blk s H scope (compEnvC scope cl C X.env) fp) elt e) (hsub : ∀ j, j ∉ own.map (·.2) → tgHas t j = false) (hs : ∀ x, foldedSetIterable iter X.env x = pure x := by intro _; rfl) :
    VS X (.Assign [.Name y py] (.ListComp elt [⟨tg, iter, ifs, 0⟩] scope pos) spos) (sAsg i (fLc it t c e (own.map (·.2)))) :=
  (ps_setLc hc hN hy hyl hsw hi ok hg ht he hs).imp fun D σ H q => by
    have h := fin_asg q
    exact sem_lc hsub h
end

/-! ### a def -/
def pinS : Sl → Sl
  | .own _ d => .own true d
  | s => s
def outA : Sl → Sl → Sl
  | .own p _, .own true d => .own p d
  | .own _ _, _ => .no
  | s, _ => s
def outs (args ρ' : List Sl) : List Sl := List.zipWith outA args ρ'
def defF (m : Nat) (g : Stm) : Fn := fun args => (g (args.map pinS ++ List.replicate m .no)).bind fun p => match p.1 with
  | .rt r => some (r, outs args p.2)
  | .nx => some (.val .non, outs args p.2)
  | _ => none
end FL
namespace FL
open PySem L2

/-! ### a def keeps its promise -/
theorem outs_get {args ρ' : List Sl} {j : Nat} {s : Sl} (h : (outs args ρ')[j]? = some s) : ∃ a b, args[j]? = some a ∧ ρ'[j]? = some b ∧ s = outA a b := by
  unfold outs at h
  rw [List.getElem?_zipWith] at h
  cases h1 : args[j]? with
  | none => rw [h1] at h; simp at h
  | some a =>
    cases h2 : ρ'[j]? with
    | none => rw [h1, h2] at h; simp at h
    | some b => rw [h1, h2] at h; simp at h; exact ⟨a, b, rfl, rfl, h.symm⟩
theorem start_get {N : List Str} {vs : List V} {j : Nat} (h : j < vs.length) : (L2.start N vs)[j]? = (vs.map some)[j]? := by
  unfold L2.start
  rw [List.getElem?_append_left (by simpa using h)]
theorem fn_ok {P : Program} {w : World} {K : PySem.W.Frag} {mg : Str → Option Value} {base : Heap} {x qual : Str} {st : Stmt} {f : Addr} {fd : FuncData} {N ps : List Str} {k : Nat}
    (F : Fun K x qual st f fd) (Sc : FnScope N ps (defScope st)) (g : Stm)
    (hb : ∀ (cdv : Value) (A : Around) (outer : List PySem.Env) (s : Shared) (H : Hp) (E : XK), Room k (A.deeper (PyProof.Rows.envOfC qual (defScope st) s.heap.objs.size f cdv)) → VSs (cxOf CX0 P w K mg base N qual (defScope st) f cdv A outer s H E).nox (defBody st) g) :
    FnOk P w K mg base CX0 (k + 1) f fd ps (spV K ps.length (defF (N.length - ps.length) g)) := by
  refine F.ok Sc (fun vs H Q E h => h.1) (fun cdv A outer s H vs Q E hr h => ?_)
  refine ⟨_, hb cdv A outer s H E hr, ?_⟩
  obtain ⟨hl, S, args, r, args', En, e, k⟩ := h
  obtain ⟨p, e1, e2⟩ := bind_some e
  have hla : args.length = vs.length := by rw [En.len, List.length_map]
  have hpl : ps.length ≤ N.length := by
    have := Sc.pre
    rw [← this]; exact List.length_take_le' _ _
  have hlen : (args.map pinS ++ List.replicate (N.length - ps.length) Sl.no).length = (L2.start N vs).length := by
    unfold L2.start
    simp [hla, hl]
  -- the slots at the beginning
  have key : ∀ (j : Nat) (s : Sl), (args.map pinS ++ List.replicate (N.length - ps.length) Sl.no)[j]? = some s → s = .no ∨ (∃ a, args[j]? = some a ∧ s = pinS a ∧ (L2.start N vs)[j]? = (vs.map some)[j]?) := by
    intro j s h
    by_cases hj : j < args.length
    · rw [List.getElem?_append_left (by simpa using hj), List.getElem?_map] at h
      cases h1 : args[j]? with
      | none => rw [h1] at h; simp at h
      | some a => rw [h1] at h; simp at h; exact .inr ⟨a, rfl, h.symm, start_get (by rw [← hla]; exact hj)⟩
    · rw [List.getElem?_append_right (by simpa using hj)] at h
      exact .inl (List.eq_of_mem_replicate (List.mem_of_getElem? h))
  have E0 : Env K S (L2.start N vs) H (args.map pinS ++ List.replicate (N.length - ps.length) Sl.no) := by
    refine ⟨En.ex, hlen, fun j d h => ?_, fun j q d h => ?_, fun j l q1 q2 d1 d2 a h1 h2 h3 h4 => ?_⟩
    · rcases key j _ h with z | ⟨a, h1, h2, h3⟩
      · cases z
      · cases a with
        | no => cases h2
        | own _ _ => cases h2
        | val d' => cases h2; rw [h3]; exact En.val j d h1
    · rcases key j _ h with z | ⟨a, h1, h2, h3⟩
      · cases z
      · cases a with
        | no => cases h2
        | val _ => cases h2
        | own q' d' => cases h2; rw [h3]; exact En.own j q' d h1
    · rcases key j _ h1 with z | ⟨a1, g1, g2, g3⟩
      · cases z
      · rcases key l _ h2 with z | ⟨a2, f1, f2, f3⟩
        · cases z
        · cases a1 with
          | no => cases g2
          | val _ => cases g2
          | own q' d' =>
            cases a2 with
            | no => cases f2
            | val _ => cases f2
            | own q'' d'' => exact En.inj j l _ _ _ _ a g1 f1 (by rw [← g3]; exact h3) (by rw [← f3]; exact h4)
  have owns0 : ∀ a, Owns (L2.start N vs) (args.map pinS ++ List.replicate (N.length - ps.length) Sl.no) a → Owns (vs.map some) args a := by
    rintro a ⟨j, q, d, h1, h2⟩
    rcases key j _ h1 with z | ⟨a1, g1, g2, g3⟩
    · cases z
    · cases a1 with
      | no => cases g2
      | val _ => cases g2
      | own q' d' => cases g2; exact ⟨j, q', d, g1, by rw [← g3]; exact h2⟩
  -- behind the body
  have fin : ∀ (v : V) (r : R) (S' : Hp) (σ' : L2.St) (H' : Hp), Env K S' σ' H' p.2 → Go (L2.start N vs) (args.map pinS ++ List.replicate (N.length - ps.length) Sl.no) S H σ' p.2 S' H' → RepR K S' H' σ' p.2 v r → (∀ i, r ≠ .al i) →
      (∀ a d, v = .ref a → r = .own d → Owns (L2.start N vs) (args.map pinS ++ List.replicate (N.length - ps.length) Sl.no) a ∨ H a = none) → Cur K (vs.map some) args S H [v] [r] (outs args p.2) S' H' := by
    intro v r S' σ' H' E' G' rr nr nw
    have kout : ∀ (j : Nat) (s : Sl), (outs args p.2)[j]? = some s → (∃ d, s = .val d ∧ args[j]? = some (Sl.val d)) ∨ s = .no ∨ (∃ q d d0, s = .own q d ∧ args[j]? = some (Sl.own q d0) ∧ p.2[j]? = some (Sl.own true d)) := by
      intro j s h
      obtain ⟨a, b, h1, h2, h3⟩ := outs_get h
      cases a with
      | no => exact .inr (.inl h3)
      | val d => exact .inl ⟨d, h3, h1⟩
      | own q d0 =>
        cases b with
        | no => exact .inr (.inl h3)
        | val _ => exact .inr (.inl h3)
        | own t d =>
          cases t with
          | false => exact .inr (.inl h3)
          | true => exact .inr (.inr ⟨q, d, d0, h3, h1, h2⟩)
    have σeq : ∀ (j : Nat) (q : Bool) (d d0 : D), args[j]? = some (Sl.own q d0) → p.2[j]? = some (Sl.own true d) → σ'[j]? = (vs.map some)[j]? := by
      intro j q d d0 h1 h2
      obtain ⟨_, h3⟩ := G'.pin j d h2
      rw [h3]
      exact start_get (by rw [← hla]; exact (List.getElem?_eq_some_iff.mp h1).1)
    have ownsO : ∀ a, Owns (vs.map some) (outs args p.2) a → Owns σ' p.2 a := by
      rintro a ⟨j, q, d, h1, h2⟩
      rcases kout j _ h1 with ⟨d', z, _⟩ | z | ⟨q', d', d0, z, g1, g2⟩
      · cases z
      · cases z
      · cases z; exact ⟨j, true, d, g2, by rw [σeq j q d d0 g1 g2]; exact h2⟩
    have lo : (outs args p.2).length = args.length := by
      unfold outs
      rw [List.length_zipWith, E'.len, G'.len]
      unfold L2.start
      simp [hla]
    refine ⟨⟨E'.ex, by rw [lo, En.len], fun j d h => ?_, fun j q d h => ?_, fun j l q1 q2 d1 d2 a h1 h2 h3 h4 => ?_⟩, ⟨G'.st, fun a o e n => G'.keep a o e fun z => n (owns0 a z), G'.dom, fun a e h n => G'.new a e h fun z => n (owns0 a z), fun a h => (G'.own a (ownsO a h)).elim (fun z => .inl (owns0 a z)) .inr, fun j d h => ?_, rfl⟩, .cons ?_ (fun _ _ _ _ _ h => nomatch h) .nil, fun a d hm => ?_⟩
    · rcases kout j _ h with ⟨d', z, g1⟩ | z | ⟨q', d', d0, z, g1, g2⟩
      · cases z
        obtain ⟨v, w1, w2⟩ := En.val j d g1
        exact ⟨v, w1, w2.mono G'.st⟩
      · cases z
      · cases z
    · rcases kout j _ h with ⟨d', z, g1⟩ | z | ⟨q', d', d0, z, g1, g2⟩
      · cases z
      · cases z
      · cases z
        obtain ⟨a, w1, w2⟩ := E'.own j true d g2
        exact ⟨a, by rw [← σeq j q d d0 g1 g2]; exact w1, w2⟩
    · rcases kout j _ h1 with ⟨d', z, g1⟩ | z | ⟨q', d', d0, z, g1, g2⟩
      · cases z
      · cases z
      · cases z
        rcases kout l _ h2 with ⟨d', z, f1⟩ | z | ⟨q', d', d0', z, f1, f2⟩
        · cases z
        · cases z
        · cases z
          exact E'.inj j l _ _ _ _ a g2 f2 (by rw [σeq j _ _ _ g1 g2]; exact h3) (by rw [σeq l _ _ _ f1 f2]; exact h4)
    · rcases kout j _ h with ⟨d', z, g1⟩ | z | ⟨q', d', d0, z, g1, g2⟩
      · cases z
      · cases z
      · cases z; exact ⟨⟨d0, g1⟩, rfl⟩
    · cases r with
      | val d => exact rr
      | al i => exact absurd rfl (nr i)
      | own d => obtain ⟨a, rfl, o, n⟩ := rr; exact ⟨a, rfl, o, fun z => n (ownsO a z)⟩
    · simp at hm
      exact (nw a d hm.1.symm hm.2.symm).elim (fun z => .inl (owns0 a z)) .inr
  refine ⟨S, _, p.1, p.2, E0, e1, ?_⟩
  cases hp : p.1 with
  | bk => rw [hp] at e2; cases e2
  | ct => rw [hp] at e2; cases e2
  | nx =>
    rw [hp] at e2; cases e2
    exact fun S' σ' H' E' G' => k _ S' H' (fin .non (.val .non) S' σ' H' E' G' .non (fun _ h => by cases h) (fun _ _ h => by cases h))
  | rt r =>
    rw [hp] at e2; cases e2
    exact fun v S' σ' H' E' G' rr nr nw => k _ S' H' (fin v _ S' σ' H' E' G' rr nr nw)

/-! ### data for == -/
mutual
def D.py : D → PyData
  | .non => .none
  | .bl b => .bool b
  | .int i => .int i
  | .str x => .str x
  | .tup xs => .tuple (pys xs)
  | .lst xs => .list (pys xs)
  | .dic _ => .none
  | .scr _ => .none
def pys : List D → List PyData
  | [] => []
  | x :: xs => D.py x :: pys xs
end
def eqD (x y : D) : Bool := PyData.eqv x.py y.py
def eqDs : List D → List D → Bool
  | [], [] => true
  | x :: xs, y :: ys => eqD x y && eqDs xs ys
  | _, _ => false
theorem eqv_all : ∀ xs ys : List D, PyData.eqvAll (pys xs) (pys ys) = eqDs xs ys
  | [], [] => rfl
  | [], _ :: _ => rfl
  | _ :: _, [] => rfl
  | x :: xs, y :: ys => by rw [pys, pys, PyData.eqvAll, eqv_all xs ys]; rfl
theorem eqD_tup (xs ys : List D) : eqD (.tup xs) (.tup ys) = eqDs xs ys := by rw [← eqv_all]; rfl
theorem eqD_lst (xs ys : List D) : eqD (.lst xs) (.lst ys) = eqDs xs ys := by rw [← eqv_all]; rfl
/-- data of at most so many levels, without dicts -/
def lev : Nat → D → Bool
  | _, .non => true
  | _, .bl _ => true
  | _, .int _ => true
  | _, .str x => PyData.strOk x
  | n + 1, .tup xs => xs.all (lev n)
  | n + 1, .lst xs => xs.all (lev n)
  | _, _ => false
theorem lev_ok : ∀ (n : Nat) (d : D), lev n d = true → d.py.canLay0 = true ∧ d.py.depth ≤ n := by
  have all : ∀ n : Nat, (∀ d : D, lev n d = true → d.py.canLay0 = true ∧ d.py.depth ≤ n) → ∀ xs : List D, xs.all (lev n) = true → PyData.canLayAll0 (pys xs) = true ∧ PyData.depthAll (pys xs) ≤ n := by
    intro n ih xs
    induction xs with
    | nil => intro _; exact ⟨rfl, Nat.zero_le _⟩
    | cons x xs ihx =>
      intro h
      rw [List.all_cons, Bool.and_eq_true] at h
      obtain ⟨a1, a2⟩ := ih x h.1
      obtain ⟨b1, b2⟩ := ihx h.2
      rw [pys]
      exact ⟨by rw [PyData.canLayAll0, a1, b1]; rfl, by rw [PyData.depthAll]; omega⟩
  intro n
  induction n with
  | zero =>
    intro d h
    cases d with
    | non => exact ⟨rfl, Nat.zero_le _⟩
    | bl b => exact ⟨rfl, Nat.zero_le _⟩
    | int i => exact ⟨rfl, Nat.zero_le _⟩
    | str x => exact ⟨h, Nat.zero_le _⟩
    | _ => cases h
  | succ n ih =>
    intro d h
    cases d with
    | non => exact ⟨rfl, Nat.zero_le _⟩
    | bl b => exact ⟨rfl, Nat.zero_le _⟩
    | int i => exact ⟨rfl, Nat.zero_le _⟩
    | str x => exact ⟨h, Nat.zero_le _⟩
    | tup xs =>
      obtain ⟨a, b⟩ := all n ih xs (by rw [lev] at h; exact h)
      rw [D.py]
      exact ⟨by rw [PyData.canLay0]; exact a, by rw [PyData.depth]; omega⟩
    | lst xs =>
      obtain ⟨a, b⟩ := all n ih xs (by rw [lev] at h; exact h)
      rw [D.py]
      exact ⟨by rw [PyData.canLay0]; exact a, by rw [PyData.depth]; omega⟩
    | dic _ => cases h
    | scr _ => cases h
theorem shaped_of {d : D} (h : lev 20 d = true) : SeqAt.shaped d.py = true := by
  obtain ⟨a, b⟩ := lev_ok 20 d h
  unfold SeqAt.shaped
  rw [a, decide_eq_true (by omega : d.py.depth ≤ 64)]; rfl
section
variable {K : PySem.W.Frag} {S H : Hp}
theorem rep_dp : ∀ (n : Nat) {d : D} {v : V}, lev n d = true → Rep K S v d → Same S H → Dp K H v d.py := by
  have all : ∀ n : Nat, (∀ {d : D} {v : V}, lev n d = true → Rep K S v d → Same S H → Dp K H v d.py) → Same S H → ∀ {xs : List D} {vs : List V}, xs.all (lev n) = true → Reps K S vs xs → DpAll K H vs (pys xs) := by
    intro n ih ex xs
    induction xs with
    | nil => intro vs _ h; cases h; exact .nil
    | cons x xs ihx =>
      intro vs h r
      rw [List.all_cons, Bool.and_eq_true] at h
      cases r with
      | cons r1 rt => rw [pys]; exact .cons (ih h.1 r1 ex) (ihx h.2 rt)
  intro n
  induction n with
  | zero =>
    intro d v h r ex
    cases r with
    | non => exact .non
    | bl b => exact .bl b
    | int i => exact .int i
    | str x => exact .str x
    | tup _ _ => cases h
    | con _ => cases h
    | lst _ _ => cases h
    | dic _ _ => cases h
    | scr _ => cases h
  | succ n ih =>
    intro d v h r ex
    have r0 := r
    cases r with
    | non => exact .non
    | bl b => exact .bl b
    | int i => exact .int i
    | str x => exact .str x
    | tup e q => rw [D.py]; exact .tup (.inl (.inl (ex _ _ e))) (all n ih ex (by rw [lev] at h; exact h) q)
    | con e =>
      rw [D.py]
      exact .tup (e.elim (fun z => by rcases z with z | ⟨_, z⟩ <;> exact absurd z (by simp)) .inr) (all n ih ex (by rw [lev] at h; exact h) over_reps)
    | lst e q => rw [D.py]; exact .lst (.inl (.inl (ex _ _ e))) (all n ih ex (by rw [lev] at h; exact h) q)
    | dic _ _ => cases h
    | scr _ => cases h
theorem reps_dp {n : Nat} (ex : Same S H) : ∀ {xs : List D} {vs : List V}, xs.all (lev n) = true → Reps K S vs xs → DpAll K H vs (pys xs)
  | [], _, _, r => by cases r; exact .nil
  | x :: xs, _, h, r => by
    rw [List.all_cons, Bool.and_eq_true] at h
    cases r with
    | cons r1 rt => rw [pys]; exact .cons (rep_dp n h.1 r1 ex) (reps_dp ex h.2 rt)
theorem See.dp {v : V} {d : D} (s : See K S H v d) (h : lev 20 d = true) (ex : Same S H) : Dp K H v d.py := by
  cases s with
  | of r => exact rep_dp 20 h r ex
  | lst e r => rw [D.py]; exact .lst (.inl (.inl e)) (reps_dp (n := 19) ex (by rw [lev] at h; exact h) r)
  | dic _ _ => cases h
end
end FL
namespace FL
open PySem L2

section
variable {K : PySem.W.Frag} {X : Cx}
/-! ### operators -/
def oAdd : D → D → Option R
  | .int i, .int j => some (.val (.int (i + j)))
  | .str x, .str y => if x.length + y.length ≤ cap then some (.val (.str (x ++ y))) else none
  | .lst xs, .lst ys => if xs.length + ys.length ≤ cap then some (.own (.lst (xs ++ ys))) else none
  | .tup xs, .tup ys => if xs.length + ys.length ≤ cap then some (.val (.tup (xs ++ ys))) else none
  | _, _ => none
def rAddA (K : PySem.W.Frag) : R2 := fun x y H Q => (∃ i j, x = .int i ∧ y = .int j ∧ Q (.int (i + j)) H) ∨ ((∃ i j, x = .str i ∧ y = .str j ∧ i.length + j.length ≤ sizeLine ∧ Q (.str (i ++ j)) H) ∨ (rCat x y H Q ∨ rCatA K x y H Q))
theorem op_addA : OpR X (binaryOp .Add) (rAddA X.K) := OpR.or op_add (OpR.or op_add_str (OpR.or op_cat op_catA))
theorem s_add : Sound2 K (rAddA K) oAdd := fun S H u v x y res ex su sv e Q k => by
  unfold oAdd at e
  split at e
  · cases e; rw [su.int, sv.int]; exact .inl ⟨_, _, rfl, rfl, k _ _ _ (.flat ex (.int _))⟩
  · split at e
    · rename_i h
      cases e; rw [su.str, sv.str]; exact .inr (.inl ⟨_, _, rfl, rfl, cap_le h, k _ _ _ (.flat ex (.str _))⟩)
    · cases e
  · split at e
    · rename_i h
      cases e
      obtain ⟨a, vs, rfl, h1, h2⟩ := su.lst' ex
      obtain ⟨b, us, rfl, h3, h4⟩ := sv.lst' ex
      exact .inr (.inr (.inl ⟨a, b, vs, us, rfl, rfl, h1, h3, by rw [h2.length, h4.length]; exact cap_le h, fun p hp => k _ _ _ (.lst ex hp (h2.append h4))⟩))
    · cases e
  · split at e
    · rename_i xs ys h
      cases e
      have su' := su; have sv' := sv
      obtain ⟨a, vs, rfl, h1, h2⟩ := su.tup ex
      obtain ⟨b, us, rfl, h3, h4⟩ := sv.tup ex
      refine .inr (.inr (.inr ⟨a, b, vs, us, rfl, rfl, h1, h3, by rw [h2.length, h4.length]; exact cap_le h, fun z => ?_, fun _ z => ?_, fun _ _ p hp => k _ _ _ (.tup ex hp (h2.append h4))⟩))
      · subst z; cases h2
        refine k _ _ _ (.flat ex ?_)
        cases sv' with | of r => exact r
      · subst z; cases h4
        refine k _ _ _ (.flat ex ?_)
        rw [List.append_nil]
        cases su' with | of r => exact r
    · cases e
  · cases e
def oSub : D → D → Option R
  | .int i, .int j => some (.val (.int (i - j)))
  | _, _ => none
theorem s_sub : Sound2 K (rI0 fun i j => .int (i - j)) oSub := fun S H u v x y res ex su sv e Q k => by
  unfold oSub at e
  split at e
  · cases e; rw [su.int, sv.int]; exact ⟨_, _, rfl, rfl, k _ _ _ (.flat ex (.int _))⟩
  · cases e
def big : Int := 18446744073709551616
instance : Decidable (CMul i j) := by unfold CMul; exact inferInstance
def mulOk (i j : Int) : Bool := decide (-big < i ∧ i < big) || decide (-big < j ∧ j < big)
theorem mul_of {i j : Int} (h : mulOk i j = true) : CMul i j := by
  unfold mulOk big at h
  unfold CMul
  simp at h
  exact h
def oMul : D → D → Option R
  | .int i, .int j => if mulOk i j = true then some (.val (.int (i * j))) else none
  | .lst xs, .int k => if 0 ≤ k ∧ k ≤ 1000 ∧ xs.length ≤ 1000 then some (.own (.lst (List.replicate k.toNat xs).flatten)) else none
  | .tup xs, .int k => if 2 ≤ k ∧ k ≤ 1000 ∧ xs.length ≤ 1000 ∧ 0 < xs.length then some (.val (.tup (List.replicate k.toNat xs).flatten)) else none
  | _, _ => none
def rMulA (K : PySem.W.Frag) : R2 := fun x y H Q => rI CMul (fun i j => .int (i * j)) x y H Q ∨ (rRep x y H Q ∨ rRepT K x y H Q)
theorem op_mulA : OpR X (binaryOp .Mult) (rMulA X.K) := OpR.or op_mul (OpR.or op_rep op_repT)
theorem s_mul : Sound2 K (rMulA K) oMul := fun S H u v x y res ex su sv e Q k => by
  unfold oMul at e
  split at e
  · split at e
    · rename_i h
      cases e; rw [su.int, sv.int]; exact .inl ⟨_, _, rfl, rfl, mul_of h, k _ _ _ (.flat ex (.int _))⟩
    · cases e
  · split at e
    · rename_i xs n h
      cases e
      obtain ⟨a, vs, rfl, h1, h2⟩ := su.lst' ex
      rw [sv.int]
      refine .inr (.inl ⟨a, _, vs, rfl, rfl, h1, by omega, by omega, ?_, fun p hp => k _ _ _ (.lst ex hp (h2.flat _))⟩)
      rw [h2.length]
      have : xs.length * n.toNat ≤ 1000 * 1000 := Nat.mul_le_mul h.2.2 (by omega)
      exact Nat.le_trans this (by decide)
    · cases e
  · split at e
    · rename_i xs n h
      cases e
      obtain ⟨a, vs, rfl, h1, h2⟩ := su.tup ex
      rw [sv.int]
      refine .inr (.inr ⟨a, _, vs, rfl, rfl, h1, ?_, h.1, h.2.1, by rw [h2.length]; exact h.2.2.1, fun p hp => k _ _ _ (.tup ex hp (h2.flat _))⟩)
      intro z
      have := h2.length
      rw [z] at this
      simp at this
      omega
    · cases e
  · cases e
def oMod : D → D → Option R
  | .int i, .int j => if 0 < j then some (.val (.int (i % j))) else none
  | _, _ => none
theorem s_mod : Sound2 K (rI (fun _ j => 0 < j) fun i j => .int (i % j)) oMod := fun S H u v x y res ex su sv e Q k => by
  unfold oMod at e
  split at e
  · split at e
    · rename_i h
      cases e; rw [su.int, sv.int]; exact ⟨_, _, rfl, rfl, h, k _ _ _ (.flat ex (.int _))⟩
    · cases e
  · cases e
def oFDiv : D → D → Option R
  | .int i, .int j => if 0 < j ∧ j < big then some (.val (.int (i / j))) else none
  | _, _ => none
theorem s_fdiv : Sound2 K (rI CDivW fun i j => .int (i / j)) oFDiv := fun S H u v x y res ex su sv e Q k => by
  unfold oFDiv at e
  split at e
  · split at e
    · rename_i i j h
      cases e; rw [su.int, sv.int]
      refine ⟨_, _, rfl, rfl, wide_div (b := 64) h.1 ?_ (by decide) (by decide), k _ _ _ (.flat ex (.int _))⟩
      have := h.2
      unfold big at this
      have := h.1
      omega
    · cases e
  · cases e
def oPow : D → D → Option R
  | .int i, .int j => if 0 ≤ j ∧ j ≤ 1000 ∧ -1000000 < i ∧ i < 1000000 then some (.val (.int (i ^ j.toNat))) else none
  | _, _ => none
theorem s_pow : Sound2 K (rI CPow fun i j => .int (i ^ j.toNat)) oPow := fun S H u v x y res ex su sv e Q k => by
  unfold oPow at e
  split at e
  · split at e
    · rename_i h
      cases e; rw [su.int, sv.int]
      exact ⟨_, _, rfl, rfl, ⟨h.1, by omega, by omega⟩, k _ _ _ (.flat ex (.int _))⟩
    · cases e
  · cases e
def oShl : D → D → Option R
  | .int i, .int j => if 0 ≤ j ∧ j ≤ 100000 ∧ i.natAbs < 2 ^ 100000 then some (.val (.int (i * 2 ^ j.toNat))) else none
  | _, _ => none
theorem s_shl : Sound2 K (rI CShl fun i j => .int (i * 2 ^ j.toNat)) oShl := fun S H u v x y res ex su sv e Q k => by
  unfold oShl at e
  split at e
  · split at e
    · rename_i i j h
      cases e; rw [su.int, sv.int]
      have hc := shl_ok (i := i) (j := j.toNat) h.2.2 (by omega)
      rw [Int.toNat_of_nonneg h.1] at hc
      exact ⟨_, _, rfl, rfl, hc, k _ _ _ (.flat ex (.int _))⟩
    · cases e
  · cases e
def oShr : D → D → Option R
  | .int i, .int j => if 0 ≤ j then some (.val (.int (i / 2 ^ j.toNat))) else none
  | _, _ => none
theorem s_shr : Sound2 K (rI (fun _ j => 0 ≤ j) fun i j => .int (i / 2 ^ j.toNat)) oShr := fun S H u v x y res ex su sv e Q k => by
  unfold oShr at e
  split at e
  · split at e
    · rename_i h
      cases e; rw [su.int, sv.int]; exact ⟨_, _, rfl, rfl, h, k _ _ _ (.flat ex (.int _))⟩
    · cases e
  · cases e
def oBitAnd : D → D → Option R
  | .int i, .int j => some (.val (.int (Builtin.bitAnd i j)))
  | _, _ => none
theorem s_bitAnd : Sound2 K (rI0 fun i j => .int (Builtin.bitAnd i j)) oBitAnd := fun S H u v x y res ex su sv e Q k => by
  unfold oBitAnd at e
  split at e
  · cases e; rw [su.int, sv.int]; exact ⟨_, _, rfl, rfl, k _ _ _ (.flat ex (.int _))⟩
  · cases e
def oBitOr : D → D → Option R
  | .int i, .int j => some (.val (.int (Builtin.bitOr i j)))
  | _, _ => none
theorem s_bitOr : Sound2 K (rI0 fun i j => .int (Builtin.bitOr i j)) oBitOr := fun S H u v x y res ex su sv e Q k => by
  unfold oBitOr at e
  split at e
  · cases e; rw [su.int, sv.int]; exact ⟨_, _, rfl, rfl, k _ _ _ (.flat ex (.int _))⟩
  · cases e
def oNeg : D → Option R
  | .int i => some (.val (.int (-i)))
  | _ => none
theorem s_neg : Sound1 K (rU fun i => .int (-i)) oNeg := fun S H u x res ex su e Q k => by
  unfold oNeg at e
  split at e
  · cases e; rw [su.int]; exact ⟨_, rfl, k _ _ _ (.flat ex (.int _))⟩
  · cases e
/-! ### comparisons -/
def bI (p : Int → Int → Bool) : D → D → Option Bool
  | .int i, .int j => some (p i j)
  | _, _ => none
def oB (o : D → D → Option Bool) : D → D → Option R := fun x y => (o x y).map fun b => .val (.bl b)
theorem sb_int {p : Int → Int → Bool} : SoundB K (rI0 fun i j => .bl (p i j)) (bI p) := fun S H u v x y b ex su sv e Q k => by
  unfold bI at e
  split at e
  · cases e; rw [su.int, sv.int]; exact ⟨_, _, rfl, rfl, k⟩
  · cases e
theorem s_ofB {r : R2} {o : D → D → Option Bool} (s : SoundB K r o) : Sound2 K r (oB o) := fun S H u v x y res ex su sv e Q k => by
  obtain ⟨b, e1, rfl⟩ := map_some e
  exact s S H u v x y b ex su sv e1 Q (k _ _ _ (.flat ex (.bl b)))
abbrev bLt := bI fun i j => decide (i < j)
abbrev bLe := bI fun i j => decide (i ≤ j)
abbrev bGt := bI fun i j => decide (j < i)
abbrev bGe := bI fun i j => decide (j ≤ i)
def bEq (x y : D) : Option Bool := if (lev 20 x && lev 20 y) = true then some (eqD x y) else none
def bNe (x y : D) : Option Bool := if (lev 20 x && lev 20 y) = true then some (!eqD x y) else none
theorem sb_eq : SoundB K (rEqD K) bEq := fun S H u v x y b ex su sv e Q k => by
  unfold bEq at e
  split at e
  · rename_i h
    rw [Bool.and_eq_true] at h
    cases e
    exact ⟨_, _, su.dp h.1 ex, sv.dp h.2 ex, shaped_of h.1, shaped_of h.2, k⟩
  · cases e
theorem sb_ne : SoundB K (rNeD K) bNe := fun S H u v x y b ex su sv e Q k => by
  unfold bNe at e
  split at e
  · rename_i h
    rw [Bool.and_eq_true] at h
    cases e
    exact ⟨_, _, su.dp h.1 ex, sv.dp h.2 ex, shaped_of h.1, shaped_of h.2, k⟩
  · cases e
def isNon : D → Bool
  | .non => true
  | _ => false
def bIs : D → D → Option Bool
  | x, .non => some (isNon x)
  | .bl a, .bl b => some (decide (a = b))
  | _, _ => none
def bIsNot : D → D → Option Bool
  | x, .non => some (!isNon x)
  | .bl a, .bl b => some (!decide (a = b))
  | _, _ => none
theorem See.isNon {S H : Hp} {v : V} {x : D} (s : See K S H v x) : decide (v = .non) = isNon x := by
  cases s with
  | of r => cases r <;> rfl
  | lst _ _ => rfl
  | dic _ _ => rfl
def rIsA : R2 := fun x y H Q => (y = .non ∧ Q (.bl (decide (x = .non))) H) ∨ rIsB x y H Q
def rIsNotA : R2 := fun x y H Q => (y = .non ∧ Q (.bl (!decide (x = .non))) H) ∨ rNotB x y H Q
theorem op_isA : OpR X (compareOp .Is) rIsA := OpR.or op_isN op_isBl
theorem op_isNotA : OpR X (compareOp .IsNot) rIsNotA := OpR.or op_notN op_notBl
theorem sb_is : SoundB K rIsA bIs := fun S H u v x y b ex su sv e Q k => by
  unfold bIs at e
  split at e
  · cases e; refine .inl ⟨sv.non, ?_⟩; rw [su.isNon]; exact k
  · cases e; rw [su.bl, sv.bl]; exact .inr ⟨_, _, rfl, rfl, k⟩
  · cases e
theorem sb_isNot : SoundB K rIsNotA bIsNot := fun S H u v x y b ex su sv e Q k => by
  unfold bIsNot at e
  split at e
  · cases e; refine .inl ⟨sv.non, ?_⟩; rw [su.isNon]; exact k
  · cases e; rw [su.bl, sv.bl]; exact .inr ⟨_, _, rfl, rfl, k⟩
  · cases e
/-! ### in -/
def flatD : D → Bool
  | .non => true | .bl _ => true | .int _ => true | .str _ => true
  | _ => false
theorem Rep.flatV {S : Hp} {v : V} {d : D} (r : Rep K S v d) (h : flatD d = true) : L2.flatV v = true := by cases r <;> first | rfl | cases h
theorem Reps.flatVs {S : Hp} : ∀ {vs : List V} {ds : List D}, Reps K S vs ds → ds.all flatD = true → vs.all L2.flatV = true
  | _, _, .nil, _ => rfl
  | _, _, .cons r t, h => by
    rw [List.all_cons, Bool.and_eq_true] at h
    rw [List.all_cons, r.flatV h.1, Reps.flatVs t h.2]; rfl
theorem eqV_eqD {S : Hp} {v u : V} {x y : D} (r : Rep K S v x) (q : Rep K S u y) (h : flatD x = true) (h' : flatD y = true) : eqV v u = eqD x y := by
  cases r <;> first | cases h | skip
  all_goals (cases q <;> first | rfl | (simp [eqV, eqD, D.py, PyData.eqv]; done) | cases h')
theorem inV_any {S : Hp} {v : V} {x : D} (r : Rep K S v x) (h : flatD x = true) : ∀ {vs : List V} {ds : List D}, Reps K S vs ds → ds.all flatD = true → inV v vs = ds.any fun y => eqD y x
  | _, _, .nil, _ => rfl
  | _, _, .cons q t, h' => by
    rw [List.all_cons, Bool.and_eq_true] at h'
    have := inV_any r h t h'.2
    unfold inV at this ⊢
    rw [List.any_cons, List.any_cons, this, eqV_eqD q r h'.1 h]
theorem any_pys {d : PyData} : ∀ ds : List D, (pys ds).any (fun z => PyData.eqv z d) = ds.any fun y => PyData.eqv y.py d
  | [] => rfl
  | x :: xs => by rw [pys, List.any_cons, List.any_cons, any_pys xs]
def bIn : D → D → Option Bool
  | x, .lst ys => if (lev 20 x && ys.all (lev 19)) = true then some (ys.any fun y => eqD y x) else none
  | x, .tup ys => if (flatD x && ys.all flatD) = true then some (ys.any fun y => eqD y x) else none
  | .str x, .str y => some (!(Builtin.Str.occurrences y x 0 y.length 1).isEmpty)
  | _, _ => none
def bNotIn (x y : D) : Option Bool := (bIn x y).map (!·)
def rInA (K : PySem.W.Frag) : R2 := fun x y H Q => rInD K x y H Q ∨ (rIn K false x y H Q ∨ ∃ i j, x = .str i ∧ y = .str j ∧ Q (.bl (!(Builtin.Str.occurrences j i 0 j.length 1).isEmpty)) H)
def rNotInA (K : PySem.W.Frag) : R2 := fun x y H Q => rNotInD K x y H Q ∨ (rIn K true x y H Q ∨ ∃ i j, x = .str i ∧ y = .str j ∧ Q (.bl (!(!(Builtin.Str.occurrences j i 0 j.length 1).isEmpty))) H)
theorem op_inA (hu : X.A.units + 65 < cLine) : OpR X (compareOp .In) (rInA X.K) := OpR.or (op_inD hu) (OpR.or op_in_seq op_in_str)
theorem op_notInA (hu : X.A.units + 65 < cLine) : OpR X (compareOp .NotIn) (rNotInA X.K) := OpR.or (op_notInD hu) (OpR.or op_notIn_seq op_notin_str)
theorem See.flat {S H : Hp} {v : V} {x : D} (s : See K S H v x) (h : flatD x = true) : Rep K S v x := by
  cases s with
  | of r => exact r
  | lst _ _ => cases h
  | dic _ _ => cases h
theorem sb_in : SoundB K (rInA K) bIn := fun S H u v x y b ex su sv e Q k => by
  unfold bIn at e
  split at e
  · split at e
    · rename_i ys h
      rw [Bool.and_eq_true] at h
      cases e
      refine .inl ⟨x.py, pys ys, su.dp h.1 ex, ?_, shaped_of h.1, ?_, ?_⟩
      · have := sv.dp (d := .lst ys) (by rw [lev]; exact h.2) ex
        rw [D.py] at this; exact this
      · have := shaped_of (d := .lst ys) (by rw [lev]; exact h.2)
        rw [D.py] at this; exact this
      · rw [any_pys]; exact k
    · cases e
  · split at e
    · rename_i ys h
      rw [Bool.and_eq_true] at h
      cases e
      obtain ⟨a, vs, rfl, h1, h2⟩ := sv.tup ex
      have rx := su.flat h.1
      refine .inr (.inl ⟨a, vs, rfl, .inr h1, rx.flatV h.1, h2.flatVs h.2, ?_⟩)
      rw [inV_any rx h.1 h2 h.2]
      exact k
    · cases e
  · cases e
    rw [su.str, sv.str]
    exact .inr (.inr ⟨_, _, rfl, rfl, k⟩)
  · cases e
theorem sb_notIn : SoundB K (rNotInA K) bNotIn := fun S H u v x y b ex su sv e Q k => by
  unfold bNotIn at e
  obtain ⟨c, e2, hc⟩ := map_some e
  subst hc
  clear e
  have e := e2
  clear e2
  unfold bIn at e
  split at e
  · split at e
    · rename_i ys h
      rw [Bool.and_eq_true] at h
      have e' := Option.some.inj e
      subst e'
      refine .inl ⟨x.py, pys ys, su.dp h.1 ex, ?_, shaped_of h.1, ?_, ?_⟩
      · have := sv.dp (d := .lst ys) (by rw [lev]; exact h.2) ex
        rw [D.py] at this; exact this
      · have := shaped_of (d := .lst ys) (by rw [lev]; exact h.2)
        rw [D.py] at this; exact this
      · rw [any_pys]; exact k
    · cases e
  · split at e
    · rename_i ys h
      rw [Bool.and_eq_true] at h
      have e' := Option.some.inj e
      subst e'
      obtain ⟨a, vs, rfl, h1, h2⟩ := sv.tup ex
      have rx := su.flat h.1
      refine .inr (.inl ⟨a, vs, rfl, .inr h1, rx.flatV h.1, h2.flatVs h.2, ?_⟩)
      rw [inV_any rx h.1 h2 h.2]
      exact k
    · cases e
  · have e' := Option.some.inj e
    subst e'
    rw [su.str, sv.str]
    exact .inr (.inr ⟨_, _, rfl, rfl, k⟩)
  · cases e
end
end FL
namespace FL
open PySem L2

/-! ### keys and dicts -/
def keyOf : D → Option Key
  | .int i => some (.inl i)
  | .str x => some (.inr x)
  | _ => none
def keysOf : List D → Option (List Key)
  | [] => some []
  | d :: ds => (keyOf d).bind fun k => (keysOf ds).map fun ks => k :: ks
def toKey (ds : List D) : Option (List Key) := if eqDs ds overD = true then none else keysOf ds
def valD (kvs : List (List Key × D)) (k : List Key) : Option D := (kvs.find? fun kv => decide (kv.1 = k)).map (·.2)
def putD (kvs : List (List Key × D)) (k : List Key) (v : D) : List (List Key × D) :=
  if (kvs.any fun kv => decide (kv.1 = k)) = true then kvs.map (fun kv => if kv.1 = k then (kv.1, v) else kv) else kvs ++ [(k, v)]
section
variable {K : PySem.W.Frag} {S H : Hp}
theorem keysOf_rep : ∀ {ds : List D} {ks : List Key} {vs : List V}, keysOf ds = some ks → Reps K S vs ds → vs = ks.map kV
  | [], _, _, h, r => by cases h; cases r; rfl
  | d :: ds, ks, vs, h, r => by
    rw [keysOf] at h
    obtain ⟨k, h1, h2⟩ := bind_some h
    obtain ⟨ks', h3, rfl⟩ := map_some h2
    cases r with
    | cons r1 rt =>
      rw [List.map_cons, keysOf_rep h3 rt]
      cases r1 <;> first | (cases h1; rfl) | cases h1
theorem over_eq : eqDs overD overD = true := by decide +kernel
theorem toKey_rep {ds : List D} {ks : List Key} {v : V} (h : toKey ds = some ks) (r : Rep K S v (.tup ds)) : ∃ b, v = .ref b ∧ S b = some (.tup (ks.map kV)) := by
  unfold toKey at h
  split at h
  · cases h
  · rename_i ho
    cases r with
    | tup e q => exact ⟨_, rfl, by rw [e, keysOf_rep h q]⟩
    | con e => exact absurd over_eq ho
theorem valD_rep : ∀ {ds : List (List Key × D)} {ks : List (List Key × V)} {k : List Key}, RepK K S ks ds → (∀ d, valD ds k = some d → ∃ v, valV ks k = some v ∧ Rep K S v d) ∧ (valD ds k = none → valV ks k = none)
  | _, _, k, .nil => ⟨fun d h => (by cases h), fun _ => rfl⟩
  | _, _, k, .cons (k := k') (v := v) (d := d) r t => by
    have ih := valD_rep (k := k) t
    unfold valD valV at ih ⊢
    rw [List.find?_cons, List.find?_cons]
    by_cases hk : k' = k
    · rw [decide_eq_true hk]
      exact ⟨fun e h => (by cases h; exact ⟨v, rfl, r⟩), fun h => (by cases h)⟩
    · rw [decide_eq_false hk]
      exact ih
theorem RepK.length : ∀ {ds : List (List Key × D)} {ks : List (List Key × V)}, RepK K S ks ds → ks.length = ds.length
  | _, _, .nil => rfl
  | _, _, .cons _ t => congrArg (· + 1) (RepK.length t)
theorem RepK.anyK : ∀ {ds : List (List Key × D)} {ks : List (List Key × V)} {k : List Key}, RepK K S ks ds → (ks.any fun kv => decide (kv.1 = k)) = (ds.any fun kv => decide (kv.1 = k))
  | _, _, _, .nil => rfl
  | _, _, k, .cons _ t => by rw [List.any_cons, List.any_cons, RepK.anyK (k := k) t]
theorem RepK.mapK {v : V} {d : D} {k : List Key} (q : Rep K S v d) : ∀ {ds : List (List Key × D)} {ks : List (List Key × V)}, RepK K S ks ds → RepK K S (ks.map fun kv => if kv.1 = k then (kv.1, v) else kv) (ds.map fun kv => if kv.1 = k then (kv.1, d) else kv)
  | _, _, .nil => .nil
  | _, _, .cons (k := k') r t => by
    rw [List.map_cons, List.map_cons]
    by_cases hk : k' = k
    · simp only [hk, if_true]; exact .cons q (RepK.mapK q t)
    · simp only [hk, if_false]; exact .cons r (RepK.mapK q t)
theorem RepK.snoc {v : V} {d : D} {k : List Key} (q : Rep K S v d) : ∀ {ds : List (List Key × D)} {ks : List (List Key × V)}, RepK K S ks ds → RepK K S (ks ++ [(k, v)]) (ds ++ [(k, d)])
  | _, _, .nil => .cons q .nil
  | _, _, .cons r t => .cons r (RepK.snoc q t)
theorem RepK.put {v : V} {d : D} {k : List Key} (q : Rep K S v d) {ds : List (List Key × D)} {ks : List (List Key × V)} (r : RepK K S ks ds) : RepK K S (putK ks k v) (putD ds k d) := by
  unfold putK putD
  rw [r.anyK]
  split
  · exact r.mapK q
  · exact r.snoc q

/-! ### subscripts -/
theorem atI_rep {vs : List V} {ds : List D} (r : Reps K S vs ds) {i : Int} {d : D} (h : atI ds i = some d) : ∃ v, atI vs i = some v ∧ Rep K S v d := by
  unfold atI at h ⊢
  rw [r.length]
  obtain ⟨j, h1, h2⟩ := bind_some h
  obtain ⟨v, h3, h4⟩ := r.get h2
  exact ⟨v, by rw [h1]; exact h3, h4⟩
def oIxS : D → D → Option R
  | .lst xs, .int i => (atI xs i).map .val
  | .tup xs, .int i => (atI xs i).map .val
  | .str z, .int i => if z.length ≤ cap then (atI z.cps.toList i).map fun c => .val (.str ⟨#[c]⟩) else none
  | _, _ => none
def oGet (kvs : List (List Key × D)) : D → Option R
  | .tup ks => (toKey ks).bind fun k => (valD kvs k).map .val
  | _ => none
def oIx : D → D → Option R
  | .dic kvs, y => oGet kvs y
  | x, y => oIxS x y
theorem s_ixSeq : Sound2 K (rIx K) oIxS := fun S H u v x y res ex su sv e Q k => by
  unfold oIxS at e
  split at e
  · obtain ⟨d, h1, rfl⟩ := map_some e
    obtain ⟨a, vs, rfl, h2, h3⟩ := su.lst' ex
    obtain ⟨w, h4, h5⟩ := atI_rep h3 h1
    rw [sv.int]
    exact .inl ⟨a, vs, _, w, rfl, rfl, .inl (.inl h2), h4, k _ _ _ (.flat ex h5)⟩
  · obtain ⟨d, h1, rfl⟩ := map_some e
    obtain ⟨a, vs, rfl, h2, h3⟩ := su.tup ex
    obtain ⟨w, h4, h5⟩ := atI_rep h3 h1
    rw [sv.int]
    exact .inr (.inl ⟨a, vs, _, w, rfl, rfl, h2, h4, k _ _ _ (.flat ex h5)⟩)
  · split at e
    · rename_i hz
      obtain ⟨c, h1, rfl⟩ := map_some e
      rw [su.str, sv.int]
      exact .inr (.inr ⟨_, _, c, rfl, rfl, cap_le hz, h1, k _ _ _ (.flat ex (.str _))⟩)
    · cases e
  · cases e
theorem s_get {u v : V} {y : D} {kvs : List (List Key × D)} {res : R} (ex : Same S H) (su : See K S H u (.dic kvs)) (sv : See K S H v y) (e : oGet kvs y = some res) (Q : VK) (k : ∀ w S' H', Fresh K S H w res S' H' → Q w H') :
    ∃ a w, u = .ref a ∧ DGet H a v (some w) ∧ Q w H := by
  unfold oGet at e
  split at e
  · obtain ⟨ky, h1, h2⟩ := bind_some e
    obtain ⟨d, h3, rfl⟩ := map_some h2
    obtain ⟨a, ks, rfl, h4, h5⟩ := su.dic' ex
    obtain ⟨w, h6, h7⟩ := (valD_rep (k := ky) h5).1 d h3
    cases sv with
    | of r =>
      obtain ⟨b, rfl, hb⟩ := toKey_rep h1 r
      exact ⟨a, w, rfl, .inr ⟨ks, ky, b, h4, rfl, ex _ _ hb, h6.symm⟩, k _ _ _ (.flat ex h7)⟩
  · cases e
end
section
variable {X : Cx} {e a b c : Expr} {es rest : List Expr} {f g h : Ev} {fs : List Ev} {pos : Pos}
theorem ve_sub (hu : X.A.units + 1 < cLine) (ha : VE X a f) (hb : VE X b g) (hs : PlainIx b) : VE X (.Subscript a b pos) (fOp2 oIx f g) :=
  (PE.or (pe_ix ix_seq ha hb hs) (pe_dget hu ha hb hs)).imp fun σ H Q q => by
    obtain ⟨S, ρ, r, ρ', E, e, k⟩ := q
    obtain ⟨p, e1, e2⟩ := bind_some e
    obtain ⟨p2, e3, e4⟩ := bind_some e2
    obtain ⟨x, e5, e6⟩ := bind_some e4
    obtain ⟨y, e7, e8⟩ := bind_some e6
    obtain ⟨r, e9, e10⟩ := map_some e8
    cases e10
    have main : oIxS x y = some r → (tOp (rIx X.K) (tV X.K f) (tV X.K g) σ H Q ∨ tDGet (tV X.K f) (tV X.K g) σ H Q) := fun e9 => by
      refine .inl (bin (G := fun u v H2 => rIx X.K u v H2 Q) E e1 e3 fun u v S2 H2 c => ?_)
      cases c.rep with
      | cons hu _ ht =>
        cases ht with
        | cons hv _ _ => exact s_ixSeq S2 H2 u v x y r c.env.ex (hu.see c.env e5) (hv.see c.env e7) e9 Q fun w S3 H3 fr => k w S3 H3 (c.fin fr)
    cases x with
    | dic kvs =>
      refine .inr (bin (G := fun u v H2 => ∃ a w, u = .ref a ∧ DGet H2 a v (some w) ∧ Q w H2) E e1 e3 fun u v S2 H2 c => ?_)
      cases c.rep with
      | cons hu _ ht =>
        cases ht with
        | cons hv _ _ => exact s_get c.env.ex (hu.see c.env e5) (hv.see c.env e7) e9 Q fun w S3 H3 fr => k w S3 H3 (c.fin fr)
    | non => exact main e9
    | bl _ => exact main e9
    | int _ => exact main e9
    | str _ => exact main e9
    | tup _ => exact main e9
    | lst _ => exact main e9
    | scr _ => exact main e9

/-! ### a dict: in, get, store -/
def oInD (neg : Bool) : D → D → Option R
  | .tup ks, .dic kvs => (toKey ks).map fun k => .val (.bl (if neg then !(valD kvs k).isSome else (valD kvs k).isSome))
  | _, _ => none
def fInD (neg : Bool) (f g : Ev) : Ev := fOp2 (oInD neg) f g
theorem sem_inD {K : PySem.W.Frag} {neg : Bool} {σ : L2.St} {H : Hp} {Q : VK} (q : tV K (fInD neg f g) σ H Q) :
    tV K f σ H fun y H1 => tV K g σ H1 fun x H2 => ∃ a o, x = .ref a ∧ DGet H2 a y o ∧ Q (.bl (if neg then !o.isSome else o.isSome)) H2 := by
  obtain ⟨S, ρ, r, ρ', E, e, k⟩ := q
  obtain ⟨p, e1, e2⟩ := bind_some e
  obtain ⟨p2, e3, e4⟩ := bind_some e2
  obtain ⟨x, e5, e6⟩ := bind_some e4
  obtain ⟨y, e7, e8⟩ := bind_some e6
  obtain ⟨r, e9, e10⟩ := map_some e8
  cases e10
  refine bin (G := fun y x H2 => ∃ a o, x = .ref a ∧ DGet H2 a y o ∧ Q (.bl (if neg then !o.isSome else o.isSome)) H2) E e1 e3 fun u v S2 H2 c => ?_
  cases c.rep with
  | cons hu _ ht =>
    cases ht with
    | cons hv _ _ =>
      have su := hu.see c.env e5
      have sv := hv.see c.env e7
      unfold oInD at e9
      split at e9
      · rename_i ks kvs
        obtain ⟨ky, h1, rfl⟩ := map_some e9
        obtain ⟨a, vs, rfl, h4, h5⟩ := sv.dic' c.env.ex
        cases su with
        | of r =>
          obtain ⟨b, rfl, hb⟩ := toKey_rep h1 r
          have hv2 := valD_rep (k := ky) h5
          refine ⟨a, valV vs ky, rfl, .inr ⟨vs, ky, b, h4, rfl, c.env.ex _ _ hb, rfl⟩, ?_⟩
          have : (valV vs ky).isSome = (valD kvs ky).isSome := by
            cases hd : valD kvs ky with
            | none => rw [hv2.2 hd]; rfl
            | some d => obtain ⟨w, hw, _⟩ := hv2.1 d hd; rw [hw]; rfl
          rw [this]
          exact k _ S2 H2 (c.fin (.flat c.env.ex (.bl _)))
      · cases e9
theorem ve_inD (hu : X.A.units + 1 < cLine) (ha : VE X a f) (hb : VE X b g) (h1 : behindInMarks .In b = false := by rfl) : VE X (.Compare a [.In] [b] pos) (fInD false f g) := (pe_cmp (pc_din hu ha hb) h1).imp fun _ _ _ q => sem_inD q
theorem ve_notInD (hu : X.A.units + 1 < cLine) (ha : VE X a f) (hb : VE X b g) (h1 : behindInMarks .NotIn b = false := by rfl) : VE X (.Compare a [.NotIn] [b] pos) (fInD true f g) := (pe_cmp (pc_dnotin hu ha hb) h1).imp fun _ _ _ q => sem_inD q

/-! ### o[i] = e, o a slot -/
def sSub (i : Nat) (fi f : Ev) : Stm := fun ρ => (f ρ).bind fun p => match p.2[i]? with
  | some (.own _ _) => (fi p.2).bind fun q => match q.1 with
    | .val ix => (take q.2 p.1).bind fun z => match z.2[i]? with
      | some (.own pp (.lst xs)) => match ix with
        | .int k => (ixN xs.length k).map fun j => (.nx, z.2.set i (.own pp (.lst (xs.set j z.1))))
        | _ => none
      | some (.own pp (.dic kvs)) => match ix with
        | .tup ks => (toKey ks).bind fun k => if kvs.length < cap then some (.nx, z.2.set i (.own pp (.dic (putD kvs k z.1)))) else none
        | _ => none
      | _ => none
    | _ => none
  | _ => none
end
section
variable {K : PySem.W.Frag} {S S0 H H0 : Hp} {σ σ0 : L2.St} {ρ ρ0 : List Sl} {i : Nat} {pp : Bool} {d d' : D} {a : Addr} {o : HO}
/-- the object of a slot gets a new content -/
theorem Env.putOwn (E : Env K S σ H ρ) (h : ρ[i]? = some (Sl.own pp d)) (hs : σ[i]? = some (some (V.ref a))) (hn : S a = none) (ho : Own K S (upd H a o) a d') : Env K S σ (upd H a o) (ρ.set i (.own pp d')) := by
  have hl : i < ρ.length := (List.getElem?_eq_some_iff.mp h).1
  have key : ∀ (j : Nat) (s : Sl), (ρ.set i (.own pp d'))[j]? = some s → (j = i ∧ s = .own pp d') ∨ (j ≠ i ∧ ρ[j]? = some s) := by
    intro j s hj
    by_cases hji : j = i
    · subst hji; rw [List.getElem?_set_self hl] at hj; exact .inl ⟨rfl, (Option.some.inj hj).symm⟩
    · rw [List.getElem?_set_ne (Ne.symm hji)] at hj; exact .inr ⟨hji, hj⟩
  refine ⟨fun b u e => by rw [upd_ne (ne_of_none e hn)]; exact E.ex b u e, by rw [List.length_set]; exact E.len, fun j e hj => ?_, fun j q e hj => ?_, fun j l q1 q2 e1 e2 b h1 h2 h3 h4 => ?_⟩
  · rcases key j _ hj with ⟨_, z⟩ | ⟨_, z⟩
    · cases z
    · exact E.val j e z
  · rcases key j _ hj with ⟨rfl, z⟩ | ⟨hji, z⟩
    · cases z; exact ⟨a, hs, ho⟩
    · obtain ⟨b, g1, g2⟩ := E.own j q e z
      have hb : b ≠ a := fun q => hji (E.inj j i _ _ _ _ a z h (by rw [← q]; exact g1) hs)
      exact ⟨b, g1, g2.keep (fun _ _ e => e) g2.1 fun u hu => by rw [upd_ne hb]; exact hu⟩
  · rcases key j _ h1 with ⟨rfl, z⟩ | ⟨hji, z⟩
    · rcases key l _ h2 with ⟨rfl, _⟩ | ⟨_, z2⟩
      · rfl
      · exact E.inj j l _ _ _ _ b h z2 h3 h4
    · rcases key l _ h2 with ⟨rfl, _⟩ | ⟨_, z2⟩
      · exact E.inj j l _ _ _ _ b z h h3 h4
      · exact E.inj j l _ _ _ _ b z z2 h3 h4
theorem Go.putOwn (G : Go σ0 ρ0 S0 H0 σ ρ S H) (h : ρ[i]? = some (Sl.own pp d)) (hs : σ[i]? = some (some (V.ref a))) : Go σ0 ρ0 S0 H0 σ (ρ.set i (.own pp d')) S (upd H a o) := by
  have hl : i < ρ.length := (List.getElem?_eq_some_iff.mp h).1
  have hw : Owns σ0 ρ0 a ∨ H0 a = none := G.own a ⟨i, pp, d, h, hs⟩
  have key : ∀ (j : Nat) (q : Bool) (e : D), (ρ.set i (.own pp d'))[j]? = some (Sl.own q e) → ∃ e', ρ[j]? = some (Sl.own q e') := by
    intro j q e hj
    by_cases hji : j = i
    · subst hji; rw [List.getElem?_set_self hl] at hj; cases hj; exact ⟨d, h⟩
    · rw [List.getElem?_set_ne (Ne.symm hji)] at hj; exact ⟨e, hj⟩
  have G2 := G.mut (o := o) hw
  exact ⟨G2.st, G2.keep, G2.dom, G2.new, fun b ⟨j, q, e, h1, h2⟩ => let ⟨e', h3⟩ := key j q e h1; G.own b ⟨j, q, e', h3, h2⟩, fun j e hj => let ⟨e', h3⟩ := key j true e hj; G.pin j e' h3, G2.len⟩
end
section
variable {X : Cx} {e a b c : Expr} {es rest : List Expr} {f g h : Ev} {fs : List Ev} {pos : Pos}
def rSetA : TSet := fun o i v H Q => rSetL o i v H Q ∨ rSetD o i v H Q
theorem set_any (hu : X.A.units + 1 < cLine) : PSet X rSetA := fun pins s σ H o i v ov iv u Q I ro ri rv h => h.elim (set_list pins s σ H o i v ov iv u Q I ro ri rv) (set_dict hu pins s σ H o i v ov iv u Q I ro ri rv)
theorem vs_sub {i : Nat} {o ix : Expr} {tpos : Pos} {fi : Ev} (hu : X.A.units + 1 < cLine) (ho : PE X o (tVar i)) (hi : VE X ix fi) (he : VE X e f)
    (ha : ∀ v, assign (.Subscript o ix tpos) X.env v = (do
      let ov ← holding [v] (eval o X.env)
      let iv ← holding [v, ov] (eval ix X.env)
      standAt tpos
      holding [v, ov, iv] (setItem ov iv v)
      release [v, ov, iv] []) := by intro _; rfl)
    (hs : swapsWithSole [.Subscript o ix tpos] e pos.line X.env = pure false := by rfl) (hw : swappedStores [.Subscript o ix tpos] e X.env = pure none := by rfl)
    (h1 : (assignEach [.Subscript o ix tpos] X.env).map (·.2) = [assign (.Subscript o ix tpos) X.env] := by rfl) : VS X (.Assign [.Subscript o ix tpos] e pos) (sSub i fi f) :=
  (ps_asg he (pg_sub ho hi (set_any hu) ha) hs hw h1).imp fun D σ H q => by
    obtain ⟨S, ρ, oo, ρ', E, e, k⟩ := q
    obtain ⟨p, e1, e2⟩ := bind_some e
    refine ⟨S, ρ, p.1, p.2, E, e1, fun v S1 H1 c1 => ?_⟩
    split at e2
    · rename_i pp0 d0 ho0
      obtain ⟨q, e3, e4⟩ := bind_some e2
      split at e4
      · rename_i ixd hix
        obtain ⟨z, e5, e6⟩ := bind_some e4
        obtain ⟨a0, hσ, ow0⟩ := c1.env.own i _ _ ho0
        refine ⟨_, hσ, S1, p.2, q.1, q.2, c1.env, e3, fun w S2 H2 c2 => ?_⟩
        have c := c1.cons c2
        obtain ⟨S3, s23, r3, c3⟩ := c.take e5
        have rw0 : Rep X.K S3 w ixd := by
          have := c2.rep1
          rw [hix] at this
          exact Rep.mono s23 this
        split at e6
        · rename_i pp xs hz
          split at e6
          · rename_i kk
            obtain ⟨j, e7, e8⟩ := map_some e6
            cases e8
            obtain ⟨a1, g1, ow⟩ := c3.env.own i _ _ hz
            rw [hσ] at g1; cases g1
            obtain ⟨hn, vs, hv, hr⟩ := ow
            cases rw0
            refine .inl ⟨a0, vs, kk, j, rfl, rfl, hv, by rw [hr.length]; exact e7, ?_⟩
            refine k S3 σ _ (c3.env.putOwn hz hσ hn ⟨hn, _, upd_same, hr.set j r3⟩) (c3.go.putOwn hz hσ)
          · cases e6
        · rename_i pp kvs hz
          split at e6
          · rename_i ks
            obtain ⟨ky, e7, e8⟩ := bind_some e6
            split at e8
            · rename_i hcap
              cases e8
              obtain ⟨a1, g1, ow⟩ := c3.env.own i _ _ hz
              rw [hσ] at g1; cases g1
              obtain ⟨hn, vs, hv, hr⟩ := ow
              obtain ⟨b, rfl, hb⟩ := toKey_rep e7 rw0
              refine .inr ⟨a0, _, rfl, .inr ⟨vs, ky, b, hv, rfl, c3.env.ex _ _ hb, by rw [hr.length]; exact cap_lt hcap, rfl⟩, ?_⟩
              exact k S3 σ _ (c3.env.putOwn hz hσ hn ⟨hn, _, upd_same, hr.put r3⟩) (c3.go.putOwn hz hσ)
            · cases e8
          · cases e6
        · cases e6
      · cases e4
    · cases e2

/-! ### methods that change the list of a slot -/
def fMutL (i : Nat) (o : List D → List D → Option (D × List D)) (fs : List Ev) : Ev := fun ρ => match ρ[i]? with
  | some (.own _ (.lst _)) => (evs fs ρ).bind fun p => (takes p.2 p.1).bind fun z => match z.2[i]? with
    | some (.own pp (.lst xs)) => (o xs z.1).map fun t => (.val t.1, z.2.set i (.own pp (.lst t.2)))
    | _ => none
  | _ => none
def SoundM (K : PySem.W.Frag) (r : V → List V → Hp → VK → Prop) (o : List D → List D → Option (D × List D)) : Prop := ∀ S H a vs xs us ds res xs', H a = some (.lst vs) → Reps K S vs xs → Reps K S us ds → o xs ds = some (res, xs') →
  ∀ Q : VK, (∀ v vs', Rep K S v res → Reps K S vs' xs' → Q v (upd H a (.lst vs'))) → r (.ref a) us H Q
theorem sem_mutL {K : PySem.W.Frag} {i : Nat} {r : V → List V → Hp → VK → Prop} {o : List D → List D → Option (D × List D)} (so : SoundM K r o) {σ : L2.St} {H : Hp} {Q : VK} (q : tV K (fMutL i o fs) σ H Q) : tBM K "list" r (tVar i) (tVA K fs) σ H Q := by
  obtain ⟨S, ρ, rr, ρ', E, e, k⟩ := q
  unfold fMutL at e
  split at e
  · rename_i pp0 xs0 h0
    obtain ⟨p, e1, e2⟩ := bind_some e
    obtain ⟨z, e3, e4⟩ := bind_some e2
    obtain ⟨a, hσ, hn0, vs0, hv0, hr0⟩ := E.own i _ _ h0
    refine ⟨_, hσ, .inl ⟨rfl, vs0, .inl (.inl hv0)⟩, S, ρ, p.1, p.2, E, e1, fun us S1 H1 c1 => ?_⟩
    obtain ⟨S2, s12, ru, c2⟩ := c1.takes e3
    split at e4
    · rename_i pp xs hz
      obtain ⟨t, e5, e6⟩ := map_some e4
      cases e6
      obtain ⟨a1, g1, hn, vs, hv, hr⟩ := c2.env.own i _ _ hz
      rw [hσ] at g1; cases g1
      refine so S2 H1 a vs xs us z.1 t.1 t.2 hv hr ru e5 Q fun v vs' rv rvs => k v S2 _ ?_
      have E3 := c2.env.putOwn hz hσ hn (d' := .lst t.2) (o := .lst vs') ⟨hn, vs', upd_same, rvs⟩
      exact ⟨E3, c2.go.putOwn hz hσ, .cons rv (fun _ _ _ _ _ h => nomatch h) .nil, fun b d hm => by simp at hm⟩
    · cases e4
  · cases e
theorem ve_mutL {i : Nat} {name : Str} {apos : Pos} {id : String} {r : V → List V → Hp → VK → Prop} {o : Expr} {oo : List D → List D → Option (D × List D)} (slot : Slot "list" name id) (hty : typeOf (.builtin id) = pure (.type "method_descriptor")) (hm : MtR X id r) (so : SoundM X.K r oo)
    (ho : PE X o (tVar i)) (ha : VA X (e :: es) fs)
    (hbase : attributeBase o name X.env (eval o X.env) = eval o X.env := by rfl)
    (hfew : ((backTo pos (starEach (e :: es) X.env)).all (fun x => !x.1) && (backToKw pos (keywordEach [] X.env)).all (fun x => x.1.isSome)
      && decide ((e :: es).length + ([] : List Keyword).length + (if ([] : List Keyword).isEmpty then 0 else 1) < 30)) = true := by rfl)
    (hline : (apos.endLine == pos.line) = true := by rfl) (hs : starEach (e :: es) X.env = (false, eval e X.env) :: starEach es X.env := by rfl) (hplain : (backTo pos (starEach es X.env)).any (·.1) = false := by rfl) :
    VE X (.Call (.Attribute o name apos) (e :: es) [] pos) (fMutL i oo fs) :=
  (pe_bm PySem.F.plainAttrs_list slot hty hm ho ha hbase hfew hline hs hplain).imp fun _ _ _ q => sem_mutL so q
def oApp (xs : List D) : List D → Option (D × List D)
  | [y] => if xs.length < cap then some (.non, xs ++ [y]) else none
  | _ => none
theorem s_app {K : PySem.W.Frag} : SoundM K rAppend oApp := fun S H a vs xs us ds res xs' hv hr ru e Q k => by
  unfold oApp at e
  split at e
  · split at e
    · rename_i hc
      cases e
      cases ru with
      | cons r1 rt => cases rt; exact ⟨a, vs, _, rfl, rfl, hv, by rw [hr.length]; exact cap_lt hc, k _ _ .non (hr.append (.one r1))⟩
    · cases e
  · cases e
def oIns (xs : List D) : List D → Option (D × List D)
  | [.int i, y] => if xs.length < cap ∧ 0 ≤ i ∧ i < big / 2 then some (.non, xs.take i.toNat ++ [y] ++ xs.drop i.toNat) else none
  | _ => none
theorem s_ins {K : PySem.W.Frag} : SoundM K (fun x vs H Q => ∃ (l : Addr) (xs : List V) (i : Int) (y : V), x = .ref l ∧ vs = [.int i, y] ∧ H l = some (.lst xs) ∧ xs.length < sizeLine ∧ 0 ≤ i ∧ i < 2 ^ 63 ∧ Q .non (upd H l (.lst (xs.take i.toNat ++ [y] ++ xs.drop i.toNat)))) oIns := fun S H a vs xs us ds res xs' hv hr ru e Q k => by
  unfold oIns at e
  split at e
  · split at e
    · rename_i hc
      cases e
      cases ru with
      | cons r1 rt =>
        cases r1
        cases rt with
        | cons r2 rt =>
          cases rt
          refine ⟨a, vs, _, _, rfl, rfl, hv, by rw [hr.length]; exact cap_lt hc.1, hc.2.1, ?_, k _ _ .non ?_⟩
          · have := hc.2.2; unfold big at this; omega
          · exact ((hr.take _).append (.one r2)).append (hr.drop _)
    · cases e
  · cases e
def oPopAt (xs : List D) : List D → Option (D × List D)
  | [.int i] => if 0 ≤ i ∧ i < xs.length ∧ i < big / 2 then (xs[i.toNat]?).map fun y => (y, xs.eraseIdx i.toNat) else none
  | _ => none
theorem Reps.erase {K : PySem.W.Frag} {S : Hp} : ∀ {vs : List V} {ds : List D} (n : Nat), Reps K S vs ds → Reps K S (vs.eraseIdx n) (ds.eraseIdx n)
  | _, _, _, .nil => .nil
  | _, _, 0, .cons _ t => t
  | _, _, n + 1, .cons r t => .cons r (Reps.erase n t)
theorem s_popAt {K : PySem.W.Frag} : SoundM K rPopAt oPopAt := fun S H a vs xs us ds res xs' hv hr ru e Q k => by
  unfold oPopAt at e
  split at e
  · split at e
    · rename_i i hc
      obtain ⟨y, e1, e2⟩ := map_some e
      cases e2
      cases ru with
      | cons r1 rt =>
        cases r1
        cases rt
        obtain ⟨v, hv1, hv2⟩ := hr.get e1
        have hb := hc.2.2
        unfold big at hb
        refine ⟨a, vs, i, i.toNat, v, rfl, rfl, hv, by omega, by omega, ?_, hv1, k _ _ hv2 (hr.erase _)⟩
        rw [seqIndex_of hc.1 (by rw [hr.length]; exact hc.2.1)]
    · cases e
  · cases e
end
end FL
namespace FL
open PySem L2 PySem.Spec PyProof.Rows

/-! ### iterators that give new tuples, over sources that stand -/
def Jt (n : Nat) (SH : Hp → Prop) (ys : Nat → List V) : It :=
  ⟨fun i H => i < n ∧ SH H, fun i H v H' => ∃ T, v = .ref T ∧ H T = none ∧ H' = upd H T (.tup (ys i)), fun i H => i = n ∧ SH H⟩
theorem turn_gn {ι : Type} {P : Program} {w : World} {K : PySem.W.Frag} {tg : Expr} {I : Addr} {wc wr : List Addr} {n : Nat} {It : Nat → Heap → Prop} {Src : ι → Heap → Prop} {SH : Hp → Prop} {ys : Nat → List V} {fp : ι → List Addr} {Y : ι → Nat → Heap → Value → Heap → Prop}
    (hI : I ∈ wc) (hsub : ∀ b ∈ wr, b ∈ wc)
    (obj : ∀ i h, It i h → ∀ b ∈ wc, ∃ o, h.get? b = some o ∧ ∀ v, o.data ≠ .cell v)
    (keep : ∀ i h h', It i h → (∀ b ∈ wc, ∀ o, h.get? b = some o → h'.get? b = some o) → It i h')
    (src : ∀ (X : Cx) (pins : List (Addr × Obj)) (s : Shared) (σ : L2.St) (H : Hp), X.prog = P → X.w = w → X.K = K → Inv X pins σ H s → SH H → ∃ z, Src z s.heap ∧
      (∀ A : Around, A.handled = none → GoesN P w A tg I (fp z) wr n (Y z) (fun i h => It i h ∧ Src z h)) ∧
      (∀ i v h0 h', i < n → Y z i h0 v h' → ∃ T vals, v = .ref T ∧ h0.objs.size ≤ T ∧ h'.IsTuple T vals ∧ Vals (ys i) vals.toList))
    (self : ∀ (A : Around) (i : Nat) (s : Shared) (Q : Value → Shared → Prop) (E : Value → Shared → Prop), It i s.heap → Q (.ref I) s → wpAny (model P w) A (pyIter (.ref I)) Q E s)
    (hl : ∀ i, (ys i).length ≤ sizeLine) : Turn P w K tg (Jt n SH ys) wc I It where
  mem := hI
  obj := obj
  keep := keep
  self := self
  item := by
    intro X hP hw hK hc i pins s σ H E IV hf st hg
    obtain ⟨hi, hsh⟩ := hg
    obtain ⟨z, hz, hG, hY⟩ := src X pins s σ H hP hw hK IV hsh
    subst hP hw hK
    refine (hG X.A (IV.ok.hd hc)).goes i s (fun u s2 => ∃ x H', Inv X pins σ H' s2 ∧ RelV x u ∧ (Jt n SH ys).yld i H x H' ∧ It (i + 1) s2.heap ∧ ∀ b ∈ wc, H' b = none) E hi ⟨st, hz⟩ fun v h' tk hy ⟨st', _⟩ hk htk => ?_
    obtain ⟨T, vals, rfl, hT, hTup, rv⟩ := hY i v s.heap h' hi hy
    have new : ObjOk X.prog X.w (upd H T (.tup (ys i))) h' T (.tup (ys i)) := ⟨hl i, vals.toList, rv, hTup⟩
    have I1 : Inv X pins σ (upd H T (.tup (ys i))) { s with heap := h', toks := tk } :=
      IV.turnedNew (t' := tk) (ch := wr) (fun b o hb q => hk b o hb q) (fun b hb => hf b (hsub b hb)) hT new
    have hTn : H T = none := IV.hok.fresh hT
    refine ⟨.ref T, _, I1, rfl, ⟨T, rfl, hTn, rfl⟩, st', fun b hb => ?_⟩
    obtain ⟨o, ho, _⟩ := obj i s.heap st b hb
    rw [upd_ne (Nat.ne_of_lt (Nat.lt_of_lt_of_le (Heap.lt_size ho) hT))]
    exact (hf b hb).1
  done := by
    intro X hP hw hK hc i pins s σ H E IV hf st hg
    obtain ⟨hi, hsh⟩ := hg
    subst hi
    obtain ⟨z, hz, hG, hY⟩ := src X pins s σ H hP hw hK IV hsh
    subst hP hw hK
    refine (hG X.A (IV.ok.hd hc)).stops s (fun s1 => Inv X pins σ H s1) E ⟨st, hz⟩ fun h' tk hk htk => ?_
    exact IV.turnedL (t' := tk) (ch := wr) (fun b o hb q => hk b o hb q) fun b hb => hf b (hsub b hb)

/-- a list or a tuple that is walked -/
structure SrcD (P : Program) (w : World) (K : PySem.W.Frag) (a : Addr) (xs : List V) (SH : Hp → Prop) (o : Obj) (ItI : Addr → Nat → Heap → Prop) (Src : Array Value → Heap → Prop) : Prop where
  begins : ∀ its, Begins (.ref a) o (Src its)
  draws : ∀ A : Around, A.handled = none → ∀ it, a ≠ it → ∀ its, Draws P w A it [it, a] its.size (fun i v => its[i]? = some v) (fun i h => ItI it i h ∧ Src its h)
  init : ∀ it h, h.get? it = some o → ItI it 0 h
  obj : ∀ it i h, ItI it i h → ∃ o, h.get? it = some o ∧ ∀ v, o.data ≠ .cell v
  keep : ∀ it i h h', ItI it i h → (∀ o, h.get? it = some o → h'.get? it = some o) → ItI it i h'
  src : ∀ (X : Cx) (pins : List (Addr × Obj)) (s : Shared) (σ : L2.St) (H : Hp), X.prog = P → X.w = w → X.K = K → Inv X pins σ H s → SH H → ∃ its, Src its s.heap ∧ Vals xs its.toList
  lt : ∀ its h, Src its h → a < h.objs.size
theorem srcD_list {P : Program} {w : World} {K : PySem.W.Frag} {a : Addr} {xs : List V} : SrcD P w K a xs (fun H => SqL K H a xs) { cls := .type "list_iterator", data := .fields #[.ref a, .int 0 0] } (fun it i h => h.IsListIter it a i) (fun its h => h.IsList a its) where
  begins := fun its => begins_list a its
  draws := fun A hh it hne its => Draws.list hh it a hne its
  init := fun it h e => ⟨_, e, rfl, rfl⟩
  obj := fun it i h ⟨o, ho, hc, hd⟩ => ⟨o, ho, fun v q => by rw [hd] at q; cases q⟩
  keep := fun it i h h' x k => x.at fun o e => k o e
  src := fun X pins s σ H hP hw hK I q => by subst hK; obtain ⟨its, rv, p, _⟩ := I.list q; exact ⟨its.toArray, p.isList, by simpa using rv⟩
  lt := fun its h ⟨o, ho, _⟩ => Heap.lt_size ho
theorem srcD_tup {P : Program} {w : World} {K : PySem.W.Frag} {a : Addr} {xs : List V} : SrcD P w K a xs (fun H => SqT K H a xs) { cls := .type "tuple_iterator", data := .fields #[.ref a, .int 0 0] } (fun it i h => h.IsTupleIter it a i) (fun its h => h.IsTuple a its) where
  begins := fun its => begins_tuple a its
  draws := fun A hh it hne its => Draws.tuple hh it a hne its
  init := fun it h e => ⟨_, e, rfl, rfl⟩
  obj := fun it i h ⟨o, ho, hc, hd⟩ => ⟨o, ho, fun v q => by rw [hd] at q; cases q⟩
  keep := fun it i h h' x k => x.at fun o e => k o e
  src := fun X pins s σ H hP hw hK I q => by subst hK; obtain ⟨its, rv, p, _⟩ := I.tuple q; exact ⟨its.toArray, p, by simpa using rv⟩
  lt := fun its h ⟨o, ho, _⟩ => Heap.lt_size ho

theorem goesN_st {prog : Program} {w : World} {A : Around} {target : Expr} {I : Addr} {fp wr : List Addr} {n : Nat} {Y : Nat → Heap → Value → Heap → Prop} {St St' : Nat → Heap → Prop} (W : GoesN prog w A target I fp wr n Y St) (h : ∀ i h, St i h ↔ St' i h) : GoesN prog w A target I fp wr n Y St' := by
  have e : St = St' := by funext i h'; exact propext (h i h')
  rw [← e]; exact W

/-! ### enumerate -/
set_option maxHeartbeats 1000000 in
theorem meets_enum1 {v : Value} {o : Obj} {H : Heap → Prop} (B : Begins v o H) :
    Meets (Builtin.«enumerate.__new__» ⟨[.type "enumerate", v], []⟩) (fun _ R s => H s.heap ∧
      R (.ok (.ret (.ref (s.heap.push o).objs.size))) { s with heap := (s.heap.push o).push { cls := .type "enumerate", data := .fields #[.none, .bool false, .ref s.heap.objs.size, rawInt 0, .none, .none] } }) :=
  .of_wp fun prog w A R s h => by
    obtain ⟨hp, g, d, tk, os⟩ := s; obtain ⟨h1, h⟩ := h
    have hsub := sub_enumerate
    have q1 : ∀ {A' : Around} {E : Value → Shared → Prop} {Q : Value → Shared → Prop}, Q (.ref hp.objs.size) ⟨hp.push o, g, d, tk, os⟩ → wpAny (model prog w) A' (pyIter v) Q E ⟨hp, g, d, tk, os⟩ :=
      fun q => B.iter prog w _ _ ⟨hp, g, d, tk, os⟩ _ h1 q
    wp_walk using q1
    refine wpAny_stack_any fun st => wpAny_pure ?_
    split
    · rename_i c _ _ _ _ _
      cases (c == Value.type "enumerate")
      · wp_walk using q1
        exact ⟨_, rfl, h⟩
      · wp_walk using q1
        exact ⟨_, rfl, h⟩
    · wp_walk using q1
      exact ⟨_, rfl, h⟩
theorem enum_begins1 {prog : Program} {w : World} {A : Around} {E : Value → Shared → Prop} {s : Shared} {v : Value} {o : Obj} {H : Heap → Prop} {Q : Value → Shared → Prop} (B : Begins v o H) (h1 : H s.heap)
    (h : ∀ h', IsEnum h' (s.heap.objs.size + 1) s.heap.objs.size 0 .none → h'.get? s.heap.objs.size = some o → h'.objs.size = s.heap.objs.size + 2 →
      (∀ b o, s.heap.get? b = some o → h'.get? b = some o) → Q (.ref (s.heap.objs.size + 1)) { s with heap := h' }) :
    wpAny (model prog w) A (call (.type "enumerate") [v]) Q E s := by
  refine callType_new F.called_enumerate (by decide) (F.typeCall_enumerate_1 _) (F.newCall_enumerate_1 _) (fun obj => F.args_object_init_2 obj _) F.entry_enumerate_new
    (meets_enum1 B) ⟨h1, ?_⟩
  have hz : (s.heap.push o).objs.size = s.heap.objs.size + 1 := Heap.size_push ..
  show _ ∧ _
  rw [hz]
  have he : IsEnum ((s.heap.push o).push { cls := .type "enumerate", data := .fields #[.none, .bool false, .ref s.heap.objs.size, rawInt 0, .none, .none] }) (s.heap.objs.size + 1) s.heap.objs.size 0 .none := by
    have := Heap.get?_push_size (s.heap.push o) (o := { cls := .type "enumerate", data := .fields #[.none, .bool false, .ref s.heap.objs.size, rawInt 0, .none, .none] }) rfl
    rw [hz] at this; exact this
  refine ⟨⟨_, he, rfl⟩, h _ he (Heap.get?_push_of_some _ (Heap.get?_push_size _ B.free)) (by rw [Heap.size_push, hz]) fun b o x => Heap.get?_push_of_some _ (Heap.get?_push_of_some _ x)⟩
def yEnum (xs : List V) (i : Nat) : List V := [.int (i : Nat), xs.getD i .non]
theorem turn_enumS {P : Program} {w : World} {K : PySem.W.Frag} {elts : List Expr} {kk : Nat} {tpos : Pos} {a e it : Addr} {xs : List V} {SH : Hp → Prop} {o : Obj} {ItI : Addr → Nat → Heap → Prop} {Src : Array Value → Heap → Prop}
    (D : SrcD P w K a xs SH o ItI Src) (h1 : e ≠ it) (h2 : a ≠ e) (h3 : a ≠ it) :
    Turn P w K (.Tuple elts kk tpos) (Jt xs.length SH (yEnum xs)) [e, it] e (fun i h => (∃ old, IsEnum h e it ((0 : Int) + (i : Int)) old) ∧ ItI it i h) :=
  turn_gn (ι := Array Value) (Src := Src) (fp := fun _ => [e, it, a]) (wr := [e, it]) (Y := fun its i h₀ v h => ∃ T t x, v = .ref T ∧ h₀.objs.size ≤ T ∧ its[i]? = some x ∧ h.IsTuple T #[.int ((0 : Int) + (i : Int)) t, x]) (by simp) (fun b hb => hb)
    (fun i h st b hb => by
      obtain ⟨⟨old, he⟩, hi⟩ := st
      have e' : b = e ∨ b = it := by simpa using hb
      rcases e' with z | z
      · rw [z]; exact ⟨_, he, fun v q => nomatch q⟩
      · rw [z]; exact D.obj it i h hi)
    (fun i h h' st k => let ⟨⟨old, he⟩, hi⟩ := st; ⟨⟨old, k e (by simp) _ he⟩, D.keep it i h h' hi fun o q => k it (by simp) o q⟩)
    (fun X pins s σ H hP hw hK I q => by
      obtain ⟨its, hs, rv⟩ := D.src X pins s σ H hP hw hK I q
      have hl : its.size = xs.length := by rw [rv.length]; simp
      refine ⟨its, hs, fun A hh => ?_, fun i v h0 h' hi hy => ?_⟩
      · have G := GoesN.enumFrom (elts := elts) (x1 := kk) (pos := tpos) (0 : Int) (D.draws A.in1 hh it h3 its) e h1 (by simp [h1, Ne.symm h2]) (by simp)
        rw [hl] at G
        exact goesN_st G fun i h => ⟨fun ⟨a, b, c⟩ => ⟨⟨a, b⟩, c⟩, fun ⟨⟨a, b⟩, c⟩ => ⟨a, b, c⟩⟩
      · obtain ⟨T, t, x, rfl, hT, hx, hTup⟩ := hy
        have hxs : xs[i]? = some xs[i] := List.getElem?_eq_getElem hi
        obtain ⟨u, hu, ru⟩ := rv.get hxs
        have : u = x := by
          have : its[i]? = some u := by simpa using hu
          rw [this] at hx; exact Option.some.inj hx
        subst this
        refine ⟨T, _, rfl, hT, hTup, .cons ⟨t, by rw [Int.zero_add]⟩ (.cons ?_ .nil)⟩
        rw [List.getD_eq_getElem?_getD, hxs]
        exact ru)
    (fun A i s Q E st h => let ⟨⟨_, he⟩, _⟩ := st; wpAny_pyIter_enum he h)
    (fun i => by show 2 ≤ sizeLine; decide)
/-- what an iterator over one object owes -/
def iOver (K : PySem.W.Frag) (ta : TA) (J : List V → (Hp → Prop) → It) : TI := fun σ H R => ta σ H fun vs H1 => ∃ a xs, vs = [.ref a] ∧ ((SqL K H1 a xs ∧ R (J xs fun H => SqL K H a xs) H1) ∨ (SqT K H1 a xs ∧ R (J xs fun H => SqT K H a xs) H1))
theorem pie_enum {X : Cx} {pins : List (Addr × Obj)} {σ : L2.St} {H1 : Hp} {s1 : Shared} {a : Addr} {xs : List V} {SH : Hp → Prop} {o : Obj} {ItI : Addr → Nat → Heap → Prop} {Src : Array Value → Heap → Prop} {elts : List Expr} {kk : Nat} {tpos : Pos} {R : It → Hp → Prop}
    (D : SrcD X.prog X.w X.K a xs SH o ItI Src) (I1 : Inv X pins σ H1 s1) (q : SH H1) (r : R (Jt xs.length SH (yEnum xs)) H1) :
    wpAny (model X.prog X.w) X.A (call (.type "enumerate") [.ref a]) (fun v s2 => wpAny (model X.prog X.w) X.A (pyIter v) (PIE X pins σ (.Tuple elts kk tpos) R) X.xe s2) X.xe s1 := by
  obtain ⟨its, hs, rv⟩ := D.src X pins s1 σ H1 rfl rfl rfl I1 q
  have hlt := D.lt its _ hs
  refine enum_begins1 (D.begins its) hs fun h' he hit hsz hk => wpAny_pyIter_enum he ?_
  have I2 : Inv X pins σ H1 { s1 with heap := h' } := I1.kept (t' := s1.toks) hk
  refine ⟨s1.heap.objs.size + 1, [s1.heap.objs.size + 1, s1.heap.objs.size], _, _, H1, rfl, I2, turn_enumS D (Nat.succ_ne_self _) (Nat.ne_of_lt (Nat.lt_succ_of_lt hlt)) (Nat.ne_of_lt hlt), ⟨⟨.none, he⟩, D.init _ _ hit⟩, fun b hb => ?_, r⟩
  have e' : b = s1.heap.objs.size + 1 ∨ b = s1.heap.objs.size := by simpa using hb
  have hle : s1.heap.objs.size ≤ b := by
    rcases e' with z | z
    · rw [z]; exact Nat.le_add_right _ _
    · rw [z]; exact Nat.le_refl _
  exact I1.fpOk hle (I1.hok.fresh hle)
theorem pi_enumA {X : Cx} {e : Expr} {ta : TA} {p pos tpos : Pos} {elts : List Expr} {kk : Nat} (hg : Gl X "enumerate") (hm : X.mg "enumerate" = none) (ha : PA X [e] ta) (hs : starEach [e] X.env = [(false, eval e X.env)] := by rfl) :
    PI X (.Tuple elts kk tpos) (.Call (.Name "enumerate" p) [e] [] pos) (iOver X.K ta fun xs SH => Jt xs.length SH (yEnum xs)) := by
  refine ⟨fun pins s σ H R I h => ?_⟩
  refine Call_ (ld_blt I hg hm boot_enumerate (PyProof.Rows.callWith_type1 (thn (ha.run pos pins s σ H _ I h) fun us s1 ⟨vs, H1, I1, r1, q1⟩ => ?_) hs rfl))
  obtain ⟨a, xs, ex, hq⟩ := q1
  subst ex
  cases r1 with
  | cons r rr =>
    cases rr
    cases r
    rcases hq with ⟨h1, h2⟩ | ⟨h1, h2⟩
    · exact pie_enum srcD_list I1 h1 h2
    · exact pie_enum srcD_tup I1 h1 h2

/-! ### zip of two -/
def yZip (xs ys : List V) (i : Nat) : List V := [xs.getD i .non, ys.getD i .non]
theorem turn_zipS {P : Program} {w : World} {K : PySem.W.Frag} {elts : List Expr} {kk : Nat} {tpos : Pos} {a b N : Addr} {xs ys : List V} {SH SH' : Hp → Prop} {o o' : Obj} {ItI ItI' : Addr → Nat → Heap → Prop} {Src Src' : Array Value → Heap → Prop}
    (D : SrcD P w K a xs SH o ItI Src) (D' : SrcD P w K b ys SH' o' ItI' Src') (h1 : a < N) (h2 : b < N) :
    Turn P w K (.Tuple elts kk tpos) (Jt (min xs.length ys.length) (fun H => SH H ∧ SH' H) (yZip xs ys)) [N + 4, N + 2, N + 3, N, N + 1] (N + 4)
      (fun i h => IsZip h (N + 4) (N + 2) (N + 3) .none ∧ IsTupOf2 h (N + 2) (.ref N) (.ref (N + 1)) ∧ (∃ a1 a2, IsTupOf2 h (N + 3) a1 a2) ∧ ItI N i h ∧ ItI' (N + 1) i h) :=
  turn_gn (ι := Array Value × Array Value) (Src := fun z h => Src z.1 h ∧ Src' z.2 h) (fp := fun _ => (N + 4) :: (N + 2) :: (N + 3) :: ([N, a] ++ [N + 1, b])) (wr := [N + 4, N + 3, N, N + 1]) (Y := fun z i h₀ v h => ∃ T x y, v = .ref T ∧ h₀.objs.size ≤ T ∧ z.1[i]? = some x ∧ z.2[i]? = some y ∧ h.IsTuple T #[x, y]) (by simp) (fun b hb => by simp at hb ⊢; rcases hb with z | z | z | z <;> simp [z])
    (fun i h st c hb => by
      obtain ⟨hz, hT, ⟨a1, a2, hO⟩, i1, i2⟩ := st
      have e' : c = N + 4 ∨ c = N + 2 ∨ c = N + 3 ∨ c = N ∨ c = N + 1 := by simpa using hb
      rcases e' with z | z | z | z | z
      · rw [z]; exact ⟨_, hz, fun v q => nomatch q⟩
      · rw [z]; exact ⟨_, hT, fun v q => nomatch q⟩
      · rw [z]; exact ⟨_, hO, fun v q => nomatch q⟩
      · rw [z]; exact D.obj N i h i1
      · rw [z]; exact D'.obj (N + 1) i h i2)
    (fun i h h' st k => by
      obtain ⟨hz, hT, ⟨a1, a2, hO⟩, i1, i2⟩ := st
      exact ⟨k _ (by simp) _ hz, k _ (by simp) _ hT, ⟨a1, a2, k _ (by simp) _ hO⟩, D.keep N i h h' i1 fun o q => k N (by simp) o q, D'.keep (N + 1) i h h' i2 fun o q => k (N + 1) (by simp) o q⟩)
    (fun X pins s σ H hP hw hK I q => by
      obtain ⟨its, hs, rv⟩ := D.src X pins s σ H hP hw hK I q.1
      obtain ⟨its', hs', rv'⟩ := D'.src X pins s σ H hP hw hK I q.2
      have hl : its.size = xs.length := by rw [rv.length]; simp
      have hl' : its'.size = ys.length := by rw [rv'.length]; simp
      refine ⟨(its, its'), ⟨hs, hs'⟩, fun A hh => ?_, fun i v h0 h' hi hy => ?_⟩
      · have G := GoesN.zip2 (elts := elts) (x1 := kk) (pos := tpos) (zip_sep2 (N := N) (fp1 := [a]) (fp2 := [b]) (by simpa using h1) (by simpa using h2)) (D.draws A.in1 hh N (Nat.ne_of_lt h1) its) (D'.draws A.in1 hh (N + 1) (Nat.ne_of_lt (Nat.lt_succ_of_lt h2)) its')
        rw [hl, hl'] at G
        exact goesN_st G fun i h => ⟨fun ⟨a, b, c, ⟨d1, d2⟩, e1, e2⟩ => ⟨⟨a, b, c, d1, e1⟩, d2, e2⟩, fun ⟨⟨a, b, c, d1, e1⟩, d2, e2⟩ => ⟨a, b, c, ⟨d1, d2⟩, e1, e2⟩⟩
      · obtain ⟨T, x, y, rfl, hT, hx, hy', hTup⟩ := hy
        have hi1 : i < xs.length := by omega
        have hi2 : i < ys.length := by omega
        have hxs : xs[i]? = some xs[i] := List.getElem?_eq_getElem hi1
        have hys : ys[i]? = some ys[i] := List.getElem?_eq_getElem hi2
        obtain ⟨u, hu, ru⟩ := rv.get hxs
        obtain ⟨u', hu', ru'⟩ := rv'.get hys
        have e1 : u = x := by
          have : its[i]? = some u := by simpa using hu
          rw [this] at hx; exact Option.some.inj hx
        have e2 : u' = y := by
          have : its'[i]? = some u' := by simpa using hu'
          rw [this] at hy'; exact Option.some.inj hy'
        subst e1 e2
        refine ⟨T, _, rfl, hT, hTup, .cons ?_ (.cons ?_ .nil)⟩
        · rw [List.getD_eq_getElem?_getD, hxs]; exact ru
        · rw [List.getD_eq_getElem?_getD, hys]; exact ru')
    (fun A i s Q E st h => wpAny_pyIter_zip st.1 h)
    (fun i => by show 2 ≤ sizeLine; decide)
def SeqAny (K : PySem.W.Frag) (a : Addr) (xs : List V) (H1 : Hp) (k : (Hp → Prop) → Prop) : Prop := (SqL K H1 a xs ∧ k fun H => SqL K H a xs) ∨ (SqT K H1 a xs ∧ k fun H => SqT K H a xs)
def iOver2 (K : PySem.W.Frag) (ta : TA) (J : List V → List V → (Hp → Prop) → It) : TI := fun σ H R => ta σ H fun vs H1 => ∃ a b xs ys, vs = [.ref a, .ref b] ∧ SeqAny K a xs H1 fun SH => SeqAny K b ys H1 fun SH' => R (J xs ys fun H => SH H ∧ SH' H) H1
theorem pie_zip {X : Cx} {pins : List (Addr × Obj)} {σ : L2.St} {H1 : Hp} {s1 : Shared} {a b : Addr} {xs ys : List V} {SH SH' : Hp → Prop} {o o' : Obj} {ItI ItI' : Addr → Nat → Heap → Prop} {Src Src' : Array Value → Heap → Prop} {elts : List Expr} {kk : Nat} {tpos : Pos} {R : It → Hp → Prop}
    (D : SrcD X.prog X.w X.K a xs SH o ItI Src) (D' : SrcD X.prog X.w X.K b ys SH' o' ItI' Src') (I1 : Inv X pins σ H1 s1) (q : SH H1) (q' : SH' H1) (r : R (Jt (min xs.length ys.length) (fun H => SH H ∧ SH' H) (yZip xs ys)) H1) :
    wpAny (model X.prog X.w) X.A (call (.type "zip") [.ref a, .ref b]) (fun v s2 => wpAny (model X.prog X.w) X.A (pyIter v) (PIE X pins σ (.Tuple elts kk tpos) R) X.xe s2) X.xe s1 := by
  obtain ⟨its, hs, rv⟩ := D.src X pins s1 σ H1 rfl rfl rfl I1 q
  obtain ⟨its', hs', rv'⟩ := D'.src X pins s1 σ H1 rfl rfl rfl I1 q'
  have hlt := D.lt its _ hs
  have hlt' := D'.lt its' _ hs'
  refine zip_begins2 (D.begins its) (D'.begins its') hs hs' fun h' hz hT hO i1 i2 hsz hk => wpAny_pyIter_zip hz ?_
  have I2 : Inv X pins σ H1 { s1 with heap := h' } := I1.kept (t' := s1.toks) hk
  refine ⟨s1.heap.objs.size + 4, [s1.heap.objs.size + 4, s1.heap.objs.size + 2, s1.heap.objs.size + 3, s1.heap.objs.size, s1.heap.objs.size + 1], _, _, H1, rfl, I2, turn_zipS D D' hlt hlt', ⟨hz, hT, ⟨_, _, hO⟩, D.init _ _ i1, D'.init _ _ i2⟩, fun c hb => ?_, r⟩
  have e' : c = s1.heap.objs.size + 4 ∨ c = s1.heap.objs.size + 2 ∨ c = s1.heap.objs.size + 3 ∨ c = s1.heap.objs.size ∨ c = s1.heap.objs.size + 1 := by simpa using hb
  have hle : s1.heap.objs.size ≤ c := by
    rcases e' with z | z | z | z | z
    · rw [z]; exact Nat.le_add_right _ _
    · rw [z]; exact Nat.le_add_right _ _
    · rw [z]; exact Nat.le_add_right _ _
    · rw [z]; exact Nat.le_refl _
    · rw [z]; exact Nat.le_add_right _ _
  exact I1.fpOk hle (I1.hok.fresh hle)
theorem pi_zipS {X : Cx} {e e2 : Expr} {ta : TA} {p pos tpos : Pos} {elts : List Expr} {kk : Nat} (hg : Gl X "zip") (hm : X.mg "zip" = none) (ha : PA X [e, e2] ta)
    (hs : starEach [e, e2] X.env = (false, eval e X.env) :: starEach [e2] X.env := by rfl) (hpl : (backTo pos (starEach [e2] X.env)).any (·.1) = false := by rfl) :
    PI X (.Tuple elts kk tpos) (.Call (.Name "zip" p) [e, e2] [] pos) (iOver2 X.K ta fun xs ys SH => Jt (min xs.length ys.length) SH (yZip xs ys)) := by
  refine ⟨fun pins s σ H R I h => ?_⟩
  refine Call_ (ld_blt I hg hm PyProof.Rows.boot_zip (PyProof.Rows.callWith_type1 (thn (ha.run pos pins s σ H _ I h) fun us s1 ⟨vs, H1, I1, r1, q1⟩ => ?_) hs hpl))
  obtain ⟨a, b, xs, ys, ex, hq⟩ := q1
  subst ex
  cases r1 with
  | cons r rr =>
    cases rr with
    | cons r' rr =>
      cases rr
      cases r
      cases r'
      rcases hq with ⟨h1, h2⟩ | ⟨h1, h2⟩
      · rcases h2 with ⟨h3, h4⟩ | ⟨h3, h4⟩
        · exact pie_zip srcD_list srcD_list I1 h1 h3 h4
        · exact pie_zip srcD_list srcD_tup I1 h1 h3 h4
      · rcases h2 with ⟨h3, h4⟩ | ⟨h3, h4⟩
        · exact pie_zip srcD_tup srcD_list I1 h1 h3 h4
        · exact pie_zip srcD_tup srcD_tup I1 h1 h3 h4
end FL
namespace FL
open PySem L2

section
variable {K : PySem.W.Frag} {S0 S H : Hp}
/-! ### walks over what stands -/
theorem walks_list {a : Addr} {vs : List V} {ds : List D} (h : S0 a = some (.lst vs)) (r : Reps K S0 vs ds) : Walks K (Itl K a) S0 ds where
  goes := fun S H i s1 s2 hi => ⟨vs, vs[i]'(by rw [r.length]; exact hi), .inl (.inl (s2 _ _ (s1 _ _ h))), by simp⟩
  stops := fun S H s1 s2 => ⟨vs, .inl (.inl (s2 _ _ (s1 _ _ h))), by rw [r.length]; exact Nat.le_refl _⟩
  gives := fun S H i x H' s1 s2 hi ⟨e, hy⟩ => by
    subst e
    obtain ⟨d, h1, h2⟩ := r.getV (hy vs (.inl (.inl (s2 _ _ (s1 _ _ h)))))
    exact ⟨S, d, h1, h2.mono s1, fun _ _ e => e, fun _ _ e => e, s2, fun _ e _ => e⟩
theorem walks_tup {a : Addr} {ds : List D} (r : Rep K S0 (.ref a) (.tup ds)) : Walks K (Itt K a) S0 ds where
  goes := fun S H i s1 s2 hi => by
    obtain ⟨b, vs, e, h1, h2⟩ := See.tup (.of (r.mono s1)) s2
    cases e
    exact ⟨vs, vs[i]'(by rw [h2.length]; exact hi), h1, by simp⟩
  stops := fun S H s1 s2 => by
    obtain ⟨b, vs, e, h1, h2⟩ := See.tup (.of (r.mono s1)) s2
    cases e
    exact ⟨vs, h1, by rw [h2.length]; exact Nat.le_refl _⟩
  gives := fun S H i x H' s1 s2 hi ⟨e, hy⟩ => by
    subst e
    obtain ⟨b, vs, e, h1, h2⟩ := See.tup (.of (r.mono s1)) s2
    cases e
    obtain ⟨d, h3, h4⟩ := h2.getV (hy vs h1)
    exact ⟨S, d, h3, h4, fun _ _ e => e, fun _ _ e => e, s2, fun _ e _ => e⟩
def signs (z : Str) : List D := z.cps.toList.map fun c => .str ⟨#[c]⟩
theorem walks_str {z : Str} : Walks K (Its z) S0 (signs z) where
  goes := fun S H i s1 s2 hi => by simpa [signs, Its] using hi
  stops := fun S H s1 s2 => by simp [signs, Its]
  gives := fun S H i x H' s1 s2 hi ⟨e, c, h1, h2⟩ => by
    subst e h2
    refine ⟨S, .str ⟨#[c]⟩, ?_, .str _, fun _ _ e => e, fun _ _ e => e, s2, fun _ e _ => e⟩
    simp [signs, h1]
def rgD (lo c : Int) (n : Nat) : List D := (List.range n).map fun (i : Nat) => D.int (lo + (i : Int) * c)
def rg1 (n : Nat) : List D := (List.range n).map fun (i : Nat) => D.int (i : Int)
def rg2 (lo : Int) (n : Nat) : List D := (List.range n).map fun (i : Nat) => D.int (lo + (i : Int))
theorem walks_range {lo : Int} {n : Nat} {ds : List D} (hl : ds.length = n) (hd : ∀ i, i < n → ds[i]? = some (.int (lo + (i : Int)))) : Walks K (Itr lo n) S0 ds where
  goes := fun S H i s1 s2 hi => by rw [hl] at hi; exact hi
  stops := fun S H s1 s2 => by rw [hl]; exact Nat.le_refl _
  gives := fun S H i x H' s1 s2 hi ⟨e, h1⟩ => by
    subst e h1
    exact ⟨S, _, hd i (by rw [← hl]; exact hi), .int _, fun _ _ e => e, fun _ _ e => e, s2, fun _ e _ => e⟩
theorem walks_rangeC {lo c : Int} {n : Nat} : Walks K (Itc lo c n) S0 (rgD lo c n) where
  goes := fun S H i s1 s2 hi => by simpa [rgD, Itc] using hi
  stops := fun S H s1 s2 => by simp [rgD, Itc]
  gives := fun S H i x H' s1 s2 hi ⟨e, h1⟩ => by
    subst e h1
    refine ⟨S, .int (lo + (i : Int) * c), ?_, .int _, fun _ _ e => e, fun _ _ e => e, s2, fun _ e _ => e⟩
    have hi' : i < n := by simpa [rgD] using hi
    simp [rgD, hi']
/-- new tuples -/
theorem walks_new {n : Nat} {SH : Hp → Prop} {ys : Nat → List V} {ds : List D} (hl : ds.length = n) (hs : ∀ S H, Same S0 S → Same S H → SH H) (hd : ∀ i, i < n → ∃ es, ds[i]? = some (.tup es) ∧ Reps K S0 (ys i) es) : Walks K (Jt n SH ys) S0 ds where
  goes := fun S H i s1 s2 hi => ⟨by rw [← hl]; exact hi, hs S H s1 s2⟩
  stops := fun S H s1 s2 => ⟨hl, hs S H s1 s2⟩
  gives := fun S H i x H' s1 s2 hi ⟨T, e1, hT, e2⟩ => by
    subst e1 e2
    obtain ⟨es, h1, h2⟩ := hd i (by rw [← hl]; exact hi)
    have hST : S T = none := none_of s2 hT
    exact ⟨upd S T (.tup (ys i)), .tup es, h1, .tup upd_same ((h2.mono s1).mono (same_new hST)), same_new hST, same_new hT, same_both s2, fun b e n => by rw [upd_ne (fun z => n (by rw [z]; exact hT))]; exact e⟩
end

def itSeq (f : Ev) : Iv := fun ρ => (f ρ).bind fun p => (take p.2 p.1).bind fun z => match z.1 with
  | .lst ds => some (ds, z.2)
  | .tup ds => some (ds, z.2)
  | .str x => some (signs x, z.2)
  | _ => none
def itRg1 (f : Ev) : Iv := fun ρ => (f ρ).bind fun p => match p.1 with
  | .val (.int n) => if -1000000 ≤ n ∧ n ≤ 1000000 then some (rg1 n.toNat, p.2) else none
  | _ => none
def itRg2 (f g : Ev) : Iv := fun ρ => (f ρ).bind fun p => (g p.2).bind fun q => match p.1, q.1 with
  | .val (.int m), .val (.int n) => if -1000000 ≤ m ∧ m ≤ 1000000 ∧ -1000000 ≤ n ∧ n ≤ 1000000 then some (rg2 m (n - m).toNat, q.2) else none
  | _, _ => none
def itRg3 (f g h : Ev) : Iv := fun ρ => (f ρ).bind fun p => (g p.2).bind fun q => (h q.2).bind fun t => match p.1, q.1, t.1 with
  | .val (.int m), .val (.int n), .val (.int c) => if c ≠ 0 ∧ c.natAbs < 1073741824 ∧ Builtin.Range.small m n c = true ∧ 0 ≤ Builtin.Range.rangeSize m n c then some (rgD m c (Builtin.Range.rangeSize m n c).toNat, t.2) else none
  | _, _, _ => none
def seqOf : D → Option (List D)
  | .lst ds => some ds
  | .tup ds => some ds
  | _ => none
def enumD (ds : List D) : List D := (List.range ds.length).map fun (i : Nat) => D.tup [.int (i : Int), ds.getD i .non]
theorem enumD_get {ds : List D} {i : Nat} (h : i < ds.length) : (enumD ds)[i]? = some (.tup [.int (i : Int), ds.getD i .non]) := by
  unfold enumD; rw [List.getElem?_map, List.getElem?_range h]; rfl
def itEnum (f : Ev) : Iv := fun ρ => (f ρ).bind fun p => (take p.2 p.1).bind fun z => (seqOf z.1).map fun ds => (enumD ds, z.2)
def zipD (xs ys : List D) : List D := (List.range (min xs.length ys.length)).map fun (i : Nat) => D.tup [xs.getD i .non, ys.getD i .non]
theorem zipD_get {xs ys : List D} {i : Nat} (h : i < min xs.length ys.length) : (zipD xs ys)[i]? = some (.tup [xs.getD i .non, ys.getD i .non]) := by
  unfold zipD; rw [List.getElem?_map, List.getElem?_range h]; rfl
def itZip (f g : Ev) : Iv := fun ρ => (evs [f, g] ρ).bind fun p => (takes p.2 p.1).bind fun z => match z.1 with
  | [x, y] => (seqOf x).bind fun xs => (seqOf y).map fun ys => (zipD xs ys, z.2)
  | _ => none

section
variable {X : Cx} {e a b c tg : Expr} {es rest : List Expr} {f g h : Ev} {fs : List Ev} {pos p : Pos}
theorem vi_seq (he : VE X e f) : VI X tg e (itSeq f) := (PI.or (pi_list he) (PI.or (pi_tup he) (pi_str he))).imp fun σ H R q => by
  obtain ⟨S, ρ, ds, ρ', E, e, k⟩ := q
  obtain ⟨p, e1, e2⟩ := bind_some e
  obtain ⟨z, e3, e4⟩ := bind_some e2
  have key : ∀ v S1 H1, Cur X.K σ ρ S H [v] [p.1] p.2 S1 H1 → ∃ S2, Same S1 S2 ∧ Rep X.K S2 v z.1 ∧ Env X.K S2 σ H1 z.2 ∧ Go σ ρ S H σ z.2 S2 H1 := fun v S1 H1 c => by
    obtain ⟨S2, s12, r, c2⟩ := c.take (d := z.1) (ρ2 := z.2) e3
    exact ⟨S2, s12, r, c2.env, c2.go⟩
  split at e4
  · rename_i ds' hz
    cases e4
    refine .inl ⟨S, ρ, p.1, p.2, E, e1, fun v S1 H1 c => ?_⟩
    obtain ⟨S2, s12, r, E2, G2⟩ := key v S1 H1 c
    rw [hz] at r
    cases r with
    | lst h1 h2 => exact ⟨_, rfl, ⟨_, .inl (.inl (E2.ex _ _ h1))⟩, k S2 H1 _ E2 G2 (walks_list h1 h2)⟩
  · rename_i ds' hz
    cases e4
    refine .inr (.inl ⟨S, ρ, p.1, p.2, E, e1, fun v S1 H1 c => ?_⟩)
    obtain ⟨S2, s12, r, E2, G2⟩ := key v S1 H1 c
    rw [hz] at r
    obtain ⟨a, vs, rfl, h1, h2⟩ := See.tup (.of r) E2.ex
    exact ⟨a, rfl, ⟨vs, h1⟩, k S2 H1 _ E2 G2 (walks_tup r)⟩
  · rename_i x hz
    cases e4
    refine .inr (.inr ⟨S, ρ, p.1, p.2, E, e1, fun v S1 H1 c => ?_⟩)
    obtain ⟨S2, s12, r, E2, G2⟩ := key v S1 H1 c
    rw [hz] at r
    cases r
    exact ⟨x, rfl, k S2 H1 _ E2 G2 walks_str⟩
  · cases e4
theorem vi_rg1 {x : Expr} (hg : Gl X "range") (hm : X.mg "range" = none) (ha : VE X x f) (hs : starEach [x] X.env = [(false, eval x X.env)] := by rfl) : VI X tg (.Call (.Name "range" p) [x] [] pos) (itRg1 f) :=
  (pi_range1 hg hm (pa_cons ha pa_nil hs) hs).imp fun σ H R q => by
    obtain ⟨S, ρ, ds, ρ', E, e, k⟩ := q
    obtain ⟨p, e1, e2⟩ := bind_some e
    refine ⟨S, ρ, p.1, p.2, E, e1, fun v S1 H1 c => ?_⟩
    split at e2
    · rename_i n h1
      split at e2
      · rename_i hb
        cases e2
        have q := c.rep1
        rw [h1] at q
        cases q
        refine ⟨n, rfl, by omega, by omega, k S1 H1 _ c.env c.go (walks_range (by simp [rg1]) fun i hi => ?_)⟩
        simp [rg1, hi]
      · cases e2
    · cases e2
theorem vi_rg2 {x y : Expr} (hg : Gl X "range") (hm : X.mg "range" = none) (ha : VE X x f) (hb : VE X y g) (hs : starEach [x, y] X.env = [(false, eval x X.env), (false, eval y X.env)] := by rfl) (hs2 : starEach [y] X.env = [(false, eval y X.env)] := by rfl) :
    VI X tg (.Call (.Name "range" p) [x, y] [] pos) (itRg2 f g) :=
  (pi_range2 hg hm (pa_cons ha (pa_cons hb pa_nil hs2) (by rw [hs, hs2])) hs hs2).imp fun σ H R q => by
    obtain ⟨S, ρ, ds, ρ', E, e, k⟩ := q
    obtain ⟨p, e1, e2⟩ := bind_some e
    obtain ⟨p2, e3, e4⟩ := bind_some e2
    refine bin (G := fun u v H2 => ∃ i j : Int, [u, v] = [V.int i, V.int j] ∧ (-(2 ^ 62) ≤ i ∧ i < 2 ^ 62 ∧ -(2 ^ 62) ≤ j ∧ j < 2 ^ 62) ∧ R (Itr i (j - i).toNat) H2) E e1 e3 fun u v S2 H2 c => ?_
    split at e4
    · rename_i m n h1 h2
      split at e4
      · rename_i hb
        cases e4
        cases c.rep with
        | cons hu _ ht =>
          cases ht with
          | cons hv _ _ =>
            rw [h1] at hu
            rw [h2] at hv
            cases hu
            cases hv
            refine ⟨m, n, rfl, ⟨by omega, by omega, by omega, by omega⟩, k S2 H2 _ c.env c.go (walks_range (by simp [rg2]) fun i hi => ?_)⟩
            simp [rg2, hi]
      · cases e4
    · cases e4
theorem vi_rg3 {x y z : Expr} (hg : Gl X "range") (hm : X.mg "range" = none) (ha : VE X x f) (hb : VE X y g) (hc : VE X z h)
    (hs : starEach [x, y, z] X.env = (false, eval x X.env) :: starEach [y, z] X.env := by rfl) (hs2 : starEach [y, z] X.env = (false, eval y X.env) :: starEach [z] X.env := by rfl) (hs3 : starEach [z] X.env = (false, eval z X.env) :: starEach [] X.env := by rfl)
    (hpl : (backTo pos (starEach [y, z] X.env)).any (·.1) = false := by rfl) : VI X tg (.Call (.Name "range" p) [x, y, z] [] pos) (itRg3 f g h) :=
  (pi_range3 hg hm (pa_cons ha (pa_cons hb (pa_cons hc pa_nil hs3) hs2) hs) hs hpl).imp fun σ H R q => by
    obtain ⟨S, ρ, ds, ρ', E, e, k⟩ := q
    obtain ⟨p, e1, e2⟩ := bind_some e
    obtain ⟨p2, e3, e4⟩ := bind_some e2
    obtain ⟨p3, e5, e6⟩ := bind_some e4
    refine bin (G := fun u v H2 => tV X.K h σ H2 fun w H3 => ∃ (i j c : Int) (n : Nat), [u, v, w] = [V.int i, V.int j, V.int c] ∧ RgC i j c n ∧ R (Itc i c n) H3) E e1 e3 fun u v S2 H2 c => ?_
    refine ⟨S2, p2.2, p3.1, p3.2, c.env, e5, fun w S3 H3 c3 => ?_⟩
    split at e6
    · rename_i m n cc h1 h2 h3
      split at e6
      · rename_i hb
        cases e6
        cases c.rep with
        | cons hu _ ht =>
          cases ht with
          | cons hv _ _ =>
            rw [h1] at hu
            rw [h2] at hv
            have hw := c3.rep1
            rw [h3] at hw
            cases hu
            cases hv
            cases hw
            exact ⟨m, n, cc, _, rfl, ⟨hb.1, hb.2.1, hb.2.2.1, (Int.toNat_of_nonneg hb.2.2.2).symm⟩, k S3 H3 _ c3.env (c.go.trans c3.go) walks_rangeC⟩
      · cases e6
    · cases e6
theorem getD_some {α : Type} {xs : List α} {i : Nat} {d : α} (h : i < xs.length) : xs[i]? = some (xs.getD i d) := by
  rw [List.getD_eq_getElem?_getD, List.getElem?_eq_getElem h]; rfl
theorem reps_getD {K : PySem.W.Frag} {S : Hp} {vs : List V} {ds : List D} (r : Reps K S vs ds) {i : Nat} (h : i < ds.length) : Rep K S (vs.getD i .non) (ds.getD i .non) := by
  obtain ⟨v, h1, h2⟩ := r.get (getD_some (d := .non) h)
  rw [List.getD_eq_getElem?_getD, h1]
  exact h2
theorem seq_any {K : PySem.W.Frag} {S : Hp} {v : V} {d : D} {ds : List D} (h : seqOf d = some ds) (r : Rep K S v d) : ∃ a vs, v = .ref a ∧ Reps K S vs ds ∧ ∀ (H : Hp) (k : (Hp → Prop) → Prop), Same S H → (∀ SH : Hp → Prop, (∀ S' H', Same S S' → Same S' H' → SH H') → k SH) → SeqAny K a vs H k := by
  cases d with
  | lst ds' =>
    cases h
    cases r with
    | lst e q => exact ⟨_, _, rfl, q, fun H k ex hk => .inl ⟨.inl (.inl (ex _ _ e)), hk _ fun S' H' s1 s2 => .inl (.inl (s2 _ _ (s1 _ _ e)))⟩⟩
  | tup ds' =>
    cases h
    cases r with
    | tup e q => exact ⟨_, _, rfl, q, fun H k ex hk => .inr ⟨.inl (.inl (ex _ _ e)), hk _ fun S' H' s1 s2 => .inl (.inl (s2 _ _ (s1 _ _ e)))⟩⟩
    | con e =>
      have up : ∀ H, SqT K H _ overV := fun H => e.elim (fun z => by rcases z with z | ⟨_, z⟩ <;> exact absurd z (by simp)) .inr
      exact ⟨_, _, rfl, over_reps, fun H k ex hk => .inr ⟨up H, hk _ fun S' H' s1 s2 => up H'⟩⟩
  | _ => cases h
theorem vi_enum {x : Expr} {tpos : Pos} {elts : List Expr} {kk : Nat} (hg : Gl X "enumerate") (hm : X.mg "enumerate" = none) (ha : VE X x f) (hs : starEach [x] X.env = [(false, eval x X.env)] := by rfl) :
    VI X (.Tuple elts kk tpos) (.Call (.Name "enumerate" p) [x] [] pos) (itEnum f) := (pi_enumA hg hm (pa_cons ha pa_nil hs) hs).imp fun σ H R q => by
  obtain ⟨S, ρ, ds, ρ', E, e, k⟩ := q
  obtain ⟨p, e1, e2⟩ := bind_some e
  obtain ⟨z, e3, e4⟩ := bind_some e2
  obtain ⟨ds', e5, e6⟩ := map_some e4
  cases e6
  refine ⟨S, ρ, p.1, p.2, E, e1, fun v S1 H1 c => ?_⟩
  obtain ⟨S2, s12, r, c2⟩ := c.take (d := z.1) (ρ2 := z.2) e3
  obtain ⟨a, vs, rfl, hr, hq⟩ := seq_any e5 r
  have fin : ∀ SH : Hp → Prop, (∀ S' H', Same S2 S' → Same S' H' → SH H') → R (Jt vs.length SH (yEnum vs)) H1 := fun SH hSH => k S2 H1 _ c2.env c2.go (walks_new (by simp [enumD, hr.length]) hSH fun i hi => by
    rw [hr.length] at hi
    exact ⟨_, enumD_get hi, .cons (.int _) (.cons (reps_getD hr hi) .nil)⟩)
  exact ⟨a, vs, rfl, hq H1 _ c2.env.ex fin⟩
theorem vi_zip {x y : Expr} {tpos : Pos} {elts : List Expr} {kk : Nat} (hg : Gl X "zip") (hm : X.mg "zip" = none) (ha : VE X x f) (hb : VE X y g)
    (hs : starEach [x, y] X.env = (false, eval x X.env) :: starEach [y] X.env := by rfl) (hs2 : starEach [y] X.env = (false, eval y X.env) :: starEach [] X.env := by rfl) (hpl : (backTo pos (starEach [y] X.env)).any (·.1) = false := by rfl) :
    VI X (.Tuple elts kk tpos) (.Call (.Name "zip" p) [x, y] [] pos) (itZip f g) := (pi_zipS hg hm (va_cons ha (va_cons hb va_nil hs2) hs) hs hpl).imp fun σ H R q => by
  obtain ⟨S, ρ, ds, ρ', E, e, k⟩ := q
  obtain ⟨p, e1, e2⟩ := bind_some e
  obtain ⟨z, e3, e4⟩ := bind_some e2
  refine ⟨S, ρ, p.1, p.2, E, e1, fun vs S1 H1 c => ?_⟩
  obtain ⟨S2, s12, r, c2⟩ := c.takes e3
  split at e4
  · rename_i d1 d2 hz
    obtain ⟨xs, e5, e6⟩ := bind_some e4
    obtain ⟨ys, e7, e8⟩ := map_some e6
    cases e8
    rw [hz] at r
    cases r with
    | cons r1 rt =>
      cases rt with
      | cons r2 rn =>
        cases rn
        obtain ⟨a, us, rfl, hr, hq⟩ := seq_any e5 r1
        obtain ⟨b, ws, rfl, hr', hq'⟩ := seq_any e7 r2
        refine ⟨a, b, us, ws, rfl, hq H1 _ c2.env.ex fun SH hSH => hq' H1 _ c2.env.ex fun SH' hSH' => ?_⟩
        refine k S2 H1 _ c2.env c2.go (walks_new (by simp [zipD, hr.length, hr'.length]) (fun S' H' s1 s2 => ⟨hSH S' H' s1 s2, hSH' S' H' s1 s2⟩) fun i hi => ?_)
        rw [hr.length, hr'.length] at hi
        have h1 := reps_getD hr (i := i) (by omega)
        have h2 := reps_getD hr' (i := i) (by omega)
        exact ⟨_, zipD_get hi, .cons h1 (.cons h2 .nil)⟩
  · cases e4
end

/-! ### built-ins -/
def intsOf : List D → Option (List Int)
  | [] => some []
  | .int i :: ds => (intsOf ds).map fun ns => i :: ns
  | _ => none
def maxI : List Int → Int
  | [] => 0
  | [x] => x
  | x :: y :: r => max x (maxI (y :: r))
def minI : List Int → Int
  | [] => 0
  | [x] => x
  | x :: y :: r => min x (minI (y :: r))
theorem maxI_mem : ∀ {ns : List Int}, ns ≠ [] → maxI ns ∈ ns ∧ ∀ y ∈ ns, y ≤ maxI ns
  | [x], _ => ⟨by simp [maxI], by simp [maxI]⟩
  | x :: y :: r, _ => by
    obtain ⟨h1, h2⟩ := maxI_mem (ns := y :: r) (by simp)
    rw [maxI]
    refine ⟨?_, fun z hz => ?_⟩
    · rcases Int.le_total x (maxI (y :: r)) with h | h
      · rw [Int.max_eq_right h]; exact List.mem_cons_of_mem _ h1
      · rw [Int.max_eq_left h]; exact List.mem_cons_self
    · rcases List.mem_cons.mp hz with rfl | hz
      · exact Int.le_max_left _ _
      · exact Int.le_trans (h2 z hz) (Int.le_max_right _ _)
theorem minI_mem : ∀ {ns : List Int}, ns ≠ [] → minI ns ∈ ns ∧ ∀ y ∈ ns, minI ns ≤ y
  | [x], _ => ⟨by simp [minI], by simp [minI]⟩
  | x :: y :: r, _ => by
    obtain ⟨h1, h2⟩ := minI_mem (ns := y :: r) (by simp)
    rw [minI]
    refine ⟨?_, fun z hz => ?_⟩
    · rcases Int.le_total x (minI (y :: r)) with h | h
      · rw [Int.min_eq_left h]; exact List.mem_cons_self
      · rw [Int.min_eq_right h]; exact List.mem_cons_of_mem _ h1
    · rcases List.mem_cons.mp hz with rfl | hz
      · exact Int.min_le_left _ _
      · exact Int.le_trans (Int.min_le_right _ _) (h2 z hz)
def sortI (ns : List Int) : List Int := ns.mergeSort fun a b => decide (a ≤ b)
theorem sortI_perm (ns : List Int) : (sortI ns).Perm ns := List.mergeSort_perm _ _
theorem sortI_sorted (ns : List Int) : (sortI ns).Pairwise (· ≤ ·) := (List.pairwise_mergeSort (fun a b c h1 h2 => by simp at *; omega) (fun a b => by simp; omega) ns).imp fun h => by simpa using h
section
variable {K : PySem.W.Frag} {S H : Hp}
theorem intsOf_rep : ∀ {ds : List D} {ns : List Int} {vs : List V}, intsOf ds = some ns → Reps K S vs ds → vs = ns.map V.int
  | [], _, _, h, r => by cases h; cases r; rfl
  | .int i :: ds, _, _, h, r => by
    rw [intsOf] at h
    obtain ⟨ns', h1, rfl⟩ := map_some h
    cases r with
    | cons r1 rt => cases r1; rw [List.map_cons, intsOf_rep h1 rt]
  | .non :: _, _, _, h, _ => by cases h
  | .bl _ :: _, _, _, h, _ => by cases h
  | .str _ :: _, _, _, h, _ => by cases h
  | .tup _ :: _, _, _, h, _ => by cases h
  | .lst _ :: _, _, _, h, _ => by cases h
  | .dic _ :: _, _, _, h, _ => by cases h
  | .scr _ :: _, _, _, h, _ => by cases h
theorem Sees.one {vs : List V} {d : D} (h : Sees K S H vs [d]) : ∃ v, vs = [v] ∧ See K S H v d := by
  cases h with | cons a t => cases t; exact ⟨_, rfl, a⟩
theorem Sees.two {vs : List V} {d e : D} (h : Sees K S H vs [d, e]) : ∃ v u, vs = [v, u] ∧ See K S H v d ∧ See K S H u e := by
  cases h with | cons a t => cases t with | cons b t => cases t; exact ⟨_, _, rfl, a, b⟩
def oLen : List D → Option R
  | [.lst ds] => some (.val (.int ds.length))
  | [.tup ds] => some (.val (.int ds.length))
  | [.str x] => if x.length ≤ cap then some (.val (.int x.length)) else none
  | _ => none
def rLenA (K : PySem.W.Frag) : List V → Hp → VK → Prop := fun xs H Q => (∃ p ys, xs = [.ref p] ∧ (SqL K H p ys ∨ SqT K H p ys) ∧ Q (.int ys.length) H) ∨ ∃ z, xs = [.str z] ∧ z.length ≤ sizeLine ∧ Q (.int z.length) H
theorem c_len {X : Cx} : CallR X (.builtin "len") (rLenA X.K) := CallR.or call_len_seq call_len_str
theorem s_len : SoundN K (rLenA K) oLen := fun S H vs ds res ex s e Q k => by
  unfold oLen at e
  split at e
  · cases e
    obtain ⟨v, rfl, s1⟩ := s.one
    obtain ⟨a, us, rfl, h1, h2⟩ := s1.lst' ex
    refine .inl ⟨a, us, rfl, .inl (.inl (.inl h1)), ?_⟩
    rw [h2.length]; exact k _ _ _ (.flat ex (.int _))
  · cases e
    obtain ⟨v, rfl, s1⟩ := s.one
    obtain ⟨a, us, rfl, h1, h2⟩ := s1.tup ex
    refine .inl ⟨a, us, rfl, .inr h1, ?_⟩
    rw [h2.length]; exact k _ _ _ (.flat ex (.int _))
  · split at e
    · rename_i hz
      cases e
      obtain ⟨v, rfl, s1⟩ := s.one
      rw [s1.str]
      exact .inr ⟨_, rfl, cap_le hz, k _ _ _ (.flat ex (.int _))⟩
    · cases e
  · cases e
def oSum : List D → Option R
  | [.lst ds] => (intsOf ds).map fun ns => .val (.int ns.sum)
  | _ => none
theorem s_sum : SoundN K (rSum K) oSum := fun S H vs ds res ex s e Q k => by
  unfold oSum at e
  split at e
  · obtain ⟨ns, h, rfl⟩ := map_some e
    obtain ⟨v, rfl, s1⟩ := s.one
    obtain ⟨a, us, rfl, h1, h2⟩ := s1.lst' ex
    exact ⟨a, ns, rfl, by rw [← intsOf_rep h h2]; exact .inl (.inl h1), k _ _ _ (.flat ex (.int _))⟩
  · cases e
/-- sum of a tuple: the same by the tuple's own rule -/
def oMax : List D → Option R
  | [.int i, .int j] => some (.val (.int (if j > i then j else i)))
  | [.lst ds] => (intsOf ds).bind fun ns => if ns.isEmpty then none else some (.val (.int (maxI ns)))
  | _ => none
def rMaxA (K : PySem.W.Frag) : List V → Hp → VK → Prop := fun xs H Q => (∃ i j, xs = [.int i, .int j] ∧ Q (.int (if j > i then j else i)) H) ∨ rMax K xs H Q
theorem c_max {X : Cx} (hc : X.calm = true) : CallR X (.builtin "max") (rMaxA X.K) := CallR.or (call_max2 hc) (cr_max hc)
theorem s_max : SoundN K (rMaxA K) oMax := fun S H vs ds res ex s e Q k => by
  unfold oMax at e
  split at e
  · cases e
    obtain ⟨v, u, rfl, s1, s2⟩ := s.two
    rw [s1.int, s2.int]
    exact .inl ⟨_, _, rfl, k _ _ _ (.flat ex (.int _))⟩
  · obtain ⟨ns, h, e2⟩ := bind_some e
    split at e2
    · cases e2
    · rename_i hne
      cases e2
      have hne' : ns ≠ [] := by simpa using hne
      obtain ⟨v, rfl, s1⟩ := s.one
      obtain ⟨a, us, rfl, h1, h2⟩ := s1.lst' ex
      refine .inr ⟨a, ns, rfl, by rw [← intsOf_rep h h2]; exact .inl (.inl h1), List.length_pos_iff.mpr hne', fun m hm hle => ?_⟩
      obtain ⟨q1, q2⟩ := maxI_mem hne'
      have : m = maxI ns := Int.le_antisymm (q2 m hm) (hle _ q1)
      rw [this]; exact k _ _ _ (.flat ex (.int _))
  · cases e
def oMin : List D → Option R
  | [.int i, .int j] => some (.val (.int (if j < i then j else i)))
  | [.lst ds] => (intsOf ds).bind fun ns => if ns.isEmpty then none else some (.val (.int (minI ns)))
  | _ => none
def rMinA (K : PySem.W.Frag) : List V → Hp → VK → Prop := fun xs H Q => (∃ i j, xs = [.int i, .int j] ∧ Q (.int (if j < i then j else i)) H) ∨ rMin K xs H Q
theorem c_min {X : Cx} (hc : X.calm = true) : CallR X (.builtin "min") (rMinA X.K) := CallR.or (call_min2 hc) (cr_min hc)
theorem s_min : SoundN K (rMinA K) oMin := fun S H vs ds res ex s e Q k => by
  unfold oMin at e
  split at e
  · cases e
    obtain ⟨v, u, rfl, s1, s2⟩ := s.two
    rw [s1.int, s2.int]
    exact .inl ⟨_, _, rfl, k _ _ _ (.flat ex (.int _))⟩
  · obtain ⟨ns, h, e2⟩ := bind_some e
    split at e2
    · cases e2
    · rename_i hne
      cases e2
      have hne' : ns ≠ [] := by simpa using hne
      obtain ⟨v, rfl, s1⟩ := s.one
      obtain ⟨a, us, rfl, h1, h2⟩ := s1.lst' ex
      refine .inr ⟨a, ns, rfl, by rw [← intsOf_rep h h2]; exact .inl (.inl h1), List.length_pos_iff.mpr hne', fun m hm hle => ?_⟩
      obtain ⟨q1, q2⟩ := minI_mem hne'
      have : m = minI ns := Int.le_antisymm (hle _ q1) (q2 m hm)
      rw [this]; exact k _ _ _ (.flat ex (.int _))
  · cases e
def oSort : List D → Option R
  | [.lst ds] => (intsOf ds).map fun ns => .own (.lst ((sortI ns).map .int))
  | _ => none
theorem s_sort : SoundN K (rSortedI K) oSort := fun S H vs ds res ex s e Q k => by
  unfold oSort at e
  split at e
  · obtain ⟨ns, h, rfl⟩ := map_some e
    obtain ⟨v, rfl, s1⟩ := s.one
    obtain ⟨a, us, rfl, h1, h2⟩ := s1.lst' ex
    refine ⟨a, ns, rfl, by rw [← intsOf_rep h h2]; exact .inl (.inl h1), fun ns' p hp hs hn => ?_⟩
    rw [PySem.W.ksm_same (hp.trans (sortI_perm ns).symm) hs (sortI_sorted ns)]
    exact k _ _ _ (.lst ex hn (Reps.ints _))
  · cases e
def oList : List D → Option R
  | [.lst ds] => some (.own (.lst ds))
  | [.tup ds] => some (.own (.lst ds))
  | [.scr ns] => some (.own (.lst (ns.map .int)))
  | _ => none
theorem s_list : SoundN K (fun xs H Q => ∃ p ys, xs = [.ref p] ∧ (SqL K H p ys ∨ SqT K H p ys) ∧ ∀ l, H l = none → Q (.ref l) (upd H l (.lst ys))) oList := fun S H vs ds res ex s e Q k => by
  unfold oList at e
  split at e
  · cases e
    obtain ⟨v, rfl, s1⟩ := s.one
    obtain ⟨a, us, rfl, h1, h2⟩ := s1.lst' ex
    exact ⟨a, us, rfl, .inl (.inl (.inl h1)), fun l hl => k _ _ _ (.lst ex hl h2)⟩
  · cases e
    obtain ⟨v, rfl, s1⟩ := s.one
    obtain ⟨a, us, rfl, h1, h2⟩ := s1.tup ex
    exact ⟨a, us, rfl, .inr h1, fun l hl => k _ _ _ (.lst ex hl h2)⟩
  · cases e
    obtain ⟨v, rfl, s1⟩ := s.one
    obtain ⟨a, rfl, h1⟩ := s1.scr ex
    exact ⟨a, _, rfl, .inl h1, fun l hl => k _ _ _ (.lst ex hl (Reps.ints _))⟩
  · cases e
def oTuple : List D → Option R
  | [.lst ds] => some (.val (.tup ds))
  | [.tup ds] => some (.val (.tup ds))
  | _ => none
theorem s_tuple : SoundN K (fun xs H Q => ∃ p ys, xs = [.ref p] ∧ ((SqL K H p ys ∧ ∀ l, H l = none → Q (.ref l) (upd H l (.tup ys))) ∨ (SqT K H p ys ∧ Q (.ref p) H))) oTuple := fun S H vs ds res ex s e Q k => by
  unfold oTuple at e
  split at e
  · cases e
    obtain ⟨v, rfl, s1⟩ := s.one
    obtain ⟨a, us, rfl, h1, h2⟩ := s1.lst' ex
    exact ⟨a, us, rfl, .inl ⟨.inl (.inl h1), fun l hl => k _ _ _ (.tup ex hl h2)⟩⟩
  · cases e
    obtain ⟨v, rfl, s1⟩ := s.one
    have s2 := s1
    obtain ⟨a, us, rfl, h1, h2⟩ := s1.tup ex
    refine ⟨a, us, rfl, .inr ⟨h1, k _ _ _ (.flat ex ?_)⟩⟩
    cases s2 with | of r => exact r
  · cases e
def oInt : List D → Option R
  | [.int i] => some (.val (.int i))
  | [.bl b] => some (.val (.int (if b then 1 else 0)))
  | _ => none
theorem s_int : SoundN K (fun xs H Q => (∃ i, xs = [.int i] ∧ Q (.int i) H) ∨ ∃ k, xs = [.bl k] ∧ Q (.int (if k then 1 else 0)) H) oInt := fun S H vs ds res ex s e Q k => by
  unfold oInt at e
  split at e
  · cases e
    obtain ⟨v, rfl, s1⟩ := s.one
    rw [s1.int]; exact .inl ⟨_, rfl, k _ _ _ (.flat ex (.int _))⟩
  · cases e
    obtain ⟨v, rfl, s1⟩ := s.one
    rw [s1.bl]; exact .inr ⟨_, rfl, k _ _ _ (.flat ex (.int _))⟩
  · cases e
end
end FL
namespace FL
open PySem L2

theorem hu65 {A : Around} {k : Nat} (hr : Room k A) : A.units + 65 < cLine := by have := hr.un; omega
theorem hu64 {A : Around} {k : Nat} (hr : Room k A) : A.units + 64 < cLine := by have := hr.un; omega
theorem hu1 {A : Around} {k : Nat} (hr : Room k A) : A.units + 1 < cLine := by have := hr.un; omega

/-! ### isinstance with built-in classes -/
def tyName : D → String
  | .non => "NoneType" | .bl _ => "bool" | .int _ => "int" | .str _ => "str" | .tup _ => "tuple" | .lst _ => "list" | .dic _ => "dict" | .scr _ => "list"
def isTy (T : String) : D → Option Bool
  | .dic _ => none
  | .scr _ => none
  | .bl _ => some (T == "bool" || T == "int")
  | d => some (T == tyName d)
theorem kit_all : ∀ n ∈ ["NoneType", "bool", "int", "str", "tuple", "list"], ∀ T ∈ ["int", "bool", "tuple", "list", "str"], kitB n T = some (T == n || (n == "bool" && T == "int")) := by decide +kernel
theorem isTy_kit {d : D} {T : String} {b : Bool} (h : isTy T d = some b) (hT : T ∈ ["int", "bool", "tuple", "list", "str"]) : kitB (tyName d) T = some b := by
  cases d with
  | dic _ => cases h
  | scr _ => cases h
  | non => cases h; rw [tyName, kit_all _ (by decide) _ hT]; simp
  | bl c => cases h; rw [tyName, kit_all _ (by decide) _ hT]; simp
  | int c => cases h; rw [tyName, kit_all _ (by decide) _ hT]; simp
  | str c => cases h; rw [tyName, kit_all _ (by decide) _ hT]; simp
  | tup c => cases h; rw [tyName, kit_all _ (by decide) _ hT]; simp
  | lst c => cases h; rw [tyName, kit_all _ (by decide) _ hT]; simp
theorem See.ty {K : PySem.W.Frag} {S H H' : Hp} {v : V} {d : D} (s : See K S H v d) (ex : Same S H) (hh : Same H H') {T : String} {b : Bool} (h : isTy T d = some b) : TyX K H' v (.type (tyName d)) := by
  cases d with
  | dic _ => cases h
  | scr _ => cases h
  | non => rw [s.non]; exact .base .non
  | bl c => rw [s.bl]; exact .base (.bl c)
  | int c => rw [s.int]; exact .base (.int c)
  | str c => rw [s.str]; exact .base (.str c)
  | tup ds =>
    cases s with
    | of r => cases r with
      | tup e _ => exact .base (.tup (hh _ _ (ex _ _ e)))
      | con e =>
        rcases e with z | ⟨o, its, n, h1, h2, _⟩
        · rcases z with z | ⟨_, z⟩ <;> cases z
        · exact .kTuple h1 h2
  | lst ds =>
    obtain ⟨a, vs, rfl, h1, _⟩ := s.lst' ex
    exact .base (.lst (hh _ _ h1))
def fIsi (T : String) (f : Ev) : Ev := fun ρ => (f ρ).bind fun p => (see p.2 p.1).bind fun d => (isTy T d).map fun b => (.val (.bl b), p.2)
def fIsi2 (T U : String) (f : Ev) : Ev := fun ρ => (f ρ).bind fun p => (see p.2 p.1).bind fun d => (isTy T d).bind fun b => (isTy U d).map fun c => (.val (.bl (b || c)), p.2)
section
variable {X : Cx} {e a b c tg : Expr} {es rest : List Expr} {f g h : Ev} {fs : List Ev} {pos p p2 p3 tpos : Pos}
theorem ve_isi {T : String} {x : Str} (hT : T ∈ ["int", "bool", "tuple", "list", "str"]) (hg : Gl X "isinstance") (hm : X.mg "isinstance" = none) (he : VE X e f) (ht : PE X (.Name x p2) (tC (.ty T)))
    (hs : starEach [e, .Name x p2] X.env = (false, eval e X.env) :: starEach [.Name x p2] X.env := by rfl) (hs2 : starEach [.Name x p2] X.env = (false, eval (.Name x p2) X.env) :: starEach [] X.env := by rfl)
    (hpl : (backTo pos (starEach [.Name x p2] X.env)).any (·.1) = false := by rfl) : VE X (.Call (.Name "isinstance" p) [e, .Name x p2] [] pos) (fIsi T f) :=
  (pe_callB call_isi hg hm PyProof.Rows.boot_isinstance (pa_cons he (pa_cons ht pa_nil hs2) hs) (by decide) (by decide) hs hpl).imp fun σ H Q q => by
    obtain ⟨S, ρ, r, ρ', E, e, k⟩ := q
    obtain ⟨p1, e1, e2⟩ := bind_some e
    obtain ⟨d, e3, e4⟩ := bind_some e2
    obtain ⟨b, e5, e6⟩ := map_some e4
    cases e6
    refine ⟨S, ρ, p1.1, p1.2, E, e1, fun v S1 H1 c => ?_⟩
    exact ⟨v, .ty T, .type (tyName d), .type T, b, rfl, .ty T, (c.rep1.see c.env e3).ty c.env.ex (fun _ _ e => e) e5, kit_ty (isTy_kit e5 hT), k _ S1 H1 (c.fin (.flat c.env.ex (.bl b)))⟩
theorem ve_isi2 {T U : String} {x y : Str} {kk : Nat} (hT : T ∈ ["int", "bool", "tuple", "list", "str"]) (hU : U ∈ ["int", "bool", "tuple", "list", "str"]) (hg : Gl X "isinstance") (hm : X.mg "isinstance" = none) (he : VE X e f) (ht : PE X (.Name x p2) (tC (.ty T))) (hu : PE X (.Name y p3) (tC (.ty U)))
    (hs : starEach [e, .Tuple [.Name x p2, .Name y p3] kk tpos] X.env = (false, eval e X.env) :: starEach [.Tuple [.Name x p2, .Name y p3] kk tpos] X.env := by rfl)
    (hs2 : starEach [.Tuple [.Name x p2, .Name y p3] kk tpos] X.env = (false, eval (.Tuple [.Name x p2, .Name y p3] kk tpos) X.env) :: starEach [] X.env := by rfl)
    (hs3 : starEach [.Name x p2, .Name y p3] X.env = (false, eval (.Name x p2) X.env) :: starEach [.Name y p3] X.env := by rfl) (hs4 : starEach [.Name y p3] X.env = (false, eval (.Name y p3) X.env) :: starEach [] X.env := by rfl)
    (hpl : (backTo pos (starEach [.Tuple [.Name x p2, .Name y p3] kk tpos] X.env)).any (·.1) = false := by rfl) : VE X (.Call (.Name "isinstance" p) [e, .Tuple [.Name x p2, .Name y p3] kk tpos] [] pos) (fIsi2 T U f) :=
  (pe_callB call_isiT hg hm PyProof.Rows.boot_isinstance (pa_cons he (pa_cons (pe_tup (pa_cons ht (pa_cons hu pa_nil hs4) hs3)) pa_nil hs2) hs) (by decide) (by decide) hs hpl).imp fun σ H Q q => by
    obtain ⟨S, ρ, r, ρ', E, e, k⟩ := q
    obtain ⟨p1, e1, e2⟩ := bind_some e
    obtain ⟨d, e3, e4⟩ := bind_some e2
    obtain ⟨b, e5, e6⟩ := bind_some e4
    obtain ⟨b2, e7, e8⟩ := map_some e6
    cases e8
    refine ⟨S, ρ, p1.1, p1.2, E, e1, fun v S1 H1 c => ⟨by show 2 ≤ sizeLine; decide, fun q hq => ?_⟩⟩
    have sv := c.rep1.see c.env e3
    refine ⟨v, q, [.ty T, .ty U], .type (tyName d), [.type T, .type U], b || b2, rfl, upd_same, .cons (.ty T) (.cons (.ty U) .nil), sv.ty c.env.ex (same_new hq) e5, ?_, k _ S1 _ (c.fin ⟨fun _ _ e => e, same_new hq, fun _ e _ => e, fun x o e => same_new hq x o (c.env.ex x o e), .bl _⟩)⟩
    refine kitAny_cons (b := b) (kit_ty (isTy_kit e5 hT)) (fun hb => kitAny_cons (b := b2) (kit_ty (isTy_kit e7 hU)) (fun hb2 => ?_) fun hb2 => ?_) fun hb => ?_
    · rw [hb, hb2]; exact kitAny_nil
    · rw [hb, hb2]; rfl
    · rw [hb]; rfl
/-! ### comparisons as tests -/
theorem vt_of {t : TE} (hp : PT X e (tTest t)) (h : ∀ σ H Q, tV X.K f σ H Q → t σ H Q) : VT X e f := hp.imp fun σ H Q q => by
  obtain ⟨S, ρ, b, ρ', E, e, k⟩ := q
  refine h σ H _ ⟨S, ρ, _, ρ', E, e, fun v S' H' c => ?_⟩
  have := c.rep1
  cases this
  exact ⟨b, rfl, k S' H' c.drop⟩
theorem vt_cmp {op : CmpOp} {r : R2} {o : D → D → Option R} (ho : OpR X (compareOp op) r) (so : Sound2 X.K r o) (ha : VE X a f) (hb : VE X b g) (hm : behindInMarks op b = false) : VT X (.Compare a [op] [b] pos) (fOp2 o f g) :=
  vt_of (pt_cmpR ho ha hb hm) fun _ _ _ q => sem2 so q
theorem vt_chain {op op' : CmpOp} {r r' : R2} {o o' : D → D → Option Bool} (ho : OpR X (compareOp op) r) (ho' : OpR X (compareOp op') r') (so : SoundB X.K r o) (so' : SoundB X.K r' o') (ha : VE X a f) (hb : VE X b g) (hc : VE X c h)
    (hm : lastMarks [op, op'] [b, c] = false := by with_unfolding_all rfl) : VT X (.Compare a [op, op'] [b, c] pos) (fChain o o' f g h) := vt_of (pt_chain ho ho' ha hb hc hm) fun _ _ _ q => sem_chain so so' q
theorem vt_inD (hu : X.A.units + 1 < cLine) (ha : VE X a f) (hb : VE X b g) (h1 : behindInMarks .In b = false := by rfl) : VT X (.Compare a [.In] [b] pos) (fInD false f g) := vt_of (pt_cmp (pc_din hu ha hb) h1) fun _ _ _ q => sem_inD q
theorem vt_notInD (hu : X.A.units + 1 < cLine) (ha : VE X a f) (hb : VE X b g) (h1 : behindInMarks .NotIn b = false := by rfl) : VT X (.Compare a [.NotIn] [b] pos) (fInD true f g) := vt_of (pt_cmp (pc_dnotin hu ha hb) h1) fun _ _ _ q => sem_inD q
end
end FL
namespace FL
open PySem.Spec PySem.Calls PyProof.Rows PyProof.V
open PySem L2

/-! ### sum of a tuple -/
section
variable {prog : Program} {w : World} {A : Around} {E : Value → Shared → Prop} {s : Shared} {l : Addr} {its : List Value} {ns : List Int} {Q : Value → Shared → Prop}
theorem sum_rawT (hh : A.handled = none) (hl : s.heap.IsTuple l its.toArray) (hi : IntsAre its ns)
    (h : ∀ h' tk t', (∀ b o, s.heap.get? b = some o → h'.get? b = some o) → Q (.int ns.sum t') { s with heap := h', toks := tk }) : wpAny (model prog w) A (call (.builtin "sum") [.ref l]) Q E s := by
  obtain ⟨xs, e⟩ := hi.allInts.items
  have hn : numsOf (intItems xs).toList = ns := by rw [← e]; exact hi.numsOf
  rw [nums_intItems] at hn
  rw [e] at hl
  refine PySem.W.ktm_sumG hh hl fun h' tk t' hk => ?_
  have := h h' tk t' hk
  rw [preSum_eq, List.take_of_length_le (by simp), hn]; exact this
end
def rSumT (K : PySem.W.Frag) : List V → Hp → VK → Prop := fun vs H Q => ∃ (a : Addr) (ns : List Int), vs = [V.ref a] ∧ SqT K H a (ns.map V.int) ∧ Q (.int ns.sum) H
theorem cr_sumT {X : Cx} (hc : X.calm = true) : CallR X (.builtin "sum") (rSumT X.K) := by
  intro pins s σ H vs us Q I r h
  obtain ⟨a, ns, rfl, hs, q⟩ := h
  obtain ⟨its, rv, hl, _⟩ := I.tuple hs
  rw [Vals.ref1 r]
  exact sum_rawT (I.ok.hd hc) hl rv.ints fun h' tk t' hk => ⟨.int _, H, I.kept hk, ⟨_, rfl⟩, q⟩
def rSumA (K : PySem.W.Frag) : List V → Hp → VK → Prop := fun xs H Q => rSum K xs H Q ∨ rSumT K xs H Q
theorem c_sum {X : Cx} (hc : X.calm = true) : CallR X (.builtin "sum") (rSumA X.K) := CallR.or (cr_sum hc) (cr_sumT hc)
def oSumA : List D → Option R
  | [.lst ds] => (intsOf ds).map fun ns => .val (.int ns.sum)
  | [.tup ds] => (intsOf ds).map fun ns => .val (.int ns.sum)
  | _ => none
section
variable {K : PySem.W.Frag} {S H : Hp}
theorem s_sumA : SoundN K (rSumA K) oSumA := fun S H vs ds res ex s e Q k => by
  unfold oSumA at e
  split at e
  · obtain ⟨ns, h, rfl⟩ := map_some e
    obtain ⟨v, rfl, s1⟩ := s.one
    obtain ⟨a, us, rfl, h1, h2⟩ := s1.lst' ex
    exact .inl ⟨a, ns, rfl, by rw [← intsOf_rep h h2]; exact .inl (.inl h1), k _ _ _ (.flat ex (.int _))⟩
  · obtain ⟨ns, h, rfl⟩ := map_some e
    obtain ⟨v, rfl, s1⟩ := s.one
    obtain ⟨a, us, rfl, h1, h2⟩ := s1.tup ex
    exact .inr ⟨a, ns, rfl, by rw [← intsOf_rep h h2]; exact h1, k _ _ _ (.flat ex (.int _))⟩
  · cases e
end

/-! ### xs[::-1] of a list -/
def oRev : D → Option R
  | .lst xs => some (.own (.lst xs.reverse))
  | _ => none
def fRev (f : Ev) : Ev := fOp1 oRev f
theorem ve_rev {X : Cx} {e : Expr} {f : Ev} {k : Nat} {p1 p2 p3 pos : Pos} (he : VE X e f) : VE X (.Subscript e (.Slice none none (some (.UnaryOp .USub (.Constant (.int 1) k p1) p2)) p3) pos) (fRev f) :=
  (pe_revL he).imp fun σ H Q q => by
    obtain ⟨S, ρ, r, ρ', E, e, k⟩ := q
    obtain ⟨p, e1, e2⟩ := bind_some e
    obtain ⟨x, e3, e4⟩ := bind_some e2
    obtain ⟨r, e5, e6⟩ := map_some e4
    cases e6
    refine ⟨S, ρ, p.1, p.2, E, e1, fun v S1 H1 c => ?_⟩
    have s := c.rep1.see c.env e3
    cases x with
    | lst xs =>
      cases e5
      obtain ⟨a, vs, rfl, h1, h2⟩ := s.lst' c.env.ex
      exact ⟨a, vs, rfl, .inl (.inl h1), fun p hp => k _ _ _ (c.fin (.lst c.env.ex hp h2.reverse))⟩
    | _ => cases e5
end FL
namespace FL
open PySem L2

theorem sp_law {K : PySem.W.Frag} {H : Hp} {a : Addr} {ns : List Int} {F : Fn} {ρ' : List Sl} {E : XK} (h : SqL K H a (ns.map V.int)) (e : F [.val (.scr ns)] = some (.val (.bl true), ρ')) :
    spV K 1 F [.ref a] H (fun v _ => v = .bl true) E := by
  refine ⟨rfl, H, [.val (.scr ns)], .val (.bl true), ρ', ⟨fun _ _ e => e, rfl, fun i d q => ?_, fun i p d q => ?_, fun i j p q d e a h1 _ _ _ => ?_⟩, e, fun v S' H' c => ?_⟩
  · cases i with
    | zero => simp at q; subst q; exact ⟨_, rfl, .scr h⟩
    | succ i => simp at q
  · cases i with
    | zero => simp at q
    | succ i => simp at q
  · cases i with
    | zero => simp at h1
    | succ i => simp at h1
  · have := c.rep1
    cases this; rfl
theorem over_at {K : PySem.W.Frag} {mg : Str → Option Value} {h : Heap} {a : Addr} {od : Option Addr} {n : Nat} {sl : Array (Option Value)} {t1 t2 t3 t4 t5 : Tok} (X : K.In h) (G : h.Ns mainGlobals mg)
    (e : PySem.W.nsIn K mainGlobals "OVER" = some (some (.ref a))) (l : K.lookup a = some ⟨.type "tuple", od, .seq #[.int 0 t1, .int 0 t2, .int 0 t3, .str "over" t4, .int 0 t5] n, sl⟩) :
    ∃ a, mg "OVER" = some (.ref a) ∧ SqT K (fun _ => none) a overV :=
  ⟨a, PySem.W.mg_of X G e, .inr ⟨_, _, n, l, rfl, rfl, (by show 5 ≤ sizeLine; decide), .cons ⟨t1, rfl⟩ (.cons ⟨t2, rfl⟩ (.cons ⟨t3, rfl⟩ (.cons ⟨t4, rfl⟩ (.cons ⟨t5, rfl⟩ .nil))))⟩⟩
end FL
namespace FL
open PySem L2
open PySem.Spec PyProof.Rows PySem.W
/-! # sorted(xs), xs tuples of ints of any lengths, any number of them -/
def lexI : List Int → List Int → Bool
  | [], [] => false
  | [], _ :: _ => true
  | _ :: _, [] => false
  | x :: r, y :: t => decide (x < y) || (!decide (y < x) && lexI r t)
theorem lexI_lt : ∀ a b : List Int, lexI a b = lexLt itemOrd (a.map Sum.inl) (b.map Sum.inl)
  | [], [] => rfl
  | [], _ :: _ => rfl
  | _ :: _, [] => rfl
  | x :: r, y :: t => by
    rw [lexI, lexI_lt r t]
    rfl
theorem lexI_irrefl (a : List Int) : lexI a a = false := by rw [lexI_lt]; exact lex_irrefl _
theorem lexI_asym {a b : List Int} (h : lexI a b = true) : lexI b a = false := by
  cases e : lexI b a with
  | false => rfl
  | true =>
    rw [lexI_lt] at h e
    have := lex_trans _ _ _ h e
    rw [lex_irrefl] at this
    cases this
theorem lexI_tr {x y z : List Int} (h1 : lexI y x = false) (h2 : lexI z y = false) : lexI z x = false := by
  cases e : lexI z x with
  | false => rfl
  | true =>
    rw [lexI_lt] at h1 h2 e
    rcases lex_negTrans _ (y.map Sum.inl) _ e with h | h
    · rw [h2] at h; cases h
    · rw [h1] at h; cases h
theorem inl_inj : ∀ {a b : List Int}, (a.map Sum.inl : List (Int ⊕ List Nat)) = b.map Sum.inl → a = b
  | [], [], _ => rfl
  | [], _ :: _, h => by cases h
  | _ :: _, [], h => by cases h
  | x :: r, y :: t, h => by
    rw [List.map_cons, List.map_cons, List.cons.injEq] at h
    rw [inl_inj h.2, Sum.inl.inj h.1]
theorem lexI_total {a b : List Int} (h1 : lexI a b = false) (h2 : lexI b a = false) : a = b := by
  rw [lexI_lt] at h1 h2
  exact inl_inj (lex_total _ _ h1 h2)
theorem swo_lexI (k : Value → List Int) : SrtO.Swo fun v u => lexI (k v) (k u) := ⟨fun _ _ h => lexI_asym h, fun _ _ _ h1 h2 => lexI_tr h1 h2⟩
theorem items_ints : ∀ {vs : List Value} {ns : List Int} (i : Nat), IntsAre vs ns → tupItems (fun _ => false) i vs = some (ns.map Sum.inl)
  | _, _, i, .nil => by simp [tupItems]
  | _, _, i, .cons n t h => by
    rw [tupItems, items_ints (i + 1) h]
    simp
section
variable {prog : Program} {w : World} {A : Around} {E : Value → Shared → Prop} {s : Shared}
theorem tups_cmp {vs : List Value} {k : Value → List Int} (hp : ∀ v ∈ vs, TS.TupInts s.heap v (k v)) : SrtO.Cmp prog w A s (tuples' true) (fun p => p.1 ∈ vs) (SrtO.lt2 fun v u => lexI (k v) (k u)) := by
  intro p q hm hm'
  have h1 := hp _ hm
  have h2 := hp _ hm'
  show wpAny (model prog w) A (keyLt' (tuples' true) p.1 q.1) (fun r s' => s' = s ∧ r = lexI (k p.1) (k q.1)) (fun _ _ => False) s
  generalize k p.1 = ns at h1 ⊢
  generalize k q.1 = ms at h2 ⊢
  obtain ⟨a, xs, e, ⟨o, ho, hc, n, hd⟩, i⟩ := h1
  obtain ⟨a', xs', e', ⟨o', ho', hc', n', hd'⟩, i'⟩ := h2
  rw [e, e']
  exact kat_lt ho hd ho' hd' (tup_lex (shape := fun _ => false) xs.toList xs'.toList 0 _ _ (items_ints 0 i) (items_ints 0 i') (by rw [Array.length_toList, Array.length_toList]) ⟨rfl, (lexI_lt _ _).symm⟩)
theorem tups_of {h : Heap} {k : Value → List Int} : ∀ {vs : List Value}, (∀ v ∈ vs, TS.TupInts h v (k v) ∧ k v ≠ []) → ∃ fs, TupsOf h (fun _ => false) vs fs
  | [], _ => ⟨[], .nil⟩
  | v :: vs, hv => by
    obtain ⟨fs, r⟩ := tups_of (vs := vs) fun u hu => hv u (List.mem_cons_of_mem _ hu)
    obtain ⟨⟨a, xs, e, ⟨o, ho, hc, n, hd⟩, i⟩, hne⟩ := hv v List.mem_cons_self
    have : ∃ f t, xs[0]? = some (.int f t) := by
      rcases xs with ⟨l⟩
      generalize k v = ns at i hne
      cases i with
      | nil => exact absurd rfl hne
      | cons f t _ => exact ⟨f, t, rfl⟩
    obtain ⟨f, t, hf⟩ := this
    exact ⟨_, .cons ⟨a, o, xs, n, e, ho, hc, hd, hf, fun _ => ⟨f, t, rfl⟩, fun z => by cases z⟩ r⟩
theorem tups_sortable {a : Addr} {vs : List Value} {k : Value → List Int} (h0 : 0 < vs.length) (hp : ∀ v ∈ vs, TS.TupInts s.heap v (k v) ∧ k v ≠ []) (ha : ∀ o, s.heap.get? a = some o → o.cls ≠ .type "tuple") : SrtO.SortableO prog w A s a vs fun v u => lexI (k v) (k u) := by
  intro h' keep
  have hp' : ∀ v ∈ vs, TS.TupInts h' v (k v) ∧ k v ≠ [] := fun v hm => ⟨(hp v hm).1.keeps fun b o e c => keep b o (fun z => by subst z; exact ha o e c) e, (hp v hm).2⟩
  obtain ⟨fs, ht⟩ := tups_of hp'
  have hl : ∀ {vs fs : List Value}, TupsOf h' (fun _ => false) vs fs → fs.length = vs.length := by
    intro vs fs r
    induction r with
    | nil => rfl
    | cons _ _ ih => rw [List.length_cons, List.length_cons, ih]
  refine ⟨tuples' true, fun Q E hq => ?_, tups_cmp (s := { s with heap := h' }) fun v hm => (hp' v hm).1⟩
  exact tup_kind (s := { s with heap := h' }) (by rw [hl ht]; exact h0) ht hq
theorem sorted_tupsO {l : Addr} {vs : List Value} {k : Value → List Int} {Q : Value → Shared → Prop} (hl : s.heap.IsList l vs.toArray) (hz : vs.length ≤ sizeLine) (hp : ∀ v ∈ vs, TS.TupInts s.heap v (k v)) (hne : 2 ≤ vs.length → ∀ v ∈ vs, k v ≠ [])
    (h : ∀ out : List Value, SrtO.Srtd (fun v u => lexI (k v) (k u)) out → SrtO.Stb (fun v u => lexI (k v) (k u)) out vs → Q (.ref (s.heap.objs.size + 1)) { s with heap := sortedAll s.heap vs out.toArray }) :
    wpAny (model prog w) A (call (.builtin "sorted") [.ref l]) Q E s := by
  refine SrtO.sorted_ord (swo_lexI k) hl hz (fun h2 h₁ a ha kk => ?_) h
  refine tups_sortable (s := { s with heap := h₁ }) (by omega) (fun v hm => ⟨(hp v hm).keeps fun b o e _ => (kk b o e).2, hne h2 v hm⟩) fun o e => ?_
  have e' : some o = some (seqObj "list" vs.toArray 0) := e.symm.trans ha
  cases e'
  intro c
  exact absurd (Value.type.inj c) (by decide)
end
def rSortTI (K : PySem.W.Frag) : List V → Hp → VK → Prop := fun vs H Q => ∃ (a : Addr) (xs : List V), vs = [V.ref a] ∧ SqL K H a xs ∧ (∀ x ∈ xs, ∃ ns, TupI K H x ns ∧ (2 ≤ xs.length → ns ≠ [])) ∧
  ∀ (ys : List V) (p : Addr), ys.Perm xs → ys.Pairwise (fun x y => ∀ n m, TupI K H x n → TupI K H y m → lexI m n = false) → H p = none → Q (.ref p) (upd H p (.lst ys))
theorem cr_sortTI {X : Cx} : CallR X (.builtin "sorted") (rSortTI X.K) := by
  intro pins s σ H vs us Q I r h
  obtain ⟨a, xs, rfl, hs, hx, q⟩ := h
  obtain ⟨its, rv, hl, hz⟩ := I.list hs
  rw [Vals.ref1 r]
  obtain ⟨e1, e2⟩ := bkV_refs rv fun x m => by
    obtain ⟨ns, ⟨t, e, _⟩, _⟩ := hx x m
    exact ⟨t, e⟩
  have hlen : its.length = xs.length := by rw [e1, List.length_map]
  have key : ∀ v ∈ its, ∃ ns, TS.TupInts s.heap v ns ∧ (2 ≤ xs.length → ns ≠ []) := fun v hv => by
    obtain ⟨t, rfl⟩ := e2 v hv
    have hm : V.ref t ∈ xs := by
      rw [e1]
      exact List.mem_map.mpr ⟨_, hv, rfl⟩
    obtain ⟨ns, ⟨t', e, ht⟩, hn⟩ := hx _ hm
    cases e
    exact ⟨ns, tupI_raw I ht, hn⟩
  refine sorted_tupsO (k := TS.intsOf s.heap) hl.isList (by rw [← rv.length]; exact hz) (fun v hv => ?_) (fun h2 v hv => ?_) fun out h1 h2 => ?_
  · obtain ⟨ns, h1, _⟩ := key v hv
    rw [h1.ints]; exact h1
  · obtain ⟨ns, h1, h3⟩ := key v hv
    rw [h1.ints]; exact h3 (by rw [← hlen]; exact h2)
  · have hperm : out.Perm its := h2.perm
    obtain ⟨ep, he'⟩ := PyProof.Rows.sortedAll_at s.heap its out.toArray
    have h3 : ∀ u ∈ out, ∃ a, u = Value.ref a := fun u hu => e2 u (hperm.mem_iff.mp hu)
    have hp : (out.map bkV).Perm xs := by
      rw [e1]
      exact hperm.map bkV
    have hlen : (out.map bkV).length ≤ sizeLine := by
      rw [hp.length_eq]
      exact hz
    refine ⟨.ref _, upd H (s.heap.objs.size + 1) (.lst (out.map bkV)), I.laid (t' := s.toks) (fun _ _ => PyProof.Rows.sortedAll_old) (Nat.le_succ _) ⟨hlen, out, ep, bkV_vals h3, he'⟩, rfl, q _ _ hp ?_ (I.hok.fresh (Nat.le_succ _))⟩
    rw [List.pairwise_map]
    refine List.Pairwise.imp (fun {u v} huv n m hn hm => ?_) h1
    obtain ⟨t, et, ht⟩ := hn
    obtain ⟨t', et', ht'⟩ := hm
    have eu := bkV_ref et
    have ev := bkV_ref et'
    have i1 : TS.intsOf s.heap u = n := by
      rw [eu]
      exact (tupI_raw I ht).ints
    have i2 : TS.intsOf s.heap v = m := by
      rw [ev]
      exact (tupI_raw I ht').ints
    rw [← i1, ← i2]
    exact huv
/-! ### data -/
def sortT (nss : List (List Int)) : List (List Int) := nss.mergeSort fun a b => !lexI b a
theorem sortT_perm (nss : List (List Int)) : (sortT nss).Perm nss := List.mergeSort_perm _ _
theorem sortT_sorted (nss : List (List Int)) : (sortT nss).Pairwise fun a b => lexI b a = false :=
  (List.pairwise_mergeSort (le := fun a b => !lexI b a) (fun a b c h1 h2 => by
    simp only [Bool.not_eq_true'] at *
    exact lexI_tr h1 h2) (fun a b => by
    cases h : lexI b a with
    | false => rfl
    | true => rw [lexI_asym h]; rfl) nss).imp fun h => by simpa using h
def tupsI : List D → Option (List (List Int))
  | [] => some []
  | .tup ds :: r => (intsOf ds).bind fun ns => (tupsI r).map fun nss => ns :: nss
  | _ => none
def oSortA : List D → Option R
  | [.lst ds] => match intsOf ds with
    | some ns => some (.own (.lst ((sortI ns).map .int)))
    | none => (tupsI ds).bind fun nss => if nss.length < 2 ∨ nss.all (fun ns => !ns.isEmpty) = true then some (.own (.lst ((sortT nss).map fun ns => .tup (ns.map .int)))) else none
  | _ => none
section
variable {K : PySem.W.Frag} {S H : Hp}
theorem intsOf_eq : ∀ {ds : List D} {ns : List Int}, intsOf ds = some ns → ds = ns.map D.int
  | [], _, h => by cases h; rfl
  | .int i :: ds, _, h => by
    rw [intsOf] at h
    obtain ⟨ns', h1, rfl⟩ := map_some h
    rw [List.map_cons, ← intsOf_eq h1]
  | .non :: _, _, h => by cases h
  | .bl _ :: _, _, h => by cases h
  | .str _ :: _, _, h => by cases h
  | .tup _ :: _, _, h => by cases h
  | .lst _ :: _, _, h => by cases h
  | .dic _ :: _, _, h => by cases h
  | .scr _ :: _, _, h => by cases h
theorem tupsI_eq : ∀ {ds : List D} {nss : List (List Int)}, tupsI ds = some nss → ds = nss.map fun ns => D.tup (ns.map .int)
  | [], _, h => by cases h; rfl
  | .tup es :: ds, _, h => by
    rw [tupsI] at h
    obtain ⟨ns, h1, h2⟩ := bind_some h
    obtain ⟨nss, h3, rfl⟩ := map_some h2
    rw [List.map_cons, ← tupsI_eq h3, intsOf_eq h1]
  | .non :: _, _, h => by cases h
  | .bl _ :: _, _, h => by cases h
  | .int _ :: _, _, h => by cases h
  | .str _ :: _, _, h => by cases h
  | .lst _ :: _, _, h => by cases h
  | .dic _ :: _, _, h => by cases h
  | .scr _ :: _, _, h => by cases h
theorem ints_vals : ∀ {vs : List V} {ns : List Int}, Reps K S vs (ns.map D.int) → vs = ns.map V.int
  | _, [], r => by cases r; rfl
  | _, n :: ns, r => by
    cases r with
    | cons r1 rt => cases r1; rw [List.map_cons, ints_vals rt]
theorem rep_tupI {x : V} {ns : List Int} (ex : Same S H) (r : Rep K S x (.tup (ns.map .int))) : TupI K H x ns := by
  obtain ⟨a, vs, rfl, h1, h2⟩ := See.tup (.of r) ex
  rw [ints_vals h2] at h1
  exact ⟨a, rfl, h1⟩
theorem perm_reps {ys us : List V} (hp : ys.Perm us) : ∀ {nss : List (List Int)}, Reps K S us (nss.map fun ns => D.tup (ns.map .int)) → ∃ nss' : List (List Int), nss'.Perm nss ∧ Reps K S ys (nss'.map fun ns => D.tup (ns.map .int)) := by
  induction hp with
  | nil => intro nss r; cases nss with | nil => exact ⟨[], .refl _, .nil⟩ | cons _ _ => cases r
  | cons x _ ih =>
    intro nss r
    cases nss with
    | nil => cases r
    | cons n nss =>
      cases r with
      | cons r1 rt =>
        obtain ⟨nss', h1, h2⟩ := ih rt
        exact ⟨n :: nss', h1.cons n, .cons r1 h2⟩
  | swap x y l =>
    intro nss r
    cases nss with
    | nil => cases r
    | cons n nss =>
      cases r with
      | cons r1 rt =>
        cases nss with
        | nil => cases rt
        | cons m nss =>
          cases rt with
          | cons r2 rt => exact ⟨m :: n :: nss, .swap n m nss, .cons r2 (.cons r1 rt)⟩
  | trans _ _ ih1 ih2 =>
    intro nss r
    obtain ⟨n1, p1, r1⟩ := ih2 r
    obtain ⟨n2, p2, r2⟩ := ih1 r1
    exact ⟨n2, p2.trans p1, r2⟩
theorem pair_reps (ex : Same S H) : ∀ {ys : List V} {nss : List (List Int)}, Reps K S ys (nss.map fun ns => D.tup (ns.map .int)) → ys.Pairwise (fun x y => ∀ n m, TupI K H x n → TupI K H y m → lexI m n = false) → nss.Pairwise fun a b => lexI b a = false
  | _, [], _, _ => .nil
  | _, n :: nss, r, h => by
    cases r with
    | cons r1 rt =>
      rw [List.pairwise_cons] at h
      refine .cons (fun m hm => ?_) (pair_reps ex rt h.2)
      obtain ⟨i, hi⟩ := List.mem_iff_getElem?.mp hm
      obtain ⟨v, h1, h2⟩ := rt.get (i := i) (d := .tup (m.map .int)) (by rw [List.getElem?_map, hi]; rfl)
      exact h.1 v (List.mem_of_getElem? h1) n m (rep_tupI ex r1) (rep_tupI ex h2)
def rSortA (K : PySem.W.Frag) : List V → Hp → VK → Prop := fun xs H Q => rSortedI K xs H Q ∨ rSortTI K xs H Q
theorem c_sort {X : Cx} : CallR X (.builtin "sorted") (rSortA X.K) := CallR.or cr_sortedI cr_sortTI
theorem s_sortA : SoundN K (rSortA K) oSortA := fun S H vs ds res ex s e Q k => by
  unfold oSortA at e
  split at e
  · rename_i es
    obtain ⟨v, rfl, s1⟩ := s.one
    obtain ⟨a, us, rfl, h1, h2⟩ := s1.lst' ex
    split at e
    · rename_i ns h
      cases e
      refine .inl ⟨a, ns, rfl, by rw [← intsOf_rep h h2]; exact .inl (.inl h1), fun ns' p hp hs hn => ?_⟩
      rw [PySem.W.ksm_same (hp.trans (sortI_perm ns).symm) hs (sortI_sorted ns)]
      exact k _ _ _ (.lst ex hn (Reps.ints _))
    · obtain ⟨nss, h3, h4⟩ := bind_some e
      split at h4
      · rename_i hc
        cases h4
        rw [tupsI_eq h3] at h2
        have hlen : us.length = nss.length := by rw [h2.length]; simp
        refine .inr ⟨a, us, rfl, .inl (.inl h1), fun x hx => ?_, fun ys p hp hs hn => ?_⟩
        · obtain ⟨i, hi⟩ := List.mem_iff_getElem?.mp hx
          obtain ⟨d, h5, h6⟩ := h2.getV hi
          rw [List.getElem?_map] at h5
          cases hn : nss[i]? with
          | none => rw [hn] at h5; cases h5
          | some n =>
            rw [hn] at h5
            cases h5
            refine ⟨n, rep_tupI ex h6, fun h7 => ?_⟩
            rcases hc with hc | hc
            · omega
            · have := List.all_eq_true.mp hc n (List.mem_of_getElem? hn)
              intro z
              rw [z] at this; cases this
        · obtain ⟨nss', hp', hr⟩ := perm_reps hp h2
          have hsrt := pair_reps ex hr hs
          have : nss' = sortT nss := (hp'.trans (sortT_perm nss).symm).eq_of_pairwise (fun x y _ _ h1 h2 => lexI_total h2 h1) hsrt (sortT_sorted nss)
          rw [this] at hr
          exact k _ _ _ (.lst ex hn hr)
      · cases h4
  · cases e
end
end FL
namespace FL
open PySem L2
open PySem.Spec PyProof.Rows PySem.W
/-! # list(range(a, b, c)) -/
theorem vals_rgC {i c : Int} {n : Nat} {acc : Array Value} (h : ItemsOf (fun j v => ∃ t, v = .int (i + j * c) t) acc n) : Vals ((List.range n).map fun (j : Nat) => V.int (i + (j : Int) * c)) acc.toList := by
  have e : acc.toList.length = n := by rw [Array.length_toList]; exact h.1
  rw [← e]
  refine vals_of_get acc.toList _ fun j u hj => ?_
  obtain ⟨t, rfl⟩ := h.2 j u (by rw [← hj, Array.getElem?_toList])
  exact ⟨t, rfl⟩
def tLstRgC (ta : TA) : TE := fun σ H Q => ta σ H fun vs H1 => ∃ (i j c : Int) (n : Nat), vs = [.int i, .int j, .int c] ∧ RgC i j c n ∧ n ≤ 1000000 ∧ ∀ q, H1 q = none → Q (.ref q) (upd H1 q (.lst ((List.range n).map fun (k : Nat) => V.int (i + (k : Int) * c))))
section
variable {X : Cx} {a b c : Expr} {ta : TA} {f g h : Ev}
theorem pe_listRgC {p pos p2 pos2 : Pos} (hc : X.calm = true) (hgl : Gl X "list") (hml : X.mg "list" = none) (hg : Gl X "range") (hm : X.mg "range" = none) (ha : PA X [a, b, c] ta)
    (hs : starEach [a, b, c] X.env = (false, eval a X.env) :: starEach [b, c] X.env := by rfl) (hpl : (backTo pos2 (starEach [b, c] X.env)).any (·.1) = false := by rfl)
    (na : starEach [.Call (.Name "range" p2) [a, b, c] [] pos2] X.env = (false, eval (.Call (.Name "range" p2) [a, b, c] [] pos2) X.env) :: starEach [] X.env := by rfl) :
    PE X (.Call (.Name "list" p) [.Call (.Name "range" p2) [a, b, c] [] pos2] [] pos) (tLstRgC ta) := by
  refine ⟨fun pins s σ H Q I h => ?_⟩
  have inner : wpAny (model X.prog X.w) X.A (eval (.Call (.Name "range" p2) [a, b, c] [] pos2) X.env) (fun x s' => ∃ r i j k n t u v H', x = .ref r ∧ IsRange s'.heap r i j k t u v ∧ Inv X pins σ H' s' ∧ RgC i j k n ∧ n ≤ 1000000 ∧ ∀ q, H' q = none → Q (.ref q) (upd H' q (.lst ((List.range n).map fun (m : Nat) => V.int (i + (m : Int) * k))))) X.xe s := by
    refine Call_ (ld_blt I hg hm boot_range (PyProof.Rows.callWith_type1 (thn (ha.run pos2 pins s σ H _ I h) fun us s1 ⟨vs, H1, I1, r1, q1⟩ => ?_) hs hpl))
    obtain ⟨i, j, k, n, e, ⟨c0, c1, c2, c3⟩, hn, q⟩ := q1
    subst e
    cases r1 with
    | cons r rr =>
      cases rr with
      | cons r' rr =>
        cases rr with
        | cons r'' rr =>
          cases rr
          obtain ⟨t, rfl⟩ := r
          obtain ⟨t', rfl⟩ := r'
          obtain ⟨t'', rfl⟩ := r''
          refine call_range_3 c0 ?_ (.inl (PyProof.noPylong_small c1))
          exact ⟨_, i, j, k, n, _, _, _, H1, rfl, IsRange.new .., I1.kept (t' := s1.toks) fun b o e => Heap.get?_push_of_some _ e, ⟨c0, c1, c2, c3⟩, hn, q⟩
  refine Call_ (ld_blt I hgl hml boot_list (PyProof.Rows.callWith_type1 (args_cons (thn inner fun x s1 ⟨r, i, j, k, n, t, u, v, H1, ex, hr, I1, ⟨c0, c1, c2, c3⟩, hn, q⟩ => args_nil ?_) na) na))
  subst ex
  refine call_list_range (n := n) (I1.ok.hd hc) hr c2 c3 (Nat.le_trans hn (by decide)) fun h' tk acc c' hk e' hi => ?_
  refine ⟨.ref s1.heap.objs.size, upd H1 s1.heap.objs.size (.lst ((List.range n).map fun (m : Nat) => V.int (i + (m : Int) * k))), I1.laid hk (Nat.le_refl _) (show ObjOk X.prog X.w _ _ _ (.lst _) from ⟨?_, acc.toList, c', vals_rgC hi, ?_⟩), rfl, q _ (I1.hok.fresh (Nat.le_refl _))⟩
  · rw [List.length_map, List.length_range, sizeLine_eq]; omega
  · rw [Array.toArray_toList]; exact e'
def fListIt (it : Iv) : Ev := fun ρ => (it ρ).bind fun p => if p.1.length ≤ cap then some (.own (.lst p.1), p.2) else none
theorem ve_listRg3 {p pos p2 pos2 : Pos} (hcalm : X.calm = true) (hgl : Gl X "list") (hml : X.mg "list" = none) (hg : Gl X "range") (hm : X.mg "range" = none) (ha : VE X a f) (hb : VE X b g) (hc : VE X c h)
    (hs : starEach [a, b, c] X.env = (false, eval a X.env) :: starEach [b, c] X.env := by rfl) (hs2 : starEach [b, c] X.env = (false, eval b X.env) :: starEach [c] X.env := by rfl) (hs3 : starEach [c] X.env = (false, eval c X.env) :: starEach [] X.env := by rfl)
    (hpl : (backTo pos2 (starEach [b, c] X.env)).any (·.1) = false := by rfl)
    (na : starEach [.Call (.Name "range" p2) [a, b, c] [] pos2] X.env = (false, eval (.Call (.Name "range" p2) [a, b, c] [] pos2) X.env) :: starEach [] X.env := by rfl) :
    VE X (.Call (.Name "list" p) [.Call (.Name "range" p2) [a, b, c] [] pos2] [] pos) (fListIt (itRg3 f g h)) :=
  (pe_listRgC hcalm hgl hml hg hm (pa_cons ha (pa_cons hb (pa_cons hc pa_nil hs3) hs2) hs) hs hpl na).imp fun σ H Q q => by
    obtain ⟨S, ρ, r, ρ', E, e, k⟩ := q
    obtain ⟨z, e0, e00⟩ := bind_some e
    obtain ⟨p, e1, e2⟩ := bind_some e0
    obtain ⟨p2, e3, e4⟩ := bind_some e2
    obtain ⟨p3, e5, e6⟩ := bind_some e4
    refine bin (G := fun u v H2 => tV X.K h σ H2 fun w H3 => ∃ (i j c : Int) (n : Nat), [u, v, w] = [V.int i, V.int j, V.int c] ∧ RgC i j c n ∧ n ≤ 1000000 ∧ ∀ q, H3 q = none → Q (.ref q) (upd H3 q (.lst ((List.range n).map fun (k : Nat) => V.int (i + (k : Int) * c))))) E e1 e3 fun u v S2 H2 c => ?_
    refine ⟨S2, p2.2, p3.1, p3.2, c.env, e5, fun w S3 H3 c3 => ?_⟩
    split at e6
    · rename_i m n cc h1 h2 h3
      split at e6
      · rename_i hb
        cases e6
        split at e00
        · rename_i hcap
          cases e00
          cases c.rep with
          | cons hu _ ht =>
            cases ht with
            | cons hv _ _ =>
              rw [h1] at hu
              rw [h2] at hv
              have hw := c3.rep1
              rw [h3] at hw
              cases hu
              cases hv
              cases hw
              refine ⟨m, n, cc, _, rfl, ⟨hb.1, hb.2.1, hb.2.2.1, (Int.toNat_of_nonneg hb.2.2.2).symm⟩, ?_, fun q hq => ?_⟩
              · simp only [rgD, List.length_map, List.length_range] at hcap
                exact hcap
              · refine k _ _ _ (Cur.fin (c.then c3) (.lst c3.env.ex hq ?_))
                have : rgD m cc (Builtin.Range.rangeSize m n cc).toNat = ((List.range (Builtin.Range.rangeSize m n cc).toNat).map fun (i : Nat) => m + (i : Int) * cc).map D.int := by
                  rw [List.map_map]; rfl
                rw [this]
                have h4 : ((List.range (Builtin.Range.rangeSize m n cc).toNat).map fun (k : Nat) => V.int (m + (k : Int) * cc)) = ((List.range (Builtin.Range.rangeSize m n cc).toNat).map fun (i : Nat) => m + (i : Int) * cc).map V.int := by
                  rw [List.map_map]; rfl
                rw [h4]
                exact Reps.ints _
        · cases e00
      · cases e6
    · cases e6
end
end FL
namespace FL
open PySem PySem.Spec PySem.Calls PyProof PyProof.Rows
open L2
section
variable {P : Program} {w : World} {A : Around} {E : Value → Shared → Prop} {s : Shared}
theorem call_set_lstI {l : Addr} {vals : Array Value} (ns : List Int) {Q : Value → Shared → Prop} (hh : A.handled = none) (hl : s.heap.IsList l vals) (hit : IntsAre vals.toList ns) (hb : ns.length + 1 < scanBound)
    (h : ∀ (h' : Heap) (tk c : Nat), SetR w h' s.heap.objs.size (fun j => decide (j ∈ ns)) c → c ≤ ns.length → (∀ b o, s.heap.get? b = some o → h'.get? b = some o) → Q (.ref s.heap.objs.size) { s with heap := h', toks := tk }) :
    wpAny (model P w) A (call (.type "set") [.ref l]) Q E s := by
  have hsz : vals.size = ns.length := by
    have q := IntsAre.length hit
    rw [Array.length_toList] at q
    exact q
  obtain ⟨c, tl, hmro⟩ := F.called_set.mro
  have hmade := F.called_set.made
  have hsub := F.called_set.sub
  refine wpAny_call (codeAny_of_tree ?_)
  show wpAny _ _ (callAny (.type "set") _) _ _ _
  refine wpAny_pure ⟨Code.quiet_builtin _ (by decide +kernel), codeAny_builtin F.entry_type_call ?_⟩
  rw [Around.under_plain (weight_type_call_type "set" [.ref l] []) rfl]
  have h1 := F.called_set.notType
  have h2 := F.called_set.canCreate
  have hct := F.typeCall_set_1 (.ref l)
  repeat (any_goals (first | assumption | wp_step))

  refine codeAny_mono (code_set_led1 (.ref l) (E := E) (Q₁ := fun obj s₁ => obj = .ref s.heap.objs.size ∧ s₁ = { s with heap := s.heap.push { cls := .type "set", dict := none, data := .set #[] 0 (.fresh 0 0 (!w.params.followText "set-order")) } }) ⟨rfl, rfl⟩) fun r s₁ hr => ?_
  cases r with
  | error e => exact hr
  | ok fl =>
    cases fl with
    | ret obj =>
      obtain ⟨rfl, rfl⟩ := hr
      have hSet : (s.heap.push { cls := .type "set", dict := none, data := .set #[] 0 (.fresh 0 0 (!w.params.followText "set-order")) }).get? s.heap.objs.size = some { cls := .type "set", dict := none, data := .set #[] 0 (.fresh 0 0 (!w.params.followText "set-order")) } := Heap.get?_push_size _ rfl
      have hT : Shared.TypeIs { s with heap := s.heap.push { cls := .type "set", dict := none, data := .set #[] 0 (.fresh 0 0 (!w.params.followText "set-order")) } } (.ref s.heap.objs.size) "set" := ⟨_, hSet, rfl⟩
      have hli := F.called_set.init.lookup
      have hbi := F.called_set.init.bind (.ref s.heap.objs.size)
      repeat (any_goals (first | assumption | wp_step))

      refine codeAny_mono (codeAny_call_builtin (R := wants (fun r s₂ => r = .none ∧ ∃ h' tk c, s₂ = { s with heap := h', toks := tk } ∧ SetR w h' s.heap.objs.size (fun j => decide (j ∈ ns)) c ∧ c ≤ ns.length ∧
          (∀ b o, s.heap.get? b = some o → h'.get? b = some o)) E) F.called_set.init.plain F.entry_set_init (check_set_init_1 hT ?_)) fun r₂ s₂ hr₂ => ?_
      · obtain ⟨ol, hobj, hcl, nl, hdl⟩ := hl
        obtain ⟨ocls, odict, odata, oslots⟩ := ol
        simp only at hcl hdl
        subst hcl; subst hdl
        have hobj' : (s.heap.push { cls := .type "set", dict := none, data := .set #[] 0 (.fresh 0 0 (!w.params.followText "set-order")) }).get? l = some { cls := .type "list", dict := odict, data := .seq vals nl, slots := oslots } := Heap.get?_push_of_some _ hobj
        have hsls := F.sub_list_set
        have hslf := F.sub_list_frozenset
        have hne : (Value.type "list" == Value.type "dict") = false := by decide
        have hL1 : (s.heap.push { cls := .type "set", dict := none, data := .set #[] 0 (.fresh 0 0 (!w.params.followText "set-order")) }).IsList l vals := ⟨_, hobj', rfl, nl, rfl⟩
        unfold Builtin.«set.__init__» noKeywords Builtin.Frozenset.updateFrom
        generalize hPI : pyIter = PI
        wp_walk
        subst hPI

        refine wpAny_pyIter_list hL1 ?_
        refine wpAny_bind (wpAny_runValue ?_)
        have hLt : l < s.heap.objs.size := Heap.lt_size hobj
        have hh3 : A.in1.in1.in1.handled = none := by simp [hh]
        have hz : (s.heap.push { cls := .type "set", dict := none, data := .set #[] 0 (.fresh 0 0 (!w.params.followText "set-order")) }).objs.size = s.heap.objs.size + 1 := Heap.size_push ..
        have hNe : l ≠ (s.heap.push { cls := .type "set", dict := none, data := .set #[] 0 (.fresh 0 0 (!w.params.followText "set-order")) }).objs.size := by
          rw [Heap.size_push]; exact Nat.ne_of_lt (Nat.lt_succ_of_lt hLt)
        have hSf : s.heap.objs.size ∉ [(s.heap.push { cls := .type "set", dict := none, data := .set #[] 0 (.fresh 0 0 (!w.params.followText "set-order")) }).objs.size, l] := by
          rw [Heap.size_push]; simp only [List.mem_cons, List.mem_singleton, List.not_mem_nil, or_false, not_or]
          exact ⟨Nat.ne_of_lt (Nat.lt_succ_self _), Nat.ne_of_gt hLt⟩
        have hVals : ∀ (i : Nat) (v : Value), vals[i]? = some v → ∃ k t, ns[i]? = some k ∧ v = .int k t := fun i v hv => by
          have hi : i < ns.length := by rw [← hsz]; exact (Array.getElem?_eq_some_iff.mp hv).1
          obtain ⟨t, e⟩ := PyProof.Rows.IntsAre.int_at hit i v (by rw [Array.getElem?_toList]; exact hv)
          refine ⟨ns[i], t, List.getElem?_eq_getElem hi, ?_⟩
          rw [e, List.getD_eq_getElem?_getD, List.getElem?_eq_getElem hi] <;> rfl
        refine set_update_ints ((Walks.list hh3 _ l hNe vals).toS) s.heap.objs.size
          hSf ns hsz hb hVals (vals.size - 0) 0 _ (by omega) (Nat.zero_le _)
          ⟨⟨_, Heap.get?_push_size _ rfl, rfl, rfl⟩, (hL1.push _)⟩ ?hS0 ?hR
        case hS0 =>
          have hget : ((s.heap.push { cls := .type "set", dict := none, data := .set #[] 0 (.fresh 0 0 (!w.params.followText "set-order")) }).push { cls := .type "list_iterator", data := .fields #[.ref l, .int 0 0] }).get? s.heap.objs.size
              = some { cls := .type "set", dict := none, data := .set #[] 0 (.fresh 0 0 (!w.params.followText "set-order")) } := Heap.get?_push_of_some _ hSet
          exact ⟨0, Nat.le_refl 0, setR_new_at hget⟩
        case hR =>
          intro s' c' hm hc' hSet'
          obtain ⟨h', g2, d', tk', os'⟩ := s'
          have eg : g2 = s.gens := hm.gens
          have ed : d' = s.drawn := hm.drawn
          have eo : os' = s.os := hm.os
          subst eg; subst ed; subst eo
          show wpAny _ _ _ _ _ _
          refine wpAny_pure ?_
          show wpAny _ _ (ret Value.none) _ _ _
          rw [hsz] at hc'
          refine wpAny_pure ⟨rfl, h', tk', c', rfl, hSet', hc', fun b o e => ?_⟩
          have hb0 : b < s.heap.objs.size := Heap.lt_size e
          have hb1 : b ≠ s.heap.objs.size := Nat.ne_of_lt hb0
          have hb2 : b ≠ (s.heap.push { cls := .type "set", dict := none, data := .set #[] 0 (.fresh 0 0 (!w.params.followText "set-order")) }).objs.size := by
            rw [Heap.size_push]; exact Nat.ne_of_lt (Nat.lt_succ_of_lt hb0)
          exact hm.heap b o (by simp only [List.mem_cons, List.mem_singleton, List.not_mem_nil, or_false, not_or]; exact ⟨hb1, hb2⟩) (Heap.get?_push_of_some _ (Heap.get?_push_of_some _ e))

      · cases r₂ with
        | error e => exact hr₂
        | ok fl₂ =>
          cases fl₂ with
          | ret r =>
            obtain ⟨rfl, h', tk, c', rfl, hSet', hc', hk'⟩ := hr₂
            repeat (any_goals (first | assumption | wp_step))
            exact h _ _ _ hSet' hc' hk'
          | _ => exact hr₂.elim
    | _ => exact hr.elim
end
end FL
namespace FL
open PySem L2 PyProof.Rows

/-! ### xs[i] += e, xs the list of a slot -/
theorem get_list {X : Cx} : PGet X (rIxL X.K) := by
  intro pins s σ H o i ov iv Q I ro ri h
  obtain ⟨p, xs, k, z, rfl, rfl, hq, he, q⟩ := h
  cases ro
  obtain ⟨t, rfl⟩ := ri
  obtain ⟨its, r, pl, hz⟩ := I.list hq
  obtain ⟨j, h1, h2, h3, h4, h5⟩ := atI_get he
  obtain ⟨w, ew, rw'⟩ := r.get h2
  have hl := r.length
  have hn := line63
  by_cases h0 : 0 ≤ k
  · have hj : k.toNat = j := by
      rw [seqIndex_of h0 h5] at h1
      exact Option.some.inj h1
    exact wpAny_getItem_list (Q := EP X pins σ Q) pl.isList h0 (by omega) (by rw [hj]; simpa using ew) ⟨z, H, I, rw', q⟩
  · have hj : (k + (its.toArray.size : Int)).toNat = j := by
      rw [seqIndex_neg (by omega) h4] at h1
      rw [List.size_toArray, ← hl]
      exact Option.some.inj h1
    exact wpAny_getItem_list_neg (Q := EP X pins σ Q) pl.isList (by omega) (by rw [List.size_toArray] <;> omega) (by omega) (by rw [hj]; simpa using ew) ⟨z, H, I, rw', q⟩

section
variable {X : Cx} {e a b c : Expr} {f g : Ev} {fi : Ev} {pos tpos : Pos}
def sAugL (i : Nat) (fi f : Ev) : Stm := fun ρ => match ρ[i]? with
  | some (.own _ _) => (fi ρ).bind fun p => match p.1 with
    | .val (.int k) => match p.2[i]? with
      | some (.own _ (.lst xs)) => match atI xs k with
        | some (.int m) => (f p.2).bind fun q => match q.1 with
          | .val (.int n) => match q.2[i]? with
            | some (.own pp (.lst ys)) => (ixN ys.length k).map fun j => (.nx, q.2.set i (.own pp (.lst (ys.set j (.int (m + n))))))
            | _ => none
          | _ => none
        | _ => none
      | _ => none
    | _ => none
  | _ => none
theorem vs_augL {i : Nat} {o ix : Expr} (ho : PE X o (tVar i)) (hi : VE X ix fi) (he : VE X e f)
    (ha : ∀ ov iv new, augStore ix ov iv new = (do holding [new, ov, iv] (setItem ov iv new); release [new, ov, iv] []; pure .next) := by intros; rfl) : VS X (.AugAssign (.Subscript o ix tpos) .Add e pos) (sAugL i fi f) :=
  (ps_augS ho hi get_list he ip_add set_list ha).imp fun D σ H q => by
    obtain ⟨S, ρ, oo, ρ', E, e, k⟩ := q
    unfold sAugL at e
    split at e
    · rename_i pp0 d0 h0
      obtain ⟨p, e1, e2⟩ := bind_some e
      obtain ⟨a0, hσ, ow0⟩ := E.own i _ _ h0
      refine ⟨_, hσ, S, ρ, p.1, p.2, E, e1, fun w S1 H1 c1 => ?_⟩
      split at e2
      · rename_i kk hk
        split at e2
        · rename_i pp1 xs hxs
          split at e2
          · rename_i m hat
            obtain ⟨q, e3, e4⟩ := bind_some e2
            have r1 := c1.rep1
            rw [hk] at r1
            cases r1
            obtain ⟨a1, g1, hn, vs, hv, hr⟩ := c1.env.own i _ _ hxs
            rw [hσ] at g1; cases g1
            obtain ⟨v, hv1, hv2⟩ := atI_rep hr hat
            cases hv2
            refine ⟨a0, vs, kk, _, rfl, rfl, .inl (.inl hv), hv1, S1, p.2, q.1, q.2, c1.env, e3, fun y S2 H2 c2 => ?_⟩
            split at e4
            · rename_i n hb
              split at e4
              · rename_i pp2 ys hys
                obtain ⟨j, e5, e6⟩ := map_some e4
                cases e6
                have r2 := c2.rep1
                rw [hb] at r2
                cases r2
                obtain ⟨a2, g2, hn2, us, hu, hru⟩ := c2.env.own i _ _ hys
                rw [hσ] at g2; cases g2
                refine ⟨_, _, rfl, rfl, a0, us, kk, j, rfl, rfl, hu, by rw [hru.length]; exact e5, ?_⟩
                exact k S2 σ _ (c2.env.putOwn hys hσ hn2 ⟨hn2, _, upd_same, hru.set j (.int _)⟩) ((c1.go.trans c2.go).putOwn hys hσ)
              · cases e4
            · cases e4
          · cases e2
        · cases e2
      · cases e2
    · cases e

/-! ### sorted(set(xs)), xs a list of ints -/
def insU (x : Int) : List Int → List Int
  | [] => [x]
  | y :: ys => if x < y then x :: y :: ys else if x = y then y :: ys else y :: insU x ys
def setI : List Int → List Int
  | [] => []
  | x :: xs => insU x (setI xs)
theorem mem_insU {x v : Int} : ∀ {l : List Int}, v ∈ insU x l ↔ v = x ∨ v ∈ l
  | [] => by simp [insU]
  | y :: ys => by
    rw [insU]
    split
    · simp
    · split
      · rename_i h; subst h; simp
      · rw [List.mem_cons, mem_insU, List.mem_cons]
        constructor
        · rintro (h | h | h)
          · exact .inr (.inl h)
          · exact .inl h
          · exact .inr (.inr h)
        · rintro (h | h | h)
          · exact .inr (.inl h)
          · exact .inl h
          · exact .inr (.inr h)
theorem mem_setI {v : Int} : ∀ {l : List Int}, v ∈ setI l ↔ v ∈ l
  | [] => Iff.rfl
  | x :: xs => by rw [setI, mem_insU, mem_setI, List.mem_cons]
theorem asc_insU {x : Int} : ∀ {l : List Int}, l.Pairwise (· < ·) → (insU x l).Pairwise (· < ·)
  | [], _ => by simp [insU]
  | y :: ys, h => by
    rw [List.pairwise_cons] at h
    rw [insU]
    split
    · rename_i hxy
      rw [List.pairwise_cons, List.pairwise_cons]
      refine ⟨fun z hz => ?_, h⟩
      rcases List.mem_cons.mp hz with rfl | hz
      · exact hxy
      · have := h.1 z hz; omega
    · split
      · rw [List.pairwise_cons]; exact h
      · rw [List.pairwise_cons]
        refine ⟨fun z hz => ?_, asc_insU h.2⟩
        rcases mem_insU.mp hz with rfl | hz
        · omega
        · exact h.1 z hz
theorem asc_setI : ∀ l : List Int, (setI l).Pairwise (· < ·)
  | [] => .nil
  | x :: xs => asc_insU (asc_setI xs)
theorem asc_uniq {a b : List Int} (ha : a.Pairwise (· < ·)) (hb : b.Pairwise (· < ·)) (h : ∀ v, v ∈ a ↔ v ∈ b) : a = b := by
  have na : a.Nodup := ha.imp fun h => by omega
  have nb : b.Nodup := hb.imp fun h => by omega
  have hp : a.Perm b := (List.perm_ext_iff_of_nodup na nb).mpr h
  exact hp.eq_of_pairwise (fun x y _ _ h1 h2 => by omega) ha hb
def tSortSet (K : PySem.W.Frag) (ta : TE) : TE := fun σ H Q => ta σ H fun x H1 => ∃ (l : Addr) (ns : List Int), x = .ref l ∧ SqL K H1 l (ns.map V.int) ∧ ns.length ≤ 4000 ∧ (setI ns).length < 64 ∧ ∀ p, H1 p = none → Q (.ref p) (upd H1 p (.lst ((setI ns).map V.int)))
theorem scan_big : 4000 + 1 < scanBound := by decide
theorem pe_sortSet {a : Expr} {ta : TE} {p p2 q pos : Pos} (hg : Gl X "sorted") (hm : X.mg "sorted" = none) (hg2 : Gl X "set") (hm2 : X.mg "set" = none) (ha : PE X a ta) (hc : X.calm = true := by rfl)
    (na : starEach [a] X.env = (false, eval a X.env) :: starEach [] X.env := by rfl) : PE X (.Call (.Name "sorted" p) [.Call (.Name "set" p2) [a] [] q] [] pos) (tSortSet X.K ta) := by
  refine ⟨fun pins s σ H Q I h => ?_⟩
  refine Call_ (ld_blt I hg hm (by decide +kernel : bootBuiltins "sorted" = some (.builtin "sorted")) ?_)
  refine PyProof.Rows.callWith_builtin1 (PyProof.Rows.args_cons ?_ rfl) rfl rfl
  refine Call_ (ld_blt I hg2 hm2 boot_set ?_)
  refine PyProof.Rows.callWith_type1 (PyProof.Rows.args_cons (thn (ha.run pins s σ H _ I h) fun v s1 ⟨x, H1, I1, r1, q1⟩ => PyProof.Rows.args_nil ?_) na) na rfl
  obtain ⟨l, ns, rfl, hq, hl, h64, q1⟩ := q1
  cases r1
  obtain ⟨its, r, pl, hz⟩ := I1.list hq
  refine call_set_lstI ns (I1.ok.hd hc) pl.isList (by simpa using ints_of_vals r) (by have := scan_big; omega) fun h' tk c R hcn hk => ?_
  refine PyProof.Rows.args_nil ?_
  have I2 : Inv X pins σ H1 { s1 with heap := h', toks := tk } := I1.kept fun b o e => hk b o e
  have hlen : c = (setI ns).length := by
    obtain ⟨o, es, ep, t, ho, hex, hd, g, nd, hm, hb, hf, hn, hr, hl2⟩ := R
    have hp : (es.toList.map L2.keyOf).Perm (setI ns) := (List.perm_ext_iff_of_nodup nd ((asc_setI ns).imp fun h => by omega)).mpr fun k => by
      rw [← hm k, decide_eq_true_eq, mem_setI]
    have := hp.length_eq
    rw [← this, ← hn]; simp
  refine sorted_set R (I2.ok.hd hc) (by omega) fun s' p' out c' ms k g o hp hg' hi hs hm' hl' => ?_
  have hms : ms = setI ns := asc_uniq hs (asc_setI ns) fun k => by rw [hm' k, decide_eq_true_eq, mem_setI]
  subst hms
  have hlen' : ((setI ns).map V.int).length ≤ sizeLine := by rw [List.length_map, sizeLine_eq]; omega
  have hn : H1 p' = none := I2.hok.fresh hp
  have J : Inv X pins σ (upd H1 p' (.lst ((setI ns).map V.int))) { ({ s1 with heap := h', toks := tk } : Shared) with heap := s'.heap, gens := s'.gens, drawn := s'.drawn, toks := s'.toks } :=
    I2.call (ch := []) (Un.laid k hp hn) (I2.hok.laid k hp ⟨hlen', out.toList, c', vals_of_ints hi, hg'⟩) (by rw [g]; exact I2.bare) (fun _ z => nomatch z)
  have e : s' = { ({ s1 with heap := h', toks := tk } : Shared) with heap := s'.heap, gens := s'.gens, drawn := s'.drawn, toks := s'.toks } := by
    cases s'
    cases s1
    cases o
    rfl
  rw [e]
  exact ⟨.ref p', _, J, rfl, q1 p' hn⟩
def fSortSet (f : Ev) : Ev := fun ρ => (f ρ).bind fun p => (see p.2 p.1).bind fun d => match d with
  | .lst ds => (intsOf ds).bind fun ns => if ns.length ≤ 4000 ∧ (setI ns).length < 64 then some (.own (.lst ((setI ns).map .int)), p.2) else none
  | _ => none
theorem ve_sortSet {a : Expr} {p p2 q pos : Pos} (hg : Gl X "sorted") (hm : X.mg "sorted" = none) (hg2 : Gl X "set") (hm2 : X.mg "set" = none) (ha : VE X a f) (hc : X.calm = true := by rfl)
    (na : starEach [a] X.env = (false, eval a X.env) :: starEach [] X.env := by rfl) : VE X (.Call (.Name "sorted" p) [.Call (.Name "set" p2) [a] [] q] [] pos) (fSortSet f) :=
  (pe_sortSet hg hm hg2 hm2 ha hc na).imp fun σ H Q q => by
    obtain ⟨S, ρ, r, ρ', E, e, k⟩ := q
    obtain ⟨p, e1, e2⟩ := bind_some e
    obtain ⟨d, e3, e4⟩ := bind_some e2
    refine ⟨S, ρ, p.1, p.2, E, e1, fun v S1 H1 c => ?_⟩
    split at e4
    · rename_i ds
      obtain ⟨ns, e5, e6⟩ := bind_some e4
      split at e6
      · rename_i hl
        cases e6
        obtain ⟨a, us, rfl, h1, h2⟩ := (c.rep1.see c.env e3).lst' c.env.ex
        rw [intsOf_rep e5 h2] at h1
        exact ⟨a, ns, rfl, .inl (.inl h1), hl.1, hl.2, fun p hp => k _ _ _ (c.fin (.lst c.env.ex hp (.ints _)))⟩
      · cases e6
    · cases e4
end
end FL
namespace FL
open PySem L2 PyProof.Rows
section
variable {K : PySem.W.Frag} {S H : Hp} {X : Cx} {e a b c o : Expr} {f g : Ev} {pos tpos apos : Pos}
/-! ### texts -/
def strsOf : List D → Option (List Str)
  | [] => some []
  | .str x :: ds => (strsOf ds).map fun xs => x :: xs
  | _ :: _ => none
theorem strsOf_rep : ∀ {ds : List D} {xs : List Str} {vs : List V}, strsOf ds = some xs → Reps K S vs ds → vs = xs.map V.str
  | [], _, _, h, r => by cases h; cases r; rfl
  | .str x :: ds, xs, vs, h, r => by
    rw [strsOf] at h
    obtain ⟨ys, h1, rfl⟩ := map_some h
    cases r with
    | cons r1 rt => cases r1; rw [List.map_cons, strsOf_rep h1 rt]
  | .non :: _, _, _, h, _ => by cases h
  | .bl _ :: _, _, _, h, _ => by cases h
  | .int _ :: _, _, _, h, _ => by cases h
  | .tup _ :: _, _, _, h, _ => by cases h
  | .lst _ :: _, _, _, h, _ => by cases h
  | .dic _ :: _, _, _, h, _ => by cases h
  | .scr _ :: _, _, _, h, _ => by cases h
theorem reps_strs : ∀ (xs : List Str), Reps K S (xs.map V.str) (xs.map D.str)
  | [] => .nil
  | x :: xs => .cons (.str x) (reps_strs xs)
@[simp] theorem strsOf_map : ∀ xs : List Str, strsOf (xs.map D.str) = some xs
  | [] => rfl
  | x :: xs => by rw [List.map_cons, strsOf, strsOf_map xs]; rfl
/-- sep.join(xs), xs a list of texts -/
def oJoin : D → D → Option R
  | .str z, .lst ds => (strsOf ds).bind fun ys => if (ys.map (·.length)).sum + ys.length * z.length ≤ 1000000 then some (.val (.str (Txt.join z ys))) else none
  | _, _ => none
def fJoin (f g : Ev) : Ev := fOp2 oJoin f g
theorem see_strTy {σ : L2.St} {ρ0 ρ ρ1 ρ2 : List Sl} {S0 S1 S2 H0 H1 H2 : Hp} {v : V} {r : R} {z : Str} (c : Cur K σ ρ0 S0 H0 [v] [r] ρ1 S1 H1) (g : Go σ ρ1 S1 H1 σ ρ2 S2 H2) (E2 : Env K S2 σ H2 ρ2) (h : see ρ2 r = some (.str z)) : v = .str z :=
  ((c.rep1.go c.env g).see E2 h).str
theorem ve_join (ho : VE X o f) (he : VE X e g) (hv : ∀ ρ p, f ρ = some p → ∃ z, p.1 = .val (.str z)) (hs : starEach [e] X.env = [(false, eval e X.env)] := by rfl) (hbase : attributeBase o "join" X.env (eval o X.env) = eval o X.env := by rfl) (hline : (apos.endLine == pos.line) = true := by rfl) :
    VE X (.Call (.Attribute o "join" apos) [e] [] pos) (fJoin f g) := (pe_join ho he hs hbase hline).imp fun σ H Q q => by
  obtain ⟨S, ρ, r, ρ', E, e, k⟩ := q
  obtain ⟨p, e1, e2⟩ := bind_some e
  obtain ⟨p2, e3, e4⟩ := bind_some e2
  obtain ⟨x, e5, e6⟩ := bind_some e4
  obtain ⟨y, e7, e8⟩ := bind_some e6
  obtain ⟨r, e9, e10⟩ := map_some e8
  cases e10
  obtain ⟨z0, hz0⟩ := hv ρ p e1
  refine ⟨S, ρ, p.1, p.2, E, e1, fun u S1 H1 c1 => ⟨?_, S1, p.2, p2.1, p2.2, c1.env, e3, fun v S2 H2 c2 => ?_⟩⟩
  · have q := c1.rep1
    rw [hz0] at q
    cases q
    exact ⟨z0, rfl⟩
  · have cc := c1.cons c2
    cases cc.rep with
    | cons hu _ ht =>
      cases ht with
      | cons hv2 _ _ =>
        have su := hu.see cc.env e5
        have sv := hv2.see cc.env e7
        unfold oJoin at e9
        split at e9
        · rename_i z ds
          obtain ⟨ys, h1, h2⟩ := bind_some e9
          split at h2
          · rename_i hl
            cases h2
            obtain ⟨a, us, rfl, g1, g2⟩ := sv.lst' cc.env.ex
            rw [strsOf_rep h1 g2] at g1
            exact ⟨z, a, ys, su.str, rfl, .inl (.inl (.inl g1)), Nat.le_trans hl (by decide), k _ S2 H2 (cc.fin (.flat cc.env.ex (.str _)))⟩
          · cases h2
        · cases e9
/-- xs.count(n), xs a list of ints -/
def oCount : D → D → Option R
  | .lst ds, .int n => (intsOf ds).map fun ns => .val (.int (ns.count n : Nat))
  | _, _ => none
def fCount (i : Nat) (f : Ev) : Ev := fun ρ => match ρ[i]? with
  | some (.own _ (.lst _)) => (f ρ).bind fun q => match q.2[i]? with
    | some (.own _ (.lst ys)) => match q.1 with
      | .val y => (oCount (.lst ys) y).map fun r => (r, q.2)
      | _ => none
    | _ => none
  | _ => none
theorem ve_count {i : Nat} (ho : PE X o (tVar i)) (he : VE X e f) (hs : starEach [e] X.env = (false, eval e X.env) :: starEach [] X.env := by rfl) (hbase : attributeBase o "count" X.env (eval o X.env) = eval o X.env := by rfl)
    (hfew : ((backTo pos (starEach [e] X.env)).all (fun x => !x.1) && (backToKw pos (keywordEach [] X.env)).all (fun x => x.1.isSome)
      && decide (([e] : List Expr).length + ([] : List Keyword).length + (if ([] : List Keyword).isEmpty then 0 else 1) < 30)) = true := by rfl)
    (hline : (apos.endLine == pos.line) = true := by rfl) (hplain : (backTo pos (starEach [] X.env)).any (·.1) = false := by rfl) :
    VE X (.Call (.Attribute o "count" apos) [e] [] pos) (fCount i f) :=
  (pe_bm PySem.F.plainAttrs_list PySem.F.slot_list_count PySem.F.type_list_count mt_lcount ho (va_cons he va_nil hs) hbase hfew hline hs hplain).imp fun σ H Q q => by
    obtain ⟨S, ρ, r, ρ', E, e, k⟩ := q
    unfold fCount at e
    split at e
    · rename_i pp0 xs0 h0
      obtain ⟨q, e1, e2⟩ := bind_some e
      obtain ⟨a, hσ, hn0, vs0, hv0, hr0⟩ := E.own i _ _ h0
      refine ⟨_, hσ, .inl ⟨rfl, vs0, .inl (.inl hv0)⟩, S, ρ, [q.1], q.2, E, ?_, fun us S1 H1 c1 => ?_⟩
      · show (f ρ).bind _ = _
        rw [e1]; rfl
      · split at e2
        · rename_i pp ys hys
          split at e2
          · rename_i y hy
            obtain ⟨r, e3, e4⟩ := map_some e2
            cases e4
            obtain ⟨a1, g1, hn, vs, hv, hr⟩ := c1.env.own i _ _ hys
            rw [hσ] at g1; cases g1
            unfold oCount at e3
            split at e3
            · rename_i ds n hd
              obtain ⟨ns, h1, rfl⟩ := map_some e3
              cases hd
              cases c1.rep with
              | cons hu hd ht =>
                cases ht
                rw [hy] at hu
                cases hu
                rw [intsOf_rep h1 hr] at hv
                exact ⟨a, ns, n, rfl, rfl, .inl (.inl hv), k _ S1 H1 (c1.fin (.flat c1.env.ex (.int _)))⟩
            · cases e3
          · cases e2
        · cases e2
    · cases e
/-! ### a written table of texts, looked up at once -/
def tabLook (tbl : List (Str × Str)) (z : Str) : Option Str := (tbl.find? fun kv => decide (kv.1 = z)).map (·.2)
def fLook (tbl : List (Str × Str)) (f : Ev) : Ev := fun ρ => (f ρ).bind fun p => match p.1 with
  | .val (.str z) => (tabLook tbl z).map fun v => (.val (.str v), p.2)
  | _ => none
def trsOf (tbl : List (Str × Str)) : List (TE × TE) := tbl.map fun kv => (tC (.str kv.1), tC (.str kv.2))
theorem tPairs_trs (tbl : List (Str × Str)) (σ : L2.St) (H : Hp) (Q : List (V × V) → Hp → Prop) (h : Q (tbl.map fun kv => (V.str kv.1, V.str kv.2)) H) : tPairs (trsOf tbl) σ H Q := by
  induction tbl generalizing Q with
  | nil => exact h
  | cons kv tbl ih => exact ih _ h
def kvsOf (tbl : List (Str × Str)) : List (Key × V) := tbl.map fun kv => (.inr kv.1, .str kv.2)
def isStr : Option V → Str → Bool
  | some (.str y), z => decide (y = z)
  | _, _ => false
theorem isStr_eq {o : Option V} {z : Str} (h : isStr o z = true) : o = some (.str z) := by
  unfold isStr at h
  split at h
  · rw [of_decide_eq_true h]
  · cases h
theorem look_ok (tbl : List (Str × Str)) (h : (tbl.all fun kv => isStr (valV (mergeK [] (kvsOf tbl)) (.inr kv.1)) kv.2) = true) : ∀ z v, tabLook tbl z = some v → valV (mergeK [] (kvsOf tbl)) (.inr z) = some (.str v) := by
  intro z v hz
  unfold tabLook at hz
  obtain ⟨kv, h1, rfl⟩ := map_some hz
  have h2 := List.find?_some h1
  have h3 := List.mem_of_find?_eq_some h1
  have h4 : kv.1 = z := of_decide_eq_true h2
  rw [← h4]
  exact isStr_eq (List.all_eq_true.mp h kv h3)
theorem ve_look {tbl : List (Str × Str)} {keys : List (Option Expr)} {values : List Expr} {dpos : Pos} (hu : X.A.units + 1 < cLine) (hp : PPs X dpos keys values (trsOf tbl)) (hall : keys.all (·.isSome) = true) (hl : keys.length = values.length) (h0 : keys ≠ []) (h15 : keys.length ≤ 15) (ht : tbl.length ≤ 15)
    (hm : ∀ z v, tabLook tbl z = some v → valV (mergeK [] (kvsOf tbl)) (.inr z) = some (.str v)) (hb : VE X b f) (hs : PlainIx b) : VE X (.Subscript (.Dict keys values dpos) b pos) (fLook tbl f) :=
  (pe_dget hu (pe_disp hp hall hl h0 h15) hb hs).imp fun σ H Q q => by
    obtain ⟨S, ρ, r, ρ', E, e, k⟩ := q
    obtain ⟨p, e1, e2⟩ := bind_some e
    split at e2
    · rename_i z hz
      obtain ⟨v, e3, e4⟩ := map_some e2
      cases e4
      intro d hd
      refine tPairs_trs tbl σ _ _ ⟨upd_same, kvsOf tbl, ?_, by unfold kvsOf; simpa using ht, ?_⟩
      · unfold kvsOf
        rw [List.map_map]; rfl
      · have hSd : S d = none := none_of E.ex hd
        have nd : ¬ Owns σ ρ d := fun h => (E.there h).1 hd
        have E1 : Env X.K S σ (upd H d (.dK (mergeK [] (kvsOf tbl)))) ρ := E.mut hSd nd
        have e0 : upd (upd H d (.dK [])) d (.dK (mergeK [] (kvsOf tbl))) = upd H d (.dK (mergeK [] (kvsOf tbl))) := by
          funext x
          by_cases hx : x = d
          · subst hx; rw [upd_same, upd_same]
          · rw [upd_ne hx, upd_ne hx, upd_ne hx]
        rw [e0]
        refine ⟨S, ρ, p.1, p.2, E1, e1, fun u S1 H1 c1 => ?_⟩
        have hd1 : H1 d = some (.dK (mergeK [] (kvsOf tbl))) := c1.go.keep d _ upd_same nd
        have q := c1.rep1
        rw [hz] at q
        cases q
        refine ⟨d, .str v, rfl, ?_, ?_⟩
        · rw [← hm z v e3]
          exact DGet.k (k := .inr z) hd1
        · refine k _ S1 H1 ?_
          have c2 : Cur X.K σ ρ S H [] [] p.2 S1 H1 := by
            refine ⟨c1.env, (Go.refl.mut (.inr hd)).trans c1.go, .nil, fun _ _ h => nomatch h⟩
          exact c2.fin (.flat c2.env.ex (.str _))
    · cases e2
/-! ### sorted(xs), xs a list of texts -/
def sortStr (xs : List Str) : List Str := xs.mergeSort fun a b => !Spec.ltCps b.cps.toList a.cps.toList
theorem str_ext {a b : Str} (h : a.cps.toList = b.cps.toList) : a = b := by
  obtain ⟨x⟩ := a
  obtain ⟨y⟩ := b
  have : x = y := Array.toList_inj.mp h
  rw [this]
theorem le_cps (a b : Str) : (!Spec.ltCps b.cps.toList a.cps.toList) = true ↔ a.cps.toList ≤ b.cps.toList := by
  rw [ltCps_eq]
  simp
theorem sortStr_pw (xs : List Str) : (sortStr xs).Pairwise fun a b => a.cps.toList ≤ b.cps.toList :=
  (List.pairwise_mergeSort (fun a b c h1 h2 => (le_cps a c).mpr (List.le_trans ((le_cps a b).mp h1) ((le_cps b c).mp h2))) (fun a b => by
    rw [Bool.or_eq_true, le_cps, le_cps]
    exact List.le_total _ _) xs).imp fun h => (le_cps _ _).mp h
theorem risingS_pw : ∀ {xs : List Str} {p : Str}, risingS p xs = true → (p :: xs).Pairwise fun a b => a.cps.toList ≤ b.cps.toList
  | [], p, _ => by simp
  | x :: xs, p, h => by
    rw [risingS, Bool.and_eq_true] at h
    have ih := risingS_pw h.2
    rw [List.pairwise_cons]
    refine ⟨fun z hz => ?_, ih⟩
    have h1 := (le_cps p x).mp h.1
    rcases List.mem_cons.mp hz with rfl | hz
    · exact h1
    · exact List.le_trans h1 ((List.pairwise_cons.mp ih).1 z hz)
theorem sortedS_pw {xs : List Str} (h : sortedS xs = true) : xs.Pairwise fun a b => a.cps.toList ≤ b.cps.toList := by
  cases xs with
  | nil => exact .nil
  | cons x xs => exact risingS_pw h
theorem sortStr_uniq {xs ys : List Str} (hp : ys.Perm xs) (h : sortedS ys = true) : ys = sortStr xs :=
  (hp.trans (List.mergeSort_perm _ _).symm).eq_of_pairwise (fun a b _ _ h1 h2 => str_ext (List.le_antisymm h1 h2)) (sortedS_pw h) (sortStr_pw xs)
def oSortB (ds : List D) : Option R := match ds with
  | [.lst xs] => match strsOf xs with
    | some ss => if xs ≠ [] ∧ ss.length < 64 then some (.own (.lst ((sortStr ss).map .str))) else oSortA ds
    | none => oSortA ds
  | _ => oSortA ds
def rSortB (K : PySem.W.Frag) : List V → Hp → VK → Prop := fun xs H Q => rSortedS K xs H Q ∨ rSortA K xs H Q
theorem c_sortB {X : Cx} : CallR X (.builtin "sorted") (rSortB X.K) := CallR.or cr_sortedS c_sort
theorem s_sortB : SoundN K (rSortB K) oSortB := fun S H vs ds res ex s e Q k => by
  unfold oSortB at e
  split at e
  · rename_i xs
    split at e
    · rename_i ss hss
      split at e
      · rename_i hc
        cases e
        obtain ⟨v, rfl, s1⟩ := s.one
        obtain ⟨a, us, rfl, h1, h2⟩ := s1.lst' ex
        rw [strsOf_rep hss h2] at h1
        refine .inl ⟨a, ss, rfl, .inl (.inl h1), hc.2, fun ys p hp hs hn => ?_⟩
        rw [sortStr_uniq hp hs]
        exact k _ _ _ (.lst ex hn (reps_strs _))
      · exact .inr (s_sortA S H vs _ res ex s e Q k)
    · exact .inr (s_sortA S H vs _ res ex s e Q k)
  · exact .inr (s_sortA S H vs _ res ex s e Q k)
end
end FL
namespace FL
open PySem L2
/-! # Meanings evaluated by simp -/
/-! ### slots -/
def varO (i : Nat) (ρ : List Sl) : Option Sl → Option (R × List Sl)
  | some (.val d) => some (.val d, ρ)
  | some (.own _ _) => some (.al i, ρ)
  | _ => none
@[simp] theorem varO_val (i : Nat) (ρ : List Sl) (d : D) : varO i ρ (some (.val d)) = some (.val d, ρ) := rfl
@[simp] theorem varO_own (i : Nat) (ρ : List Sl) (p : Bool) (d : D) : varO i ρ (some (.own p d)) = some (.al i, ρ) := rfl
@[simp] theorem ev_var (i : Nat) (ρ : List Sl) : fVar i ρ = varO i ρ ρ[i]? := by
  unfold fVar varO; rfl
def seeO : Option Sl → Option D
  | some (.own _ d) => some d
  | some (.val d) => some d
  | _ => none
@[simp] theorem seeO_val (d : D) : seeO (some (.val d)) = some d := rfl
@[simp] theorem seeO_own (p : Bool) (d : D) : seeO (some (.own p d)) = some d := rfl
@[simp] theorem see_val (ρ : List Sl) (d : D) : see ρ (.val d) = some d := rfl
@[simp] theorem see_own (ρ : List Sl) (d : D) : see ρ (.own d) = some d := rfl
@[simp] theorem see_al (ρ : List Sl) (i : Nat) : see ρ (.al i) = seeO ρ[i]? := by unfold see seeO; rfl
def takeO (i : Nat) (ρ : List Sl) : Option Sl → Option (D × List Sl)
  | some (.own _ d) => some (d, ρ.set i (.val d))
  | some (.val d) => some (d, ρ)
  | _ => none
@[simp] theorem takeO_val (i : Nat) (ρ : List Sl) (d : D) : takeO i ρ (some (.val d)) = some (d, ρ) := rfl
@[simp] theorem takeO_own (i : Nat) (ρ : List Sl) (p : Bool) (d : D) : takeO i ρ (some (.own p d)) = some (d, ρ.set i (.val d)) := rfl
@[simp] theorem take_val (ρ : List Sl) (d : D) : take ρ (.val d) = some (d, ρ) := rfl
@[simp] theorem take_own (ρ : List Sl) (d : D) : take ρ (.own d) = some (d, ρ) := rfl
@[simp] theorem take_al (ρ : List Sl) (i : Nat) : take ρ (.al i) = takeO i ρ ρ[i]? := by unfold take takeO; rfl
@[simp] theorem takes_nil (ρ : List Sl) : takes ρ [] = some ([], ρ) := rfl
@[simp] theorem takes_cons (ρ : List Sl) (r : R) (rs : List R) : takes ρ (r :: rs) = (FL.take ρ r).bind fun p => (takes p.2 rs).map fun q => (p.1 :: q.1, q.2) := rfl
@[simp] theorem sees_nil (ρ : List Sl) : sees ρ [] = some [] := rfl
@[simp] theorem sees_cons (ρ : List Sl) (r : R) (rs : List R) : sees ρ (r :: rs) = (see ρ r).bind fun d => (sees ρ rs).map fun ds => d :: ds := rfl
@[simp] theorem evs_nil (ρ : List Sl) : evs [] ρ = some ([], ρ) := rfl
@[simp] theorem evs_cons (f : Ev) (fs : List Ev) (ρ : List Sl) : evs (f :: fs) ρ = (f ρ).bind fun p => (evs fs p.2).map fun q => (p.1 :: q.1, q.2) := rfl
/-! ### expressions -/
@[simp] theorem ev_c (d : D) (ρ : List Sl) : fC d ρ = some (.val d, ρ) := rfl
@[simp] theorem ev_op1 (o : D → Option R) (f : Ev) (ρ : List Sl) : fOp1 o f ρ = (f ρ).bind fun p => (see p.2 p.1).bind fun x => (o x).map fun r => (r, p.2) := rfl
@[simp] theorem ev_op2 (o : D → D → Option R) (f g : Ev) (ρ : List Sl) : fOp2 o f g ρ = (f ρ).bind fun p => (g p.2).bind fun q => (see q.2 p.1).bind fun x => (see q.2 q.1).bind fun y => (o x y).map fun r => (r, q.2) := rfl
@[simp] theorem ev_opN (o : List D → Option R) (fs : List Ev) (ρ : List Sl) : fOpN o fs ρ = (evs fs ρ).bind fun p => (sees p.2 p.1).bind fun ds => (o ds).map fun r => (r, p.2) := rfl
@[simp] theorem ev_chain (o o' : D → D → Option Bool) (f g h : Ev) (ρ : List Sl) : fChain o o' f g h ρ = (f ρ).bind fun p => (g p.2).bind fun q => (see q.2 p.1).bind fun x => (see q.2 q.1).bind fun y => (o x y).bind fun b =>
  if b = true then (h q.2).bind fun r => (see r.2 q.1).bind fun y' => (see r.2 r.1).bind fun z => (o' y' z).map fun c => (.val (.bl c), r.2) else some (.val (.bl false), q.2) := rfl
def condO {α : Type} (f g : List Sl → Option α) : Option (R × List Sl) → Option α
  | some (.val (.bl b), ρ) => if b = true then f ρ else g ρ
  | _ => none
@[simp] theorem condO_bl {α : Type} (f g : List Sl → Option α) (b : Bool) (ρ : List Sl) : condO f g (some (.val (.bl b), ρ)) = if b = true then f ρ else g ρ := rfl
theorem cond_eq {α : Type} (f g : List Sl → Option α) (x : Option (R × List Sl)) : (x.bind fun p => match p.1 with
  | .val (.bl true) => f p.2
  | .val (.bl false) => g p.2
  | _ => none) = condO f g x := by
  rcases x with _ | ⟨r, ρ⟩
  · rfl
  · rcases r with d | d | i
    · cases d with
      | bl b => cases b <;> rfl
      | _ => rfl
    · rfl
    · rfl
@[simp] theorem ev_and (f g : Ev) (ρ : List Sl) : fAnd f g ρ = condO g (fun ρ => some (.val (.bl false), ρ)) (f ρ) := cond_eq g (fun ρ => some (.val (.bl false), ρ)) (f ρ)
@[simp] theorem ev_or (f g : Ev) (ρ : List Sl) : fOr f g ρ = condO (fun ρ => some (.val (.bl true), ρ)) g (f ρ) := by
  unfold fOr
  rcases f ρ with _ | ⟨r, ρ⟩
  · rfl
  · rcases r with d | d | i
    · cases d with
      | bl b => cases b <;> rfl
      | _ => rfl
    · rfl
    · rfl
@[simp] theorem ev_if (c f g : Ev) (ρ : List Sl) : fIf c f g ρ = condO f g (c ρ) := cond_eq _ _ _
@[simp] theorem ev_not (f : Ev) (ρ : List Sl) : fNot f ρ = condO (fun ρ => some (.val (.bl false), ρ)) (fun ρ => some (.val (.bl true), ρ)) (f ρ) := by
  rw [← cond_eq]
  unfold fNot
  congr 1
  funext p
  rcases p with ⟨r, ρ⟩
  rcases r with d | d | i
  · cases d with
    | bl b => cases b <;> rfl
    | _ => rfl
  · rfl
  · rfl
@[simp] theorem ev_tru (f : Ev) (ρ : List Sl) : fTru f ρ = (f ρ).bind fun p => (see p.2 p.1).bind fun d => (tru d).map fun b => (.val (.bl b), p.2) := rfl
@[simp] theorem ev_tup (fs : List Ev) (ρ : List Sl) : fTup fs ρ = (evs fs ρ).bind fun p => (takes p.2 p.1).bind fun q => if q.1.length ≤ cap then some (.val (.tup q.1), q.2) else none := rfl
@[simp] theorem ev_lst (fs : List Ev) (ρ : List Sl) : fLst fs ρ = (evs fs ρ).bind fun p => (takes p.2 p.1).bind fun q => if q.1.length ≤ cap then some (.own (.lst q.1), q.2) else none := rfl
@[simp] theorem ev_dic (ρ : List Sl) : fDic ρ = some (.own (.dic []), ρ) := rfl
def starO (q : Option (List D × List Sl)) (r : R) : Option (List D × List Sl) := match r with
  | .val (.tup ds) => q.map fun q => (ds ++ q.1, q.2)
  | _ => none
@[simp] theorem starO_tup (q : Option (List D × List Sl)) (ds : List D) : starO q (.val (.tup ds)) = q.map fun q => (ds ++ q.1, q.2) := rfl
def consO (q : Option (List D × List Sl)) (r : R) : Option (List D × List Sl) := q.bind fun q => match r with
  | .val d => some (d :: q.1, q.2)
  | _ => none
@[simp] theorem consO_val (q : Option (List D × List Sl)) (d : D) : consO q (.val d) = q.map fun q => (d :: q.1, q.2) := by cases q <;> rfl
@[simp] theorem evsS_nil (ρ : List Sl) : evsS [] ρ = some ([], ρ) := rfl
@[simp] theorem evsS_cons (f : Ev) (fs : List (Bool × Ev)) (ρ : List Sl) : evsS ((false, f) :: fs) ρ = (f ρ).bind fun p => consO (evsS fs p.2) p.1 := rfl
@[simp] theorem evsS_star (f : Ev) (fs : List (Bool × Ev)) (ρ : List Sl) : evsS ((true, f) :: fs) ρ = (f ρ).bind fun p => starO (evsS fs p.2) p.1 := rfl
@[simp] theorem ev_tupS (fs : List (Bool × Ev)) (ρ : List Sl) : fTupS fs ρ = (evsS fs ρ).bind fun p => if p.1.length ≤ cap then some (.val (.tup p.1), p.2) else none := rfl
def partO (ρ : List Sl) : R → Option (Option Int × List Sl)
  | .val (.int i) => some (some i, ρ)
  | _ => none
@[simp] theorem partO_int (ρ : List Sl) (i : Int) : partO ρ (.val (.int i)) = some (some i, ρ) := rfl
@[simp] theorem part_none (ρ : List Sl) : fPart none ρ = some (none, ρ) := rfl
@[simp] theorem part_some (f : Ev) (ρ : List Sl) : fPart (some f) ρ = (f ρ).bind fun p => partO p.2 p.1 := rfl
@[simp] theorem ev_slice (f : Ev) (lo hi : Option Ev) (ρ : List Sl) : fSlice f lo hi ρ = (f ρ).bind fun p => (fPart lo p.2).bind fun q => (fPart hi q.2).bind fun t => (see t.2 p.1).bind fun x => (oSlice x q.1 t.1).map fun r => (r, t.2) := rfl
@[simp] theorem ev_isi (T : String) (f : Ev) (ρ : List Sl) : fIsi T f ρ = (f ρ).bind fun p => (see p.2 p.1).bind fun d => (isTy T d).map fun b => (.val (.bl b), p.2) := rfl
@[simp] theorem ev_isi2 (T U : String) (f : Ev) (ρ : List Sl) : fIsi2 T U f ρ = (f ρ).bind fun p => (see p.2 p.1).bind fun d => (isTy T d).bind fun b => (isTy U d).map fun c => (.val (.bl (b || c)), p.2) := rfl
@[simp] theorem ev_rev (f : Ev) (ρ : List Sl) : fRev f ρ = fOp1 oRev f ρ := rfl
@[simp] theorem ev_inD (b : Bool) (f g : Ev) (ρ : List Sl) : fInD b f g ρ = fOp2 (oInD b) f g ρ := rfl
/-! ### calls -/
def argO : Option Sl → Option Sl
  | some (.own _ d) => some (.own false d)
  | some (.val d) => some (.val d)
  | _ => none
@[simp] theorem argO_own (p : Bool) (d : D) : argO (some (.own p d)) = some (.own false d) := rfl
@[simp] theorem argO_val (d : D) : argO (some (.val d)) = some (.val d) := rfl
@[simp] theorem argOf_val (ρ : List Sl) (d : D) : argOf ρ (.val d) = some (.val d) := rfl
@[simp] theorem argOf_own (ρ : List Sl) (d : D) : argOf ρ (.own d) = some (.own false d) := rfl
@[simp] theorem argOf_al (ρ : List Sl) (i : Nat) : argOf ρ (.al i) = argO ρ[i]? := by unfold argOf argO; rfl
@[simp] theorem argsOf_nil (ρ : List Sl) : argsOf ρ [] = some [] := rfl
@[simp] theorem argsOf_cons (ρ : List Sl) (r : R) (rs : List R) : argsOf ρ (r :: rs) = (argOf ρ r).bind fun a => (argsOf ρ rs).map fun as => a :: as := rfl
def alO (i : Nat) (l : List Nat) : Option Sl → List Nat
  | some (.own _ _) => i :: l
  | _ => l
@[simp] theorem alO_own (i : Nat) (l : List Nat) (p : Bool) (d : D) : alO i l (some (.own p d)) = i :: l := rfl
@[simp] theorem alO_val (i : Nat) (l : List Nat) (d : D) : alO i l (some (.val d)) = l := rfl
@[simp] theorem als_nil (ρ : List Sl) : als ρ [] = [] := rfl
@[simp] theorem als_val (ρ : List Sl) (d : D) (rs : List R) : als ρ (.val d :: rs) = als ρ rs := rfl
@[simp] theorem als_own (ρ : List Sl) (d : D) (rs : List R) : als ρ (.own d :: rs) = als ρ rs := rfl
@[simp] theorem als_al (ρ : List Sl) (i : Nat) (rs : List R) : als ρ (.al i :: rs) = alO i (als ρ rs) ρ[i]? := by rw [als]; unfold alO; rfl
@[simp] theorem flagAs_own (p q : Bool) (d : D) : flagAs p (.own q d) = .own p d := rfl
@[simp] theorem flagAs_val (p : Bool) (d : D) : flagAs p (.val d) = .val d := rfl
@[simp] theorem flagAs_no (p : Bool) : flagAs p .no = .no := rfl
def backO (ρ0 : List Sl) (i : Nat) (rs : List R) (a : Sl) (as ρ : List Sl) : Option Sl → List Sl
  | some (.own p _) => back ρ0 rs as (ρ.set i (flagAs p a))
  | _ => back ρ0 rs as ρ
@[simp] theorem backO_own (ρ0 : List Sl) (i : Nat) (rs : List R) (a : Sl) (as ρ : List Sl) (p : Bool) (d : D) : backO ρ0 i rs a as ρ (some (.own p d)) = back ρ0 rs as (ρ.set i (flagAs p a)) := rfl
@[simp] theorem backO_val (ρ0 : List Sl) (i : Nat) (rs : List R) (a : Sl) (as ρ : List Sl) (d : D) : backO ρ0 i rs a as ρ (some (.val d)) = back ρ0 rs as ρ := rfl
@[simp] theorem back_nil (ρ0 as ρ : List Sl) : back ρ0 [] as ρ = ρ := by cases as <;> rfl
@[simp] theorem back_val (ρ0 : List Sl) (d : D) (rs : List R) (a : Sl) (as ρ : List Sl) : back ρ0 (.val d :: rs) (a :: as) ρ = back ρ0 rs as ρ := rfl
@[simp] theorem back_own (ρ0 : List Sl) (d : D) (rs : List R) (a : Sl) (as ρ : List Sl) : back ρ0 (.own d :: rs) (a :: as) ρ = back ρ0 rs as ρ := rfl
@[simp] theorem back_al (ρ0 : List Sl) (i : Nat) (rs : List R) (a : Sl) (as ρ : List Sl) : back ρ0 (.al i :: rs) (a :: as) ρ = backO ρ0 i rs a as ρ ρ0[i]? := by rw [back]; unfold backO; rfl
def callO (ρ : List Sl) (rs : List R) : R × List Sl → Option (R × List Sl)
  | (.al _, _) => none
  | (r, as) => some (r, back ρ rs as ρ)
@[simp] theorem callO_val (ρ : List Sl) (rs : List R) (d : D) (as : List Sl) : callO ρ rs (.val d, as) = some (.val d, back ρ rs as ρ) := rfl
@[simp] theorem callO_own (ρ : List Sl) (rs : List R) (d : D) (as : List Sl) : callO ρ rs (.own d, as) = some (.own d, back ρ rs as ρ) := rfl
@[simp] theorem ev_call (F : Fn) (fs : List Ev) (ρ : List Sl) : fCall F fs ρ = (evs fs ρ).bind fun p => (argsOf p.2 p.1).bind fun args => if (als p.2 p.1).Nodup then (F args).bind (callO p.2 p.1) else none := by
  unfold fCall
  congr 1
  funext p
  congr 1
  funext args
  split
  · congr 1
    funext q
    rcases q with ⟨r, as⟩
    cases r <;> rfl
  · rfl
/-! ### statements -/
def seqO (g : Stm) : Option (Out × List Sl) → Option (Out × List Sl)
  | some (.nx, ρ) => g ρ
  | some (o, ρ) => some (o, ρ)
  | none => none
@[simp] theorem seqO_nx (g : Stm) (ρ : List Sl) : seqO g (some (.nx, ρ)) = g ρ := rfl
@[simp] theorem seqO_rt (g : Stm) (r : R) (ρ : List Sl) : seqO g (some (.rt r, ρ)) = some (.rt r, ρ) := rfl
@[simp] theorem seqO_bk (g : Stm) (ρ : List Sl) : seqO g (some (.bk, ρ)) = some (.bk, ρ) := rfl
@[simp] theorem seqO_ct (g : Stm) (ρ : List Sl) : seqO g (some (.ct, ρ)) = some (.ct, ρ) := rfl
@[simp] theorem st_seq (f g : Stm) (ρ : List Sl) : sSeq f g ρ = seqO g (f ρ) := by
  unfold sSeq
  rcases f ρ with _ | ⟨o, ρ⟩
  · rfl
  · cases o <;> rfl
@[simp] theorem st_nx (ρ : List Sl) : sNx ρ = some (.nx, ρ) := rfl
@[simp] theorem st_bk (ρ : List Sl) : sBk ρ = some (.bk, ρ) := rfl
@[simp] theorem st_ct (ρ : List Sl) : sCt ρ = some (.ct, ρ) := rfl
@[simp] theorem st_if (c : Ev) (f g : Stm) (ρ : List Sl) : sIf c f g ρ = condO f g (c ρ) := cond_eq _ _ _
@[simp] theorem st_drop (f : Ev) (ρ : List Sl) : sDrop f ρ = (f ρ).map fun p => (.nx, p.2) := rfl
def retI (i : Nat) (ρ : List Sl) : Option Sl → Option (Out × List Sl)
  | some (.own _ d) => some (.rt (.own d), ρ.set i .no)
  | some (.val d) => some (.rt (.val d), ρ)
  | _ => none
@[simp] theorem retI_own (i : Nat) (ρ : List Sl) (p : Bool) (d : D) : retI i ρ (some (.own p d)) = some (.rt (.own d), ρ.set i .no) := rfl
@[simp] theorem retI_val (i : Nat) (ρ : List Sl) (d : D) : retI i ρ (some (.val d)) = some (.rt (.val d), ρ) := rfl
def retO : R × List Sl → Option (Out × List Sl)
  | (.al i, ρ) => retI i ρ ρ[i]?
  | (r, ρ) => some (.rt r, ρ)
@[simp] theorem retO_al (i : Nat) (ρ : List Sl) : retO (.al i, ρ) = retI i ρ ρ[i]? := rfl
@[simp] theorem retO_val (d : D) (ρ : List Sl) : retO (.val d, ρ) = some (.rt (.val d), ρ) := rfl
@[simp] theorem retO_own (d : D) (ρ : List Sl) : retO (.own d, ρ) = some (.rt (.own d), ρ) := rfl
@[simp] theorem st_ret (f : Ev) (ρ : List Sl) : sRet f ρ = (f ρ).bind retO := by
  unfold sRet
  congr 1
  funext p
  rcases p with ⟨r, ρ⟩
  cases r with
  | al i => simp only [retO_al]; unfold retI; rfl
  | _ => rfl
def okO : Option Sl → Bool
  | some s => FL.stored s
  | none => false
@[simp] theorem okO_some (s : Sl) : okO (some s) = FL.stored s := rfl
@[simp] theorem okAt_eq (ρ : List Sl) (i : Nat) : okAt ρ i = okO ρ[i]? := by unfold okAt okO; rfl
@[simp] theorem stored_no : FL.stored .no = true := rfl
@[simp] theorem stored_val (d : D) : FL.stored (.val d) = true := rfl
@[simp] theorem stored_own (d : D) : FL.stored (.own false d) = true := rfl
@[simp] theorem putR_val (i : Nat) (d : D) (ρ : List Sl) : putR i (.val d) ρ = if okO ρ[i]? = true then some (ρ.set i (.val d)) else none := by unfold putR; rw [okAt_eq]
@[simp] theorem putR_own (i : Nat) (d : D) (ρ : List Sl) : putR i (.own d) ρ = if okO ρ[i]? = true then some (ρ.set i (.own false d)) else none := by unfold putR; rw [okAt_eq]
@[simp] theorem putR_al (i j : Nat) (ρ : List Sl) : putR i (.al j) ρ = if okO ρ[i]? = true then (takeO j ρ ρ[j]?).bind fun q => if okO q.2[i]? = true then some (q.2.set i (.val q.1)) else none else none := by
  unfold putR; simp only [okAt_eq, take_al]
@[simp] theorem st_asg (i : Nat) (f : Ev) (ρ : List Sl) : sAsg i f ρ = (f ρ).bind fun p => (putR i p.1 p.2).map fun ρ1 => (.nx, ρ1) := rfl
@[simp] theorem asg_nm (i : Nat) (d : D) (ρ : List Sl) : asg (.nm i) d ρ = if okO ρ[i]? = true then some (ρ.set i (.val d)) else none := by rw [asg, okAt_eq]
@[simp] theorem asg_tp (ts : List Tg) (ds : List D) (ρ : List Sl) : asg (.tp ts) (.tup ds) ρ = asgs ts ds ρ := by rw [asg]
@[simp] theorem asgs_nil (ρ : List Sl) : asgs [] [] ρ = some ρ := by rw [asgs]
@[simp] theorem asgs_cons (t : Tg) (ts : List Tg) (d : D) (ds : List D) (ρ : List Sl) : asgs (t :: ts) (d :: ds) ρ = (asg t d ρ).bind fun ρ1 => asgs ts ds ρ1 := by rw [asgs]
def unpO (t : Tg) : R × List Sl → Option (Out × List Sl)
  | (.val d, ρ) => (asg t d ρ).map fun ρ1 => (.nx, ρ1)
  | _ => none
@[simp] theorem unpO_val (t : Tg) (d : D) (ρ : List Sl) : unpO t (.val d, ρ) = (asg t d ρ).map fun ρ1 => (.nx, ρ1) := rfl
@[simp] theorem st_unp (t : Tg) (f : Ev) (ρ : List Sl) : sUnp t f ρ = (f ρ).bind (unpO t) := by
  unfold sUnp
  congr 1
  funext p
  rcases p with ⟨r, ρ⟩
  cases r <;> rfl
@[simp] theorem put1_val (i : Nat) (d : D) (ρ : List Sl) : put1 i (.val d) ρ = if okO ρ[i]? = true then some (ρ.set i (.val d)) else none := by unfold put1; rw [okAt_eq]
@[simp] theorem put1_own (i : Nat) (d : D) (ρ : List Sl) : put1 i (.own d) ρ = if okO ρ[i]? = true then some (ρ.set i (.own false d)) else none := by unfold put1; rw [okAt_eq]
@[simp] theorem puts_nil (ρ : List Sl) : puts [] [] ρ = some ρ := rfl
@[simp] theorem puts_cons (i : Nat) (is : List Nat) (r : R) (rs : List R) (ρ : List Sl) : puts (i :: is) (r :: rs) ρ = (put1 i r ρ).bind fun ρ1 => puts is rs ρ1 := rfl
@[simp] theorem st_par (is : List Nat) (fs : List Ev) (ρ : List Sl) : sPar is fs ρ = (evs fs ρ).bind fun p => (puts is p.1 p.2).map fun ρ1 => (.nx, ρ1) := rfl
@[simp] theorem st_for (it : Iv) (t : Tg) (b : Stm) (ρ : List Sl) : sFor it t b ρ = (it ρ).bind fun p => forL t b p.1 p.2 := rfl
theorem st_while (n : Nat) (c : Ev) (b : Stm) (ρ : List Sl) : sWhile n c b ρ = whileL c b n ρ := rfl
/-- xs[i] = v -/
def subL (z : D × List Sl) (i : Nat) (ix : D) : Option Sl → Option (Out × List Sl)
  | some (.own pp (.lst xs)) => match ix with
    | .int k => (ixN xs.length k).map fun j => (.nx, z.2.set i (.own pp (.lst (xs.set j z.1))))
    | _ => none
  | some (.own pp (.dic kvs)) => match ix with
    | .tup ks => (toKey ks).bind fun k => if kvs.length < cap then some (.nx, z.2.set i (.own pp (.dic (putD kvs k z.1)))) else none
    | _ => none
  | _ => none
@[simp] theorem subL_lst (z : D × List Sl) (i : Nat) (k : Int) (pp : Bool) (xs : List D) : subL z i (.int k) (some (.own pp (.lst xs))) = (ixN xs.length k).map fun j => (.nx, z.2.set i (.own pp (.lst (xs.set j z.1)))) := rfl
@[simp] theorem subL_dic (z : D × List Sl) (i : Nat) (ks : List D) (pp : Bool) (kvs : List (List Key × D)) : subL z i (.tup ks) (some (.own pp (.dic kvs))) = (toKey ks).bind fun k => if kvs.length < cap then some (.nx, z.2.set i (.own pp (.dic (putD kvs k z.1)))) else none := rfl
def subV (r : R) (i : Nat) : R × List Sl → Option (Out × List Sl)
  | (.val ix, ρ) => (take ρ r).bind fun z => subL z i ix z.2[i]?
  | _ => none
@[simp] theorem subV_val (r : R) (i : Nat) (ix : D) (ρ : List Sl) : subV r i (.val ix, ρ) = (take ρ r).bind fun z => subL z i ix z.2[i]? := rfl
def subO (fi : Ev) (r : R) (i : Nat) (ρ : List Sl) : Option Sl → Option (Out × List Sl)
  | some (.own _ _) => (fi ρ).bind (subV r i)
  | _ => none
@[simp] theorem subO_own (fi : Ev) (r : R) (i : Nat) (ρ : List Sl) (p : Bool) (d : D) : subO fi r i ρ (some (.own p d)) = (fi ρ).bind (subV r i) := rfl
@[simp] theorem st_sub (i : Nat) (fi f : Ev) (ρ : List Sl) : sSub i fi f ρ = (f ρ).bind fun p => subO fi p.1 i p.2 p.2[i]? := by
  unfold sSub
  congr 1
  funext p
  rcases p with ⟨r, ρ⟩
  show _ = subO fi r i ρ ρ[i]?
  rcases ρ[i]? with _ | s
  · rfl
  · cases s with
    | own p d =>
      simp only [subO_own]
      congr 1
      funext q
      rcases q with ⟨q, ρ'⟩
      cases q with
      | val ix => rfl
      | _ => rfl
    | _ => rfl
def mutK (i : Nat) (o : List D → List D → Option (D × List D)) (z : List D × List Sl) : Option Sl → Option (R × List Sl)
  | some (.own pp (.lst xs)) => (o xs z.1).map fun t => (.val t.1, z.2.set i (.own pp (.lst t.2)))
  | _ => none
@[simp] theorem mutK_lst (i : Nat) (o : List D → List D → Option (D × List D)) (z : List D × List Sl) (pp : Bool) (xs : List D) : mutK i o z (some (.own pp (.lst xs))) = (o xs z.1).map fun t => (.val t.1, z.2.set i (.own pp (.lst t.2))) := rfl
def mutO (i : Nat) (o : List D → List D → Option (D × List D)) (fs : List Ev) (ρ : List Sl) : Option Sl → Option (R × List Sl)
  | some (.own _ (.lst _)) => (evs fs ρ).bind fun p => (takes p.2 p.1).bind fun z => mutK i o z z.2[i]?
  | _ => none
@[simp] theorem mutO_lst (i : Nat) (o : List D → List D → Option (D × List D)) (fs : List Ev) (ρ : List Sl) (pp : Bool) (xs : List D) : mutO i o fs ρ (some (.own pp (.lst xs))) = (evs fs ρ).bind fun p => (takes p.2 p.1).bind fun z => mutK i o z z.2[i]? := rfl
@[simp] theorem ev_mutL (i : Nat) (o : List D → List D → Option (D × List D)) (fs : List Ev) (ρ : List Sl) : fMutL i o fs ρ = mutO i o fs ρ ρ[i]? := by
  unfold fMutL mutO
  rcases ρ[i]? with _ | s
  · rfl
  · cases s with
    | own p d => cases d <;> rfl
    | _ => rfl
/-! ### a def -/
@[simp] theorem pinS_own (p : Bool) (d : D) : pinS (.own p d) = .own true d := rfl
@[simp] theorem pinS_val (d : D) : pinS (.val d) = .val d := rfl
@[simp] theorem outA_own (p : Bool) (d d' : D) : outA (.own p d) (.own true d') = .own p d' := rfl
@[simp] theorem outA_no (p : Bool) (d : D) : outA (.own p d) .no = .no := rfl
@[simp] theorem outA_frz (p : Bool) (d d' : D) : outA (.own p d) (.val d') = .no := rfl
@[simp] theorem outA_val (d : D) (s : Sl) : outA (.val d) s = .val d := rfl
@[simp] theorem outs_nil (ρ : List Sl) : outs [] ρ = [] := rfl
@[simp] theorem outs_cons (a b : Sl) (as ρ : List Sl) : outs (a :: as) (b :: ρ) = outA a b :: outs as ρ := rfl
def defO (args : List Sl) : Out × List Sl → Option (R × List Sl)
  | (.rt r, ρ) => some (r, outs args ρ)
  | (.nx, ρ) => some (.val .non, outs args ρ)
  | _ => none
@[simp] theorem defO_rt (args : List Sl) (r : R) (ρ : List Sl) : defO args (.rt r, ρ) = some (r, outs args ρ) := rfl
@[simp] theorem defO_nx (args : List Sl) (ρ : List Sl) : defO args (.nx, ρ) = some (.val .non, outs args ρ) := rfl
theorem defF_eq (m : Nat) (g : Stm) (args : List Sl) : defF m g args = (g (args.map pinS ++ List.replicate m .no)).bind (defO args) := by
  unfold defF
  congr 1
  funext p
  rcases p with ⟨o, ρ⟩
  cases o <;> rfl
/-- a def, at once -/
theorem def_of {m : Nat} {g : Stm} {args ρ : List Sl} {r : R} (h : g (args.map pinS ++ List.replicate m .no) = some (.rt r, ρ)) : defF m g args = some (r, outs args ρ) := by
  rw [defF_eq, h]; rfl
/-! ### operators at data -/
@[simp] theorem addI (i j : Int) : oAdd (.int i) (.int j) = some (.val (.int (i + j))) := rfl
@[simp] theorem addT (xs ys : List D) : oAdd (.tup xs) (.tup ys) = if xs.length + ys.length ≤ cap then some (.val (.tup (xs ++ ys))) else none := rfl
@[simp] theorem addL (xs ys : List D) : oAdd (.lst xs) (.lst ys) = if xs.length + ys.length ≤ cap then some (.own (.lst (xs ++ ys))) else none := rfl
@[simp] theorem addS (x y : Str) : oAdd (.str x) (.str y) = if x.length + y.length ≤ cap then some (.val (.str (x ++ y))) else none := rfl
@[simp] theorem subI (i j : Int) : oSub (.int i) (.int j) = some (.val (.int (i - j))) := rfl
@[simp] theorem mulI (i j : Int) : oMul (.int i) (.int j) = if mulOk i j = true then some (.val (.int (i * j))) else none := rfl
@[simp] theorem mulL (xs : List D) (k : Int) : oMul (.lst xs) (.int k) = if 0 ≤ k ∧ k ≤ 1000 ∧ xs.length ≤ 1000 then some (.own (.lst (List.replicate k.toNat xs).flatten)) else none := rfl
@[simp] theorem mulT (xs : List D) (k : Int) : oMul (.tup xs) (.int k) = if 2 ≤ k ∧ k ≤ 1000 ∧ xs.length ≤ 1000 ∧ 0 < xs.length then some (.val (.tup (List.replicate k.toNat xs).flatten)) else none := rfl
@[simp] theorem modI (i j : Int) : oMod (.int i) (.int j) = if 0 < j then some (.val (.int (i % j))) else none := rfl
@[simp] theorem fdivI (i j : Int) : oFDiv (.int i) (.int j) = if 0 < j ∧ j < big then some (.val (.int (i / j))) else none := rfl
@[simp] theorem powI (i j : Int) : oPow (.int i) (.int j) = if 0 ≤ j ∧ j ≤ 1000 ∧ -1000000 < i ∧ i < 1000000 then some (.val (.int (i ^ j.toNat))) else none := rfl
@[simp] theorem negI (i : Int) : oNeg (.int i) = some (.val (.int (-i))) := rfl
@[simp] theorem oB_eq (o : D → D → Option Bool) (x y : D) : oB o x y = (o x y).map fun b => .val (.bl b) := rfl
@[simp] theorem bI_int (p : Int → Int → Bool) (i j : Int) : bI p (.int i) (.int j) = some (p i j) := rfl
@[simp] theorem eqD_int (i j : Int) : eqD (.int i) (.int j) = decide (i = j) := by
  unfold eqD; rw [D.py, D.py, PyData.eqv]; rfl
@[simp] theorem bEq_int (i j : Int) : bEq (.int i) (.int j) = some (decide (i = j)) := by
  unfold bEq
  rw [show (lev 20 (.int i) && lev 20 (.int j)) = true from rfl, if_pos rfl, eqD_int]
@[simp] theorem bNe_int (i j : Int) : bNe (.int i) (.int j) = some (!decide (i = j)) := by
  unfold bNe
  rw [show (lev 20 (.int i) && lev 20 (.int j)) = true from rfl, if_pos rfl, eqD_int]
@[simp] theorem bIs_non (x : D) : bIs x .non = some (isNon x) := by cases x <;> rfl
@[simp] theorem bIsNot_non (x : D) : bIsNot x .non = some (!isNon x) := by cases x <;> rfl
@[simp] theorem bIs_bl (a b : Bool) : bIs (.bl a) (.bl b) = some (decide (a = b)) := rfl
@[simp] theorem isNon_non : isNon .non = true := rfl
@[simp] theorem isNon_lst (xs : List D) : isNon (.lst xs) = false := rfl
@[simp] theorem isNon_tup (xs : List D) : isNon (.tup xs) = false := rfl
@[simp] theorem isNon_int (i : Int) : isNon (.int i) = false := rfl
@[simp] theorem isNon_str (i : Str) : isNon (.str i) = false := rfl
@[simp] theorem isNon_bl (i : Bool) : isNon (.bl i) = false := rfl
@[simp] theorem ixL (xs : List D) (i : Int) : oIx (.lst xs) (.int i) = (atI xs i).map .val := rfl
@[simp] theorem ixT (xs : List D) (i : Int) : oIx (.tup xs) (.int i) = (atI xs i).map .val := rfl
theorem atI_nat {α : Type} {xs : List α} {i : Int} (h0 : 0 ≤ i) (h1 : i < xs.length) : atI xs i = xs[i.toNat]? := by
  unfold atI ixN; rw [if_pos h0, if_pos h1]; rfl
@[simp] theorem atI0 {α : Type} (x : α) (xs : List α) : atI (x :: xs) 0 = some x := by
  unfold atI ixN; simp
@[simp] theorem atI1 {α : Type} (x y : α) (xs : List α) : atI (x :: y :: xs) 1 = some y := by
  rw [atI_nat (by decide) (by simp only [List.length_cons]; omega)]; rfl
@[simp] theorem atI2 {α : Type} (x y z : α) (xs : List α) : atI (x :: y :: z :: xs) 2 = some z := by
  rw [atI_nat (by decide) (by simp only [List.length_cons]; omega)]; rfl
@[simp] theorem atI3 {α : Type} (x y z u : α) (xs : List α) : atI (x :: y :: z :: u :: xs) 3 = some u := by
  rw [atI_nat (by decide) (by simp only [List.length_cons]; omega)]; rfl
@[simp] theorem atI4 {α : Type} (x y z u v : α) (xs : List α) : atI (x :: y :: z :: u :: v :: xs) 4 = some v := by
  rw [atI_nat (by decide) (by simp only [List.length_cons]; omega)]; rfl
@[simp] theorem atI5 {α : Type} (x y z u v w : α) (xs : List α) : atI (x :: y :: z :: u :: v :: w :: xs) 5 = some w := by
  rw [atI_nat (by decide) (by simp only [List.length_cons]; omega)]; rfl
@[simp] theorem atI6 {α : Type} (x y z u v w a : α) (xs : List α) : atI (x :: y :: z :: u :: v :: w :: a :: xs) 6 = some a := by
  rw [atI_nat (by decide) (by simp only [List.length_cons]; omega)]; rfl
theorem atI_get {α : Type} {xs : List α} {i : Nat} (h1 : i < xs.length) : atI xs (i : Int) = some xs[i] := by
  rw [atI_nat (by omega) (by omega)]; simp
theorem atI_last {α : Type} (xs : List α) (x : α) : atI (xs ++ [x]) (-1) = some x := by
  unfold atI ixN
  have h : (xs ++ [x]).length = xs.length + 1 := by simp
  rw [h, if_neg (by omega), if_pos (by omega)]
  have : ((-1 : Int) + ((xs.length + 1 : Nat) : Int)).toNat = xs.length := by omega
  rw [this]; simp
@[simp] theorem len1L (xs : List D) : oLen [.lst xs] = some (.val (.int xs.length)) := rfl
@[simp] theorem len1T (xs : List D) : oLen [.tup xs] = some (.val (.int xs.length)) := rfl
@[simp] theorem max2 (i j : Int) : oMax [.int i, .int j] = some (.val (.int (if j > i then j else i))) := rfl
@[simp] theorem min2 (i j : Int) : oMin [.int i, .int j] = some (.val (.int (if j < i then j else i))) := rfl
@[simp] theorem list1 (xs : List D) : oList [.lst xs] = some (.own (.lst xs)) := rfl
@[simp] theorem list2 (xs : List D) : oList [.tup xs] = some (.own (.lst xs)) := rfl
@[simp] theorem list3 (xs : List Int) : oList [.scr xs] = some (.own (.lst (xs.map .int))) := rfl
@[simp] theorem tuple1 (xs : List D) : oTuple [.lst xs] = some (.val (.tup xs)) := rfl
@[simp] theorem tuple2 (xs : List D) : oTuple [.tup xs] = some (.val (.tup xs)) := rfl
@[simp] theorem sum1 (xs : List D) : oSumA [.lst xs] = (intsOf xs).map fun ns => .val (.int ns.sum) := rfl
@[simp] theorem sum2 (xs : List D) : oSumA [.tup xs] = (intsOf xs).map fun ns => .val (.int ns.sum) := rfl
@[simp] theorem sliceT (xs : List D) (lo hi : Option Int) : oSlice (.tup xs) lo hi = some (.val (.tup (cutD xs lo hi))) := rfl
@[simp] theorem sliceL (xs : List D) (lo hi : Option Int) : oSlice (.lst xs) lo hi = some (.own (.lst (cutD xs lo hi))) := rfl
@[simp] theorem app1 (xs : List D) (y : D) : oApp xs [y] = if xs.length < cap then some (.non, xs ++ [y]) else none := rfl
@[simp] theorem intsOf_map (ns : List Int) : intsOf (ns.map D.int) = some ns := by
  induction ns with
  | nil => rfl
  | cons n ns ih => rw [List.map_cons, intsOf, ih]; rfl
@[simp] theorem isTy_non (T : String) : isTy T .non = some (T == "NoneType") := rfl
@[simp] theorem isTy_bl (T : String) (b : Bool) : isTy T (.bl b) = some (T == "bool" || T == "int") := rfl
@[simp] theorem isTy_int (T : String) (b : Int) : isTy T (.int b) = some (T == "int") := rfl
@[simp] theorem isTy_str (T : String) (b : Str) : isTy T (.str b) = some (T == "str") := rfl
@[simp] theorem isTy_tup (T : String) (b : List D) : isTy T (.tup b) = some (T == "tuple") := rfl
@[simp] theorem isTy_lst (T : String) (b : List D) : isTy T (.lst b) = some (T == "list") := rfl
/-! ### what is walked -/
def rgI1 : R × List Sl → Option (List D × List Sl)
  | (.val (.int n), ρ) => if -1000000 ≤ n ∧ n ≤ 1000000 then some (rg1 n.toNat, ρ) else none
  | _ => none
@[simp] theorem rgI1_int (n : Int) (ρ : List Sl) : rgI1 (.val (.int n), ρ) = if -1000000 ≤ n ∧ n ≤ 1000000 then some (rg1 n.toNat, ρ) else none := rfl
@[simp] theorem it_rg1 (f : Ev) (ρ : List Sl) : itRg1 f ρ = (f ρ).bind rgI1 := by
  unfold itRg1
  congr 1
  funext p
  rcases p with ⟨r, ρ⟩
  rcases r with d | d | i
  · cases d <;> rfl
  · rfl
  · rfl
def rgI2 : R → R × List Sl → Option (List D × List Sl)
  | .val (.int m), (.val (.int n), ρ) => if -1000000 ≤ m ∧ m ≤ 1000000 ∧ -1000000 ≤ n ∧ n ≤ 1000000 then some (rg2 m (n - m).toNat, ρ) else none
  | _, _ => none
@[simp] theorem rgI2_int (m n : Int) (ρ : List Sl) : rgI2 (.val (.int m)) (.val (.int n), ρ) = if -1000000 ≤ m ∧ m ≤ 1000000 ∧ -1000000 ≤ n ∧ n ≤ 1000000 then some (rg2 m (n - m).toNat, ρ) else none := rfl
@[simp] theorem it_rg2 (f g : Ev) (ρ : List Sl) : itRg2 f g ρ = (f ρ).bind fun p => (g p.2).bind (rgI2 p.1) := by
  unfold itRg2
  congr 1
  funext p
  congr 1
  funext q
  rcases p with ⟨r, ρ⟩
  rcases q with ⟨r', ρ'⟩
  rcases r with d | d | i
  · cases d <;> first | rfl | (rcases r' with d | d | i <;> first | rfl | (cases d <;> rfl))
  · rfl
  · rfl
def seqI : D × List Sl → Option (List D × List Sl)
  | (.lst ds, ρ) => some (ds, ρ)
  | (.tup ds, ρ) => some (ds, ρ)
  | (.str x, ρ) => some (signs x, ρ)
  | _ => none
@[simp] theorem seqI_lst (ds : List D) (ρ : List Sl) : seqI (.lst ds, ρ) = some (ds, ρ) := rfl
@[simp] theorem seqI_tup (ds : List D) (ρ : List Sl) : seqI (.tup ds, ρ) = some (ds, ρ) := rfl
@[simp] theorem it_seq (f : Ev) (ρ : List Sl) : itSeq f ρ = (f ρ).bind fun p => (take p.2 p.1).bind seqI := by
  unfold itSeq
  congr 1
  funext p
  congr 1
  funext z
  rcases z with ⟨d, ρ⟩
  cases d <;> rfl
@[simp] theorem seqOf_lst (ds : List D) : seqOf (.lst ds) = some ds := rfl
@[simp] theorem seqOf_tup (ds : List D) : seqOf (.tup ds) = some ds := rfl
@[simp] theorem it_enum (f : Ev) (ρ : List Sl) : itEnum f ρ = (f ρ).bind fun p => (take p.2 p.1).bind fun z => (seqOf z.1).map fun ds => (enumD ds, z.2) := rfl
def zipI : List D × List Sl → Option (List D × List Sl)
  | ([x, y], ρ) => (seqOf x).bind fun xs => (seqOf y).map fun ys => (zipD xs ys, ρ)
  | _ => none
@[simp] theorem zipI_two (x y : D) (ρ : List Sl) : zipI ([x, y], ρ) = (seqOf x).bind fun xs => (seqOf y).map fun ys => (zipD xs ys, ρ) := rfl
@[simp] theorem it_zip (f g : Ev) (ρ : List Sl) : itZip f g ρ = (evs [f, g] ρ).bind fun p => (takes p.2 p.1).bind zipI := by
  unfold itZip
  congr 1
  funext p
  congr 1
  funext z
  rcases z with ⟨ds, ρ⟩
  rcases ds with _ | ⟨x, _ | ⟨y, _ | _⟩⟩ <;> rfl
@[simp] theorem forL_nil (t : Tg) (b : Stm) (ρ : List Sl) : forL t b [] ρ = some (.nx, ρ) := rfl
def forO (t : Tg) (b : Stm) (ds : List D) : Option (Out × List Sl) → Option (Out × List Sl)
  | some (.nx, ρ) => forL t b ds ρ
  | some (.ct, ρ) => forL t b ds ρ
  | some (.bk, ρ) => some (.nx, ρ)
  | some (.rt r, ρ) => some (.rt r, ρ)
  | none => none
@[simp] theorem forO_nx (t : Tg) (b : Stm) (ds : List D) (ρ : List Sl) : forO t b ds (some (.nx, ρ)) = forL t b ds ρ := rfl
@[simp] theorem forO_ct (t : Tg) (b : Stm) (ds : List D) (ρ : List Sl) : forO t b ds (some (.ct, ρ)) = forL t b ds ρ := rfl
@[simp] theorem forO_bk (t : Tg) (b : Stm) (ds : List D) (ρ : List Sl) : forO t b ds (some (.bk, ρ)) = some (.nx, ρ) := rfl
@[simp] theorem forO_rt (t : Tg) (b : Stm) (ds : List D) (r : R) (ρ : List Sl) : forO t b ds (some (.rt r, ρ)) = some (.rt r, ρ) := rfl
theorem forL_cons (t : Tg) (b : Stm) (d : D) (ds : List D) (ρ : List Sl) : forL t b (d :: ds) ρ = (asg t d ρ).bind fun ρ1 => forO t b ds (b ρ1) := by
  rw [forL]
  congr 1
  funext ρ1
  rcases b ρ1 with _ | ⟨o, ρ⟩
  · rfl
  · cases o <;> rfl
/-- a loop that is walked to its end -/
theorem forL_inv {t : Tg} {b : Stm} (I : List D → List Sl → Prop) (h : ∀ d ds ρ, I (d :: ds) ρ → ∃ ρ1 ρ2, asg t d ρ = some ρ1 ∧ (b ρ1 = some (.nx, ρ2) ∨ b ρ1 = some (.ct, ρ2)) ∧ I ds ρ2) :
    ∀ ds ρ, I ds ρ → ∃ ρ', forL t b ds ρ = some (.nx, ρ') ∧ I [] ρ' := by
  intro ds
  induction ds with
  | nil => exact fun ρ i => ⟨ρ, rfl, i⟩
  | cons d ds ih =>
    intro ρ i
    obtain ⟨ρ1, ρ2, e1, e2, i2⟩ := h d ds ρ i
    obtain ⟨ρ', e3, i3⟩ := ih ρ2 i2
    refine ⟨ρ', ?_, i3⟩
    rw [forL_cons, e1]
    show forO t b ds (b ρ1) = _
    rcases e2 with e2 | e2 <;> rw [e2] <;> exact e3
/-- a loop that may return or break -/
theorem forL_gen {t : Tg} {b : Stm} (I : List D → List Sl → Prop) (Post : Out → List Sl → Prop)
    (h : ∀ d ds ρ, I (d :: ds) ρ → ∃ ρ1 o ρ2, asg t d ρ = some ρ1 ∧ b ρ1 = some (o, ρ2) ∧ (match o with | .nx => I ds ρ2 | .ct => I ds ρ2 | .bk => Post .nx ρ2 | .rt r => Post (.rt r) ρ2))
    (h0 : ∀ ρ, I [] ρ → Post .nx ρ) : ∀ ds ρ, I ds ρ → ∃ o ρ', forL t b ds ρ = some (o, ρ') ∧ Post o ρ' := by
  intro ds
  induction ds with
  | nil => exact fun ρ i => ⟨.nx, ρ, rfl, h0 ρ i⟩
  | cons d ds ih =>
    intro ρ i
    obtain ⟨ρ1, o, ρ2, e1, e2, i2⟩ := h d ds ρ i
    cases o with
    | nx =>
      obtain ⟨o', ρ', e3, i3⟩ := ih ρ2 i2
      refine ⟨o', ρ', ?_, i3⟩
      rw [forL_cons, e1]
      show forO t b ds (b ρ1) = _
      rw [e2]; exact e3
    | ct =>
      obtain ⟨o', ρ', e3, i3⟩ := ih ρ2 i2
      refine ⟨o', ρ', ?_, i3⟩
      rw [forL_cons, e1]
      show forO t b ds (b ρ1) = _
      rw [e2]; exact e3
    | bk =>
      refine ⟨_, ρ2, ?_, i2⟩
      rw [forL_cons, e1]
      show forO t b ds (b ρ1) = _
      rw [e2]; rfl
    | rt r =>
      refine ⟨_, ρ2, ?_, i2⟩
      rw [forL_cons, e1]
      show forO t b ds (b ρ1) = _
      rw [e2]; rfl
/-! ### list displays by a loop -/
@[simp] theorem wipeR_nil (ρ : List Sl) : wipeR ρ [] = ρ := rfl
@[simp] theorem wipeR_cons (ρ : List Sl) (v : Nat) (vs : List Nat) : wipeR ρ (v :: vs) = (wipeR ρ vs).set v .no := rfl
@[simp] theorem unwipe_nil (o ρ : List Sl) : unwipe o ρ [] = ρ := rfl
@[simp] theorem unwipe_cons (o ρ : List Sl) (v : Nat) (vs : List Nat) : unwipe o ρ (v :: vs) = (unwipe o ρ vs).set v (o.getD v .no) := rfl
def notOwn : Option Sl → Bool
  | some (.own _ _) => false
  | _ => true
@[simp] theorem notOwn_val (d : D) : notOwn (some (.val d)) = true := rfl
@[simp] theorem notOwn_no : notOwn (some .no) = true := rfl
@[simp] theorem noOwn_nil (ρ : List Sl) : noOwn ρ [] = true := rfl
@[simp] theorem noOwn_cons (ρ : List Sl) (v : Nat) (vs : List Nat) : noOwn ρ (v :: vs) = (notOwn ρ[v]? && noOwn ρ vs) := by
  unfold noOwn
  rw [List.all_cons]
  congr 1
@[simp] theorem ev_lc (it : Iv) (t : Tg) (c e : Ev) (vs : List Nat) (ρ : List Sl) : fLc it t c e vs ρ = (it ρ).bind fun p => if noOwn p.2 vs = true then (lcL t c e vs p.1 [] (wipeR p.2 vs)).map fun q => (.own (.lst q.1), unwipe p.2 q.2 vs) else none := rfl
@[simp] theorem lcL_nil (t : Tg) (c e : Ev) (vs : List Nat) (acc : List D) (ρ : List Sl) : lcL t c e vs [] acc ρ = some (acc, ρ) := rfl
theorem lcL_cons (t : Tg) (c e : Ev) (vs : List Nat) (d : D) (ds acc : List D) (ρ : List Sl) : lcL t c e vs (d :: ds) acc ρ = (asg t d ρ).bind fun ρ1 =>
    condO (fun ρ2 => (e ρ2).bind fun q => (take q.2 q.1).bind fun z => if acc.length < cap then lcL t c e vs ds (acc ++ [z.1]) (wipeR z.2 vs) else none) (fun ρ2 => lcL t c e vs ds acc (wipeR ρ2 vs)) (c ρ1) := by
  rw [lcL]
  congr 1
  funext ρ1
  exact cond_eq (fun ρ2 => (e ρ2).bind fun q => (take q.2 q.1).bind fun z => if acc.length < cap then lcL t c e vs ds (acc ++ [z.1]) (wipeR z.2 vs) else none) (fun ρ2 => lcL t c e vs ds acc (wipeR ρ2 vs)) (c ρ1)
/-- each item gives one, or none; the slots stay -/
theorem lcL_map {t : Tg} {c e : Ev} {vs : List Nat} {ρ : List Sl} (g : D → Option D) : ∀ (ds acc : List D), acc.length + ds.length ≤ cap →
    (∀ d ∈ ds, ∃ ρ1, asg t d ρ = some ρ1 ∧ ((∃ y ρ2 r ρ3 ρ4, g d = some y ∧ c ρ1 = some (.val (.bl true), ρ2) ∧ e ρ2 = some (r, ρ3) ∧ take ρ3 r = some (y, ρ4) ∧ wipeR ρ4 vs = ρ) ∨ (∃ ρ2, g d = none ∧ c ρ1 = some (.val (.bl false), ρ2) ∧ wipeR ρ2 vs = ρ))) →
    lcL t c e vs ds acc ρ = some (acc ++ ds.filterMap g, ρ) := by
  intro ds
  induction ds with
  | nil => intro acc _ _; simp
  | cons d ds ih =>
    intro acc hl h
    obtain ⟨ρ1, e1, q⟩ := h d List.mem_cons_self
    have hl' : acc.length + (ds.length + 1) ≤ cap := by simpa using hl
    rw [lcL_cons, e1]
    show condO _ _ (c ρ1) = _
    rcases q with ⟨y, ρ2, r, ρ3, ρ4, g1, e2, e3, e4, e5⟩ | ⟨ρ2, g1, e2, e5⟩
    · rw [e2, condO_bl, if_pos rfl, e3]
      show (FL.take ρ3 r).bind _ = _
      rw [e4]
      show (if acc.length < cap then _ else _) = _
      rw [if_pos (by omega), e5, ih _ (by simp; omega) fun d hd => h d (List.mem_cons_of_mem _ hd), List.filterMap_cons_some g1]
      simp
    · rw [e2, condO_bl, if_neg Bool.false_ne_true, e5, ih _ (by omega) fun d hd => h d (List.mem_cons_of_mem _ hd), List.filterMap_cons_none g1]
end FL
namespace FL
open PySem L2
/-! # Games: states, frames, the tape -/
inductive Part | first | second | two | one | over
  deriving DecidableEq
def Part.s : Part → Str
  | .first => "first" | .second => "second" | .two => "two" | .one => "one" | .over => "over"
structure Gs where
  left : Int
  more : Int
  later : Int
  part : Part
  stand : Int
  deriving DecidableEq
def stD (s : Gs) : D := .tup [.int s.left, .int s.more, .int s.later, .str s.part.s, .int s.stand]
def Gs.OVER : Gs := ⟨0, 0, 0, .over, 0⟩
theorem overD_eq : D.tup overD = stD Gs.OVER := rfl
theorem bEq_part (p q : Part) : bEq (.str p.s) (.str q.s) = some (decide (p = q)) := by cases p <;> cases q <;> decide +kernel
@[simp] theorem bEq_first (p : Part) : bEq (.str p.s) (.str "first") = some (decide (p = .first)) := bEq_part p .first
@[simp] theorem bEq_second (p : Part) : bEq (.str p.s) (.str "second") = some (decide (p = .second)) := bEq_part p .second
@[simp] theorem bEq_two (p : Part) : bEq (.str p.s) (.str "two") = some (decide (p = .two)) := bEq_part p .two
@[simp] theorem bEq_one (p : Part) : bEq (.str p.s) (.str "one") = some (decide (p = .one)) := bEq_part p .one
theorem lev_strE (n : Nat) (x : Str) : lev n (.str x) = PyData.strOk x := by cases n <;> rfl
theorem lev_str (p : Part) (n : Nat) : lev n (.str p.s) = true := by rw [lev_strE]; cases p <;> decide +kernel
theorem lev_int (n : Nat) (i : Int) : lev n (.int i) = true := by cases n <;> rfl
theorem lev_bl (n : Nat) (i : Bool) : lev n (.bl i) = true := by cases n <;> rfl
theorem lev_non (n : Nat) : lev n .non = true := by cases n <;> rfl
theorem lev_tup (n : Nat) (xs : List D) : lev (n + 1) (.tup xs) = xs.all (lev n) := rfl
theorem lev_lst (n : Nat) (xs : List D) : lev (n + 1) (.lst xs) = xs.all (lev n) := rfl
theorem lev_stD (s : Gs) (n : Nat) : lev (n + 1) (stD s) = true := by
  unfold stD; rw [lev_tup]; simp [lev_int, lev_str]
theorem eqD_str (x y : Str) : eqD (.str x) (.str y) = decide (x = y) := by
  unfold eqD; rw [D.py, D.py, PyData.eqv]; rfl
theorem Part.s_inj {p q : Part} : p.s = q.s ↔ p = q := by
  constructor
  · intro h
    have := bEq_part p q
    unfold bEq at this
    rw [lev_str, lev_str] at this
    simp only [Bool.and_self, if_true, eqD_str, Option.some.injEq] at this
    have h2 : decide (p.s = q.s) = true := decide_eq_true h
    rw [h2] at this
    exact of_decide_eq_true this.symm
  · rintro rfl; rfl
@[simp] theorem bEq_stD (s t : Gs) : bEq (stD s) (stD t) = some (decide (s = t)) := by
  unfold bEq
  rw [lev_stD, lev_stD, Bool.and_self, if_pos rfl]
  congr 1
  unfold stD
  rw [eqD_tup]
  simp only [eqDs, eqD_int, eqD_str, Part.s_inj]
  rw [Bool.eq_iff_iff]
  simp only [Bool.and_eq_true, decide_eq_true_eq]
  constructor
  · rintro ⟨h1, h2, h3, h4, h5, _⟩; cases s; cases t; simp_all
  · rintro rfl; simp
/-- the state after a roll -/
def nextS (pins : Int) (s : Gs) (roll : Int) : Gs :=
  if s.part = .one then Gs.OVER
  else if s.part = .two then ⟨s.left, s.later, 0, .one, if roll < s.stand then pins - roll else pins⟩
  else if roll < s.stand then
    if s.part = .first then ⟨s.left, s.later, 0, .second, s.stand - roll⟩
    else if 1 < s.left then ⟨s.left - 1, s.later, 0, .first, pins⟩ else Gs.OVER
  else if s.left = 1 then ⟨s.left, s.later, 0, if s.part = .first then .two else .one, pins⟩
  else if s.part = .first then ⟨s.left - 1, s.later + 1, 1, .first, pins⟩
  else ⟨s.left - 1, s.later + 1, 0, .first, pins⟩
def beginS (f p : Int) : Gs := ⟨f, 0, 0, .first, p⟩
def afterS (p : Int) (s : Gs) (rolls : List Int) : Gs := rolls.foldl (nextS p) s
abbrev rulesD (f p : Int) : D := .tup [.int f, .int p]
abbrev tI (ns : List Int) : D := .tup (ns.map .int)
abbrev lI (ns : List Int) : D := .lst (ns.map .int)
/-! ### the tape -/
structure Tape where
  ns : List Int
  pos : Int
  cell : Int
def Tape.d (t : Tape) : D := .lst [.lst (t.ns.map .int), .int t.pos, .int t.cell]
abbrev prime : Int := 2305843009213693951
def Tape.item (t : Tape) : Int := if 0 < (t.ns.length : Int) then (t.ns[(t.pos % (t.ns.length : Int)).toNat]?).getD 0 else 0
def mix1 (pos cell : Int) : Int := (cell + 1000003 * pos) % prime
def mix2 (c : Int) : Int := (c * c + 1181783497276652981 * c + 2049848353892358983) % prime
def mix3 (c : Int) : Int := (c * c + 1442695040888963407) % prime
def Tape.fresh (t : Tape) : Int := if (t.ns.length : Int) ≤ t.pos ∨ t.item < 1000000000000000000 then mix3 (mix2 (mix1 t.pos t.item)) else t.item
def Tape.full (t : Tape) (m : Int) : Tape := if t.cell < m then ⟨t.ns, t.pos + 1, t.fresh⟩ else t
def Tape.out (t : Tape) (m : Int) : Int := (t.full m).cell % m
def Tape.rest (t : Tape) (m : Int) : Tape := ⟨t.ns, (t.full m).pos, (t.full m).cell / m⟩
theorem Tape.out_lo (t : Tape) {m : Int} (h : 0 < m) : 0 ≤ t.out m := Int.emod_nonneg _ (by omega)
theorem Tape.out_hi (t : Tape) {m : Int} (h : 0 < m) : t.out m < m := Int.emod_lt_of_pos _ h
/-! ### frames -/
def standsF (p : Int) (frame : List Int) : Int := frame.foldl (fun st r => if st - r = 0 then p else st - r) p
def neededF (p : Int) (last : Bool) (frame : List Int) : Int :=
  if frame = [] then 0
  else if last = false then (if frame.headD 0 = p ∨ frame.length = 2 then frame.length else 0)
  else if frame.length = 3 ∨ frame.length = 2 ∧ frame.headD 0 < p ∧ frame.sum < p then frame.length else 0
abbrev Fr := List (List Int) × List Int
def stepF (f p : Int) (x : Fr) (r : Int) : Option Fr :=
  if f < (x.1.length : Int) + 1 then none
  else if 0 ≤ r ∧ r ≤ standsF p x.2 then
    (if 0 < neededF p (decide ((x.1.length : Int) + 1 = f)) (x.2 ++ [r]) then some (x.1 ++ [x.2 ++ [r]], []) else some (x.1, x.2 ++ [r]))
  else none
def splitS (f p : Int) : Fr → List Int → Option Fr
  | x, [] => some x
  | x, r :: rs => (stepF f p x r).bind fun y => splitS f p y rs
theorem splitS_append (f p : Int) (as bs : List Int) : ∀ x : Fr, splitS f p x (as ++ bs) = (splitS f p x as).bind fun y => splitS f p y bs := by
  induction as with
  | nil => intro x; rfl
  | cons r rs ih =>
    intro x
    rw [List.cons_append, splitS, splitS]
    cases h : stepF f p x r with
    | none => rfl
    | some y => exact ih y
theorem splitS_one (f p : Int) (r : Int) (x : Fr) : splitS f p x [r] = stepF f p x r := by
  rw [splitS]; cases stepF f p x r <;> rfl
/-- how often the next rolls count more, behind whole frames -/
def bonF (p : Int) : List (List Int) → Int × Int
  | [] => (0, 0)
  | fr :: rest => match fr with   -- the last frame first
    | [_] => ((bonF p rest).2 + 1, 1)
    | [a, b] => if a + b = p then (1, 0) else (0, 0)
    | _ => (0, 0)
/-- the state behind whole frames and some rolls of one more -/
def stOf (f p : Int) (done : List (List Int)) (cur : List Int) : Gs :=
  if f ≤ (done.length : Int) then Gs.OVER
  else match cur with
    | [] => ⟨f - done.length, (bonF p done.reverse).1, (bonF p done.reverse).2, .first, p⟩
    | [a] => if a < p then ⟨f - done.length, (bonF p done.reverse).2, 0, .second, p - a⟩ else ⟨f - done.length, (bonF p done.reverse).2, 0, .two, p⟩
    | [a, c] => ⟨f - done.length, 0, 0, .one, if a < p then p else if c < p then p - c else p⟩
    | _ => Gs.OVER
/-- rolls of a frame that goes on -/
def curOk (f p : Int) (done : List (List Int)) : List Int → Prop
  | [] => (done.length : Int) ≤ f
  | [a] => (done.length : Int) < f ∧ 0 ≤ a ∧ a ≤ p ∧ (a < p ∨ (done.length : Int) + 1 = f)
  | [a, c] => (done.length : Int) + 1 = f ∧ 0 ≤ a ∧ a ≤ p ∧ 0 ≤ c ∧ c ≤ p ∧ (a = p ∨ a + c = p)
  | _ => False
theorem stOf_stand {f p : Int} {done : List (List Int)} {cur : List Int} (hp : 0 < p) (hf : (done.length : Int) < f) (h : curOk f p done cur) : (stOf f p done cur).stand = standsF p cur ∧ stOf f p done cur ≠ Gs.OVER := by
  unfold stOf
  rw [if_neg (by omega)]
  match cur, h with
  | [], _ => exact ⟨rfl, by simp [Gs.OVER]⟩
  | [a], h =>
    obtain ⟨h1, h2, h3, h4⟩ := h
    simp only [standsF, List.foldl]
    by_cases ha : a < p
    · rw [if_pos ha]
      refine ⟨?_, by simp [Gs.OVER]⟩
      show p - a = _
      rw [if_neg (by omega)]
    · rw [if_neg ha]
      refine ⟨?_, by simp [Gs.OVER]⟩
      show p = _
      rw [if_pos (by omega)]
  | [a, c], h =>
    obtain ⟨h1, h2, h3, h4, h5, h6⟩ := h
    simp only [standsF, List.foldl]
    refine ⟨?_, by simp [Gs.OVER]⟩
    by_cases ha : a < p
    · rw [if_pos ha, if_neg (show ¬ p - a = 0 by omega), if_pos (by omega)]
    · rw [if_neg ha, if_pos (show p - a = 0 by omega)]
      by_cases hc : c < p
      · rw [if_pos hc, if_neg (by omega)]
      · rw [if_neg hc, if_pos (by omega)]
theorem stOf_over {f p : Int} {done : List (List Int)} {cur : List Int} (hf : f ≤ (done.length : Int)) : stOf f p done cur = Gs.OVER := by
  unfold stOf; rw [if_pos hf]
/-- one roll -/
theorem step_ok {f p r : Int} {done : List (List Int)} {cur : List Int} (hp : 0 < p) (hf : (done.length : Int) < f) (h : curOk f p done cur) (h0 : 0 ≤ r) (h1 : r ≤ standsF p cur) :
    if 0 < neededF p (decide ((done.length : Int) + 1 = f)) (cur ++ [r]) then nextS p (stOf f p done cur) r = stOf f p (done ++ [cur ++ [r]]) [] ∧ curOk f p (done ++ [cur ++ [r]]) []
    else nextS p (stOf f p done cur) r = stOf f p done (cur ++ [r]) ∧ curOk f p done (cur ++ [r]) := by
  have hl : ∀ fr : List Int, ((done ++ [fr]).length : Int) = done.length + 1 := fun fr => by simp
  match cur, h with
  | [], h =>
    have h1' : r ≤ p := h1
    rw [List.nil_append] at *
    by_cases hl1 : (done.length : Int) + 1 = f
    · rw [decide_eq_true hl1]
      have hn : ¬ 0 < neededF p true [r] := by simp [neededF]
      rw [if_neg hn]
      refine ⟨?_, ⟨hf, h0, h1', .inr hl1⟩⟩
      unfold stOf
      rw [if_neg (by omega), if_neg (by omega)]
      simp only [nextS]
      by_cases hr : r < p
      · simp [hr]
      · have : f - (done.length : Int) = 1 := by omega
        simp [hr, this]
    · rw [decide_eq_false hl1]
      by_cases hr : r < p
      · have hn : ¬ 0 < neededF p false [r] := by simp [neededF]; omega
        rw [if_neg hn]
        refine ⟨?_, ⟨hf, h0, h1', .inl hr⟩⟩
        unfold stOf
        rw [if_neg (by omega), if_neg (by omega)]
        simp [nextS, hr]
      · have hr' : r = p := by omega
        subst hr'
        have hn : 0 < neededF r false [r] := by simp [neededF]
        rw [if_pos hn]
        refine ⟨?_, by show ((done ++ [[r]]).length : Int) ≤ f; rw [hl]; omega⟩
        unfold stOf
        rw [if_neg (by omega), if_neg (by rw [hl]; omega), hl]
        have h2 : ¬ f - (done.length : Int) = 1 := by omega
        simp [nextS, h2, bonF]
        omega
  | [a], h =>
    obtain ⟨g1, g2, g3, g4⟩ := h
    have hs : standsF p [a] = if a < p then p - a else p := by
      simp only [standsF, List.foldl]
      by_cases ha : a < p
      · rw [if_pos ha, if_neg (by omega)]
      · rw [if_neg ha, if_pos (by omega)]
    rw [hs] at h1
    show if 0 < neededF p _ [a, r] then _ ∧ _ else _ ∧ _
    have hap : [a] ++ [r] = [a, r] := rfl
    rw [hap] at *
    by_cases hl1 : (done.length : Int) + 1 = f
    · rw [decide_eq_true hl1]
      have hleft : f - (done.length : Int) = 1 := by omega
      by_cases ha : a < p
      · rw [if_pos ha] at h1
        by_cases hr : r < p - a
        · have hn : 0 < neededF p true [a, r] := by
            have : a + r < p := by omega
            simp [neededF, ha, this]
          rw [if_pos hn]
          refine ⟨?_, by show ((done ++ [[a, r]]).length : Int) ≤ f; rw [hl]; omega⟩
          rw [stOf_over (done := done ++ [[a, r]]) (by rw [hl]; omega)]
          unfold stOf
          rw [if_neg (by omega)]
          simp [nextS, ha, hr, hleft]
        · have hn : ¬ 0 < neededF p true [a, r] := by
            have : ¬ a + r < p := by omega
            simp [neededF, this]
          rw [if_neg hn]
          refine ⟨?_, ⟨hl1, g2, g3, h0, by omega, .inr (by omega)⟩⟩
          unfold stOf
          rw [if_neg (by omega), if_neg (by omega)]
          simp [nextS, ha, hr, hleft]
      · rw [if_neg ha] at h1
        have hn : ¬ 0 < neededF p true [a, r] := by simp [neededF, ha]
        rw [if_neg hn]
        refine ⟨?_, ⟨hl1, g2, g3, h0, h1, .inl (by omega)⟩⟩
        unfold stOf
        rw [if_neg (by omega), if_neg (by omega)]
        simp [nextS, ha]
    · rw [decide_eq_false hl1]
      have ha : a < p := by omega
      rw [if_pos ha] at h1
      have hn : 0 < neededF p false [a, r] := by simp [neededF]
      rw [if_pos hn]
      refine ⟨?_, by show ((done ++ [[a, r]]).length : Int) ≤ f; rw [hl]; omega⟩
      unfold stOf
      rw [if_neg (by omega), if_neg (by rw [hl]; omega), hl]
      have h2 : ¬ f - (done.length : Int) = 1 := by omega
      have h3 : 1 < f - (done.length : Int) := by omega
      have h4 : f - ((done.length : Int) + 1) = f - done.length - 1 := by omega
      by_cases hr : r < p - a
      · have : ¬ a + r = p := by omega
        simp [nextS, ha, hr, h2, h3, bonF, this, h4]
      · have : a + r = p := by omega
        simp [nextS, ha, hr, h2, h3, bonF, this, h4]
  | [a, c], h =>
    obtain ⟨g1, g2, g3, g4, g5, g6⟩ := h
    rw [decide_eq_true g1]
    have hn : 0 < neededF p true ([a, c] ++ [r]) := by simp [neededF]
    rw [if_pos hn]
    refine ⟨?_, by show ((done ++ [[a, c] ++ [r]]).length : Int) ≤ f; rw [hl]; omega⟩
    rw [stOf_over (done := done ++ [[a, c] ++ [r]]) (by rw [hl]; omega)]
    unfold stOf
    rw [if_neg (by omega)]
    simp [nextS]

/-- the state and the frames go side by side -/
def Lock (f p : Int) (s : Gs) (x : Fr) : Prop := s = stOf f p x.1 x.2 ∧ curOk f p x.1 x.2 ∧ (x.1.length : Int) ≤ f
theorem curOk_le {f p : Int} {done : List (List Int)} : ∀ {cur : List Int}, curOk f p done cur → (done.length : Int) ≤ f
  | [], h => h
  | [_], h => by have := h.1; omega
  | [_, _], h => by have := h.1; omega
theorem curOk_len {f p : Int} {done : List (List Int)} : ∀ {cur : List Int}, curOk f p done cur → cur.length ≤ 2
  | [], _ => by simp
  | [_], _ => by simp
  | [_, _], _ => by simp
theorem Lock.begin {f p : Int} (hf : 0 < f) : Lock f p (beginS f p) ([], []) := by
  refine ⟨?_, ?_, ?_⟩
  · unfold stOf beginS
    rw [if_neg (by simp; omega)]
    simp [bonF]
  · show ((List.length [] : Nat) : Int) ≤ f
    simp; omega
  · simp; omega
theorem Lock.full {f p : Int} {s : Gs} {x : Fr} (hp : 0 < p) (h : Lock f p s x) : s = Gs.OVER ↔ f < (x.1.length : Int) + 1 := by
  obtain ⟨rfl, h1, h2⟩ := h
  by_cases hf : (x.1.length : Int) < f
  · have := (stOf_stand hp hf h1).2
    constructor
    · intro z; exact absurd z this
    · intro z; omega
  · rw [stOf_over (by omega)]
    constructor
    · intro _; omega
    · intro _; rfl
theorem Lock.stand {f p : Int} {s : Gs} {x : Fr} (hp : 0 < p) (h : Lock f p s x) (hf : ¬ f < (x.1.length : Int) + 1) : s.stand = standsF p x.2 := by
  obtain ⟨rfl, h1, h2⟩ := h
  exact (stOf_stand hp (by omega) h1).1
theorem Lock.step {f p r : Int} {s : Gs} {x y : Fr} (hp : 0 < p) (h : Lock f p s x) (e : stepF f p x r = some y) : Lock f p (nextS p s r) y := by
  obtain ⟨rfl, h1, h2⟩ := h
  unfold stepF at e
  split at e
  · cases e
  · rename_i hf
    split at e
    · rename_i hr
      have q := step_ok hp (by omega : (x.1.length : Int) < f) h1 hr.1 hr.2
      split at e
      · rename_i hn
        rw [if_pos hn] at q
        cases e
        exact ⟨q.1, q.2, q.2⟩
      · rename_i hn
        rw [if_neg hn] at q
        cases e
        exact ⟨q.1, q.2, h2⟩
    · cases e
theorem Lock.steps {f p : Int} (hp : 0 < p) : ∀ {rolls : List Int} {s : Gs} {x y : Fr}, Lock f p s x → splitS f p x rolls = some y → Lock f p (afterS p s rolls) y
  | [], _, _, _, h, e => by cases e; exact h
  | r :: rs, s, x, y, h, e => by
    rw [splitS] at e
    cases h1 : stepF f p x r with
    | none => rw [h1] at e; cases e
    | some z =>
      rw [h1] at e
      exact Lock.steps (s := nextS p s r) (rolls := rs) hp (h.step hp h1) e
/-- a roll can be, seen from the state -/
theorem Lock.can {f p r : Int} {s : Gs} {x : Fr} (hp : 0 < p) (h : Lock f p s x) : (stepF f p x r).isSome = true ↔ s ≠ Gs.OVER ∧ 0 ≤ r ∧ r ≤ s.stand := by
  by_cases hf : f < (x.1.length : Int) + 1
  · have := (h.full hp).mpr hf
    unfold stepF
    rw [if_pos hf]
    constructor
    · intro z; cases z
    · intro z; exact absurd this z.1
  · have h1 : s ≠ Gs.OVER := fun z => hf ((h.full hp).mp z)
    rw [h.stand hp hf]
    unfold stepF
    rw [if_neg hf]
    constructor
    · intro z
      split at z
      · rename_i q; exact ⟨h1, q⟩
      · cases z
    · rintro ⟨_, q⟩
      rw [if_pos q]
      split <;> rfl
/-- rolls that are a start -/
def Valid (f p : Int) (rolls : List Int) : Prop := ∃ y, splitS f p ([], []) rolls = some y
theorem stepF_fit {f p r : Int} {x y : Fr} (e : stepF f p x r = some y) : y.1.length + y.2.length ≤ x.1.length + x.2.length + 1 := by
  unfold stepF at e
  split at e
  · cases e
  · split at e
    · split at e
      · cases e; simp only [List.length_append, List.length_singleton, List.length_nil]; omega
      · cases e; simp only [List.length_append, List.length_singleton]; omega
    · cases e
end FL
namespace FL
open PySem L2
/-! # Scores by frames -/
def enumF (n : Int) : List D → List D
  | [] => []
  | d :: ds => .tup [.int n, d] :: enumF (n + 1) ds
theorem enumF_len : ∀ (ds : List D) (n : Int), (enumF n ds).length = ds.length
  | [], _ => rfl
  | _ :: ds, n => by rw [enumF, List.length_cons, List.length_cons, enumF_len ds]
theorem enumF_get : ∀ (ds : List D) (n : Int) (i : Nat), i < ds.length → (enumF n ds)[i]? = some (.tup [.int (n + (i : Int)), ds.getD i .non])
  | [], _, _, h => by simp at h
  | d :: ds, n, 0, _ => by simp [enumF]
  | d :: ds, n, i + 1, h => by
    rw [enumF, List.getElem?_cons_succ, enumF_get ds (n + 1) i (by simpa using h)]
    simp
    omega
theorem enumD_eq (ds : List D) : enumD ds = enumF 0 ds := by
  apply List.ext_getElem?
  intro i
  by_cases h : i < ds.length
  · rw [enumD_get h, enumF_get ds 0 i h]; simp
  · rw [List.getElem?_eq_none (by simp [enumD]; omega), List.getElem?_eq_none (by rw [enumF_len]; omega)]
def zipF : List D → List D → List D
  | x :: xs, y :: ys => .tup [x, y] :: zipF xs ys
  | _, _ => []
theorem zipF_len : ∀ xs ys : List D, (zipF xs ys).length = min xs.length ys.length
  | [], _ => by simp [zipF]
  | _ :: _, [] => by simp [zipF]
  | x :: xs, y :: ys => by rw [zipF, List.length_cons, List.length_cons, List.length_cons, zipF_len xs ys]; omega
theorem zipF_get : ∀ (xs ys : List D) (i : Nat), i < min xs.length ys.length → (zipF xs ys)[i]? = some (.tup [xs.getD i .non, ys.getD i .non])
  | [], _, _, h => by simp at h
  | _ :: _, [], _, h => by simp at h
  | x :: xs, y :: ys, 0, _ => by simp [zipF]
  | x :: xs, y :: ys, i + 1, h => by
    rw [zipF, List.getElem?_cons_succ, zipF_get xs ys i (by simp at h ⊢; omega)]
    simp
theorem zipD_eq (xs ys : List D) : zipD xs ys = zipF xs ys := by
  apply List.ext_getElem?
  intro i
  by_cases h : i < min xs.length ys.length
  · rw [zipD_get h, zipF_get xs ys i h]
  · rw [List.getElem?_eq_none (by simp [zipD]; omega), List.getElem?_eq_none (by rw [zipF_len]; omega)]
/-! ### weights and scores by states -/
def wtS (p : Int) : Gs → List Int → List Int
  | _, [] => []
  | s, r :: rs => (1 + s.more) :: wtS p (nextS p s r) rs
def scS (p : Int) : Gs → List Int → Int
  | _, [] => 0
  | s, r :: rs => r * (1 + s.more) + scS p (nextS p s r) rs
theorem wtS_len (p : Int) : ∀ (rs : List Int) (s : Gs), (wtS p s rs).length = rs.length
  | [], _ => rfl
  | r :: rs, s => by rw [wtS, List.length_cons, List.length_cons, wtS_len p rs]
theorem scS_zip (p : Int) : ∀ (rs : List Int) (s : Gs), (List.zipWith (· * ·) rs (wtS p s rs)).sum = scS p s rs
  | [], _ => rfl
  | r :: rs, s => by rw [wtS, scS, List.zipWith_cons_cons, List.sum_cons, scS_zip p rs]
/-! ### whole frames, frames that go on -/
def Whole (p : Int) (last : Bool) : List Int → Prop
  | [a] => last = false ∧ a = p
  | [a, c] => 0 ≤ a ∧ a < p ∧ 0 ≤ c ∧ (if last then a + c < p else a + c ≤ p)
  | [a, c, d] => last = true ∧ 0 ≤ a ∧ a ≤ p ∧ 0 ≤ c ∧ c ≤ p ∧ 0 ≤ d ∧ d ≤ p ∧ (a = p ∧ (c = p ∨ c + d ≤ p) ∨ a < p ∧ a + c = p)
  | _ => False
def Going (p : Int) (last : Bool) : List Int → Prop
  | [] => True
  | [a] => 0 ≤ a ∧ a ≤ p ∧ (a < p ∨ last = true)
  | [a, c] => last = true ∧ 0 ≤ a ∧ a ≤ p ∧ 0 ≤ c ∧ c ≤ p ∧ (a = p ∨ a + c = p)
  | _ => False
/-- frames from the n-th on -/
def FrOk (f p : Int) : Int → List (List Int) → Prop
  | n, [] => n = f
  | n, fr :: more => n < f ∧ ((more = [] ∧ Going p (decide (n + 1 = f)) fr) ∨ (Whole p (decide (n + 1 = f)) fr ∧ FrOk f p (n + 1) more))
def DoneOk (f p : Int) : Int → List (List Int) → Prop
  | _, [] => True
  | n, fr :: more => n < f ∧ Whole p (decide (n + 1 = f)) fr ∧ DoneOk f p (n + 1) more
theorem DoneOk.snoc {f p : Int} {fr : List Int} : ∀ {done : List (List Int)} {n : Int}, DoneOk f p n done → n + (done.length : Int) < f → Whole p (decide (n + (done.length : Int) + 1 = f)) fr → DoneOk f p n (done ++ [fr])
  | [], n, _, h1, h2 => by
    simp only [List.length_nil, Int.ofNat_zero, Int.add_zero] at h1 h2
    exact ⟨by simpa using h1, by simpa using h2, trivial⟩
  | g :: more, n, h, h1, h2 => by
    obtain ⟨a, b, c⟩ := h
    have e : n + 1 + (more.length : Int) = n + ((g :: more).length : Int) := by simp; omega
    exact ⟨a, b, DoneOk.snoc c (by rw [e]; exact h1) (by rw [e]; exact h2)⟩
theorem DoneOk.fr {f p : Int} {cur : List Int} : ∀ {done : List (List Int)} {n : Int}, DoneOk f p n done → n + (done.length : Int) < f → Going p (decide (n + (done.length : Int) + 1 = f)) cur → FrOk f p n (done ++ [cur])
  | [], n, _, h1, h2 => by
    simp only [List.length_nil, Int.ofNat_zero, Int.add_zero] at h1 h2
    exact ⟨by simpa using h1, .inl ⟨rfl, by simpa using h2⟩⟩
  | g :: more, n, h, h1, h2 => by
    obtain ⟨a, b, c⟩ := h
    have e : n + 1 + (more.length : Int) = n + ((g :: more).length : Int) := by simp; omega
    exact ⟨a, .inr ⟨b, DoneOk.fr c (by rw [e]; exact h1) (by rw [e]; exact h2)⟩⟩
theorem DoneOk.full {f p : Int} : ∀ {done : List (List Int)} {n : Int}, DoneOk f p n done → n + (done.length : Int) = f → FrOk f p n done
  | [], n, _, h1 => by
    show n = f
    simpa using h1
  | g :: more, n, h, h1 => by
    obtain ⟨a, b, c⟩ := h
    exact ⟨a, .inr ⟨b, DoneOk.full c (by simp at h1; omega)⟩⟩
theorem whole_of {f p r : Int} {done : List (List Int)} {cur : List Int} (hp : 0 < p) (h : curOk f p done cur) (hf : (done.length : Int) < f) (h0 : 0 ≤ r) (h1 : r ≤ standsF p cur) (hn : 0 < neededF p (decide ((done.length : Int) + 1 = f)) (cur ++ [r])) :
    Whole p (decide ((done.length : Int) + 1 = f)) (cur ++ [r]) := by
  match cur, h with
  | [], h =>
    have h1' : r ≤ p := h1
    by_cases hl : (done.length : Int) + 1 = f
    · rw [decide_eq_true hl] at hn; simp [neededF] at hn
    · rw [decide_eq_false hl] at hn ⊢
      simp [neededF] at hn
      split at hn
      · rename_i h; exact ⟨rfl, h⟩
      · omega
  | [a], h =>
    obtain ⟨g1, g2, g3, g4⟩ := h
    have hs : standsF p [a] = if a < p then p - a else p := by
      simp only [standsF, List.foldl]
      by_cases ha : a < p
      · rw [if_pos ha, if_neg (by omega)]
      · rw [if_neg ha, if_pos (by omega)]
    rw [hs] at h1
    by_cases hl : (done.length : Int) + 1 = f
    · rw [decide_eq_true hl] at hn ⊢
      have hn' : a < p ∧ a + r < p := by
        simp [neededF] at hn
        split at hn
        · rename_i h; exact h
        · omega
      exact ⟨g2, hn'.1, h0, hn'.2⟩
    · rw [decide_eq_false hl]
      have ha : a < p := by omega
      rw [if_pos ha] at h1
      exact ⟨g2, ha, h0, by show a + r ≤ p; omega⟩
  | [a, c], h =>
    obtain ⟨g1, g2, g3, g4, g5, g6⟩ := h
    rw [decide_eq_true g1]
    have h1' := h1
    simp only [standsF, List.foldl] at h1'
    by_cases ha : a < p
    · rw [if_neg (show ¬ p - a = 0 by omega), if_pos (by omega)] at h1'
      exact ⟨rfl, g2, g3, g4, g5, h0, h1', .inr ⟨ha, by omega⟩⟩
    · rw [if_pos (show p - a = 0 by omega)] at h1'
      by_cases hc : c < p
      · rw [if_neg (by omega)] at h1'
        exact ⟨rfl, g2, g3, g4, g5, h0, by omega, .inl ⟨by omega, .inr (by omega)⟩⟩
      · rw [if_pos (by omega)] at h1'
        exact ⟨rfl, g2, g3, g4, g5, h0, h1', .inl ⟨by omega, .inl (by omega)⟩⟩
theorem going_of {f p : Int} {done : List (List Int)} : ∀ {cur : List Int}, curOk f p done cur → Going p (decide ((done.length : Int) + 1 = f)) cur
  | [], _ => trivial
  | [a], h => ⟨h.2.1, h.2.2.1, h.2.2.2.imp_right fun h => decide_eq_true h⟩
  | [a, c], h => ⟨decide_eq_true h.1, h.2.1, h.2.2.1, h.2.2.2.1, h.2.2.2.2.1, h.2.2.2.2.2⟩
theorem done_step {f p r : Int} {x y : Fr} (hp : 0 < p) (hc : curOk f p x.1 x.2) (hd : DoneOk f p 0 x.1) (e : stepF f p x r = some y) : DoneOk f p 0 y.1 := by
  unfold stepF at e
  split at e
  · cases e
  · rename_i hf
    split at e
    · rename_i hr
      split at e
      · rename_i hn
        cases e
        exact hd.snoc (by omega) (by rw [Int.zero_add]; exact whole_of hp hc (by omega) hr.1 hr.2 hn)
      · cases e; exact hd
    · cases e
theorem done_steps {f p : Int} (hp : 0 < p) : ∀ {rs : List Int} {x y : Fr}, Lock f p (stOf f p x.1 x.2) x → DoneOk f p 0 x.1 → splitS f p x rs = some y → DoneOk f p 0 y.1
  | [], x, y, _, h, e => by cases e; exact h
  | r :: rs, x, y, hL, h, e => by
    rw [splitS] at e
    cases hz : stepF f p x r with
    | none => rw [hz] at e; cases e
    | some z =>
      rw [hz] at e
      have hL2 := hL.step hp hz
      exact done_steps hp (rs := rs) (x := z) ⟨rfl, hL2.2⟩ (done_step hp hL.2.1 h hz) e
/-- the frames that a game shows -/
def shown (f : Int) (x : Fr) : List (List Int) := (x.1 ++ [x.2]).take f.toNat
theorem shown_over {f : Int} {x : Fr} (h : (x.1.length : Int) = f) : shown f x = x.1 := by
  unfold shown
  have : f.toNat = x.1.length := by omega
  rw [this, List.take_left']
  rfl
theorem shown_on {f : Int} {x : Fr} (h : (x.1.length : Int) < f) : shown f x = x.1 ++ [x.2] := by
  unfold shown
  rw [List.take_of_length_le (by simp; omega)]
/-- the rolls are those of the frames -/
theorem flat_steps {f p : Int} : ∀ {rs : List Int} {x y : Fr}, splitS f p x rs = some y → x.1.flatten ++ x.2 ++ rs = y.1.flatten ++ y.2
  | [], x, y, e => by cases e; simp
  | r :: rs, x, y, e => by
    rw [splitS] at e
    cases hz : stepF f p x r with
    | none => rw [hz] at e; cases e
    | some z =>
      rw [hz] at e
      rw [← flat_steps (rs := rs) (x := z) e]
      unfold stepF at hz
      split at hz
      · cases hz
      · split at hz
        · split at hz
          · cases hz; simp
          · cases hz; simp
        · cases hz
end FL
namespace FL
open PySem L2
theorem whole_needed {p : Int} {last : Bool} {fr : List Int} (h : Whole p last fr) : 0 < neededF p last fr := by
  match fr, h with
  | [a], h => obtain ⟨rfl, rfl⟩ := h; simp [neededF]
  | [a, c], h =>
    obtain ⟨h1, h2, h3, h4⟩ := h
    cases last with
    | false => simp [neededF]
    | true =>
      have h4' : a + c < p := h4
      simp [neededF, h2, h4']
  | [a, c, d], h => obtain ⟨rfl, h⟩ := h; simp [neededF]
theorem going_needed {p : Int} (hp : 0 < p) {last : Bool} {fr : List Int} (h : Going p last fr) : ¬ 0 < neededF p last fr := by
  match fr, h with
  | [], _ => simp [neededF]
  | [a], h =>
    obtain ⟨h1, h2, h3⟩ := h
    cases last with
    | false =>
      have : a < p := h3.elim id fun z => by cases z
      simp [neededF]; omega
    | true => simp [neededF]
  | [a, c], h =>
    obtain ⟨rfl, h2, h3, h4, h5, h6⟩ := h
    have : ¬ (a < p ∧ a + c < p) := by omega
    simp [neededF, this]
theorem whole_not_going {p : Int} (hp : 0 < p) {last : Bool} {fr : List Int} (h : Whole p last fr) (g : Going p last fr) : False := going_needed hp g (whole_needed h)
theorem whole_ne {p : Int} {last : Bool} {fr : List Int} (h : Whole p last fr) : fr ≠ [] := by rintro rfl; exact h
/-- the size of the part that belongs to a frame -/
def sizeF (f p n : Int) (fr : List Int) : Nat := if n < f - 1 ∧ fr.sum = p then 3 else fr.length
def partsF (f p : Int) : Int → List (List Int) → List (List Int × Bool)
  | _, [] => []
  | n, fr :: more => (if fr = [] then [] else [((fr ++ more.flatten).take (sizeF f p n fr), decide (0 < neededF p (decide (n = f - 1)) fr) && decide (sizeF f p n fr ≤ (fr ++ more.flatten).length))]) ++ partsF f p (n + 1) more
def pointsF (f p : Int) (n : Int) (fs : List (List Int)) : Int := ((partsF f p n fs).map fun x => x.1.sum).sum
def settledF (f p : Int) (n : Int) (fs : List (List Int)) : List Int := (partsF f p n fs).filterMap fun x => if x.2 = true then some x.1.sum else none
theorem last_eq (n f : Int) : decide (n = f - 1) = decide (n + 1 = f) := by
  by_cases h : n = f - 1
  · rw [decide_eq_true h, decide_eq_true (by omega)]
  · rw [decide_eq_false h, decide_eq_false (by omega)]
theorem points_cons (f p n : Int) (fr : List Int) (more : List (List Int)) (h : fr ≠ []) : pointsF f p n (fr :: more) = ((fr ++ more.flatten).take (sizeF f p n fr)).sum + pointsF f p (n + 1) more := by
  unfold pointsF
  rw [partsF, if_neg h]; simp
theorem points_nil (f p n : Int) (more : List (List Int)) : pointsF f p n ([] :: more) = pointsF f p (n + 1) more := by
  unfold pointsF
  rw [partsF, if_pos rfl]; simp
theorem take2_sum (M : List Int) : (M.take 2).sum = M.getD 0 0 + M.getD 1 0 := by
  match M with
  | [] => rfl
  | [a] => simp
  | a :: b :: r => simp
theorem take1_sum (M : List Int) : (M.take 1).sum = M.getD 0 0 := by
  match M with
  | [] => rfl
  | a :: r => simp
theorem whole_last_nil {f p n : Int} {more : List (List Int)} (h : n = f) (g : FrOk f p n more) : more = [] := by
  cases more with
  | nil => rfl
  | cons a r => have := g.1; omega
/-- the score, each roll with its weight, is the points of the frames -/
theorem score_points {f p : Int} (hp : 0 < p) : ∀ {fs : List (List Int)} {n : Int} (m l : Int), FrOk f p n fs →
    scS p ⟨f - n, m, l, .first, p⟩ fs.flatten = m * fs.flatten.getD 0 0 + l * fs.flatten.getD 1 0 + pointsF f p n fs
  | [], n, m, l, _ => by simp [scS, pointsF, partsF]
  | fr :: more, n, m, l, h => by
    obtain ⟨hn, h⟩ := h
    rcases h with ⟨rfl, hg⟩ | ⟨hw, hm⟩
    · match fr, hg with
      | [], _ => rw [points_nil]; simp [scS, pointsF, partsF]
      | [a], hg =>
        obtain ⟨h1, h2, h3⟩ := hg
        have hsz : sizeF f p n [a] = 1 := by
          unfold sizeF
          rw [if_neg]; rfl
          rintro ⟨q1, q2⟩
          simp at q2
          rcases h3 with h3 | h3
          · omega
          · have := of_decide_eq_true h3; omega
        rw [points_cons _ _ _ _ _ (by simp), hsz]
        simp [scS, pointsF, partsF]
        rw [Int.mul_add, Int.mul_comm m a]; omega
      | [a, c], hg =>
        obtain ⟨h0, h1, h2, h3, h4, h5⟩ := hg
        have hl := of_decide_eq_true h0
        have hsz : sizeF f p n [a, c] = 2 := by
          unfold sizeF
          rw [if_neg]; rfl
          rintro ⟨q1, q2⟩; omega
        rw [points_cons _ _ _ _ _ (by simp), hsz]
        have hleft : f - n = 1 := by omega
        simp only [List.flatten_cons, List.flatten_nil, List.append_nil, scS]
        by_cases ha : a < p <;> simp [nextS, ha, hleft, pointsF, partsF] <;> rw [Int.mul_add, Int.mul_add, Int.mul_comm m a, Int.mul_comm l c] <;> omega
    · by_cases hl : n + 1 = f
      · rw [decide_eq_true hl] at hw
        have := whole_last_nil hl hm
        subst this
        have hleft : f - n = 1 := by omega
        match fr, hw with
        | [a], hw => cases hw.1
        | [a, c], hw =>
          obtain ⟨h1, h2, h3, h4⟩ := hw
          have h4' : a + c < p := h4
          have hsz : sizeF f p n [a, c] = 2 := by
            unfold sizeF
            rw [if_neg]; rfl
            rintro ⟨q1, q2⟩; omega
          rw [points_cons _ _ _ _ _ (by simp), hsz]
          simp only [List.flatten_cons, List.flatten_nil, List.append_nil, scS]
          simp [nextS, h2, hleft, pointsF, partsF]
          rw [Int.mul_add, Int.mul_add, Int.mul_comm m a, Int.mul_comm l c]; omega
        | [a, c, d], hw =>
          obtain ⟨_, h1, h2, h3, h4, h5, h6, h7⟩ := hw
          have hsz : sizeF f p n [a, c, d] = 3 := by
            unfold sizeF
            rw [if_neg]; rfl
            rintro ⟨q1, q2⟩; omega
          rw [points_cons _ _ _ _ _ (by simp), hsz]
          simp only [List.flatten_cons, List.flatten_nil, List.append_nil, scS]
          by_cases ha : a < p
          · have hc : ¬ c < p - a := by omega
            simp [nextS, ha, hc, hleft, pointsF, partsF]
            rw [Int.mul_add, Int.mul_add, Int.mul_comm m a, Int.mul_comm l c]; omega
          · by_cases hc : c < p <;> simp [nextS, ha, hc, hleft, pointsF, partsF] <;> rw [Int.mul_add, Int.mul_add, Int.mul_comm m a, Int.mul_comm l c] <;> omega
      · rw [decide_eq_false hl] at hw
        have hn2 : n < f - 1 := by omega
        have e1 : f - n - 1 = f - (n + 1) := by omega
        match fr, hw with
        | [a], hw =>
          obtain ⟨_, rfl⟩ := hw
          have hsz : sizeF f a n [a] = 3 := by unfold sizeF; rw [if_pos ⟨hn2, by simp⟩]
          have hleft : ¬ f - n = 1 := by omega
          rw [points_cons _ _ _ _ _ (by simp), hsz]
          simp only [List.flatten_cons, scS, List.cons_append, List.nil_append]
          have ih := score_points hp (l + 1) 1 hm
          simp only [nextS, Int.lt_irrefl, if_false, hleft, if_true, e1]
          rw [if_neg (by simp), if_neg (by simp), ih]
          simp only [List.take_succ_cons, List.sum_cons, take2_sum, List.getD_cons_zero, List.getD_cons_succ]
          simp only [Int.mul_add, Int.add_mul, Int.mul_one, Int.one_mul]
          rw [Int.mul_comm m a]; omega
        | [a, c], hw =>
          obtain ⟨h1, h2, h3, h4⟩ := hw
          have h4' : a + c ≤ p := h4
          have hleft : ¬ f - n = 1 := by omega
          have hleft2 : 1 < f - n := by omega
          simp only [List.flatten_cons, scS, List.cons_append, List.nil_append]
          by_cases hs : a + c = p
          · have hsz : sizeF f p n [a, c] = 3 := by unfold sizeF; rw [if_pos ⟨hn2, by simpa using hs⟩]
            have hc : ¬ c < p - a := by omega
            have ih := score_points hp 1 0 hm
            rw [points_cons _ _ _ _ _ (by simp), hsz]
            simp [nextS, h2, hc, hleft, e1, ih, take1_sum]
            simp only [Int.mul_add, Int.mul_one]
            rw [Int.mul_comm m a, Int.mul_comm l c]; omega
          · have hsz : sizeF f p n [a, c] = 2 := by
              unfold sizeF
              rw [if_neg]; rfl
              rintro ⟨q1, q2⟩; simp at q2; omega
            have hc : c < p - a := by omega
            have ih := score_points hp 0 0 hm
            rw [points_cons _ _ _ _ _ (by simp), hsz]
            simp [nextS, h2, hc, hleft2, e1, ih]
            simp only [Int.mul_add, Int.mul_one]
            rw [Int.mul_comm m a, Int.mul_comm l c]; omega
        | [a, c, d], hw => cases hw.1
end FL
namespace FL
open PySem L2
/-- the scores of the settled frames, as the program finds them -/
def fscF (f p : Int) (over : Bool) : Int → List (List Int) → List Int
  | _, [] => []
  | n, fr :: more =>
    if n + 1 < f then
      (if fr.sum = p then (if (fr ++ more.flatten).length < 3 then [] else ((fr ++ more.flatten).take 3).sum :: fscF f p over (n + 1) more)
       else if fr.length < 2 then [] else fr.sum :: fscF f p over (n + 1) more)
    else if over = true then fr.sum :: fscF f p over (n + 1) more else []
theorem settled_cons (f p n : Int) (fr : List Int) (more : List (List Int)) (h : fr ≠ []) : settledF f p n (fr :: more) =
    (if 0 < neededF p (decide (n = f - 1)) fr ∧ sizeF f p n fr ≤ (fr ++ more.flatten).length then [((fr ++ more.flatten).take (sizeF f p n fr)).sum] else []) ++ settledF f p (n + 1) more := by
  unfold settledF
  rw [partsF, if_neg h, List.filterMap_append]
  congr 1
  by_cases h1 : 0 < neededF p (decide (n = f - 1)) fr ∧ sizeF f p n fr ≤ (fr ++ more.flatten).length
  · rw [if_pos h1]
    simp only [List.filterMap_cons, List.filterMap_nil, decide_eq_true h1.1, decide_eq_true h1.2, Bool.and_self, if_true]
  · rw [if_neg h1]
    have : (decide (0 < neededF p (decide (n = f - 1)) fr) && decide (sizeF f p n fr ≤ (fr ++ more.flatten).length)) = false := by
      rw [← Bool.not_eq_true, Bool.and_eq_true, decide_eq_true_eq, decide_eq_true_eq]; exact h1
    simp only [List.filterMap_cons, this, List.filterMap_nil, Bool.false_eq_true, if_false]
theorem settled_nil (f p n : Int) (more : List (List Int)) : settledF f p n ([] :: more) = settledF f p (n + 1) more := by
  unfold settledF
  rw [partsF, if_pos rfl, List.nil_append]
/-- nothing is settled where at most one roll is left -/
theorem settled_few {f p : Int} (hp : 0 < p) : ∀ {fs : List (List Int)} {n : Int}, FrOk f p n fs → fs.flatten.length ≤ 1 → settledF f p n fs = []
  | [], _, _, _ => rfl
  | fr :: more, n, h, hl => by
    obtain ⟨hn, h⟩ := h
    rcases h with ⟨rfl, hg⟩ | ⟨hw, hm⟩
    · by_cases hfr : fr = []
      · subst hfr; rw [settled_nil]; rfl
      · rw [settled_cons _ _ _ _ _ hfr, if_neg]
        · rfl
        · rintro ⟨h1, _⟩
          rw [last_eq] at h1
          exact going_needed hp hg h1
    · have hfr := whole_ne hw
      have hl' : fr.length + more.flatten.length ≤ 1 := by simpa using hl
      match fr, hw, hl', hfr with
      | [a], hw, hl', hfr =>
        obtain ⟨h1, rfl⟩ := hw
        have h1' := of_decide_eq_false h1
        have hm0 : more.flatten = [] := List.eq_nil_of_length_eq_zero (by simp only [List.length_singleton] at hl'; omega)
        have hsz : sizeF f a n [a] = 3 := by unfold sizeF; rw [if_pos ⟨by omega, by simp⟩]
        rw [settled_cons _ _ _ _ _ hfr, if_neg, settled_few hp hm (by rw [hm0]; simp)]
        · rfl
        · rintro ⟨_, h2⟩
          rw [hsz, hm0] at h2
          simp at h2
      | [a, c], _, hl', _ => simp only [List.length_cons, List.length_nil] at hl'; omega
      | [a, c, d], _, hl', _ => simp only [List.length_cons, List.length_nil] at hl'; omega
theorem fsc_settled {f p : Int} (hp : 0 < p) {over : Bool} : ∀ {fs : List (List Int)} {n : Int}, FrOk f p n fs → (over = true ↔ (DoneOk f p n fs ∧ n + (fs.length : Int) = f)) → fscF f p over n fs = settledF f p n fs
  | [], _, _, _ => rfl
  | fr :: more, n, h, ho => by
    obtain ⟨hn, h⟩ := h
    rcases h with ⟨rfl, hg⟩ | ⟨hw, hm⟩
    · have hov : over = false := by
        rw [← Bool.not_eq_true]
        intro z
        exact whole_not_going hp (ho.mp z).1.2.1 hg
      have hset : settledF f p n [fr] = [] := by
        by_cases hfr : fr = []
        · subst hfr; rw [settled_nil]; rfl
        · rw [settled_cons _ _ _ _ _ hfr, if_neg]
          · rfl
          · rintro ⟨h1, _⟩
            rw [last_eq] at h1
            exact going_needed hp hg h1
      rw [hset, fscF, hov]
      by_cases hl : n + 1 < f
      · rw [if_pos hl]
        have hlast : decide (n + 1 = f) = false := decide_eq_false (by omega)
        rw [hlast] at hg
        match fr, hg with
        | [], _ => rw [if_neg (by simp; omega), if_pos (by simp)]
        | [a], hg =>
          have : a < p := hg.2.2.elim id fun z => by cases z
          rw [if_neg (by simp; omega), if_pos (by simp)]
        | [a, c], hg => cases hg.1
      · rw [if_neg hl, if_neg Bool.false_ne_true]
    · have hfr := whole_ne hw
      have hnd := whole_needed hw
      rw [← last_eq] at hnd
      rw [fscF, settled_cons _ _ _ _ _ hfr]
      by_cases hl : n + 1 < f
      · have ho' : over = true ↔ (DoneOk f p (n + 1) more ∧ n + 1 + (more.length : Int) = f) := by
          rw [ho]
          constructor
          · rintro ⟨⟨_, _, h1⟩, h2⟩; exact ⟨h1, by simp at h2; omega⟩
          · rintro ⟨h1, h2⟩; exact ⟨⟨hn, hw, h1⟩, by simp; omega⟩
        have ih := fsc_settled hp hm ho'
        rw [if_pos hl]
        have hlast : decide (n + 1 = f) = false := decide_eq_false (by omega)
        rw [hlast] at hw
        by_cases hs : fr.sum = p
        · rw [if_pos hs]
          have hsz : sizeF f p n fr = 3 := by unfold sizeF; rw [if_pos ⟨by omega, hs⟩]
          rw [hsz, ih]
          by_cases h3 : (fr ++ more.flatten).length < 3
          · have hone : 1 ≤ fr.length := by
              cases fr with
              | nil => exact absurd rfl hfr
              | cons a r => simp
            rw [if_pos h3, if_neg (by rintro ⟨_, z⟩; omega), settled_few hp hm (by rw [List.length_append] at h3; omega)]
            rfl
          · rw [if_neg h3, if_pos ⟨hnd, by omega⟩]
            rfl
        · rw [if_neg hs]
          match fr, hw, hs with
          | [a], hw, hs => exact absurd (by simpa using hw.2) hs
          | [a, c], hw, hs =>
            have hsz : sizeF f p n [a, c] = 2 := by
              unfold sizeF
              rw [if_neg]; rfl
              rintro ⟨_, z⟩; exact hs z
            rw [if_neg (by simp), hsz, if_pos ⟨hnd, by simp⟩, ih]
            simp
          | [a, c, d], hw, hs => cases hw.1
      · have hl1 : n + 1 = f := by omega
        have := whole_last_nil hl1 hm
        subst this
        have hov : over = true := ho.mpr ⟨⟨hn, hw, trivial⟩, by simp; omega⟩
        have hsz : sizeF f p n fr = fr.length := by
          unfold sizeF
          rw [if_neg]
          rintro ⟨z, _⟩; omega
        rw [if_neg hl, if_pos hov, hsz, if_pos ⟨hnd, by simp⟩]
        simp [fscF, settledF, partsF]
/-- a whole game: each frame is settled -/
theorem done_two {f p : Int} : ∀ {fs : List (List Int)} {n : Int}, DoneOk f p n fs → n + (fs.length : Int) = f → n < f → 2 ≤ fs.flatten.length
  | [], n, _, h, h2 => by simp at h; omega
  | [fr], n, h, h2, _ => by
    obtain ⟨h1, hw, _⟩ := h
    have hl : decide (n + 1 = f) = true := decide_eq_true (by simp at h2; omega)
    rw [hl] at hw
    match fr, hw with
    | [a], hw => cases hw.1
    | [a, c], _ => simp
    | [a, c, d], _ => simp
  | fr :: g :: r, n, h, h2, h3 => by
    obtain ⟨h1, hw, hd⟩ := h
    have := done_two (fs := g :: r) hd (by simp at h2 ⊢; omega) hd.1
    rw [List.flatten_cons, List.length_append]; omega
theorem settled_all {f p : Int} : ∀ {fs : List (List Int)} {n : Int}, DoneOk f p n fs → n + (fs.length : Int) = f → (settledF f p n fs).length = fs.length ∧ (settledF f p n fs).sum = pointsF f p n fs
  | [], n, _, _ => ⟨rfl, rfl⟩
  | fr :: more, n, h, h2 => by
    obtain ⟨hn, hw, hd⟩ := h
    have hfr := whole_ne hw
    have hnd := whole_needed hw
    rw [← last_eq] at hnd
    have h2' : n + 1 + (more.length : Int) = f := by simp at h2; omega
    obtain ⟨i1, i2⟩ := settled_all hd h2'
    have hsize : sizeF f p n fr ≤ (fr ++ more.flatten).length := by
      unfold sizeF
      rw [List.length_append]
      split
      · rename_i hs
        have h3 := done_two hd h2' (by omega)
        have : 1 ≤ fr.length := by
          cases fr with
          | nil => exact absurd rfl hfr
          | cons a r => simp
        omega
      · omega
    rw [settled_cons _ _ _ _ _ hfr, if_pos ⟨hnd, hsize⟩, points_cons _ _ _ _ _ hfr]
    constructor
    · rw [List.length_append, i1]; simp; omega
    · rw [List.sum_append, i2]; simp
end FL
namespace FL
open PySem L2
/-! # Data: equality, slices -/
theorem mul_ok (i j : Int) (h : -18446744073709551616 < i ∧ i < 18446744073709551616) : mulOk i j = true := by
  unfold mulOk big
  rw [decide_eq_true h]; rfl
theorem eqDs_ints : ∀ a b : List Int, eqDs (a.map D.int) (b.map D.int) = decide (a = b)
  | [], [] => rfl
  | [], _ :: _ => rfl
  | _ :: _, [] => rfl
  | x :: xs, y :: ys => by
    rw [List.map_cons, List.map_cons, eqDs, eqDs_ints xs ys, eqD_int]
    by_cases h : x = y <;> by_cases h2 : xs = ys <;> simp [h, h2]
theorem all_ints (n : Nat) (a : List Int) : (a.map D.int).all (lev n) = true := by
  rw [List.all_eq_true]
  intro d hd
  obtain ⟨i, _, rfl⟩ := List.mem_map.mp hd
  exact lev_int n i
theorem bEq_tI (a b : List Int) : bEq (tI a) (tI b) = some (decide (a = b)) := by
  unfold bEq
  rw [lev_tup, lev_tup, all_ints, all_ints, Bool.and_self, if_pos rfl, eqD_tup, eqDs_ints]
theorem bEq_tI0 (a : List Int) : bEq (tI a) (.tup []) = some (decide (a = [])) := bEq_tI a []
theorem bNe_tI0 (a : List Int) : bNe (tI a) (.tup []) = some (!decide (a = [])) := by
  unfold bNe
  have h := eqDs_ints a []
  rw [lev_tup, lev_tup, all_ints, List.all_nil, Bool.and_self, if_pos rfl, eqD_tup]
  exact congrArg (fun b => some (!b)) h
theorem bEq_lI (a b : List Int) : bEq (lI a) (lI b) = some (decide (a = b)) := by
  unfold bEq
  rw [lev_lst, lev_lst, all_ints, all_ints, Bool.and_self, if_pos rfl, eqD_lst, eqDs_ints]
theorem bNe_lI (a : List Int) : bNe (lI a) (lI a) = some false := by
  unfold bNe
  rw [lev_lst, all_ints, Bool.and_self, if_pos rfl, eqD_lst, eqDs_ints]
  simp
theorem eqDs_nil (xs : List D) : eqDs xs [] = xs.isEmpty := by cases xs <;> rfl
theorem bNe_nil (xs : List D) (h : xs.all (lev 19) = true) : bNe (.lst xs) (.lst []) = some (!xs.isEmpty) := by
  unfold bNe
  rw [lev_lst, lev_lst, h, List.all_nil, Bool.and_self, if_pos rfl, eqD_lst, eqDs_nil]
theorem bEq_nil (xs : List D) (h : xs.all (lev 19) = true) : bEq (.lst xs) (.lst []) = some (xs.isEmpty) := by
  unfold bEq
  rw [lev_lst, lev_lst, h, List.all_nil, Bool.and_self, if_pos rfl, eqD_lst, eqDs_nil]
@[simp] theorem bEq_bl (a b : Bool) : bEq (.bl a) (.bl b) = some (a == b) := by cases a <;> cases b <;> decide +kernel
@[simp] theorem bNe_bl (a b : Bool) : bNe (.bl a) (.bl b) = some (a != b) := by cases a <;> cases b <;> decide +kernel
def notInt : D → Bool
  | .int _ => false
  | .dic _ => false
  | .scr _ => false
  | _ => true
theorem lev_cases {n : Nat} {d : D} (h : lev n d = true) : (∃ i, d = .int i) ∨ notInt d = true := by
  cases d with
  | int i => exact .inl ⟨i, rfl⟩
  | dic _ => cases n <;> cases h
  | scr _ => cases n <;> cases h
  | _ => exact .inr rfl
theorem lev_mono : ∀ {m n : Nat} {d : D}, m ≤ n → lev m d = true → lev n d = true := by
  intro m
  induction m with
  | zero =>
    intro n d _ h
    cases d with
    | tup _ => cases h
    | lst _ => cases h
    | dic _ => cases h
    | scr _ => cases h
    | str x => rw [lev_strE] at h ⊢; exact h
    | _ => cases n <;> rfl
  | succ m ih =>
    intro n d hn h
    cases n with
    | zero => omega
    | succ n =>
      cases d with
      | tup xs =>
        rw [lev_tup, List.all_eq_true] at h ⊢
        exact fun d hd => ih (by omega) (h d hd)
      | lst xs =>
        rw [lev_lst, List.all_eq_true] at h ⊢
        exact fun d hd => ih (by omega) (h d hd)
      | dic _ => cases h
      | scr _ => cases h
      | str x => rw [lev_strE] at h ⊢; exact h
      | _ => rfl
theorem tI_lev (rolls : List Int) (n : Nat) : lev (n + 1) (tI rolls) = true := by rw [lev_tup]; exact all_ints _ _
theorem tI_at (rolls : List Int) {k : Int} (h0 : 0 ≤ k) (h1 : k < rolls.length) : ∃ i, atI (rolls.map D.int) k = some (.int i) ∧ (rolls.map D.int)[k.toNat]? = some (.int i) := by
  have h2 : k.toNat < rolls.length := by omega
  rw [atI_nat h0 (by simpa using h1), List.getElem?_map, List.getElem?_eq_getElem h2]
  exact ⟨_, rfl, rfl⟩
theorem all_set {q : D → Bool} {xs : List D} {d : D} (k : Nat) (h : xs.all q = true) (hd : q d = true) : (xs.set k d).all q = true := by
  rw [List.all_eq_true] at h ⊢
  intro x hx
  rcases List.mem_or_eq_of_mem_set hx with hx | rfl
  · exact h x hx
  · exact hd
theorem ixN_in {n : Nat} {k : Int} (h0 : 0 ≤ k) (h1 : k < n) : ixN n k = some k.toNat := by unfold ixN; rw [if_pos h0, if_pos h1]
@[simp] theorem ix_last (n : Nat) : ixN (n + 1) (-1) = some n := by
  unfold ixN
  rw [if_neg (by omega), if_pos (by omega)]
  congr 1; omega
@[simp] theorem set_last {α β : Type} (g : α → β) (xs : List α) (x y : β) : (xs.map g ++ [x]).set xs.length y = xs.map g ++ [y] := by
  rw [List.set_append_right _ _ (by simp)]; simp
@[simp high] theorem add_tI (a b : List Int) : oAdd (tI a) (tI b) = if a.length + b.length ≤ cap then some (.val (tI (a ++ b))) else none := by
  rw [addT]; simp [tI]
@[simp high] theorem add_tI1 (a : List Int) (r : Int) : oAdd (tI a) (.tup [.int r]) = if a.length + 1 ≤ cap then some (.val (tI (a ++ [r]))) else none := by
  rw [addT]; simp [tI]
theorem cut_mid {α : Type} (xs : List α) (b k : Nat) : cutD xs (some (b : Int)) (some ((b : Int) + (k : Int))) = (xs.drop b).take k := by
  unfold cutD
  rw [show ((b : Int) + (k : Int)) = ((b + k : Nat) : Int) by omega, HT.sIx_nat, HT.sIx_nat]
  by_cases hb : b ≤ xs.length
  · rw [Nat.min_eq_left hb]
    by_cases hk : b + k ≤ xs.length
    · rw [Nat.min_eq_left hk]
      congr 1; omega
    · rw [Nat.min_eq_right (by omega), List.take_of_length_le (by simp), List.take_of_length_le (by simp; omega)]
  · rw [List.drop_eq_nil_of_le (show xs.length ≤ min b xs.length by omega), List.drop_eq_nil_of_le (by omega), List.take_nil, List.take_nil]
theorem cut_take {α : Type} (xs : List α) {k : Int} (h : 0 ≤ k) : cutD xs none (some k) = xs.take k.toNat := by
  unfold cutD HT.sIx
  simp only [if_neg (show ¬ k < 0 by omega), List.drop_zero, Nat.sub_zero]
  rw [Nat.min_def]
  split
  · rfl
  · rw [List.take_of_length_le (Nat.le_refl _), List.take_of_length_le (by omega)]
theorem cut_drop {α : Type} (xs : List α) {k : Int} (h : 0 ≤ k) : cutD xs (some k) none = xs.drop k.toNat := by
  unfold cutD HT.sIx
  simp only [if_neg (show ¬ k < 0 by omega)]
  rw [List.take_of_length_le (by simp)]
  rw [Nat.min_def]
  split
  · rfl
  · rw [List.drop_eq_nil_of_le (Nat.le_refl _), List.drop_eq_nil_of_le (by omega)]
theorem cut_init {α : Type} (xs : List α) (x : α) : cutD (xs ++ [x]) none (some (-1)) = xs := by
  unfold cutD HT.sIx
  have h : (xs ++ [x]).length = xs.length + 1 := by simp
  rw [h]
  simp only [List.drop_zero, Nat.sub_zero]
  rw [if_pos (by decide)]
  have : ((-1 : Int) + ((xs.length + 1 : Nat) : Int)).toNat = xs.length := by omega
  rw [this, List.take_left' rfl]
theorem slice_mid (ns : List Int) (b k : Nat) : oSlice (tI ns) (some (b : Int)) (some ((b : Int) + (k : Int))) = some (.val (tI ((ns.drop b).take k))) := by
  rw [sliceT, cut_mid, ← List.map_drop, ← List.map_take]
theorem slice_take (ns : List Int) {k : Int} (h : 0 ≤ k) : oSlice (tI ns) none (some k) = some (.val (tI (ns.take k.toNat))) := by
  rw [sliceT, cut_take _ h, ← List.map_take]
theorem slice_drop (ns : List Int) {k : Int} (h : 0 ≤ k) : oSlice (tI ns) (some k) none = some (.val (tI (ns.drop k.toNat))) := by
  rw [sliceT, cut_drop _ h, ← List.map_drop]
theorem sum_tI (ns : List Int) : oSumA [tI ns] = some (.val (.int ns.sum)) := by rw [sum2, intsOf_map]; rfl
end FL
namespace FL
open PySem L2
/-! # Weights by frames -/
/-- how often the j-th roll belongs to a frame's score -/
def cntF (f p : Int) : Int → List (List Int) → Nat → Int
  | _, [], _ => 0
  | n, fr :: more, j => (if j < sizeF f p n fr then 1 else 0) + (if j < fr.length then 0 else cntF f p (n + 1) more (j - fr.length))
theorem size_last {f p n : Int} (fr : List Int) (h : n + 1 = f) : sizeF f p n fr = fr.length := by
  unfold sizeF
  rw [if_neg]
  rintro ⟨q, _⟩; omega
theorem size_open {f p n : Int} {fr : List Int} (h : fr.sum ≠ p) : sizeF f p n fr = fr.length := by
  unfold sizeF
  rw [if_neg]
  rintro ⟨_, q⟩; exact h q
theorem size_three {f p n : Int} {fr : List Int} (h : n + 1 < f) (h2 : fr.sum = p) : sizeF f p n fr = 3 := by
  unfold sizeF
  rw [if_pos ⟨by omega, h2⟩]
theorem weights_cnt {f p : Int} (hp : 0 < p) : ∀ {fs : List (List Int)} {n : Int} (m l : Int), FrOk f p n fs → ∀ j, j < fs.flatten.length →
    (wtS p ⟨f - n, m, l, .first, p⟩ fs.flatten)[j]? = some (cntF f p n fs j + (if j = 0 then m else 0) + (if j = 1 then l else 0))
  | [], n, m, l, _, j, hj => by simp at hj
  | fr :: more, n, m, l, h, j, hj => by
    obtain ⟨hn, h⟩ := h
    rcases h with ⟨rfl, hg⟩ | ⟨hw, hm⟩
    · match fr, hg with
      | [], _ => simp at hj
      | [a], hg =>
        obtain ⟨h1, h2, h3⟩ := hg
        have hj0 : j = 0 := by simp at hj; omega
        subst hj0
        have hs : sizeF f p n [a] = 1 := by
          by_cases hl : n + 1 = f
          · rw [size_last _ hl]; rfl
          · rw [size_open]; rfl
            rw [decide_eq_false hl] at h3
            have : a < p := h3.elim id fun z => by cases z
            simp; omega
        simp [wtS, cntF, hs]
      | [a, c], hg =>
        obtain ⟨h0, h1, h2, h3, h4, h5⟩ := hg
        have hl := of_decide_eq_true h0
        have hs : sizeF f p n [a, c] = 2 := by rw [size_last _ hl]; rfl
        have hleft : f - n = 1 := by omega
        have hj2 : j = 0 ∨ j = 1 := by simp at hj; omega
        rcases hj2 with rfl | rfl
        · simp [wtS, cntF, hs]
        · by_cases ha : a < p <;> simp [wtS, cntF, hs, nextS, ha, hleft]
    · by_cases hl : n + 1 = f
      · rw [decide_eq_true hl] at hw
        have := whole_last_nil hl hm
        subst this
        have hleft : f - n = 1 := by omega
        have hs := size_last (p := p) fr hl
        match fr, hw with
        | [a], hw => cases hw.1
        | [a, c], hw =>
          obtain ⟨h1, h2, h3, h4⟩ := hw
          have hj2 : j = 0 ∨ j = 1 := by simp at hj; omega
          rcases hj2 with rfl | rfl
          · simp [wtS, cntF, hs]
          · simp [wtS, cntF, hs, nextS, h2, hleft]
        | [a, c, d], hw =>
          obtain ⟨_, h1, h2, h3, h4, h5, h6, h7⟩ := hw
          have hj2 : j = 0 ∨ j = 1 ∨ j = 2 := by simp at hj; omega
          rcases hj2 with rfl | rfl | rfl
          · simp [wtS, cntF, hs]
          · by_cases ha : a < p <;> simp [wtS, cntF, hs, nextS, ha, hleft]
          · by_cases ha : a < p
            · have hc : ¬ c < p - a := by omega
              simp [wtS, cntF, hs, nextS, ha, hc, hleft]
            · by_cases hc : c < p <;> simp [wtS, cntF, hs, nextS, ha, hc, hleft]
      · rw [decide_eq_false hl] at hw
        have hn2 : n + 1 < f := by omega
        have e1 : f - n - 1 = f - (n + 1) := by omega
        have hleft : ¬ f - n = 1 := by omega
        match fr, hw with
        | [a], hw =>
          obtain ⟨_, rfl⟩ := hw
          have hs := size_three (p := a) (fr := [a]) hn2 (by simp)
          cases j with
          | zero => simp [wtS, cntF, hs]
          | succ j =>
            have ih := weights_cnt hp (l + 1) 1 hm j (by simpa using hj)
            simp only [List.flatten_cons, List.cons_append, List.nil_append, wtS, List.getElem?_cons_succ]
            have e2 : nextS a ⟨f - n, m, l, .first, a⟩ a = ⟨f - (n + 1), l + 1, 1, .first, a⟩ := by simp [nextS, hleft, e1]
            rw [e2, ih, cntF, hs]
            congr 1
            simp only [List.length_singleton, Nat.add_sub_cancel]
            rcases j with _ | _ | j
            · simp; omega
            · simp; omega
            · have k1 : ¬ j + 1 + 1 + 1 < 3 := by omega
              simp [k1]
        | [a, c], hw =>
          obtain ⟨h1, h2, h3, h4⟩ := hw
          have h4' : a + c ≤ p := h4
          have hleft2 : 1 < f - n := by omega
          by_cases hsm : a + c = p
          · have hs := size_three (f := f) (n := n) (p := p) (fr := [a, c]) hn2 (by simpa using hsm)
            have hc : ¬ c < p - a := by omega
            rcases j with _ | _ | j
            · simp [wtS, cntF, hs]
            · simp [wtS, cntF, hs, nextS, h2]
            · have ih := weights_cnt hp 1 0 hm j (by simp at hj ⊢; omega)
              simp only [List.flatten_cons, List.cons_append, List.nil_append, wtS, List.getElem?_cons_succ]
              have e2 : nextS p (nextS p ⟨f - n, m, l, .first, p⟩ a) c = ⟨f - (n + 1), 1, 0, .first, p⟩ := by simp [nextS, h2, hc, hleft, e1]
              rw [e2, ih, cntF, hs]
              congr 1
              have e3 : j + 1 + 1 - [a, c].length = j := by simp
              rw [e3]
              rcases j with _ | j
              · simp; omega
              · have k1 : ¬ j + 1 + 1 + 1 < 3 := by omega
                have k2 : ¬ j + 1 + 1 + 1 < 2 := by omega
                simp [k1, k2]
          · have hs : sizeF f p n [a, c] = 2 := by rw [size_open]; rfl; simpa using hsm
            have hc : c < p - a := by omega
            rcases j with _ | _ | j
            · simp [wtS, cntF, hs]
            · simp [wtS, cntF, hs, nextS, h2]
            · have ih := weights_cnt hp 0 0 hm j (by simp at hj ⊢; omega)
              simp only [List.flatten_cons, List.cons_append, List.nil_append, wtS, List.getElem?_cons_succ]
              have e2 : nextS p (nextS p ⟨f - n, m, l, .first, p⟩ a) c = ⟨f - (n + 1), 0, 0, .first, p⟩ := by simp [nextS, h2, hc, hleft2, e1]
              rw [e2, ih, cntF, hs]
              congr 1
              have e3 : j + 1 + 1 - [a, c].length = j := by simp
              rw [e3]
              have k1 : ¬ j + 1 + 1 < 2 := by omega
              simp [k1]
        | [a, c, d], hw => cases hw.1
/-- a roll counts one to three times -/
theorem wt_range (p : Int) : ∀ (rs : List Int) (s : Gs), 0 ≤ s.more → s.more ≤ 2 → 0 ≤ s.later → s.later ≤ 1 → ∀ w ∈ wtS p s rs, 1 ≤ w ∧ w ≤ 3
  | [], _, _, _, _, _, w, h => by cases h
  | r :: rs, s, h1, h2, h3, h4, w, h => by
    rw [wtS] at h
    rcases List.mem_cons.mp h with rfl | h
    · omega
    · refine wt_range p rs (nextS p s r) ?_ ?_ ?_ ?_ w h <;> unfold nextS <;> (repeat' split) <;> (try simp [Gs.OVER]) <;> (try omega)
theorem wt_init (p : Int) : ∀ (rs : List Int) (s : Gs), wtS p s rs.dropLast = (wtS p s rs).dropLast
  | [], _ => rfl
  | [r], s => rfl
  | r :: q :: rs, s => by
    have := wt_init p (q :: rs) (nextS p s r)
    have e1 : (r :: q :: rs).dropLast = r :: (q :: rs).dropLast := rfl
    have e2 : wtS p s (r :: q :: rs) = (1 + s.more) :: wtS p (nextS p s r) (q :: rs) := rfl
    have e3 : wtS p (nextS p s r) (q :: rs) = (1 + (nextS p s r).more) :: wtS p (nextS p (nextS p s r) q) rs := rfl
    rw [e1, wtS, this, e2, e3]
    rfl
end FL
namespace FL
open PySem L2
/-! # Totals that can still be -/
/-- rolls that end a game from a state -/
def Ends (p : Int) : Gs → List Int → Prop
  | s, [] => s = Gs.OVER
  | s, r :: rs => s ≠ Gs.OVER ∧ 0 ≤ r ∧ r ≤ s.stand ∧ Ends p (nextS p s r) rs
/-- a number that can be added -/
def Reach (p : Int) (s : Gs) (v : Int) : Prop := ∃ rs, Ends p s rs ∧ scS p s rs = v
theorem reach_over (p v : Int) : Reach p Gs.OVER v ↔ v = 0 := by
  constructor
  · rintro ⟨rs, h, e⟩
    cases rs with
    | nil => exact e.symm
    | cons r rs => exact absurd rfl h.1
  · rintro rfl; exact ⟨[], rfl, rfl⟩
theorem reach_step {p v : Int} {s : Gs} (hs : s ≠ Gs.OVER) : Reach p s v ↔ ∃ r, 0 ≤ r ∧ r ≤ s.stand ∧ Reach p (nextS p s r) (v - r * (1 + s.more)) := by
  constructor
  · rintro ⟨rs, h, e⟩
    cases rs with
    | nil => exact absurd h hs
    | cons r rs =>
      obtain ⟨_, h0, h1, h2⟩ := h
      rw [scS] at e
      exact ⟨r, h0, h1, rs, h2, by omega⟩
  · rintro ⟨r, h0, h1, rs, h2, e⟩
    exact ⟨r :: rs, ⟨hs, h0, h1, h2⟩, by rw [scS]; omega⟩
/-! ### the last frame -/
theorem reach_one {p t v : Int} : Reach p ⟨1, 0, 0, .one, t⟩ v ↔ 0 ≤ v ∧ v ≤ t := by
  rw [reach_step (by simp [Gs.OVER])]
  have e : ∀ r, nextS p ⟨1, 0, 0, .one, t⟩ r = Gs.OVER := fun r => by simp [nextS]
  simp only [e, reach_over]
  constructor
  · rintro ⟨r, h0, h1, h2⟩; omega
  · rintro ⟨h0, h1⟩; exact ⟨v, h0, h1, by omega⟩
theorem reach_two {p m v : Int} (hp : 0 < p) (hm : m = 0 ∨ m = 1) : Reach p ⟨1, m, 0, .two, p⟩ v ↔ 0 ≤ v ∧ v ≤ p * (1 + m) + p := by
  rw [reach_step (by simp [Gs.OVER])]
  have e : ∀ r, nextS p ⟨1, m, 0, .two, p⟩ r = ⟨1, 0, 0, .one, if r < p then p - r else p⟩ := fun r => by simp [nextS]
  simp only [e, reach_one]
  constructor
  · rintro ⟨r, h0, h1, h2, h3⟩
    rcases hm with rfl | rfl
    · split at h3 <;> omega
    · split at h3 <;> omega
  · rintro ⟨h0, h1⟩
    rcases hm with rfl | rfl
    · by_cases hv : v < p
      · exact ⟨0, by omega, by omega, by omega, by rw [if_pos hp]; omega⟩
      · exact ⟨p, by omega, by omega, by omega, by rw [if_neg (by omega)]; omega⟩
    · by_cases hv : v < p
      · exact ⟨0, by omega, by omega, by omega, by rw [if_pos hp]; omega⟩
      · by_cases hv2 : v < 2 * p
        · exact ⟨v - p, by omega, by show v - p ≤ p; omega, by omega, by rw [if_pos (by omega)]; omega⟩
        · exact ⟨p, by omega, by simp, by omega, by rw [if_neg (by omega)]; omega⟩
theorem reach_second1 {p t m v : Int} (hp : 0 < p) (ht : 1 ≤ t) (htp : t ≤ p) (hm : m = 0 ∨ m = 1) :
    Reach p ⟨1, m, 0, .second, t⟩ v ↔ 0 ≤ v ∧ v ≤ t * (1 + m) + p ∧ ¬ (m = 1 ∧ v < 2 * t ∧ v % 2 = 1) := by
  rw [reach_step (by simp [Gs.OVER])]
  have e1 : ∀ r, r < t → nextS p ⟨1, m, 0, .second, t⟩ r = Gs.OVER := fun r h => by simp [nextS, h]
  have e2 : ∀ r, ¬ r < t → nextS p ⟨1, m, 0, .second, t⟩ r = ⟨1, 0, 0, .one, p⟩ := fun r h => by simp [nextS, h]
  constructor
  · rintro ⟨r, h0, h1, h2⟩
    by_cases hr : r < t
    · rw [e1 r hr, reach_over] at h2
      rcases hm with rfl | rfl
      · simp at h2; omega
      · simp only at h2; omega
    · rw [e2 r hr, reach_one] at h2
      have hrt : r = t := by simp at h1; omega
      subst hrt
      rcases hm with rfl | rfl
      · simp only at h2; omega
      · simp only at h2; omega
  · rintro ⟨h0, h1, h2⟩
    rcases hm with rfl | rfl
    · by_cases hv : v < t
      · exact ⟨v, h0, by simp; omega, by rw [e1 v hv, reach_over]; simp⟩
      · exact ⟨t, by omega, by simp, by rw [e2 t (by omega), reach_one]; simp only; omega⟩
    · by_cases hv : v < 2 * t
      · exact ⟨v / 2, by omega, by simp; omega, by rw [e1 (v / 2) (by omega), reach_over]; simp only; omega⟩
      · exact ⟨t, by omega, by simp, by rw [e2 t (by omega), reach_one]; simp only; omega⟩
/-- the first roll of the last frame -/
def gapsFirst (p m l v : Int) : Prop := (m = 2 ∧ l = 1 ∧ v = 1) ∨ (m = 1 ∧ l = 1 ∧ v < 2 * p ∧ v % 2 = 1)
def Bon (m l : Int) : Prop := (m = 0 ∧ l = 0) ∨ (m = 1 ∧ l = 0) ∨ (m = 1 ∧ l = 1) ∨ (m = 2 ∧ l = 1)
theorem reach_first1 {p m l v : Int} (hp : 2 ≤ p) (hb : Bon m l) : Reach p ⟨1, m, l, .first, p⟩ v ↔ 0 ≤ v ∧ v ≤ p * (3 + m + l) ∧ ¬ gapsFirst p m l v := by
  have hl : l = 0 ∨ l = 1 := by unfold Bon at hb; omega
  rw [reach_step (by simp [Gs.OVER])]
  have e1 : ∀ r, r < p → nextS p ⟨1, m, l, .first, p⟩ r = ⟨1, l, 0, .second, p - r⟩ := fun r h => by simp [nextS, h]
  have e2 : ∀ r, ¬ r < p → nextS p ⟨1, m, l, .first, p⟩ r = ⟨1, l, 0, .two, p⟩ := fun r h => by simp [nextS, h]
  constructor
  · rintro ⟨r, h0, h1, h2⟩
    have h1' : r ≤ p := h1
    by_cases hr : r < p
    · rw [e1 r hr, reach_second1 (by omega) (by omega) (by omega) hl] at h2
      unfold gapsFirst
      have h3 := h2.2.2
      rcases hb with ⟨rfl, rfl⟩ | ⟨rfl, rfl⟩ | ⟨rfl, rfl⟩ | ⟨rfl, rfl⟩ <;> simp only at h2 h3 <;> simp only [true_and, Int.zero_ne_one, false_and, not_false_eq_true, and_true] at h2 h3 <;> omega
    · have : r = p := by omega
      subst this
      rw [e2 r hr, reach_two (by omega) hl] at h2
      unfold gapsFirst
      rcases hb with ⟨rfl, rfl⟩ | ⟨rfl, rfl⟩ | ⟨rfl, rfl⟩ | ⟨rfl, rfl⟩ <;> simp only at h2 <;> omega
  · rintro ⟨h0, h1, h2⟩
    unfold gapsFirst at h2
    rcases hb with ⟨rfl, rfl⟩ | ⟨rfl, rfl⟩ | ⟨rfl, rfl⟩ | ⟨rfl, rfl⟩
    · by_cases hv : v ≤ 2 * p
      · exact ⟨0, by omega, by show (0 : Int) ≤ p; omega, by rw [e1 0 (by omega), reach_second1 (by omega) (by omega) (by omega) (.inl rfl)]; simp only; omega⟩
      · exact ⟨p, by omega, by show p ≤ p; omega, by rw [e2 p (by omega), reach_two (by omega) (.inl rfl)]; simp only; omega⟩
    · by_cases hv : v ≤ 2 * p
      · exact ⟨0, by omega, by show (0 : Int) ≤ p; omega, by rw [e1 0 (by omega), reach_second1 (by omega) (by omega) (by omega) (.inl rfl)]; simp only; omega⟩
      · exact ⟨p, by omega, by show p ≤ p; omega, by rw [e2 p (by omega), reach_two (by omega) (.inl rfl)]; simp only; omega⟩
    · by_cases hv : v ≤ 3 * p
      · exact ⟨0, by omega, by show (0 : Int) ≤ p; omega, by rw [e1 0 (by omega), reach_second1 (by omega) (by omega) (by omega) (.inr rfl)]; simp only; omega⟩
      · exact ⟨p, by omega, by show p ≤ p; omega, by rw [e2 p (by omega), reach_two (by omega) (.inr rfl)]; simp only; omega⟩
    · by_cases hv : v < 2 * p ∧ v % 2 = 1
      · exact ⟨1, by omega, by show (1 : Int) ≤ p; omega, by rw [e1 1 (by omega), reach_second1 (by omega) (by omega) (by omega) (.inr rfl)]; simp only; omega⟩
      · by_cases hv2 : v ≤ 3 * p
        · exact ⟨0, by omega, by show (0 : Int) ≤ p; omega, by rw [e1 0 (by omega), reach_second1 (by omega) (by omega) (by omega) (.inr rfl)]; simp only; omega⟩
        · exact ⟨p, by omega, by show p ≤ p; omega, by rw [e2 p (by omega), reach_two (by omega) (.inr rfl)]; simp only; omega⟩
/-! ### frames before the last one -/
theorem mul_ge {p : Int} {k : Nat} (hp : 0 < p) (hk : 1 ≤ k) : p ≤ p * (k : Int) := by
  have : p * 1 ≤ p * (k : Int) := Int.mul_le_mul_of_nonneg_left (by omega) (by omega)
  omega
theorem reach_second_of {p : Int} {k : Nat} (hp : 2 ≤ p) (hk : 1 ≤ k) (ih : ∀ m l v, Bon m l → (Reach p ⟨(k : Int), m, l, .first, p⟩ v ↔ 0 ≤ v ∧ v ≤ 3 * (p * (k : Int)) + p * (m + l) ∧ ¬ (k = 1 ∧ gapsFirst p m l v))) {t m v : Int} (ht : 1 ≤ t) (htp : t ≤ p) (hm : m = 0 ∨ m = 1) :
    Reach p ⟨(k : Int) + 1, m, 0, .second, t⟩ v ↔ 0 ≤ v ∧ v ≤ t * (1 + m) + 3 * (p * (k : Int)) + p := by
  rw [reach_step (by simp [Gs.OVER])]
  have hpk := mul_ge (p := p) (by omega) hk
  have e1 : ∀ r, r < t → nextS p ⟨(k : Int) + 1, m, 0, .second, t⟩ r = ⟨(k : Int), 0, 0, .first, p⟩ := fun r h => by
    have : 1 < (k : Int) + 1 := by omega
    simp [nextS, h, this]
  have e2 : ∀ r, ¬ r < t → nextS p ⟨(k : Int) + 1, m, 0, .second, t⟩ r = ⟨(k : Int), 1, 0, .first, p⟩ := fun r h => by
    have : ¬ (k : Int) + 1 = 1 := by omega
    simp [nextS, h, this]
  have i0 := fun v => ih 0 0 v (.inl ⟨rfl, rfl⟩)
  have i1 := fun v => ih 1 0 v (.inr (.inl ⟨rfl, rfl⟩))
  have g0 : ∀ v, ¬ gapsFirst p 0 0 v := fun v h => by unfold gapsFirst at h; omega
  have g1 : ∀ v, ¬ gapsFirst p 1 0 v := fun v h => by unfold gapsFirst at h; omega
  generalize p * (k : Int) = Q at *
  constructor
  · rintro ⟨r, h0, h1, h2⟩
    have h1' : r ≤ t := h1
    by_cases hr : r < t
    · rw [e1 r hr, i0] at h2
      rcases hm with rfl | rfl <;> simp only at h2 <;> omega
    · rw [e2 r hr, i1] at h2
      have : r = t := by omega
      subst this
      rcases hm with rfl | rfl <;> simp only at h2 <;> omega
  · rintro ⟨h0, h1⟩
    by_cases hv : v ≤ 3 * Q
    · refine ⟨0, by omega, by show (0 : Int) ≤ t; omega, ?_⟩
      rw [e1 0 (by omega), i0]
      exact ⟨by simp only; omega, by simp only; omega, fun h => g0 _ h.2⟩
    · refine ⟨t, by omega, by show t ≤ t; omega, ?_⟩
      rw [e2 t (by omega), i1]
      rcases hm with rfl | rfl <;> exact ⟨by simp only; omega, by simp only; omega, fun h => g1 _ h.2⟩
theorem reach_first {p : Int} (hp : 2 ≤ p) : ∀ (k : Nat), 1 ≤ k → ∀ m l v, Bon m l → (Reach p ⟨(k : Int), m, l, .first, p⟩ v ↔ 0 ≤ v ∧ v ≤ 3 * (p * (k : Int)) + p * (m + l) ∧ ¬ (k = 1 ∧ gapsFirst p m l v)) := by
  intro k
  induction k with
  | zero => intro h; omega
  | succ k ih =>
    intro _ m l v hb
    by_cases hk : k = 0
    · subst hk
      have h := reach_first1 (v := v) hp hb
      have e : (((0 + 1 : Nat) : Int)) = 1 := rfl
      rw [e, h]
      have e2 : p * (3 + m + l) = 3 * (p * 1) + p * (m + l) := by
        rw [Int.mul_one, Int.add_assoc, Int.mul_add]; omega
      rw [e2]
      simp
    · have hk1 : 1 ≤ k := by omega
      have ih' := ih hk1
      have hl : l = 0 ∨ l = 1 := by unfold Bon at hb; omega
      have hpk := mul_ge (p := p) (by omega) hk1
      have ec : ((k + 1 : Nat) : Int) = (k : Int) + 1 := by omega
      rw [ec, reach_step (by simp [Gs.OVER])]
      have eQ : p * ((k : Int) + 1) = p * (k : Int) + p := by rw [Int.mul_add, Int.mul_one]
      rw [eQ]
      have e1 : ∀ r, r < p → nextS p ⟨(k : Int) + 1, m, l, .first, p⟩ r = ⟨(k : Int) + 1, l, 0, .second, p - r⟩ := fun r h => by simp [nextS, h]
      have e2 : ∀ r, ¬ r < p → nextS p ⟨(k : Int) + 1, m, l, .first, p⟩ r = ⟨(k : Int), l + 1, 1, .first, p⟩ := fun r h => by
        have : ¬ (k : Int) + 1 = 1 := by omega
        simp [nextS, h, this]
      have s2 := fun (t v : Int) (ht : 1 ≤ t) (htp : t ≤ p) => reach_second_of (v := v) hp hk1 ih' ht htp hl
      have s3 := fun v => ih' (l + 1) 1 v (by unfold Bon; omega)
      have hg : ∀ w, 2 * p ≤ w → ¬ gapsFirst p (l + 1) 1 w := fun w hw h => by unfold gapsFirst at h; omega
      have hk2 : ¬ (k + 1 = 1 ∧ gapsFirst p m l v) := fun h => by omega
      by_cases hkk : k = 1
      · subst hkk
        have eq1 : p * ((1 : Nat) : Int) = p := by simp
        rw [eq1] at s2 s3 hpk ⊢
        constructor
        · rintro ⟨r, h0, h1, h2⟩
          have h1' : r ≤ p := h1
          refine ⟨?_, ?_, hk2⟩ <;>
          · by_cases hr : r < p
            · rw [e1 r hr, s2 _ _ (by omega) (by omega)] at h2
              rcases hb with ⟨rfl, rfl⟩ | ⟨rfl, rfl⟩ | ⟨rfl, rfl⟩ | ⟨rfl, rfl⟩ <;> simp only at h2 <;> omega
            · rw [e2 r hr, s3] at h2
              have : r = p := by omega
              subst this
              have h3 := h2.1
              have h4 := h2.2.1
              rcases hb with ⟨rfl, rfl⟩ | ⟨rfl, rfl⟩ | ⟨rfl, rfl⟩ | ⟨rfl, rfl⟩ <;> simp only at h3 h4 <;> omega
        · rintro ⟨h0, h1, _⟩
          by_cases hv : v ≤ p * (1 + l) + 3 * p + p
          · exact ⟨0, by omega, by show (0 : Int) ≤ p; omega, by rw [e1 0 (by omega), s2 _ _ (by omega) (by omega)]; simp only [Int.sub_zero, Int.zero_mul]; omega⟩
          · refine ⟨p, by omega, by show p ≤ p; omega, ?_⟩
            rw [e2 p (by omega), s3]
            rcases hb with ⟨rfl, rfl⟩ | ⟨rfl, rfl⟩ | ⟨rfl, rfl⟩ | ⟨rfl, rfl⟩ <;> exact ⟨by simp only; omega, by simp only; omega, fun h => hg _ (by simp only; omega) h.2⟩
      · have s3' : ∀ v, Reach p ⟨(k : Int), l + 1, 1, .first, p⟩ v ↔ 0 ≤ v ∧ v ≤ 3 * (p * (k : Int)) + p * (l + 1 + 1) := fun v => by
          rw [s3 v]
          exact ⟨fun h => ⟨h.1, h.2.1⟩, fun h => ⟨h.1, h.2, fun z => hkk z.1⟩⟩
        generalize p * (k : Int) = Q at *
        constructor
        · rintro ⟨r, h0, h1, h2⟩
          have h1' : r ≤ p := h1
          refine ⟨?_, ?_, hk2⟩ <;>
          · by_cases hr : r < p
            · rw [e1 r hr, s2 _ _ (by omega) (by omega)] at h2
              rcases hb with ⟨rfl, rfl⟩ | ⟨rfl, rfl⟩ | ⟨rfl, rfl⟩ | ⟨rfl, rfl⟩ <;> simp only at h2 <;> omega
            · rw [e2 r hr, s3'] at h2
              have : r = p := by omega
              subst this
              rcases hb with ⟨rfl, rfl⟩ | ⟨rfl, rfl⟩ | ⟨rfl, rfl⟩ | ⟨rfl, rfl⟩ <;> simp only at h2 <;> omega
        · rintro ⟨h0, h1, _⟩
          by_cases hv : v ≤ p * (1 + l) + 3 * Q + p
          · exact ⟨0, by omega, by show (0 : Int) ≤ p; omega, by rw [e1 0 (by omega), s2 _ _ (by omega) (by omega)]; simp only [Int.sub_zero, Int.zero_mul]; omega⟩
          · refine ⟨p, by omega, by show p ≤ p; omega, ?_⟩
            rw [e2 p (by omega), s3']
            rcases hb with ⟨rfl, rfl⟩ | ⟨rfl, rfl⟩ | ⟨rfl, rfl⟩ | ⟨rfl, rfl⟩ <;> exact ⟨by simp only; omega, by simp only; omega⟩
end FL
namespace FL
open PySem L2
/-- states of games -/
def GoodS (p : Int) (s : Gs) : Prop := match s.part with
  | .first => 1 ≤ s.left ∧ Bon s.more s.later ∧ s.stand = p
  | .second => 1 ≤ s.left ∧ (s.more = 0 ∨ s.more = 1) ∧ s.later = 0 ∧ 1 ≤ s.stand ∧ s.stand ≤ p
  | .two => s.left = 1 ∧ (s.more = 0 ∨ s.more = 1) ∧ s.later = 0 ∧ s.stand = p
  | .one => s.left = 1 ∧ s.more = 0 ∧ s.later = 0 ∧ 1 ≤ s.stand ∧ s.stand ≤ p
  | .over => s = Gs.OVER
/-- what can be added at most -/
def topS (p : Int) (s : Gs) : Int := match s.part with
  | .first => 3 * (p * s.left) + p * (s.more + s.later)
  | .second => s.stand * (1 + s.more) + 3 * (p * (s.left - 1)) + p
  | .two => p * (1 + s.more) + p
  | .one => s.stand
  | .over => 0
def gapS (p : Int) (s : Gs) (v : Int) : Prop := match s.part with
  | .first => s.left = 1 ∧ gapsFirst p s.more s.later v
  | .second => s.left = 1 ∧ s.more = 1 ∧ v < 2 * s.stand ∧ v % 2 = 1
  | _ => False
theorem reach_iff {p : Int} (hp : 2 ≤ p) {s : Gs} (hs : GoodS p s) (v : Int) : Reach p s v ↔ 0 ≤ v ∧ v ≤ topS p s ∧ ¬ gapS p s v := by
  obtain ⟨n, m, l, part, t⟩ := s
  cases part with
  | first =>
    obtain ⟨h1, h2, h3⟩ := hs
    obtain ⟨k, rfl⟩ : ∃ k : Nat, n = (k : Int) := ⟨n.toNat, by simp only at h1; omega⟩
    simp only at h1 h2 h3
    subst h3
    rw [reach_first hp k (by omega) m l v h2]
    have : (k = 1 ∧ gapsFirst t m l v) ↔ ((k : Int) = 1 ∧ gapsFirst t m l v) := by constructor <;> rintro ⟨a, b⟩ <;> exact ⟨by omega, b⟩
    rw [this]
    exact Iff.rfl
  | second =>
    obtain ⟨h1, h2, h3, h4, h5⟩ := hs
    simp only at h1 h2 h3 h4 h5
    subst h3
    by_cases hn : n = 1
    · subst hn
      rw [reach_second1 (by omega) h4 h5 h2]
      have e : topS p ⟨1, m, 0, .second, t⟩ = t * (1 + m) + p := by simp [topS]
      rw [e]
      have : gapS p ⟨1, m, 0, .second, t⟩ v ↔ (m = 1 ∧ v < 2 * t ∧ v % 2 = 1) := by simp [gapS]
      rw [this]
    · obtain ⟨k, rfl⟩ : ∃ k : Nat, n = (k : Int) + 1 := ⟨(n - 1).toNat, by omega⟩
      rw [reach_second_of hp (by omega) (reach_first hp k (by omega)) h4 h5 h2]
      have e : topS p ⟨(k : Int) + 1, m, 0, .second, t⟩ = t * (1 + m) + 3 * (p * (k : Int)) + p := by simp [topS]
      rw [e]
      have : ¬ gapS p ⟨(k : Int) + 1, m, 0, .second, t⟩ v := fun h => hn h.1
      exact ⟨fun h => ⟨h.1, h.2, this⟩, fun h => ⟨h.1, h.2.1⟩⟩
  | two =>
    obtain ⟨h1, h2, h3, h4⟩ := hs
    simp only at h1 h2 h3 h4
    subst h1 h3 h4
    rw [reach_two (by omega) h2]
    have : ¬ gapS t ⟨1, m, 0, .two, t⟩ v := fun h => h
    exact ⟨fun h => ⟨h.1, h.2, this⟩, fun h => ⟨h.1, h.2.1⟩⟩
  | one =>
    obtain ⟨h1, h2, h3, h4, h5⟩ := hs
    simp only at h1 h2 h3 h4 h5
    subst h1 h2 h3
    rw [reach_one]
    have : ¬ gapS p ⟨1, 0, 0, .one, t⟩ v := fun h => h
    exact ⟨fun h => ⟨h.1, h.2, this⟩, fun h => ⟨h.1, h.2.1⟩⟩
  | over =>
    have hs' : (⟨n, m, l, .over, t⟩ : Gs) = Gs.OVER := hs
    rw [hs', reach_over]
    have e1 : topS p Gs.OVER = 0 := rfl
    have e2 : ¬ gapS p Gs.OVER v := fun h => h
    rw [e1]
    exact ⟨fun h => ⟨by omega, by omega, e2⟩, fun h => by omega⟩
theorem good_begin {f p : Int} (hf : 1 ≤ f) : GoodS p (beginS f p) := ⟨hf, .inl ⟨rfl, rfl⟩, rfl⟩
theorem good_next {p r : Int} (hp : 2 ≤ p) {s : Gs} (hs : GoodS p s) (ho : s ≠ Gs.OVER) (h0 : 0 ≤ r) (h1 : r ≤ s.stand) : GoodS p (nextS p s r) := by
  obtain ⟨n, m, l, part, t⟩ := s
  cases part with
  | first =>
    obtain ⟨g1, g2, g3⟩ := hs
    simp only at g1 g2 g3 h1
    subst g3
    have hl : l = 0 ∨ l = 1 := by unfold Bon at g2; omega
    by_cases hr : r < t
    · have e : nextS t ⟨n, m, l, .first, t⟩ r = ⟨n, l, 0, .second, t - r⟩ := by simp [nextS, hr]
      rw [e]
      exact ⟨g1, hl, rfl, by show 1 ≤ t - r; omega, by show t - r ≤ t; omega⟩
    · by_cases hn : n = 1
      · have e : nextS t ⟨n, m, l, .first, t⟩ r = ⟨1, l, 0, .two, t⟩ := by simp [nextS, hr, hn]
        rw [e]
        exact ⟨rfl, hl, rfl, rfl⟩
      · have e : nextS t ⟨n, m, l, .first, t⟩ r = ⟨n - 1, l + 1, 1, .first, t⟩ := by simp [nextS, hr, hn]
        rw [e]
        exact ⟨by show 1 ≤ n - 1; omega, by show Bon (l + 1) 1; unfold Bon; omega, rfl⟩
  | second =>
    obtain ⟨g1, g2, g3, g4, g5⟩ := hs
    simp only at g1 g2 g3 g4 g5 h1
    subst g3
    by_cases hr : r < t
    · by_cases hn : 1 < n
      · have e : nextS p ⟨n, m, 0, .second, t⟩ r = ⟨n - 1, 0, 0, .first, p⟩ := by simp [nextS, hr, hn]
        rw [e]
        exact ⟨by show 1 ≤ n - 1; omega, .inl ⟨rfl, rfl⟩, rfl⟩
      · have e : nextS p ⟨n, m, 0, .second, t⟩ r = Gs.OVER := by simp [nextS, hr, hn]
        rw [e]; exact rfl
    · by_cases hn : n = 1
      · have e : nextS p ⟨n, m, 0, .second, t⟩ r = ⟨1, 0, 0, .one, p⟩ := by simp [nextS, hr, hn]
        rw [e]
        exact ⟨rfl, rfl, rfl, by show 1 ≤ p; omega, Int.le_refl _⟩
      · have e : nextS p ⟨n, m, 0, .second, t⟩ r = ⟨n - 1, 1, 0, .first, p⟩ := by simp [nextS, hr, hn]
        rw [e]
        exact ⟨by show 1 ≤ n - 1; omega, .inr (.inl ⟨rfl, rfl⟩), rfl⟩
  | two =>
    obtain ⟨g1, g2, g3, g4⟩ := hs
    simp only at g1 g2 g3 g4 h1
    subst g1 g3 g4
    have e : nextS t ⟨1, m, 0, .two, t⟩ r = ⟨1, 0, 0, .one, if r < t then t - r else t⟩ := by simp [nextS]
    rw [e]
    refine ⟨rfl, rfl, rfl, ?_, ?_⟩
    · show 1 ≤ (if r < t then t - r else t); split <;> omega
    · show (if r < t then t - r else t) ≤ t; split <;> omega
  | one =>
    have e : nextS p ⟨n, m, l, .one, t⟩ r = Gs.OVER := by simp [nextS]
    rw [e]; exact rfl
  | over => exact absurd hs ho
end FL
namespace FL
open PySem L2
/-! ### while loops -/
def whileO (c : Ev) (b : Stm) (n : Nat) : Option (Out × List Sl) → Option (Out × List Sl)
  | some (.nx, ρ) => whileL c b n ρ
  | some (.ct, ρ) => whileL c b n ρ
  | some (.bk, ρ) => some (.nx, ρ)
  | some (.rt r, ρ) => some (.rt r, ρ)
  | none => none
@[simp] theorem whileO_nx (c : Ev) (b : Stm) (n : Nat) (ρ : List Sl) : whileO c b n (some (.nx, ρ)) = whileL c b n ρ := rfl
@[simp] theorem whileO_ct (c : Ev) (b : Stm) (n : Nat) (ρ : List Sl) : whileO c b n (some (.ct, ρ)) = whileL c b n ρ := rfl
@[simp] theorem whileO_bk (c : Ev) (b : Stm) (n : Nat) (ρ : List Sl) : whileO c b n (some (.bk, ρ)) = some (.nx, ρ) := rfl
@[simp] theorem whileO_rt (c : Ev) (b : Stm) (n : Nat) (r : R) (ρ : List Sl) : whileO c b n (some (.rt r, ρ)) = some (.rt r, ρ) := rfl
theorem whileL_succ (c : Ev) (b : Stm) (n : Nat) (ρ : List Sl) : whileL c b (n + 1) ρ = condO (fun ρ => whileO c b n (b ρ)) (fun ρ => some (.nx, ρ)) (c ρ) := by
  rw [whileL, ← cond_eq]
  congr 1
  funext p
  rcases p with ⟨r, ρ'⟩
  rcases r with d | d | i
  · cases d with
    | bl k =>
      cases k with
      | true =>
        show (b ρ').bind _ = whileO c b n (b ρ')
        rcases b ρ' with _ | ⟨o, ρ2⟩
        · rfl
        · cases o <;> rfl
      | false => rfl
    | _ => rfl
  · rfl
  · rfl
/-! ### all pins each time -/
def muS (s : Gs) : Nat := match s.part with
  | .first => s.left.toNat + 2
  | .second => s.left.toNat + 2
  | .two => 2
  | .one => 1
  | .over => 0
theorem good_stand {p : Int} (hp : 2 ≤ p) {s : Gs} (hs : GoodS p s) : 0 ≤ s.stand ∧ s.stand ≤ p ∧ 0 ≤ s.more ∧ s.more ≤ 2 := by
  obtain ⟨n, m, l, part, t⟩ := s
  cases part with
  | first =>
    obtain ⟨h1, h2, h3⟩ := hs
    simp only at *
    unfold Bon at h2
    omega
  | second => obtain ⟨h1, h2, h3, h4, h5⟩ := hs; simp only at *; omega
  | two => obtain ⟨h1, h2, h3, h4⟩ := hs; simp only at *; omega
  | one => obtain ⟨h1, h2, h3, h4, h5⟩ := hs; simp only at *; omega
  | over =>
    have hs' : (⟨n, m, l, .over, t⟩ : Gs) = Gs.OVER := hs
    rw [hs']
    simp [Gs.OVER]; omega
theorem top_step {p : Int} (hp : 2 ≤ p) {s : Gs} (hs : GoodS p s) (ho : s ≠ Gs.OVER) : topS p s = s.stand * (1 + s.more) + topS p (nextS p s s.stand) ∧ muS (nextS p s s.stand) < muS s := by
  obtain ⟨n, m, l, part, t⟩ := s
  cases part with
  | first =>
    obtain ⟨g1, g2, g3⟩ := hs
    simp only at g1 g2 g3
    subst g3
    by_cases hn : n = 1
    · have e : nextS t ⟨n, m, l, .first, t⟩ t = ⟨1, l, 0, .two, t⟩ := by simp [nextS, hn]
      rw [e]
      subst hn
      refine ⟨?_, by simp [muS]⟩
      simp only [topS, Int.mul_one, Int.mul_add]; omega
    · have e : nextS t ⟨n, m, l, .first, t⟩ t = ⟨n - 1, l + 1, 1, .first, t⟩ := by simp [nextS, hn]
      rw [e]
      refine ⟨?_, by simp only [muS]; omega⟩
      simp only [topS, Int.mul_one, Int.mul_add, Int.mul_sub]; omega
  | second =>
    obtain ⟨g1, g2, g3, g4, g5⟩ := hs
    simp only at g1 g2 g3 g4 g5
    subst g3
    by_cases hn : n = 1
    · have e : nextS p ⟨n, m, 0, .second, t⟩ t = ⟨1, 0, 0, .one, p⟩ := by simp [nextS, hn]
      rw [e]
      subst hn
      exact ⟨by simp [topS], by simp [muS]⟩
    · have e : nextS p ⟨n, m, 0, .second, t⟩ t = ⟨n - 1, 1, 0, .first, p⟩ := by simp [nextS, hn]
      rw [e]
      refine ⟨?_, by simp only [muS]; omega⟩
      simp only [topS, Int.mul_one, Int.mul_add, Int.mul_sub, Int.mul_zero]; omega
  | two =>
    obtain ⟨g1, g2, g3, g4⟩ := hs
    simp only at g1 g2 g3 g4
    subst g1 g3 g4
    have e : nextS t ⟨1, m, 0, .two, t⟩ t = ⟨1, 0, 0, .one, t⟩ := by simp [nextS]
    rw [e]
    exact ⟨rfl, by simp [muS]⟩
  | one =>
    obtain ⟨g1, g2, g3, g4, g5⟩ := hs
    simp only at g1 g2 g3 g4 g5
    subst g1 g2 g3
    have e : nextS p ⟨1, 0, 0, .one, t⟩ t = Gs.OVER := by simp [nextS]
    rw [e]
    exact ⟨by simp [topS, Gs.OVER], by simp [muS, Gs.OVER]⟩
  | over => exact absurd hs ho
/-- the gaps as the program lists them -/
def gapsL (s : Gs) : List Int :=
  if s.left = 1 ∧ (s.part = .first ∨ s.part = .second) then
    (if s.part = .first ∧ s.more = 2 ∧ s.later = 1 then [1]
     else if (s.part = .first ∧ s.more = 1 ∧ s.later = 1) ∨ (s.part = .second ∧ s.more = 1) then (List.range s.stand.toNat).map fun (i : Nat) => 1 + (i : Int) * 2 else [])
  else []
theorem gapsL_iff {p v : Int} (hp : 2 ≤ p) {s : Gs} (hs : GoodS p s) (hv : 0 ≤ v) : v ∈ gapsL s ↔ gapS p s v := by
  obtain ⟨n, m, l, part, t⟩ := s
  have hodd : ∀ k : Int, 0 ≤ k → (v ∈ (List.range k.toNat).map (fun (i : Nat) => 1 + (i : Int) * 2) ↔ v < 2 * k ∧ v % 2 = 1) := by
    intro k hk
    rw [List.mem_map]
    constructor
    · rintro ⟨i, hi, rfl⟩
      have := List.mem_range.mp hi
      omega
    · rintro ⟨h1, h2⟩
      exact ⟨(v / 2).toNat, List.mem_range.mpr (by omega), by omega⟩
  cases part with
  | first =>
    obtain ⟨g1, g2, g3⟩ := hs
    simp only at g1 g2 g3
    subst g3
    have := hodd t (by omega)
    simp only [gapsL, gapS, gapsFirst]
    by_cases hn : n = 1
    · rcases g2 with ⟨rfl, rfl⟩ | ⟨rfl, rfl⟩ | ⟨rfl, rfl⟩ | ⟨rfl, rfl⟩ <;> simp [hn] at this ⊢ <;> omega
    · simp [hn]
  | second =>
    obtain ⟨g1, g2, g3, g4, g5⟩ := hs
    simp only at g1 g2 g3 g4 g5
    have := hodd t (by omega)
    simp only [gapsL, gapS]
    by_cases hn : n = 1
    · rcases g2 with rfl | rfl <;> simp [hn] at this ⊢ <;> omega
    · simp [hn]
  | two => simp [gapsL, gapS]
  | one => simp [gapsL, gapS]
  | over => simp [gapsL, gapS]
theorem gapsL_len {p : Int} {s : Gs} (hp : 2 ≤ p) (hp2 : p ≤ 10) (hs : GoodS p s) : (gapsL s).length ≤ 10 := by
  have := good_stand hp hs
  unfold gapsL
  split
  · split
    · simp
    · split
      · simp; omega
      · simp
  · simp
end FL
namespace FL
open PySem L2
/-! ### slots whose content is of no matter -/
def Junk (tl : List Sl) : Nat → List Sl → Prop
  | 0, ρ => ρ = tl
  | n + 1, ρ => ∃ s r, ρ = s :: r ∧ FL.stored s = true ∧ Junk tl n r
theorem Junk.cons {tl : List Sl} {n : Nat} {s : Sl} {r : List Sl} (h : FL.stored s = true) (j : Junk tl n r) : Junk tl (n + 1) (s :: r) := ⟨s, r, rfl, h, j⟩
theorem Junk.nil {tl : List Sl} : Junk tl 0 tl := rfl
theorem junk_rep {tl : List Sl} : ∀ n : Nat, Junk tl n (List.replicate n .no ++ tl)
  | 0 => rfl
  | n + 1 => by rw [List.replicate_succ]; exact .cons rfl (junk_rep n)
/-- a slot that no object of a list owns: a comprehension's variable may take it -/
def Loose (s : Sl) : Prop := s = .no ∨ ∃ d, s = .val d
theorem Loose.stored {s : Sl} (h : Loose s) : FL.stored s = true := by rcases h with rfl | ⟨d, rfl⟩ <;> rfl
theorem Loose.notOwn {s : Sl} (h : Loose s) : notOwn (some s) = true := by rcases h with rfl | ⟨d, rfl⟩ <;> rfl
theorem Loose.no : Loose .no := .inl rfl
theorem Loose.val (d : D) : Loose (.val d) := .inr ⟨d, rfl⟩
/-- the turns of a law: for turn in .. (slot 2), each with the tape in slot 1; J: what is known of the other slots -/
theorem turns_gen {b : Stm} {s0 : Sl} {J : List Sl → Prop} (h : ∀ (t : Tape) (d : D) (ρ : List Sl), J ρ → ∃ (t' : Tape) (ρ' : List Sl), J ρ' ∧ b (s0 :: .own false t.d :: .val d :: ρ) = some (.nx, s0 :: .own false t'.d :: .val d :: ρ')) :
    ∀ (ds : List D) (t : Tape) (s2 : Sl) (ρ : List Sl), FL.stored s2 = true → J ρ → ∃ (t' : Tape) (s2' : Sl) (ρ' : List Sl), FL.stored s2' = true ∧ J ρ' ∧ forL (.nm 2) b ds (s0 :: .own false t.d :: s2 :: ρ) = some (.nx, s0 :: .own false t'.d :: s2' :: ρ')
  | [], t, s2, ρ, h2, hj => ⟨t, s2, ρ, h2, hj, rfl⟩
  | d :: ds, t, s2, ρ, h2, hj => by
    obtain ⟨t1, ρ1, hj1, e⟩ := h t d ρ hj
    obtain ⟨t2, u2, ρ2, hu, hj2, e2⟩ := turns_gen h ds t1 (.val d) ρ1 rfl hj1
    refine ⟨t2, u2, ρ2, hu, hj2, ?_⟩
    rw [forL_cons]
    have e0 : asg (.nm 2) d (s0 :: .own false t.d :: s2 :: ρ) = some (s0 :: .own false t.d :: .val d :: ρ) := by simp [h2]
    rw [e0]
    show forO _ _ _ (b _) = _
    rw [e]
    exact e2
/-! ### further words -/
def sortSetO (ρ : List Sl) : D → Option (R × List Sl)
  | .lst ds => (intsOf ds).bind fun ns => if ns.length ≤ 4000 ∧ (setI ns).length < 64 then some (.own (.lst ((setI ns).map .int)), ρ) else none
  | _ => none
@[simp] theorem ev_sortSet (f : Ev) (ρ : List Sl) : fSortSet f ρ = (f ρ).bind fun p => (see p.2 p.1).bind (sortSetO p.2) := by
  unfold fSortSet
  refine congrArg _ (funext fun p => congrArg _ (funext fun d => ?_))
  cases d <;> rfl
@[simp] theorem sortSetO_lst (ρ : List Sl) (ds : List D) : sortSetO ρ (.lst ds) = (intsOf ds).bind fun ns => if ns.length ≤ 4000 ∧ (setI ns).length < 64 then some (.own (.lst ((setI ns).map .int)), ρ) else none := rfl
@[simp] theorem ev_join (f g : Ev) (ρ : List Sl) : fJoin f g ρ = fOp2 oJoin f g ρ := rfl
@[simp] theorem join_strs (z : Str) (ys : List Str) : oJoin (.str z) (.lst (ys.map D.str)) = if (ys.map (·.length)).sum + ys.length * z.length ≤ 1000000 then some (.val (.str (Txt.join z ys))) else none := by
  unfold oJoin
  simp only [strsOf_map, Option.bind_some]
def lookO (tbl : List (Str × Str)) : R × List Sl → Option (R × List Sl)
  | (.val (.str z), ρ) => (tabLook tbl z).map fun v => (.val (.str v), ρ)
  | _ => none
@[simp] theorem lookO_str (tbl : List (Str × Str)) (z : Str) (ρ : List Sl) : lookO tbl (.val (.str z), ρ) = (tabLook tbl z).map fun v => (.val (.str v), ρ) := rfl
@[simp] theorem ev_look (tbl : List (Str × Str)) (f : Ev) (ρ : List Sl) : fLook tbl f ρ = (f ρ).bind (lookO tbl) := by
  unfold fLook
  refine congrArg _ (funext fun p => ?_)
  rcases p with ⟨r, ρ⟩
  rcases r with d | d | i
  · cases d <;> rfl
  · rfl
  · rfl
@[simp] theorem int_bl (b : Bool) : oInt [.bl b] = some (.val (.int (if b then 1 else 0))) := rfl
@[simp] theorem int_int (i : Int) : oInt [.int i] = some (.val (.int i)) := rfl
/-! ### how many rolls are left -/
def restS (s : Gs) : Nat := match s.part with
  | .first => 2 * s.left.toNat + 1
  | .second => 2 * s.left.toNat
  | .two => 2
  | .one => 1
  | .over => 0
theorem rest_step {p r : Int} (hp : 2 ≤ p) {s : Gs} (hs : GoodS p s) (ho : s ≠ Gs.OVER) : restS (nextS p s r) < restS s := by
  obtain ⟨n, m, l, part, t⟩ := s
  have h0 : restS Gs.OVER = 0 := rfl
  cases part with
  | first =>
    obtain ⟨g1, g2, g3⟩ := hs
    simp only at g1 g2 g3
    subst g3
    by_cases hr : r < t
    · have e : nextS t ⟨n, m, l, .first, t⟩ r = ⟨n, l, 0, .second, t - r⟩ := by simp [nextS, hr]
      rw [e]; simp only [restS]; omega
    · by_cases hn : n = 1
      · have e : nextS t ⟨n, m, l, .first, t⟩ r = ⟨1, l, 0, .two, t⟩ := by simp [nextS, hr, hn]
        rw [e]; simp only [restS]; omega
      · have e : nextS t ⟨n, m, l, .first, t⟩ r = ⟨n - 1, l + 1, 1, .first, t⟩ := by simp [nextS, hr, hn]
        rw [e]; simp only [restS]; omega
  | second =>
    obtain ⟨g1, g2, g3, g4, g5⟩ := hs
    simp only at g1 g2 g3 g4 g5
    subst g3
    by_cases hr : r < t
    · by_cases hn : 1 < n
      · have e : nextS p ⟨n, m, 0, .second, t⟩ r = ⟨n - 1, 0, 0, .first, p⟩ := by simp [nextS, hr, hn]
        rw [e]; simp only [restS]; omega
      · have e : nextS p ⟨n, m, 0, .second, t⟩ r = Gs.OVER := by simp [nextS, hr, hn]
        rw [e, h0]; simp only [restS]; omega
    · by_cases hn : n = 1
      · have e : nextS p ⟨n, m, 0, .second, t⟩ r = ⟨1, 0, 0, .one, p⟩ := by simp [nextS, hr, hn]
        rw [e]; simp only [restS]; omega
      · have e : nextS p ⟨n, m, 0, .second, t⟩ r = ⟨n - 1, 1, 0, .first, p⟩ := by simp [nextS, hr, hn]
        rw [e]; simp only [restS]; omega
  | two =>
    have e : nextS p ⟨n, m, l, .two, t⟩ r = ⟨n, l, 0, .one, if r < t then p - r else p⟩ := by simp [nextS]
    rw [e]; simp only [restS]; omega
  | one =>
    have e : nextS p ⟨n, m, l, .one, t⟩ r = Gs.OVER := by simp [nextS]
    rw [e, h0]; simp only [restS]; omega
  | over => exact absurd hs ho
theorem rest_pos {p : Int} {s : Gs} (hs : GoodS p s) (ho : s ≠ Gs.OVER) : 1 ≤ restS s := by
  obtain ⟨n, m, l, part, t⟩ := s
  cases part with
  | first => simp only [restS]; omega
  | second => obtain ⟨g1, _⟩ := hs; simp only at g1; simp only [restS]; omega
  | two => simp only [restS]; omega
  | one => simp only [restS]; omega
  | over => exact absurd hs ho
theorem rest_le {s : Gs} (h : s.left ≤ 10) (h0 : 0 ≤ s.left) : restS s ≤ 21 := by
  obtain ⟨n, m, l, part, t⟩ := s
  simp only at h h0
  cases part <;> simp only [restS] <;> omega
end FL
namespace FL
open PySem L2
/-! # All ways to go on, in ascending order -/
def endsL (p : Int) : Nat → Gs → List (List Int)
  | 0, s => if s = Gs.OVER then [[]] else []
  | n + 1, s => if s = Gs.OVER then [[]] else (List.range (s.stand + 1).toNat).flatMap fun (r : Nat) => (endsL p n (nextS p s (r : Int))).map ((r : Int) :: ·)
def fanL (p : Int) (n : Nat) (s : Gs) (ks : List Nat) : List (List Int) := ks.flatMap fun (r : Nat) => (endsL p n (nextS p s (r : Int))).map ((r : Int) :: ·)
theorem endsL_over (p : Int) (n : Nat) : endsL p n Gs.OVER = [[]] := by cases n <;> rfl
theorem endsL_succ {p : Int} {n : Nat} {s : Gs} (h : s ≠ Gs.OVER) : endsL p (n + 1) s = fanL p n s (List.range (s.stand + 1).toNat) := by
  rw [endsL, if_neg h]; rfl
theorem endsL_mem {p : Int} (hp : 2 ≤ p) : ∀ (n : Nat) {s : Gs} {m : List Int}, GoodS p s → restS s ≤ n → (m ∈ endsL p n s ↔ Ends p s m)
  | n, s, m, hs, hn => by
    by_cases ho : s = Gs.OVER
    · subst ho
      rw [endsL_over, List.mem_singleton]
      cases m with
      | nil => exact ⟨fun _ => rfl, fun _ => rfl⟩
      | cons r rs => exact ⟨fun h => (by cases h), fun h => absurd rfl h.1⟩
    · cases n with
      | zero => have := rest_pos hs ho; omega
      | succ n =>
        rw [endsL_succ ho]
        unfold fanL
        rw [List.mem_flatMap]
        constructor
        · rintro ⟨r, hr, hm⟩
          obtain ⟨m', hm', rfl⟩ := List.mem_map.mp hm
          have hr' := List.mem_range.mp hr
          have h1 : (r : Int) ≤ s.stand := by omega
          have hlt := rest_step (r := (r : Int)) hp hs ho
          exact ⟨ho, by omega, h1, (endsL_mem hp n (good_next hp hs ho (by omega) h1) (by omega)).mp hm'⟩
        · intro h
          cases m with
          | nil => exact absurd h ho
          | cons r m' =>
            obtain ⟨_, h0, h1, h2⟩ := h
            have hlt := rest_step (r := r) hp hs ho
            refine ⟨r.toNat, List.mem_range.mpr (by omega), ?_⟩
            rw [Int.toNat_of_nonneg h0]
            exact List.mem_map.mpr ⟨m', (endsL_mem hp n (good_next hp hs ho h0 h1) (by omega)).mpr h2, rfl⟩
theorem flatMap_same {α β : Type} {f g : α → List β} : ∀ {l : List α}, (∀ a ∈ l, f a = g a) → l.flatMap f = l.flatMap g
  | [], _ => rfl
  | a :: l, h => by rw [List.flatMap_cons, List.flatMap_cons, h a List.mem_cons_self, flatMap_same fun b hb => h b (List.mem_cons_of_mem _ hb)]
/-- more fuel changes nothing -/
theorem endsL_fuel {p : Int} (hp : 2 ≤ p) : ∀ (n k : Nat) {s : Gs}, GoodS p s → restS s ≤ n → restS s ≤ k → endsL p n s = endsL p k s
  | n, k, s, hs, hn, hk => by
    by_cases ho : s = Gs.OVER
    · subst ho; rw [endsL_over, endsL_over]
    · have hpos := rest_pos hs ho
      cases n with
      | zero => omega
      | succ n =>
        cases k with
        | zero => omega
        | succ k =>
          rw [endsL_succ ho, endsL_succ ho]
          exact flatMap_same fun r hr => by
            have hr' := List.mem_range.mp hr
            have hlt := rest_step (r := (r : Int)) hp hs ho
            rw [endsL_fuel hp n k (good_next hp hs ho (by omega) (by omega)) (by omega) (by omega)]
/-- the ways to go on -/
def waysL (p : Int) (s : Gs) : List (List Int) := endsL p (restS s) s
theorem ways_over (p : Int) : waysL p Gs.OVER = [[]] := endsL_over p _
theorem ways_step {p : Int} (hp : 2 ≤ p) {s : Gs} (hs : GoodS p s) (ho : s ≠ Gs.OVER) : waysL p s = (List.range (s.stand + 1).toNat).flatMap fun (r : Nat) => (waysL p (nextS p s (r : Int))).map ((r : Int) :: ·) := by
  have hpos := rest_pos hs ho
  obtain ⟨n, hn⟩ : ∃ n, restS s = n + 1 := ⟨restS s - 1, by omega⟩
  unfold waysL
  rw [hn, endsL_succ ho]
  exact flatMap_same fun r hr => by
    have hr' := List.mem_range.mp hr
    have hlt := rest_step (r := (r : Int)) hp hs ho
    rw [endsL_fuel hp n _ (good_next hp hs ho (by omega) (by omega)) (by omega) (Nat.le_refl _)]
theorem ways_mem {p : Int} (hp : 2 ≤ p) {s : Gs} (hs : GoodS p s) {m : List Int} : m ∈ waysL p s ↔ Ends p s m := endsL_mem hp _ hs (Nat.le_refl _)
/-! ### they ascend -/
theorem lexI_cons (r : Int) (a b : List Int) : lexI (r :: a) (r :: b) = lexI a b := by
  rw [lexI]; simp
theorem pair_flat {α β : Type} {R : β → β → Prop} {f : α → List β} : ∀ {l : List α}, (∀ a ∈ l, (f a).Pairwise R) → l.Pairwise (fun a b => ∀ x ∈ f a, ∀ y ∈ f b, R x y) → (l.flatMap f).Pairwise R
  | [], _, _ => .nil
  | a :: l, h, h2 => by
    rw [List.pairwise_cons] at h2
    rw [List.flatMap_cons, List.pairwise_append]
    refine ⟨h a List.mem_cons_self, pair_flat (fun b hb => h b (List.mem_cons_of_mem _ hb)) h2.2, fun x hx y hy => ?_⟩
    obtain ⟨b, hb, hyb⟩ := List.mem_flatMap.mp hy
    exact h2.1 b hb x hx y hyb
theorem ends_asc {p : Int} : ∀ (n : Nat) (s : Gs), (endsL p n s).Pairwise fun a b => lexI a b = true
  | n, s => by
    by_cases ho : s = Gs.OVER
    · subst ho; rw [endsL_over]; simp
    · cases n with
      | zero => rw [endsL, if_neg ho]; exact .nil
      | succ n =>
        rw [endsL_succ ho]
        unfold fanL
        refine pair_flat (fun r _ => ?_) ?_
        · rw [List.pairwise_map]
          exact (ends_asc n _).imp fun h => by rw [lexI_cons]; exact h
        · refine List.pairwise_lt_range.imp fun {a b} hab x hx y hy => ?_
          obtain ⟨x', _, rfl⟩ := List.mem_map.mp hx
          obtain ⟨y', _, rfl⟩ := List.mem_map.mp hy
          have : (a : Int) < (b : Int) := by omega
          rw [lexI, decide_eq_true this]; rfl
theorem ways_asc (p : Int) (s : Gs) : (waysL p s).Pairwise fun a b => lexI a b = true := ends_asc _ _
theorem ways_nodup (p : Int) (s : Gs) : (waysL p s).Nodup := (ways_asc p s).imp fun h e => by subst e; rw [lexI_irrefl] at h; cases h
theorem ways_uniq {p : Int} (hp : 2 ≤ p) {s : Gs} (hs : GoodS p s) {A : List (List Int)} (hA : ∀ m, m ∈ A ↔ Ends p s m) (hn : A.Nodup) (ha : A.Pairwise fun a b => lexI b a = false) : A = waysL p s := by
  have hp' : A.Perm (waysL p s) := (List.perm_ext_iff_of_nodup hn (ways_nodup p s)).mpr fun m => by rw [hA, ways_mem hp hs]
  exact hp'.eq_of_pairwise (fun a b _ _ h1 h2 => lexI_total h2 h1) ha ((ways_asc p s).imp fun h => lexI_asym h)
/-! ### their number -/
def cntS (p : Int) (s : Gs) : Nat := (waysL p s).length
theorem cnt_over (p : Int) : cntS p Gs.OVER = 1 := by unfold cntS; rw [ways_over]; rfl
theorem cnt_step {p : Int} (hp : 2 ≤ p) {s : Gs} (hs : GoodS p s) (ho : s ≠ Gs.OVER) : cntS p s = ((List.range (s.stand + 1).toNat).map fun (r : Nat) => cntS p (nextS p s (r : Int))).sum := by
  unfold cntS
  rw [ways_step hp hs ho, List.length_flatMap]
  congr 1
  apply List.map_congr_left
  intro r _
  rw [List.length_map]
/-- what a number of ways depends on -/
def core (s : Gs) : Int × Part × Int := (s.left, s.part, s.stand)
theorem core_next {p r : Int} {s s' : Gs} (h : core s = core s') : core (nextS p s r) = core (nextS p s' r) := by
  obtain ⟨n, m, l, part, t⟩ := s
  obtain ⟨n', m', l', part', t'⟩ := s'
  unfold core at h
  simp only [Prod.mk.injEq] at h
  obtain ⟨rfl, rfl, rfl⟩ := h
  unfold nextS core
  simp only
  (repeat' split) <;> rfl
theorem core_over {p : Int} {s s' : Gs} (hs : GoodS p s) (hs' : GoodS p s') (h : core s = core s') : s = Gs.OVER ↔ s' = Gs.OVER := by
  have key : ∀ {q : Gs}, GoodS p q → (q = Gs.OVER ↔ q.part = .over) := fun {q} hq => by
    obtain ⟨n, m, l, part, t⟩ := q
    constructor
    · intro h; rw [h]; rfl
    · intro h
      simp only at h
      subst h
      exact hq
  have hp : s.part = s'.part := congrArg (fun x => x.2.1) h
  rw [key hs, key hs', hp]
theorem rest_core {s s' : Gs} (h : core s = core s') : restS s = restS s' := by
  obtain ⟨n, m, l, part, t⟩ := s
  obtain ⟨n', m', l', part', t'⟩ := s'
  unfold core at h
  simp only [Prod.mk.injEq] at h
  obtain ⟨rfl, rfl, rfl⟩ := h
  rfl
theorem cnt_core {p : Int} (hp : 2 ≤ p) : ∀ (k : Nat) {s s' : Gs}, restS s ≤ k → GoodS p s → GoodS p s' → core s = core s' → cntS p s = cntS p s' := by
  intro k
  induction k with
  | zero =>
    intro s s' hk hs hs' h
    have ho : s = Gs.OVER := by
      by_cases ho : s = Gs.OVER
      · exact ho
      · have := rest_pos hs ho; omega
    rw [ho, (core_over hs hs' h).mp ho]
  | succ k ih =>
    intro s s' hk hs hs' h
    by_cases ho : s = Gs.OVER
    · rw [ho, (core_over hs hs' h).mp ho]
    · have ho' : s' ≠ Gs.OVER := fun z => ho ((core_over hs hs' h).mpr z)
      rw [cnt_step hp hs ho, cnt_step hp hs' ho']
      have hst : s.stand = s'.stand := congrArg (fun x => x.2.2) h
      rw [hst]
      congr 1
      apply List.map_congr_left
      intro r hr
      have hr' := List.mem_range.mp hr
      have hlt := rest_step (r := (r : Int)) hp hs ho
      exact ih (by omega) (good_next hp hs ho (by omega) (by omega)) (good_next hp hs' ho' (by omega) (by omega)) (core_next h)
theorem cnt_pos {p : Int} (hp : 2 ≤ p) : ∀ (k : Nat) {s : Gs}, restS s ≤ k → GoodS p s → 0 < cntS p s := by
  intro k
  induction k with
  | zero =>
    intro s hk hs
    have ho : s = Gs.OVER := by
      by_cases ho : s = Gs.OVER
      · exact ho
      · have := rest_pos hs ho; omega
    rw [ho, cnt_over]; omega
  | succ k ih =>
    intro s hk hs
    by_cases ho : s = Gs.OVER
    · rw [ho, cnt_over]; omega
    · obtain ⟨g1, g2, g3, g4⟩ := good_stand hp hs
      have hlt := rest_step (r := 0) hp hs ho
      have h0 := ih (s := nextS p s 0) (by omega) (good_next hp hs ho (Int.le_refl _) g1)
      rw [cnt_step hp hs ho]
      have hsz : (s.stand + 1).toNat = s.stand.toNat + 1 := by omega
      rw [hsz, List.range_succ_eq_map, List.map_cons, List.sum_cons]
      have : cntS p (nextS p s ((0 : Nat) : Int)) = cntS p (nextS p s 0) := rfl
      omega
/-! ### a list looked at in pieces -/
theorem flat_at {α β : Type} (f : α → List β) (a : α) (l : List α) (k : Nat) : ((a :: l).flatMap f)[k]? = if k < (f a).length then (f a)[k]? else (l.flatMap f)[k - (f a).length]? := by
  rw [List.flatMap_cons, List.getElem?_append]
end FL
namespace My
open PySem L2 FL
def top (i : Nat) : Stmt := PySem.Challenge.pw_pinframes_k08_whole_games_counted.main.body.getD i (.Pass ⟨0, 0, 0, 0⟩)
/-- the built-in names are still the built-ins -/
structure Gb (mg : Str → Option Value) : Prop where
  len : mg "len" = none
  sum : mg "sum" = none
  max : mg "max" = none
  min : mg "min" = none
  list : mg "list" = none
  tuple : mg "tuple" = none
  bool : mg "bool" = none
  sorted : mg "sorted" = none
  range : mg "range" = none
  enumerate : mg "enumerate" = none
  zip : mg "zip" = none
  isinstance : mg "isinstance" = none
  set : mg "set" = none
  triv : True
/-- the constants of the top -/
structure Tx (K : PySem.W.Frag) (mg : Str → Option Value) : Prop where
  OVER : ∃ a, mg "OVER" = some (.ref a) ∧ SqT K (fun _ => none) a overV
  triv : True
/-! ### begin -/
def gBegin : Stm := (sRet (fTup [(fOp2 oIx (fVar 0) (fC (.int 0))), (fC (.int 0)), (fC (.int 0)), (fC (.str "first")), (fOp2 oIx (fVar 0) (fC (.int 1)))]))
def fnBegin : Fn := defF 0 gBegin
/-! ### next_state -/
def gNextState : Stm := (sSeq (sUnp (.tp [(.nm 3), (.nm 4), (.nm 5), (.nm 6), (.nm 7)]) (fVar 1))
    (sSeq (sIf (fOp2 (oB bEq) (fVar 6) (fC (.str "one"))) (sRet (fC (.tup overD))) sNx)
    (sSeq (sIf (fOp2 (oB bEq) (fVar 6) (fC (.str "two"))) (sRet (fTup [(fVar 3), (fVar 5), (fC (.int 0)), (fC (.str "one")), (fIf (fOp2 (oB bLt) (fVar 2) (fVar 7)) (fOp2 oSub (fVar 0) (fVar 2)) (fVar 0))])) sNx)
    (sSeq (sIf (fOp2 (oB bLt) (fVar 2) (fVar 7)) (sSeq (sIf (fOp2 (oB bEq) (fVar 6) (fC (.str "first"))) (sRet (fTup [(fVar 3), (fVar 5), (fC (.int 0)), (fC (.str "second")), (fOp2 oSub (fVar 7) (fVar 2))])) sNx)
    (sRet (fIf (fOp2 (oB bGt) (fVar 3) (fC (.int 1))) (fTup [(fOp2 oSub (fVar 3) (fC (.int 1))), (fVar 5), (fC (.int 0)), (fC (.str "first")), (fVar 0)]) (fC (.tup overD))))) sNx)
    (sSeq (sIf (fOp2 (oB bEq) (fVar 3) (fC (.int 1))) (sRet (fTup [(fVar 3), (fVar 5), (fC (.int 0)), (fIf (fOp2 (oB bEq) (fVar 6) (fC (.str "first"))) (fC (.str "two")) (fC (.str "one"))), (fVar 0)])) sNx)
    (sSeq (sIf (fOp2 (oB bEq) (fVar 6) (fC (.str "first"))) (sRet (fTup [(fOp2 oSub (fVar 3) (fC (.int 1))), (fOp2 oAdd (fVar 5) (fC (.int 1))), (fC (.int 1)), (fC (.str "first")), (fVar 0)])) sNx)
    (sRet (fTup [(fOp2 oSub (fVar 3) (fC (.int 1))), (fOp2 oAdd (fVar 5) (fC (.int 1))), (fC (.int 0)), (fC (.str "first")), (fVar 0)]))))))))
def fnNextState : Fn := defF 5 gNextState
/-! ### state_after -/
def gStateAfter_b1 : Stm := (sAsg 2 (fCall fnNextState [(fOp2 oIx (fVar 0) (fC (.int 1))), (fVar 2), (fVar 3)]))
def gStateAfter : Stm := (sSeq (sAsg 2 (fCall fnBegin [(fVar 0)]))
    (sSeq (sFor (itSeq (fVar 1)) (.nm 3) gStateAfter_b1)
    (sRet (fVar 2))))
def fnStateAfter : Fn := defF 2 gStateAfter
/-! ### standing -/
def gStanding : Stm := (sRet (fOp2 oIx (fCall fnStateAfter [(fVar 0), (fVar 1)]) (fC (.int 4))))
def fnStanding : Fn := defF 0 gStanding
/-! ### weights -/
def gWeights_b1 : Stm := (sSeq (sAsg 3 (fTupS [(true, (fVar 3)), (false, (fOp2 oAdd (fC (.int 1)) (fOp2 oIx (fVar 2) (fC (.int 1)))))]))
    (sAsg 2 (fCall fnNextState [(fOp2 oIx (fVar 0) (fC (.int 1))), (fVar 2), (fVar 4)])))
def gWeights : Stm := (sSeq (sPar [2, 3] [(fCall fnBegin [(fVar 0)]), (fTup [])])
    (sSeq (sFor (itSeq (fVar 1)) (.nm 4) gWeights_b1)
    (sRet (fVar 3))))
def fnWeights : Fn := defF 3 gWeights
/-! ### score -/
def gScore_e1 : Ev := (fOp2 oMul (fVar 2) (fVar 3))
def gScore : Stm := (sRet (fOpN oSumA [(fLc (itZip (fVar 1) (fCall fnWeights [(fVar 0), (fVar 1)])) (.tp [(.nm 2), (.nm 3)]) (fC (.bl true)) gScore_e1 [2, 3])]))
def fnScore : Fn := defF 2 gScore
/-! ### count_from -/
def gCountFrom_e1 (self : Fn) : Ev := (fCall self [(fVar 0), (fCall fnNextState [(fVar 0), (fVar 1), (fVar 4)]), (fVar 2)])
def gCountFrom (self : Fn) : Stm := (sSeq (sIf (fOp2 (oB bEq) (fVar 1) (fC (.tup overD))) (sRet (fC (.int 1))) sNx)
    (sSeq (sAsg 3 (fTup [(fOp2 oIx (fVar 1) (fC (.int 0))), (fOp2 oIx (fVar 1) (fC (.int 3))), (fOp2 oIx (fVar 1) (fC (.int 4)))]))
    (sSeq (sIf (fInD true (fVar 3) (fVar 2)) (sSub 2 (fVar 3) (fOpN oSumA [(fLc (itRg1 (fOp2 oAdd (fOp2 oIx (fVar 1) (fC (.int 4))) (fC (.int 1)))) (.nm 4) (fC (.bl true)) (gCountFrom_e1 self) [4])])) sNx)
    (sRet (fOp2 oIx (fVar 2) (fVar 3))))))
def fnCountFrom : Nat → Fn
  | 0 => fun _ => none
  | n + 1 => defF 2 (gCountFrom (fnCountFrom n))
/-! ### count_games -/
def gCountGames : Stm := (sRet (fCall (fnCountFrom 30) [(fOp2 oIx (fVar 0) (fC (.int 1))), (fCall fnStateAfter [(fVar 0), (fVar 1)]), fDic]))
def fnCountGames : Fn := defF 0 gCountGames
/-! ### totals_from -/
def gTotalsFrom_b1 (self : Fn) : Stm := (sAugL 3 (fOp2 oAdd (fVar 5) (fVar 7)) (fVar 8))
def gTotalsFrom_b2 (self : Fn) : Stm := (sSeq (sAsg 5 (fOp2 oMul (fVar 4) (fOp2 oAdd (fC (.int 1)) (fOp2 oIx (fVar 1) (fC (.int 1))))))
    (sSeq (sAsg 6 (fCall self [(fVar 0), (fCall fnNextState [(fVar 0), (fVar 1), (fVar 4)]), (fVar 2)]))
    (sSeq (sAsg 3 (fOp2 oAdd (fVar 3) (fOp2 oMul (fLst [(fC (.int 0))]) (fOp2 oSub (fOp2 oAdd (fVar 5) (fOpN oLen [(fVar 6)])) (fOpN oLen [(fVar 3)])))))
    (sFor (itEnum (fVar 6)) (.tp [(.nm 7), (.nm 8)]) (gTotalsFrom_b1 self)))))
def gTotalsFrom (self : Fn) : Stm := (sSeq (sIf (fOp2 (oB bEq) (fVar 1) (fC (.tup overD))) (sRet (fLst [(fC (.int 1))])) sNx)
    (sSeq (sIf (fInD true (fVar 1) (fVar 2)) (sSeq (sAsg 3 (fLst [(fC (.int 0))]))
    (sSeq (sFor (itRg1 (fOp2 oAdd (fOp2 oIx (fVar 1) (fC (.int 4))) (fC (.int 1)))) (.nm 4) (gTotalsFrom_b2 self))
    (sSub 2 (fVar 1) (fVar 3)))) sNx)
    (sRet (fOp2 oIx (fVar 2) (fVar 1)))))
def fnTotalsFrom : Nat → Fn
  | 0 => fun _ => none
  | n + 1 => defF 6 (gTotalsFrom (fnTotalsFrom n))
/-! ### count_total -/
def gCountTotal : Stm := (sSeq (sAsg 3 (fCall (fnTotalsFrom 30) [(fOp2 oIx (fVar 0) (fC (.int 1))), (fCall fnStateAfter [(fVar 0), (fVar 1)]), fDic]))
    (sSeq (sAsg 4 (fOp2 oSub (fVar 2) (fCall fnScore [(fVar 0), (fVar 1)])))
    (sRet (fIf (fChain bLe bLt (fC (.int 0)) (fVar 4) (fOpN oLen [(fVar 3)])) (fOp2 oIx (fVar 3) (fVar 4)) (fC (.int 0))))))
def fnCountTotal : Fn := defF 2 gCountTotal
/-! ### _law_draw -/
def gLawDraw : Stm := (sSeq (sAsg 2 (fC (.int 2305843009213693951)))
    (sSeq (sIf (fOp2 (oB bLt) (fOp2 oIx (fVar 0) (fC (.int 2))) (fVar 1)) (sSeq (sAsg 3 (fC (.int 0)))
    (sSeq (sIf (fOp2 (oB bGt) (fOpN oLen [(fOp2 oIx (fVar 0) (fC (.int 0)))]) (fC (.int 0))) (sAsg 3 (fOp2 oIx (fOp2 oIx (fVar 0) (fC (.int 0))) (fOp2 oMod (fOp2 oIx (fVar 0) (fC (.int 1))) (fOpN oLen [(fOp2 oIx (fVar 0) (fC (.int 0)))])))) sNx)
    (sSeq (sIf (fOr (fOp2 (oB bGe) (fOp2 oIx (fVar 0) (fC (.int 1))) (fOpN oLen [(fOp2 oIx (fVar 0) (fC (.int 0)))])) (fOp2 (oB bLt) (fVar 3) (fOp2 oPow (fC (.int 10)) (fC (.int 18))))) (sSeq (sAsg 3 (fOp2 oMod (fOp2 oAdd (fVar 3) (fOp2 oMul (fC (.int 1000003)) (fOp2 oIx (fVar 0) (fC (.int 1))))) (fVar 2)))
    (sSeq (sAsg 3 (fOp2 oMod (fOp2 oAdd (fOp2 oAdd (fOp2 oMul (fVar 3) (fVar 3)) (fOp2 oMul (fC (.int 1181783497276652981)) (fVar 3))) (fC (.int 2049848353892358983))) (fVar 2)))
    (sAsg 3 (fOp2 oMod (fOp2 oAdd (fOp2 oMul (fVar 3) (fVar 3)) (fC (.int 1442695040888963407))) (fVar 2))))) sNx)
    (sSeq (sSub 0 (fC (.int 1)) (fOp2 oAdd (fOp2 oIx (fVar 0) (fC (.int 1))) (fC (.int 1))))
    (sSub 0 (fC (.int 2)) (fVar 3)))))) sNx)
    (sSeq (sAsg 4 (fOp2 oMod (fOp2 oIx (fVar 0) (fC (.int 2))) (fVar 1)))
    (sSeq (sSub 0 (fC (.int 2)) (fOp2 oFDiv (fOp2 oIx (fVar 0) (fC (.int 2))) (fVar 1)))
    (sRet (fVar 4))))))
def fnLawDraw : Fn := defF 3 gLawDraw
/-! ### _law_like -/
def gLawLike_e1 (self : Fn) : Ev := (fVar 2)
def gLawLike (self : Fn) : Stm := (sSeq (sIf (fIsi2 "list" "tuple" (fVar 0)) (sSeq (sIf (fOr (fOp2 (oB bNe) (fIsi "list" (fVar 0)) (fIsi "list" (fVar 1))) (fOp2 (oB bNe) (fIsi "tuple" (fVar 0)) (fIsi "tuple" (fVar 1)))) (sRet (fC (.bl false))) sNx)
    (sSeq (sIf (fOp2 (oB bNe) (fOpN oLen [(fVar 0)]) (fOpN oLen [(fVar 1)])) (sRet (fC (.bl false))) sNx)
    (sRet (fOp2 (oB bEq) (fLc (itRg1 (fOpN oLen [(fVar 0)])) (.nm 2) (fNot (fCall self [(fOp2 oIx (fVar 0) (fVar 2)), (fOp2 oIx (fVar 1) (fVar 2))])) (gLawLike_e1 self) [2]) (fLst []))))) sNx)
    (sSeq (sIf (fIsi2 "list" "tuple" (fVar 1)) (sRet (fC (.bl false))) sNx)
    (sRet (fAnd (fOp2 (oB bEq) (fIsi "bool" (fVar 0)) (fIsi "bool" (fVar 1))) (fOp2 (oB bEq) (fVar 0) (fVar 1))))))
def fnLawLike : Nat → Fn
  | 0 => fun _ => none
  | n + 1 => defF 1 (gLawLike (fnLawLike n))
/-! ### _law_needed -/
def gLawNeeded : Stm := (sSeq (sIf (fOp2 (oB bEq) (fVar 2) (fTup [])) (sRet (fC (.int 0))) sNx)
    (sSeq (sIf (fNot (fVar 1)) (sRet (fIf (fOr (fOp2 (oB bEq) (fOp2 oIx (fVar 2) (fC (.int 0))) (fVar 0)) (fOp2 (oB bEq) (fOpN oLen [(fVar 2)]) (fC (.int 2)))) (fOpN oLen [(fVar 2)]) (fC (.int 0)))) sNx)
    (sSeq (sIf (fOr (fOp2 (oB bEq) (fOpN oLen [(fVar 2)]) (fC (.int 3))) (fAnd (fOp2 (oB bEq) (fOpN oLen [(fVar 2)]) (fC (.int 2))) (fAnd (fOp2 (oB bLt) (fOp2 oIx (fVar 2) (fC (.int 0))) (fVar 0)) (fOp2 (oB bLt) (fOpN oSumA [(fVar 2)]) (fVar 0))))) (sRet (fOpN oLen [(fVar 2)])) sNx)
    (sRet (fC (.int 0))))))
def fnLawNeeded : Fn := defF 0 gLawNeeded
/-! ### _law_stands -/
def gLawStands_b1 : Stm := (sSeq (sAsg 2 (fOp2 oSub (fVar 2) (fVar 3)))
    (sIf (fOp2 (oB bEq) (fVar 2) (fC (.int 0))) (sAsg 2 (fVar 0)) sNx))
def gLawStands : Stm := (sSeq (sAsg 2 (fVar 0))
    (sSeq (sFor (itSeq (fVar 1)) (.nm 3) gLawStands_b1)
    (sRet (fVar 2))))
def fnLawStands : Fn := defF 2 gLawStands
/-! ### _law_split -/
def gLawSplit_b1 : Stm := (sSeq (sIf (fOp2 (oB bGt) (fOpN oLen [(fVar 2)]) (fOp2 oIx (fVar 0) (fC (.int 0)))) (sRet (fC .non)) sNx)
    (sSeq (sIf (fNot (fChain bLe bLe (fC (.int 0)) (fVar 3) (fCall fnLawStands [(fOp2 oIx (fVar 0) (fC (.int 1))), (fOp2 oIx (fVar 2) (fOp1 oNeg (fC (.int 1))))]))) (sRet (fC .non)) sNx)
    (sSeq (sSub 2 (fOp1 oNeg (fC (.int 1))) (fOp2 oAdd (fOp2 oIx (fVar 2) (fOp1 oNeg (fC (.int 1)))) (fTup [(fVar 3)])))
    (sIf (fOp2 (oB bGt) (fCall fnLawNeeded [(fOp2 oIx (fVar 0) (fC (.int 1))), (fOp2 (oB bEq) (fOpN oLen [(fVar 2)]) (fOp2 oIx (fVar 0) (fC (.int 0)))), (fOp2 oIx (fVar 2) (fOp1 oNeg (fC (.int 1))))]) (fC (.int 0))) (sDrop (fMutL 2 oApp [(fTup [])])) sNx))))
def gLawSplit : Stm := (sSeq (sAsg 2 (fLst [(fTup [])]))
    (sSeq (sFor (itSeq (fVar 1)) (.nm 3) gLawSplit_b1)
    (sRet (fVar 2))))
def fnLawSplit : Fn := defF 2 gLawSplit
/-! ### _law_over -/
def gLawOver : Stm := (sRet (fOp2 (oB bGt) (fOpN oLen [(fCall fnLawSplit [(fVar 0), (fVar 1)])]) (fOp2 oIx (fVar 0) (fC (.int 0)))))
def fnLawOver : Fn := defF 0 gLawOver
/-! ### _law_parts -/
def gLawParts_b1 : Stm := (sSeq (sAsg 7 (fOpN oLen [(fVar 6)]))
    (sSeq (sAsg 8 (fOp2 (oB bGt) (fCall fnLawNeeded [(fOp2 oIx (fVar 0) (fC (.int 1))), (fOp2 (oB bEq) (fVar 5) (fOp2 oSub (fOp2 oIx (fVar 0) (fC (.int 0))) (fC (.int 1)))), (fVar 6)]) (fC (.int 0))))
    (sSeq (sIf (fAnd (fOp2 (oB bLt) (fVar 5) (fOp2 oSub (fOp2 oIx (fVar 0) (fC (.int 0))) (fC (.int 1)))) (fOp2 (oB bEq) (fOpN oSumA [(fVar 6)]) (fOp2 oIx (fVar 0) (fC (.int 1))))) (sAsg 7 (fC (.int 3))) sNx)
    (sSeq (sIf (fOp2 (oB bNe) (fVar 6) (fTup [])) (sDrop (fMutL 2 oApp [(fTup [(fSlice (fVar 1) (some (fVar 3)) (some (fOp2 oAdd (fVar 3) (fVar 7)))), (fAnd (fVar 8) (fOp2 (oB bLe) (fOp2 oAdd (fVar 3) (fVar 7)) (fOpN oLen [(fVar 1)])))])])) sNx)
    (sAsg 3 (fOp2 oAdd (fVar 3) (fOpN oLen [(fVar 6)])))))))
def gLawParts : Stm := (sSeq (sPar [2, 3, 4] [(fLst []), (fC (.int 0)), (fCall fnLawSplit [(fVar 0), (fVar 1)])])
    (sSeq (sFor (itEnum (fSlice (fVar 4) none (some (fOp2 oIx (fVar 0) (fC (.int 0)))))) (.tp [(.nm 5), (.nm 6)]) gLawParts_b1)
    (sRet (fVar 2))))
def fnLawParts : Fn := defF 7 gLawParts
/-! ### _law_points -/
def gLawPoints_e1 : Ev := (fOpN oSumA [(fVar 2)])
def gLawPoints : Stm := (sRet (fOpN oSumA [(fLc (itSeq (fCall fnLawParts [(fVar 0), (fVar 1)])) (.tp [(.nm 2), (.nm 3)]) (fC (.bl true)) gLawPoints_e1 [2, 3])]))
def fnLawPoints : Fn := defF 2 gLawPoints
/-! ### _law_further -/
def gLawFurther_b1 : Stm := (sSeq (sAsg 6 (fCall fnLawSplit [(fVar 1), (fVar 2)]))
    (sSeq (sIf (fOp2 (oB bGt) (fOpN oLen [(fVar 6)]) (fOp2 oIx (fVar 1) (fC (.int 0)))) (sRet (fVar 2)) sNx)
    (sSeq (sAsg 7 (fCall fnLawStands [(fOp2 oIx (fVar 1) (fC (.int 1))), (fOp2 oIx (fVar 6) (fOp1 oNeg (fC (.int 1))))]))
    (sSeq (sAsg 8 (fCall fnLawDraw [(fVar 0), (fOp2 oAdd (fVar 7) (fC (.int 1)))]))
    (sSeq (sIf (fOr (fOp2 (oB bEq) (fVar 4) (fC (.int 1))) (fAnd (fOp2 (oB bEq) (fVar 4) (fC (.int 2))) (fOp2 (oB bEq) (fCall fnLawDraw [(fVar 0), (fC (.int 2))]) (fC (.int 0))))) (sAsg 8 (fVar 7)) sNx)
    (sSeq (sIf (fAnd (fOp2 (oB bEq) (fVar 4) (fC (.int 3))) (fOp2 (oB bGt) (fCall fnLawDraw [(fVar 0), (fC (.int 3))]) (fC (.int 0)))) (sAsg 8 (fOpN oMin [(fVar 8), (fC (.int 1))])) sNx)
    (sAsg 2 (fOp2 oAdd (fVar 2) (fTup [(fVar 8)])))))))))
def gLawFurther : Stm := (sSeq (sAsg 4 (fCall fnLawDraw [(fVar 0), (fC (.int 4))]))
    (sSeq (sFor (itRg1 (fVar 3)) (.nm 5) gLawFurther_b1)
    (sRet (fVar 2))))
def fnLawFurther : Fn := defF 5 gLawFurther
/-! ### _law_game -/
def gLawGame : Stm := (sRet (fCall fnLawFurther [(fVar 0), (fVar 1), (fTup []), (fC (.int 25))]))
def fnLawGame : Fn := defF 0 gLawGame
/-! ### _law_start -/
def gLawStart : Stm := (sSeq (sAsg 2 (fCall fnLawGame [(fVar 0), (fVar 1)]))
    (sSeq (sAsg 3 (fOp2 oIx (fLst [(fCall fnLawDraw [(fVar 0), (fC (.int 4))]), (fCall fnLawDraw [(fVar 0), (fOp2 oAdd (fOpN oLen [(fVar 2)]) (fC (.int 1)))])]) (fCall fnLawDraw [(fVar 0), (fC (.int 2))])))
    (sRet (fSlice (fVar 2) none (some (fOpN oMax [(fC (.int 0)), (fOp2 oSub (fOpN oLen [(fVar 2)]) (fVar 3))]))))))
def fnLawStart : Fn := defF 2 gLawStart
/-! ### _law_all -/
def gLawAll_e1 : Ev := (fOp2 oAdd (fVar 5) (fTup [(fVar 8)]))
def gLawAll_b2 : Stm := (sSeq (sAsg 6 (fCall fnLawSplit [(fVar 0), (fOp2 oAdd (fVar 1) (fVar 5))]))
    (sIf (fOp2 (oB bGt) (fOpN oLen [(fVar 6)]) (fOp2 oIx (fVar 0) (fC (.int 0)))) (sDrop (fMutL 2 oApp [(fVar 5)])) (sSeq (sAsg 7 (fCall fnLawStands [(fOp2 oIx (fVar 0) (fC (.int 1))), (fOp2 oIx (fVar 6) (fOp1 oNeg (fC (.int 1))))]))
    (sAsg 4 (fOp2 oAdd (fVar 4) (fLc (itRg1 (fOp2 oAdd (fVar 7) (fC (.int 1)))) (.nm 8) (fC (.bl true)) gLawAll_e1 [8]))))))
def gLawAll_b3 : Stm := (sSeq (sAsg 4 (fLst []))
    (sSeq (sFor (itSeq (fVar 3)) (.nm 5) gLawAll_b2)
    (sAsg 3 (fVar 4))))
def gLawAll_c4 : Ev := (fOp2 (oB bNe) (fVar 3) (fLst []))
def gLawAll : Stm := (sSeq (sPar [2, 3] [(fLst []), (fLst [(fTup [])])])
    (sSeq (sWhile 1000 gLawAll_c4 gLawAll_b3)
    (sRet (fOpN oSortA [(fVar 2)]))))
def fnLawAll : Fn := defF 7 gLawAll
/-! ### law -/
def gLaw_e1 : Ev := (fCall fnLawPoints [(fVar 2), (fOp2 oAdd (fVar 4) (fVar 16))])
def gLaw_b2 : Stm := (sIf (fNot (fCall (fnLawLike 4) [(fCall fnCountTotal [(fVar 2), (fVar 4), (fVar 6)]), (fCount 5 (fVar 6))])) (sRet (fC (.bl false))) sNx)
def gLaw_b3 : Stm := (sAsg 9 (fOp2 oFDiv (fOp2 oMul (fOp2 oMul (fVar 9) (fOp2 oAdd (fVar 8) (fC (.int 1)))) (fOp2 oAdd (fVar 8) (fC (.int 2)))) (fC (.int 2))))
def gLaw_e4 : Ev := (fCall fnCountTotal [(fVar 11), (fTup []), (fVar 6)])
def gLaw_e5 : Ev := (fCall fnCountGames [(fVar 11), (fOp2 oAdd (fVar 13) (fTup [(fVar 17)]))])
def gLaw : Stm := (sSeq (sAsg 1 (fLst [(fOpN oList [(fVar 0)]), (fC (.int 0)), (fC (.int 0))]))
    (sSeq (sAsg 2 (fTup [(fOp2 oAdd (fC (.int 1)) (fCall fnLawDraw [(fVar 1), (fC (.int 2))])), (fOp2 oAdd (fC (.int 2)) (fCall fnLawDraw [(fVar 1), (fC (.int 3))]))]))
    (sSeq (sAsg 3 (fCall fnLawGame [(fVar 1), (fVar 2)]))
    (sSeq (sAsg 4 (fSlice (fVar 3) none (some (fCall fnLawDraw [(fVar 1), (fOp2 oAdd (fOpN oLen [(fVar 3)]) (fC (.int 1)))]))))
    (sSeq (sAsg 5 (fLc (itSeq (fCall fnLawAll [(fVar 2), (fVar 4)])) (.nm 16) (fC (.bl true)) gLaw_e1 [16]))
    (sSeq (sIf (fNot (fCall (fnLawLike 4) [(fCall fnCountGames [(fVar 2), (fVar 4)]), (fOpN oLen [(fVar 5)])])) (sRet (fC (.bl false))) sNx)
    (sSeq (sFor (itSeq (fOp2 oAdd (fSlice (fSortSet (fVar 5)) none (some (fC (.int 30)))) (fLst [(fOp2 oAdd (fOpN oMax [(fVar 5)]) (fC (.int 1))), (fC (.int 0)), (fC (.int 400))]))) (.nm 6) gLaw_b2)
    (sSeq (sPar [7, 8] [(fOp2 oAdd (fC (.int 1)) (fCall fnLawDraw [(fVar 1), (fC (.int 10))])), (fOp2 oAdd (fC (.int 2)) (fCall fnLawDraw [(fVar 1), (fC (.int 9))]))])
    (sSeq (sAsg 9 (fOp2 oSub (fOp2 oAdd (fOp2 oAdd (fOp2 oAdd (fOp2 oFDiv (fOp2 oMul (fVar 8) (fOp2 oAdd (fVar 8) (fC (.int 1)))) (fC (.int 2))) (fOp2 oMul (fVar 8) (fOp2 oAdd (fVar 8) (fC (.int 1))))) (fOp2 oAdd (fVar 8) (fC (.int 1)))) (fOp2 oFDiv (fOp2 oMul (fOp2 oAdd (fVar 8) (fC (.int 1))) (fOp2 oAdd (fVar 8) (fC (.int 2)))) (fC (.int 2)))) (fC (.int 1))))
    (sSeq (sFor (itRg1 (fOp2 oSub (fVar 7) (fC (.int 1)))) (.nm 10) gLaw_b3)
    (sSeq (sIf (fOp2 (oB bNe) (fCall fnCountGames [(fTup [(fVar 7), (fVar 8)]), (fTup [])]) (fVar 9)) (sRet (fC (.bl false))) sNx)
    (sSeq (sAsg 11 (fTup [(fOp2 oAdd (fC (.int 1)) (fCall fnLawDraw [(fVar 1), (fC (.int 4))])), (fOp2 oAdd (fC (.int 2)) (fCall fnLawDraw [(fVar 1), (fC (.int 4))]))]))
    (sSeq (sAsg 12 (fLc (itRg1 (fOp2 oAdd (fOp2 oMul (fOp2 oMul (fC (.int 3)) (fOp2 oIx (fVar 11) (fC (.int 0)))) (fOp2 oIx (fVar 11) (fC (.int 1)))) (fC (.int 1)))) (.nm 6) (fC (.bl true)) gLaw_e4 [6]))
    (sSeq (sIf (fOr (fOp2 (oB bNe) (fOpN oSumA [(fVar 12)]) (fCall fnCountGames [(fVar 11), (fTup [])])) (fOp2 (oB bLt) (fOpN oMin [(fVar 12)]) (fC (.int 1)))) (sRet (fC (.bl false))) sNx)
    (sSeq (sAsg 13 (fCall fnLawStart [(fVar 1), (fVar 11)]))
    (sSeq (sIf (fNot (fCall fnLawOver [(fVar 11), (fVar 13)])) (sSeq (sAsg 14 (fCall fnStanding [(fVar 11), (fVar 13)]))
    (sSeq (sAsg 15 (fLc (itRg1 (fOp2 oAdd (fVar 14) (fC (.int 1)))) (.nm 17) (fC (.bl true)) gLaw_e5 [17]))
    (sIf (fOp2 (oB bNe) (fOpN oSumA [(fVar 15)]) (fCall fnCountGames [(fVar 11), (fVar 13)])) (sRet (fC (.bl false))) sNx))) sNx)
    (sRet (fAnd (fOp2 (oB bEq) (fCall fnCountGames [(fTup [(fC (.int 10)), (fC (.int 10))]), (fTup [])]) (fOp2 oMul (fOp2 oPow (fC (.int 66)) (fC (.int 9))) (fC (.int 241)))) (fOp2 (oB bEq) (fCall fnCountTotal [(fTup [(fC (.int 10)), (fC (.int 10))]), (fTup []), (fC (.int 300))]) (fC (.int 1)))))))))))))))))))))
def fnLaw : Fn := defF 17 gLaw
section
variable {P : Program} {w : World} {K : PySem.W.Frag} {mg : Str → Option Value} {base : Heap}
/-! ### begin -/
abbrev sBegin : Stmt := top 2
theorem scBegin : FnScope ["rules"] ["rules"] (defScope sBegin) := ⟨rfl, rfl, rfl, by decide +kernel, rfl, by decide +kernel, by decide +kernel⟩
theorem okBegin {f : Addr} {fd : FuncData} (F : Fun K "begin" "begin" sBegin f fd) (G : Gb mg) (T : Tx K mg)  : FnOk P w K mg base CX0 1 f fd ["rules"] (spV K 1 fnBegin) :=
  fn_ok (k := 0) F scBegin gBegin fun cdv A outer s H E hr =>
    (vss_one (vs_ret (ve_tup (va_cons (ve_sub (hu1 hr) (ve_var (pv 0)) ve_int fun _ _ => rfl) (va_cons ve_int (va_cons ve_int (va_cons ve_str (va_cons (ve_sub (hu1 hr) (ve_var (pv 0)) ve_int fun _ _ => rfl) va_nil))))))))
theorem calBegin {f : Addr} {fd : FuncData} (F : Fun K "begin" "begin" sBegin f fd) (m : mg "begin" = some (.ref f)) (G : Gb mg) (T : Tx K mg)  : Cal P w K mg base "begin" 1 1 fnBegin :=
  ⟨f, fd, ["rules"], m, F.kp, F.binds (ps := ["rules"]) (fun _ _ _ _ _ _ us hl => match us, hl with | [_], _ => rfl), rfl, okBegin F G T ⟩
/-! ### next_state -/
abbrev sNextState : Stmt := top 3
theorem scNextState : FnScope ["pins", "now", "roll", "left", "more", "later", "part", "stand"] ["pins", "now", "roll"] (defScope sNextState) := ⟨rfl, rfl, rfl, by decide +kernel, rfl, by decide +kernel, by decide +kernel⟩
theorem okNextState {f : Addr} {fd : FuncData} (F : Fun K "next_state" "next_state" sNextState f fd) (G : Gb mg) (T : Tx K mg)  : FnOk P w K mg base CX0 1 f fd ["pins", "now", "roll"] (spV K 3 fnNextState) :=
  fn_ok (k := 0) F scNextState gNextState fun cdv A outer s H E hr =>
    (vss_cons (vs_unp (ve_var (pv 1)) (vg_tup rfl (vgs_cons (vg_name (i := 3) scNextState.nd rfl (by first | exact Or.inl rfl | exact Or.inr rfl)) (vgs_cons (vg_name (i := 4) scNextState.nd rfl (by first | exact Or.inl rfl | exact Or.inr rfl)) (vgs_cons (vg_name (i := 5) scNextState.nd rfl (by first | exact Or.inl rfl | exact Or.inr rfl)) (vgs_cons (vg_name (i := 6) scNextState.nd rfl (by first | exact Or.inl rfl | exact Or.inr rfl)) (vgs_cons (vg_name (i := 7) scNextState.nd rfl (by first | exact Or.inl rfl | exact Or.inr rfl)) vgs_nil)))))))
    (vss_cons (vs_if (vt_cmp (op_eqD (hu64 hr)) (s_ofB sb_eq) (ve_var (pv 6)) ve_str (nomark _)) (vss_one (vs_ret (ve_c (pe_glob (v := .ref T.OVER.choose) (by rfl) T.OVER.choose_spec.1 rfl) fun _ => .con T.OVER.choose_spec.2))) vss_nil)
    (vss_cons (vs_if (vt_cmp (op_eqD (hu64 hr)) (s_ofB sb_eq) (ve_var (pv 6)) ve_str (nomark _)) (vss_one (vs_ret (ve_tup (va_cons (ve_var (pv 3)) (va_cons (ve_var (pv 5)) (va_cons ve_int (va_cons ve_str (va_cons (ve_if (vt_cmp op_lt (s_ofB sb_int) (ve_var (pv 2)) (ve_var (pv 7)) (nomark _)) (ve_bin op_sub s_sub (ve_var (pv 0)) (ve_var (pv 2))) (ve_var (pv 0))) va_nil)))))))) vss_nil)
    (vss_cons (vs_if (vt_cmp op_lt (s_ofB sb_int) (ve_var (pv 2)) (ve_var (pv 7)) (nomark _)) (vss_cons (vs_if (vt_cmp (op_eqD (hu64 hr)) (s_ofB sb_eq) (ve_var (pv 6)) ve_str (nomark _)) (vss_one (vs_ret (ve_tup (va_cons (ve_var (pv 3)) (va_cons (ve_var (pv 5)) (va_cons ve_int (va_cons ve_str (va_cons (ve_bin op_sub s_sub (ve_var (pv 7)) (ve_var (pv 2))) va_nil)))))))) vss_nil)
    (vss_one (vs_ret (ve_if (vt_cmp op_gt (s_ofB sb_int) (ve_var (pv 3)) ve_int (nomark _)) (ve_tup (va_cons (ve_bin op_sub s_sub (ve_var (pv 3)) ve_int) (va_cons (ve_var (pv 5)) (va_cons ve_int (va_cons ve_str (va_cons (ve_var (pv 0)) va_nil)))))) (ve_c (pe_glob (v := .ref T.OVER.choose) (by rfl) T.OVER.choose_spec.1 rfl) fun _ => .con T.OVER.choose_spec.2))))) vss_nil)
    (vss_cons (vs_if (vt_cmp (op_eqD (hu64 hr)) (s_ofB sb_eq) (ve_var (pv 3)) ve_int (nomark _)) (vss_one (vs_ret (ve_tup (va_cons (ve_var (pv 3)) (va_cons (ve_var (pv 5)) (va_cons ve_int (va_cons (ve_if (vt_cmp (op_eqD (hu64 hr)) (s_ofB sb_eq) (ve_var (pv 6)) ve_str (nomark _)) ve_str ve_str) (va_cons (ve_var (pv 0)) va_nil)))))))) vss_nil)
    (vss_cons (vs_if (vt_cmp (op_eqD (hu64 hr)) (s_ofB sb_eq) (ve_var (pv 6)) ve_str (nomark _)) (vss_one (vs_ret (ve_tup (va_cons (ve_bin op_sub s_sub (ve_var (pv 3)) ve_int) (va_cons (ve_bin op_addA s_add (ve_var (pv 5)) ve_int) (va_cons ve_int (va_cons ve_str (va_cons (ve_var (pv 0)) va_nil)))))))) vss_nil)
    (vss_one (vs_ret (ve_tup (va_cons (ve_bin op_sub s_sub (ve_var (pv 3)) ve_int) (va_cons (ve_bin op_addA s_add (ve_var (pv 5)) ve_int) (va_cons ve_int (va_cons ve_str (va_cons (ve_var (pv 0)) va_nil))))))))))))))
theorem calNextState {f : Addr} {fd : FuncData} (F : Fun K "next_state" "next_state" sNextState f fd) (m : mg "next_state" = some (.ref f)) (G : Gb mg) (T : Tx K mg)  : Cal P w K mg base "next_state" 1 3 fnNextState :=
  ⟨f, fd, ["pins", "now", "roll"], m, F.kp, F.binds (ps := ["pins", "now", "roll"]) (fun _ _ _ _ _ _ us hl => match us, hl with | [_, _, _], _ => rfl), rfl, okNextState F G T ⟩
/-! ### state_after -/
abbrev sStateAfter : Stmt := top 4
theorem scStateAfter : FnScope ["rules", "rolls", "now", "roll"] ["rules", "rolls"] (defScope sStateAfter) := ⟨rfl, rfl, rfl, by decide +kernel, rfl, by decide +kernel, by decide +kernel⟩
theorem okStateAfter {f : Addr} {fd : FuncData} (F : Fun K "state_after" "state_after" sStateAfter f fd) (G : Gb mg) (T : Tx K mg) (C_Begin : Cal P w K mg base "begin" 1 1 fnBegin) (C_NextState : Cal P w K mg base "next_state" 1 3 fnNextState) : FnOk P w K mg base CX0 2 f fd ["rules", "rolls"] (spV K 2 fnStateAfter) :=
  fn_ok (k := 1) F scStateAfter gStateAfter fun cdv A outer s H E hr =>
    (vss_cons (vs_set (i := 2) scStateAfter.nd rfl (by first | exact Or.inl rfl | exact Or.inr rfl) (ve_call C_Begin (hr.mono (by decide)) (va_cons (ve_var (pv 0)) va_nil) rfl (by rfl)))
    (vss_cons (vs_for PassesOwn.never rfl (vi_seq (ve_var (pv 1))) (vg_name (i := 3) scStateAfter.nd rfl (by first | exact Or.inl rfl | exact Or.inr rfl)) (vss_one (vs_set (i := 2) scStateAfter.nd rfl (by first | exact Or.inl rfl | exact Or.inr rfl) (ve_call C_NextState (hr.mono (by decide)) (va_cons (ve_sub (hu1 hr) (ve_var (pv 0)) ve_int fun _ _ => rfl) (va_cons (ve_var (pv 2)) (va_cons (ve_var (pv 3)) va_nil))) rfl (by rfl)))))
    (vss_one (vs_ret (ve_var (pv 2))))))
theorem calStateAfter {f : Addr} {fd : FuncData} (F : Fun K "state_after" "state_after" sStateAfter f fd) (m : mg "state_after" = some (.ref f)) (G : Gb mg) (T : Tx K mg) (C_Begin : Cal P w K mg base "begin" 1 1 fnBegin) (C_NextState : Cal P w K mg base "next_state" 1 3 fnNextState) : Cal P w K mg base "state_after" 2 2 fnStateAfter :=
  ⟨f, fd, ["rules", "rolls"], m, F.kp, F.binds (ps := ["rules", "rolls"]) (fun _ _ _ _ _ _ us hl => match us, hl with | [_, _], _ => rfl), rfl, okStateAfter F G T C_Begin C_NextState⟩
/-! ### standing -/
abbrev sStanding : Stmt := top 5
theorem scStanding : FnScope ["rules", "rolls"] ["rules", "rolls"] (defScope sStanding) := ⟨rfl, rfl, rfl, by decide +kernel, rfl, by decide +kernel, by decide +kernel⟩
theorem okStanding {f : Addr} {fd : FuncData} (F : Fun K "standing" "standing" sStanding f fd) (G : Gb mg) (T : Tx K mg) (C_StateAfter : Cal P w K mg base "state_after" 2 2 fnStateAfter) : FnOk P w K mg base CX0 3 f fd ["rules", "rolls"] (spV K 2 fnStanding) :=
  fn_ok (k := 2) F scStanding gStanding fun cdv A outer s H E hr =>
    (vss_one (vs_ret (ve_sub (hu1 hr) (ve_call C_StateAfter (hr.mono (by decide)) (va_cons (ve_var (pv 0)) (va_cons (ve_var (pv 1)) va_nil)) rfl (by rfl)) ve_int fun _ _ => rfl)))
theorem calStanding {f : Addr} {fd : FuncData} (F : Fun K "standing" "standing" sStanding f fd) (m : mg "standing" = some (.ref f)) (G : Gb mg) (T : Tx K mg) (C_StateAfter : Cal P w K mg base "state_after" 2 2 fnStateAfter) : Cal P w K mg base "standing" 3 2 fnStanding :=
  ⟨f, fd, ["rules", "rolls"], m, F.kp, F.binds (ps := ["rules", "rolls"]) (fun _ _ _ _ _ _ us hl => match us, hl with | [_, _], _ => rfl), rfl, okStanding F G T C_StateAfter⟩
/-! ### weights -/
abbrev sWeights : Stmt := top 6
theorem scWeights : FnScope ["rules", "rolls", "now", "found", "roll"] ["rules", "rolls"] (defScope sWeights) := ⟨rfl, rfl, rfl, by decide +kernel, rfl, by decide +kernel, by decide +kernel⟩
theorem okWeights {f : Addr} {fd : FuncData} (F : Fun K "weights" "weights" sWeights f fd) (G : Gb mg) (T : Tx K mg) (C_Begin : Cal P w K mg base "begin" 1 1 fnBegin) (C_NextState : Cal P w K mg base "next_state" 1 3 fnNextState) : FnOk P w K mg base CX0 2 f fd ["rules", "rolls"] (spV K 2 fnWeights) :=
  fn_ok (k := 1) F scWeights gWeights fun cdv A outer s H E hr =>
    (vss_cons (vs_par (i := 2) (j := 3) rfl scWeights.nd rfl rfl (by decide) rfl rfl (va_cons (ve_call C_Begin (hr.mono (by decide)) (va_cons (ve_var (pv 0)) va_nil) rfl (by rfl)) (va_cons (ve_tup va_nil) va_nil)) (by rfl))
    (vss_cons (vs_for PassesOwn.never rfl (vi_seq (ve_var (pv 1))) (vg_name (i := 4) scWeights.nd rfl (by first | exact Or.inl rfl | exact Or.inr rfl)) (vss_cons (vs_set (i := 3) scWeights.nd rfl (by first | exact Or.inl rfl | exact Or.inr rfl) (ve_tupS (vas_star (ve_var (pv 3)) (vas_cons (ve_bin op_addA s_add ve_int (ve_sub (hu1 hr) (ve_var (pv 2)) ve_int fun _ _ => rfl)) vas_nil))))
    (vss_one (vs_set (i := 2) scWeights.nd rfl (by first | exact Or.inl rfl | exact Or.inr rfl) (ve_call C_NextState (hr.mono (by decide)) (va_cons (ve_sub (hu1 hr) (ve_var (pv 0)) ve_int fun _ _ => rfl) (va_cons (ve_var (pv 2)) (va_cons (ve_var (pv 4)) va_nil))) rfl (by rfl))))))
    (vss_one (vs_ret (ve_var (pv 3))))))
theorem calWeights {f : Addr} {fd : FuncData} (F : Fun K "weights" "weights" sWeights f fd) (m : mg "weights" = some (.ref f)) (G : Gb mg) (T : Tx K mg) (C_Begin : Cal P w K mg base "begin" 1 1 fnBegin) (C_NextState : Cal P w K mg base "next_state" 1 3 fnNextState) : Cal P w K mg base "weights" 2 2 fnWeights :=
  ⟨f, fd, ["rules", "rolls"], m, F.kp, F.binds (ps := ["rules", "rolls"]) (fun _ _ _ _ _ _ us hl => match us, hl with | [_, _], _ => rfl), rfl, okWeights F G T C_Begin C_NextState⟩
/-! ### score -/
abbrev sScore : Stmt := top 7
theorem scScore : FnScope ["rules", "rolls", "roll", "weight"] ["rules", "rolls"] (defScope sScore) := ⟨rfl, rfl, rfl, by decide +kernel, rfl, by decide +kernel, by decide +kernel⟩
theorem okScore {f : Addr} {fd : FuncData} (F : Fun K "score" "score" sScore f fd) (G : Gb mg) (T : Tx K mg) (C_Weights : Cal P w K mg base "weights" 2 2 fnWeights) : FnOk P w K mg base CX0 3 f fd ["rules", "rolls"] (spV K 2 fnScore) :=
  fn_ok (k := 2) F scScore gScore fun cdv A outer s H E hr =>
    (vss_one (vs_ret (ve_callB (c_sum rfl) s_sumA (by rfl) G.sum (by decide +kernel) (va_cons (ve_lc (own := [("roll", 2), ("weight", 3)]) rfl scScore.nd (vi_zip (by rfl) G.zip (ve_var (pv 1)) (ve_call C_Weights (hr.mono (by decide)) (va_cons (ve_var (pv 0)) (va_cons (ve_var (pv 1)) va_nil)) rfl (by rfl))) (blkOk_by (own := [("roll", 2), ("weight", 3)]) (N := ["rules", "rolls", "roll", "weight"]) (sc := defScope sScore) (by decide +kernel)) (fun _ _ _ _ _ => (vg_tup rfl (vgs_cons (vg_name (i := 2) scScore.nd rfl (by first | exact Or.inl rfl | exact Or.inr rfl)) (vgs_cons (vg_name (i := 3) scScore.nd rfl (by first | exact Or.inl rfl | exact Or.inr rfl)) vgs_nil)))) (fun _ _ _ _ _ => vts_nil) (fun _ _ _ _ _ => (ve_bin op_mulA s_mul (ve_var (pv 2)) (ve_var (pv 3)))) (by intro j hj; simp at hj; simp [tgHas, tgsHas]; omega)) va_nil))))
theorem calScore {f : Addr} {fd : FuncData} (F : Fun K "score" "score" sScore f fd) (m : mg "score" = some (.ref f)) (G : Gb mg) (T : Tx K mg) (C_Weights : Cal P w K mg base "weights" 2 2 fnWeights) : Cal P w K mg base "score" 3 2 fnScore :=
  ⟨f, fd, ["rules", "rolls"], m, F.kp, F.binds (ps := ["rules", "rolls"]) (fun _ _ _ _ _ _ us hl => match us, hl with | [_, _], _ => rfl), rfl, okScore F G T C_Weights⟩
/-! ### count_from -/
abbrev sCountFrom : Stmt := top 9
theorem scCountFrom : FnScope ["pins", "now", "known", "key", "roll"] ["pins", "now", "known"] (defScope sCountFrom) := ⟨rfl, rfl, rfl, by decide +kernel, rfl, by decide +kernel, by decide +kernel⟩
theorem okCountFrom (self : Fn) (k : Nat) (hk : 1 ≤ k) {f : Addr} {fd : FuncData} (F : Fun K "count_from" "count_from" sCountFrom f fd) (G : Gb mg) (T : Tx K mg) (C_NextState : Cal P w K mg base "next_state" 1 3 fnNextState) (C_CountFrom : Cal P w K mg base "count_from" k 3 self) : FnOk P w K mg base CX0 (k + 1) f fd ["pins", "now", "known"] (spV K 3 (defF 2 (gCountFrom self))) :=
  fn_ok (k := k) F scCountFrom (gCountFrom self) fun cdv A outer s H E hr =>
    (vss_cons (vs_if (vt_cmp (op_eqD (hu64 hr)) (s_ofB sb_eq) (ve_var (pv 1)) (ve_c (pe_glob (v := .ref T.OVER.choose) (by rfl) T.OVER.choose_spec.1 rfl) fun _ => .con T.OVER.choose_spec.2) (nomark _)) (vss_one (vs_ret ve_int)) vss_nil)
    (vss_cons (vs_set (i := 3) scCountFrom.nd rfl (by first | exact Or.inl rfl | exact Or.inr rfl) (ve_tup (va_cons (ve_sub (hu1 hr) (ve_var (pv 1)) ve_int fun _ _ => rfl) (va_cons (ve_sub (hu1 hr) (ve_var (pv 1)) ve_int fun _ _ => rfl) (va_cons (ve_sub (hu1 hr) (ve_var (pv 1)) ve_int fun _ _ => rfl) va_nil)))))
    (vss_cons (vs_if (vt_notInD (hu1 hr) (ve_var (pv 3)) (ve_var (pv 2))) (vss_one (vs_sub (hu1 hr) (pv 2) (ve_var (pv 3)) (ve_callB (c_sum rfl) s_sumA (by rfl) G.sum (by decide +kernel) (va_cons (ve_lc (own := [("roll", 4)]) rfl scCountFrom.nd (vi_rg1 (by rfl) G.range (ve_bin op_addA s_add (ve_sub (hu1 hr) (ve_var (pv 1)) ve_int fun _ _ => rfl) ve_int)) (blkOk_by (own := [("roll", 4)]) (N := ["pins", "now", "known", "key", "roll"]) (sc := defScope sCountFrom) (by decide +kernel)) (fun _ _ _ _ _ => (vg_name (i := 4) scCountFrom.nd rfl (by first | exact Or.inl rfl | exact Or.inr rfl))) (fun _ _ _ _ _ => vts_nil) (fun _ _ _ _ _ => (ve_call C_CountFrom (hr.mono (by omega)) (va_cons (ve_var (pv 0)) (va_cons (ve_call C_NextState (hr.mono (by omega)) (va_cons (ve_var (pv 0)) (va_cons (ve_var (pv 1)) (va_cons (ve_var (pv 4)) va_nil))) rfl (by rfl)) (va_cons (ve_var (pv 2)) va_nil))) rfl (by rfl))) (by intro j hj; simp at hj; simp [tgHas, tgsHas]; omega)) va_nil)))) vss_nil)
    (vss_one (vs_ret (ve_sub (hu1 hr) (ve_var (pv 2)) (ve_var (pv 3)) fun _ _ => rfl))))))
theorem calCountFrom {f : Addr} {fd : FuncData} (F : Fun K "count_from" "count_from" sCountFrom f fd) (m : mg "count_from" = some (.ref f)) (G : Gb mg) (T : Tx K mg) (C_NextState : Cal P w K mg base "next_state" 1 3 fnNextState) : ∀ j : Nat, Cal P w K mg base "count_from" (1 + j) 3 (fnCountFrom j)
  | 0 => ⟨f, fd, ["pins", "now", "known"], m, F.kp, F.binds (ps := ["pins", "now", "known"]) (fun _ _ _ _ _ _ us hl => match us, hl with | [_, _, _], _ => rfl), rfl, ⟨fun vs H Q E h => h.1, fun A outer s H args us vs Q E hr e0 hb hv h => by obtain ⟨_, _, _, _, _, _, e, _⟩ := h; cases e⟩⟩
  | j + 1 => ⟨f, fd, ["pins", "now", "known"], m, F.kp, F.binds (ps := ["pins", "now", "known"]) (fun _ _ _ _ _ _ us hl => match us, hl with | [_, _, _], _ => rfl), rfl, okCountFrom (fnCountFrom j) (1 + j) (Nat.le_add_right _ _) F G T C_NextState (calCountFrom F m G T C_NextState j)⟩
/-! ### count_games -/
abbrev sCountGames : Stmt := top 10
theorem scCountGames : FnScope ["rules", "rolls"] ["rules", "rolls"] (defScope sCountGames) := ⟨rfl, rfl, rfl, by decide +kernel, rfl, by decide +kernel, by decide +kernel⟩
theorem okCountGames {f : Addr} {fd : FuncData} (F : Fun K "count_games" "count_games" sCountGames f fd) (G : Gb mg) (T : Tx K mg) (C_CountFrom : Cal P w K mg base "count_from" 31 3 (fnCountFrom 30)) (C_StateAfter : Cal P w K mg base "state_after" 2 2 fnStateAfter) : FnOk P w K mg base CX0 32 f fd ["rules", "rolls"] (spV K 2 fnCountGames) :=
  fn_ok (k := 31) F scCountGames gCountGames fun cdv A outer s H E hr =>
    (vss_one (vs_ret (ve_call C_CountFrom (hr.mono (by decide)) (va_cons (ve_sub (hu1 hr) (ve_var (pv 0)) ve_int fun _ _ => rfl) (va_cons (ve_call C_StateAfter (hr.mono (by decide)) (va_cons (ve_var (pv 0)) (va_cons (ve_var (pv 1)) va_nil)) rfl (by rfl)) (va_cons ve_dic va_nil))) rfl (by rfl))))
theorem calCountGames {f : Addr} {fd : FuncData} (F : Fun K "count_games" "count_games" sCountGames f fd) (m : mg "count_games" = some (.ref f)) (G : Gb mg) (T : Tx K mg) (C_CountFrom : Cal P w K mg base "count_from" 31 3 (fnCountFrom 30)) (C_StateAfter : Cal P w K mg base "state_after" 2 2 fnStateAfter) : Cal P w K mg base "count_games" 32 2 fnCountGames :=
  ⟨f, fd, ["rules", "rolls"], m, F.kp, F.binds (ps := ["rules", "rolls"]) (fun _ _ _ _ _ _ us hl => match us, hl with | [_, _], _ => rfl), rfl, okCountGames F G T C_CountFrom C_StateAfter⟩
/-! ### totals_from -/
abbrev sTotalsFrom : Stmt := top 11
theorem scTotalsFrom : FnScope ["pins", "now", "known", "found", "roll", "more", "row", "number", "count"] ["pins", "now", "known"] (defScope sTotalsFrom) := ⟨rfl, rfl, rfl, by decide +kernel, rfl, by decide +kernel, by decide +kernel⟩
theorem okTotalsFrom (self : Fn) (k : Nat) (hk : 1 ≤ k) {f : Addr} {fd : FuncData} (F : Fun K "totals_from" "totals_from" sTotalsFrom f fd) (G : Gb mg) (T : Tx K mg) (C_NextState : Cal P w K mg base "next_state" 1 3 fnNextState) (C_TotalsFrom : Cal P w K mg base "totals_from" k 3 self) : FnOk P w K mg base CX0 (k + 1) f fd ["pins", "now", "known"] (spV K 3 (defF 6 (gTotalsFrom self))) :=
  fn_ok (k := k) F scTotalsFrom (gTotalsFrom self) fun cdv A outer s H E hr =>
    (vss_cons (vs_if (vt_cmp (op_eqD (hu64 hr)) (s_ofB sb_eq) (ve_var (pv 1)) (ve_c (pe_glob (v := .ref T.OVER.choose) (by rfl) T.OVER.choose_spec.1 rfl) fun _ => .con T.OVER.choose_spec.2) (nomark _)) (vss_one (vs_ret (ve_lst (va_cons ve_int va_nil)))) vss_nil)
    (vss_cons (vs_if (vt_notInD (hu1 hr) (ve_var (pv 1)) (ve_var (pv 2))) (vss_cons (vs_set (i := 3) scTotalsFrom.nd rfl (by first | exact Or.inl rfl | exact Or.inr rfl) (ve_lst (va_cons ve_int va_nil)))
    (vss_cons (vs_for PassesOwn.never rfl (vi_rg1 (by rfl) G.range (ve_bin op_addA s_add (ve_sub (hu1 hr) (ve_var (pv 1)) ve_int fun _ _ => rfl) ve_int)) (vg_name (i := 4) scTotalsFrom.nd rfl (by first | exact Or.inl rfl | exact Or.inr rfl)) (vss_cons (vs_set (i := 5) scTotalsFrom.nd rfl (by first | exact Or.inl rfl | exact Or.inr rfl) (ve_bin op_mulA s_mul (ve_var (pv 4)) (ve_bin op_addA s_add ve_int (ve_sub (hu1 hr) (ve_var (pv 1)) ve_int fun _ _ => rfl))))
    (vss_cons (vs_set (i := 6) scTotalsFrom.nd rfl (by first | exact Or.inl rfl | exact Or.inr rfl) (ve_call C_TotalsFrom (hr.mono (by omega)) (va_cons (ve_var (pv 0)) (va_cons (ve_call C_NextState (hr.mono (by omega)) (va_cons (ve_var (pv 0)) (va_cons (ve_var (pv 1)) (va_cons (ve_var (pv 4)) va_nil))) rfl (by rfl)) (va_cons (ve_var (pv 2)) va_nil))) rfl (by rfl)))
    (vss_cons (vs_set (i := 3) scTotalsFrom.nd rfl (by first | exact Or.inl rfl | exact Or.inr rfl) (ve_bin op_addA s_add (ve_var (pv 3)) (ve_bin op_mulA s_mul (ve_lst (va_cons ve_int va_nil)) (ve_bin op_sub s_sub (ve_bin op_addA s_add (ve_var (pv 5)) (ve_callB c_len s_len (by rfl) G.len PySem.boot_len (va_cons (ve_var (pv 6)) va_nil))) (ve_callB c_len s_len (by rfl) G.len PySem.boot_len (va_cons (ve_var (pv 3)) va_nil))))))
    (vss_one (vs_for PassesOwn.never rfl (vi_enum (by rfl) G.enumerate (ve_var (pv 6))) (vg_tup rfl (vgs_cons (vg_name (i := 7) scTotalsFrom.nd rfl (by first | exact Or.inl rfl | exact Or.inr rfl)) (vgs_cons (vg_name (i := 8) scTotalsFrom.nd rfl (by first | exact Or.inl rfl | exact Or.inr rfl)) vgs_nil))) (vss_one (vs_augL (pv 3) (ve_bin op_addA s_add (ve_var (pv 5)) (ve_var (pv 7))) (ve_var (pv 8))))))))))
    (vss_one (vs_sub (hu1 hr) (pv 2) (ve_var (pv 1)) (ve_var (pv 3)))))) vss_nil)
    (vss_one (vs_ret (ve_sub (hu1 hr) (ve_var (pv 2)) (ve_var (pv 1)) fun _ _ => rfl)))))
theorem calTotalsFrom {f : Addr} {fd : FuncData} (F : Fun K "totals_from" "totals_from" sTotalsFrom f fd) (m : mg "totals_from" = some (.ref f)) (G : Gb mg) (T : Tx K mg) (C_NextState : Cal P w K mg base "next_state" 1 3 fnNextState) : ∀ j : Nat, Cal P w K mg base "totals_from" (1 + j) 3 (fnTotalsFrom j)
  | 0 => ⟨f, fd, ["pins", "now", "known"], m, F.kp, F.binds (ps := ["pins", "now", "known"]) (fun _ _ _ _ _ _ us hl => match us, hl with | [_, _, _], _ => rfl), rfl, ⟨fun vs H Q E h => h.1, fun A outer s H args us vs Q E hr e0 hb hv h => by obtain ⟨_, _, _, _, _, _, e, _⟩ := h; cases e⟩⟩
  | j + 1 => ⟨f, fd, ["pins", "now", "known"], m, F.kp, F.binds (ps := ["pins", "now", "known"]) (fun _ _ _ _ _ _ us hl => match us, hl with | [_, _, _], _ => rfl), rfl, okTotalsFrom (fnTotalsFrom j) (1 + j) (Nat.le_add_right _ _) F G T C_NextState (calTotalsFrom F m G T C_NextState j)⟩
/-! ### count_total -/
abbrev sCountTotal : Stmt := top 12
theorem scCountTotal : FnScope ["rules", "rolls", "total", "row", "more"] ["rules", "rolls", "total"] (defScope sCountTotal) := ⟨rfl, rfl, rfl, by decide +kernel, rfl, by decide +kernel, by decide +kernel⟩
theorem okCountTotal {f : Addr} {fd : FuncData} (F : Fun K "count_total" "count_total" sCountTotal f fd) (G : Gb mg) (T : Tx K mg) (C_TotalsFrom : Cal P w K mg base "totals_from" 31 3 (fnTotalsFrom 30)) (C_StateAfter : Cal P w K mg base "state_after" 2 2 fnStateAfter) (C_Score : Cal P w K mg base "score" 3 2 fnScore) : FnOk P w K mg base CX0 32 f fd ["rules", "rolls", "total"] (spV K 3 fnCountTotal) :=
  fn_ok (k := 31) F scCountTotal gCountTotal fun cdv A outer s H E hr =>
    (vss_cons (vs_set (i := 3) scCountTotal.nd rfl (by first | exact Or.inl rfl | exact Or.inr rfl) (ve_call C_TotalsFrom (hr.mono (by decide)) (va_cons (ve_sub (hu1 hr) (ve_var (pv 0)) ve_int fun _ _ => rfl) (va_cons (ve_call C_StateAfter (hr.mono (by decide)) (va_cons (ve_var (pv 0)) (va_cons (ve_var (pv 1)) va_nil)) rfl (by rfl)) (va_cons ve_dic va_nil))) rfl (by rfl)))
    (vss_cons (vs_set (i := 4) scCountTotal.nd rfl (by first | exact Or.inl rfl | exact Or.inr rfl) (ve_bin op_sub s_sub (ve_var (pv 2)) (ve_call C_Score (hr.mono (by decide)) (va_cons (ve_var (pv 0)) (va_cons (ve_var (pv 1)) va_nil)) rfl (by rfl))))
    (vss_one (vs_ret (ve_if (vt_chain op_le op_lt sb_int sb_int ve_int (ve_var (pv 4)) (ve_callB c_len s_len (by rfl) G.len PySem.boot_len (va_cons (ve_var (pv 3)) va_nil))) (ve_sub (hu1 hr) (ve_var (pv 3)) (ve_var (pv 4)) fun _ _ => rfl) ve_int)))))
theorem calCountTotal {f : Addr} {fd : FuncData} (F : Fun K "count_total" "count_total" sCountTotal f fd) (m : mg "count_total" = some (.ref f)) (G : Gb mg) (T : Tx K mg) (C_TotalsFrom : Cal P w K mg base "totals_from" 31 3 (fnTotalsFrom 30)) (C_StateAfter : Cal P w K mg base "state_after" 2 2 fnStateAfter) (C_Score : Cal P w K mg base "score" 3 2 fnScore) : Cal P w K mg base "count_total" 32 3 fnCountTotal :=
  ⟨f, fd, ["rules", "rolls", "total"], m, F.kp, F.binds (ps := ["rules", "rolls", "total"]) (fun _ _ _ _ _ _ us hl => match us, hl with | [_, _, _], _ => rfl), rfl, okCountTotal F G T C_TotalsFrom C_StateAfter C_Score⟩
/-! ### _law_draw -/
abbrev sLawDraw : Stmt := top 14
theorem scLawDraw : FnScope ["tape", "many", "prime", "cell", "found"] ["tape", "many"] (defScope sLawDraw) := ⟨rfl, rfl, rfl, by decide +kernel, rfl, by decide +kernel, by decide +kernel⟩
theorem okLawDraw {f : Addr} {fd : FuncData} (F : Fun K "_law_draw" "_law_draw" sLawDraw f fd) (G : Gb mg) (T : Tx K mg)  : FnOk P w K mg base CX0 1 f fd ["tape", "many"] (spV K 2 fnLawDraw) :=
  fn_ok (k := 0) F scLawDraw gLawDraw fun cdv A outer s H E hr =>
    (vss_cons (vs_set (i := 2) scLawDraw.nd rfl (by first | exact Or.inl rfl | exact Or.inr rfl) ve_int)
    (vss_cons (vs_if (vt_cmp op_lt (s_ofB sb_int) (ve_sub (hu1 hr) (ve_var (pv 0)) ve_int fun _ _ => rfl) (ve_var (pv 1)) (nomark _)) (vss_cons (vs_set (i := 3) scLawDraw.nd rfl (by first | exact Or.inl rfl | exact Or.inr rfl) ve_int)
    (vss_cons (vs_if (vt_cmp op_gt (s_ofB sb_int) (ve_callB c_len s_len (by rfl) G.len PySem.boot_len (va_cons (ve_sub (hu1 hr) (ve_var (pv 0)) ve_int fun _ _ => rfl) va_nil)) ve_int (nomark _)) (vss_one (vs_set (i := 3) scLawDraw.nd rfl (by first | exact Or.inl rfl | exact Or.inr rfl) (ve_sub (hu1 hr) (ve_sub (hu1 hr) (ve_var (pv 0)) ve_int fun _ _ => rfl) (ve_bin op_mod s_mod (ve_sub (hu1 hr) (ve_var (pv 0)) ve_int fun _ _ => rfl) (ve_callB c_len s_len (by rfl) G.len PySem.boot_len (va_cons (ve_sub (hu1 hr) (ve_var (pv 0)) ve_int fun _ _ => rfl) va_nil))) fun _ _ => rfl))) vss_nil)
    (vss_cons (vs_if (PW.pt (vw_or (vt_cmp op_ge (s_ofB sb_int) (ve_sub (hu1 hr) (ve_var (pv 0)) ve_int fun _ _ => rfl) (ve_callB c_len s_len (by rfl) G.len PySem.boot_len (va_cons (ve_sub (hu1 hr) (ve_var (pv 0)) ve_int fun _ _ => rfl) va_nil)) (nomark _)) (vw_or1 (vt_cmp op_lt (s_ofB sb_int) (ve_var (pv 3)) (ve_bin op_pow s_pow ve_int ve_int) (nomark _))))) (vss_cons (vs_set (i := 3) scLawDraw.nd rfl (by first | exact Or.inl rfl | exact Or.inr rfl) (ve_bin op_mod s_mod (ve_bin op_addA s_add (ve_var (pv 3)) (ve_bin op_mulA s_mul ve_int (ve_sub (hu1 hr) (ve_var (pv 0)) ve_int fun _ _ => rfl))) (ve_var (pv 2))))
    (vss_cons (vs_set (i := 3) scLawDraw.nd rfl (by first | exact Or.inl rfl | exact Or.inr rfl) (ve_bin op_mod s_mod (ve_bin op_addA s_add (ve_bin op_addA s_add (ve_bin op_mulA s_mul (ve_var (pv 3)) (ve_var (pv 3))) (ve_bin op_mulA s_mul ve_int (ve_var (pv 3)))) ve_int) (ve_var (pv 2))))
    (vss_one (vs_set (i := 3) scLawDraw.nd rfl (by first | exact Or.inl rfl | exact Or.inr rfl) (ve_bin op_mod s_mod (ve_bin op_addA s_add (ve_bin op_mulA s_mul (ve_var (pv 3)) (ve_var (pv 3))) ve_int) (ve_var (pv 2))))))) vss_nil)
    (vss_cons (vs_sub (hu1 hr) (pv 0) ve_int (ve_bin op_addA s_add (ve_sub (hu1 hr) (ve_var (pv 0)) ve_int fun _ _ => rfl) ve_int))
    (vss_one (vs_sub (hu1 hr) (pv 0) ve_int (ve_var (pv 3)))))))) vss_nil)
    (vss_cons (vs_set (i := 4) scLawDraw.nd rfl (by first | exact Or.inl rfl | exact Or.inr rfl) (ve_bin op_mod s_mod (ve_sub (hu1 hr) (ve_var (pv 0)) ve_int fun _ _ => rfl) (ve_var (pv 1))))
    (vss_cons (vs_sub (hu1 hr) (pv 0) ve_int (ve_bin op_fdivW s_fdiv (ve_sub (hu1 hr) (ve_var (pv 0)) ve_int fun _ _ => rfl) (ve_var (pv 1))))
    (vss_one (vs_ret (ve_var (pv 4))))))))
theorem calLawDraw {f : Addr} {fd : FuncData} (F : Fun K "_law_draw" "_law_draw" sLawDraw f fd) (m : mg "_law_draw" = some (.ref f)) (G : Gb mg) (T : Tx K mg)  : Cal P w K mg base "_law_draw" 1 2 fnLawDraw :=
  ⟨f, fd, ["tape", "many"], m, F.kp, F.binds (ps := ["tape", "many"]) (fun _ _ _ _ _ _ us hl => match us, hl with | [_, _], _ => rfl), rfl, okLawDraw F G T ⟩
/-! ### _law_like -/
abbrev sLawLike : Stmt := top 15
theorem scLawLike : FnScope ["one", "two", "k"] ["one", "two"] (defScope sLawLike) := ⟨rfl, rfl, rfl, by decide +kernel, rfl, by decide +kernel, by decide +kernel⟩
theorem okLawLike (self : Fn) (k : Nat) (hk : 0 ≤ k) {f : Addr} {fd : FuncData} (F : Fun K "_law_like" "_law_like" sLawLike f fd) (G : Gb mg) (T : Tx K mg)  (C_LawLike : Cal P w K mg base "_law_like" k 2 self) : FnOk P w K mg base CX0 (k + 1) f fd ["one", "two"] (spV K 2 (defF 1 (gLawLike self))) :=
  fn_ok (k := k) F scLawLike (gLawLike self) fun cdv A outer s H E hr =>
    (vss_cons (vs_if (vt_val (ve_isi2 (T := "list") (U := "tuple") (by decide) (by decide) (by rfl) G.isinstance (ve_var (pv 0)) (pe_bltn (v := .ty "list") (u := .type "list") (by rfl) G.list (by decide +kernel) rfl) (pe_bltn (v := .ty "tuple") (u := .type "tuple") (by rfl) G.tuple (by decide +kernel) rfl))) (vss_cons (vs_if (PW.pt (vw_or (vt_cmp (op_neD (hu64 hr)) (s_ofB sb_ne) (ve_isi (T := "list") (by decide) (by rfl) G.isinstance (ve_var (pv 0)) (pe_bltn (v := .ty "list") (u := .type "list") (by rfl) G.list (by decide +kernel) rfl)) (ve_isi (T := "list") (by decide) (by rfl) G.isinstance (ve_var (pv 1)) (pe_bltn (v := .ty "list") (u := .type "list") (by rfl) G.list (by decide +kernel) rfl)) (nomark _)) (vw_or1 (vt_cmp (op_neD (hu64 hr)) (s_ofB sb_ne) (ve_isi (T := "tuple") (by decide) (by rfl) G.isinstance (ve_var (pv 0)) (pe_bltn (v := .ty "tuple") (u := .type "tuple") (by rfl) G.tuple (by decide +kernel) rfl)) (ve_isi (T := "tuple") (by decide) (by rfl) G.isinstance (ve_var (pv 1)) (pe_bltn (v := .ty "tuple") (u := .type "tuple") (by rfl) G.tuple (by decide +kernel) rfl)) (nomark _))))) (vss_one (vs_ret ve_bl)) vss_nil)
    (vss_cons (vs_if (vt_cmp (op_neD (hu64 hr)) (s_ofB sb_ne) (ve_callB c_len s_len (by rfl) G.len PySem.boot_len (va_cons (ve_var (pv 0)) va_nil)) (ve_callB c_len s_len (by rfl) G.len PySem.boot_len (va_cons (ve_var (pv 1)) va_nil)) (nomark _)) (vss_one (vs_ret ve_bl)) vss_nil)
    (vss_one (vs_ret (ve_cmp (op_eqD (hu64 hr)) (s_ofB sb_eq) (ve_lc (own := [("k", 2)]) rfl scLawLike.nd (vi_rg1 (by rfl) G.range (ve_callB c_len s_len (by rfl) G.len PySem.boot_len (va_cons (ve_var (pv 0)) va_nil))) (blkOk_by (own := [("k", 2)]) (N := ["one", "two", "k"]) (sc := defScope sLawLike) (by decide +kernel)) (fun _ _ _ _ _ => (vg_name (i := 2) scLawLike.nd rfl (by first | exact Or.inl rfl | exact Or.inr rfl))) (fun _ _ _ _ _ => (vts_one (vt_not (vt_val (ve_call C_LawLike (hr.mono (by omega)) (va_cons (ve_sub (hu1 hr) (ve_var (pv 0)) (ve_var (pv 2)) fun _ _ => rfl) (va_cons (ve_sub (hu1 hr) (ve_var (pv 1)) (ve_var (pv 2)) fun _ _ => rfl) va_nil)) rfl (by rfl)))))) (fun _ _ _ _ _ => (ve_var (pv 2))) (by intro j hj; simp at hj; simp [tgHas, tgsHas]; omega)) (ve_lst va_nil) (nomark _)))))) vss_nil)
    (vss_cons (vs_if (vt_val (ve_isi2 (T := "list") (U := "tuple") (by decide) (by decide) (by rfl) G.isinstance (ve_var (pv 1)) (pe_bltn (v := .ty "list") (u := .type "list") (by rfl) G.list (by decide +kernel) rfl) (pe_bltn (v := .ty "tuple") (u := .type "tuple") (by rfl) G.tuple (by decide +kernel) rfl))) (vss_one (vs_ret ve_bl)) vss_nil)
    (vss_one (vs_ret (ve_and (ve_cmp (op_eqD (hu64 hr)) (s_ofB sb_eq) (ve_isi (T := "bool") (by decide) (by rfl) G.isinstance (ve_var (pv 0)) (pe_bltn (v := .ty "bool") (u := .type "bool") (by rfl) G.bool (by decide +kernel) rfl)) (ve_isi (T := "bool") (by decide) (by rfl) G.isinstance (ve_var (pv 1)) (pe_bltn (v := .ty "bool") (u := .type "bool") (by rfl) G.bool (by decide +kernel) rfl)) (nomark _)) (ve_one (ve_cmp (op_eqD (hu64 hr)) (s_ofB sb_eq) (ve_var (pv 0)) (ve_var (pv 1)) (nomark _))))))))
theorem calLawLike {f : Addr} {fd : FuncData} (F : Fun K "_law_like" "_law_like" sLawLike f fd) (m : mg "_law_like" = some (.ref f)) (G : Gb mg) (T : Tx K mg)  : ∀ j : Nat, Cal P w K mg base "_law_like" (0 + j) 2 (fnLawLike j)
  | 0 => ⟨f, fd, ["one", "two"], m, F.kp, F.binds (ps := ["one", "two"]) (fun _ _ _ _ _ _ us hl => match us, hl with | [_, _], _ => rfl), rfl, ⟨fun vs H Q E h => h.1, fun A outer s H args us vs Q E hr e0 hb hv h => by obtain ⟨_, _, _, _, _, _, e, _⟩ := h; cases e⟩⟩
  | j + 1 => ⟨f, fd, ["one", "two"], m, F.kp, F.binds (ps := ["one", "two"]) (fun _ _ _ _ _ _ us hl => match us, hl with | [_, _], _ => rfl), rfl, okLawLike (fnLawLike j) (0 + j) (Nat.le_add_right _ _) F G T  (calLawLike F m G T  j)⟩
/-! ### _law_needed -/
abbrev sLawNeeded : Stmt := top 16
theorem scLawNeeded : FnScope ["pins", "last", "frame"] ["pins", "last", "frame"] (defScope sLawNeeded) := ⟨rfl, rfl, rfl, by decide +kernel, rfl, by decide +kernel, by decide +kernel⟩
theorem okLawNeeded {f : Addr} {fd : FuncData} (F : Fun K "_law_needed" "_law_needed" sLawNeeded f fd) (G : Gb mg) (T : Tx K mg)  : FnOk P w K mg base CX0 1 f fd ["pins", "last", "frame"] (spV K 3 fnLawNeeded) :=
  fn_ok (k := 0) F scLawNeeded gLawNeeded fun cdv A outer s H E hr =>
    (vss_cons (vs_if (vt_cmp (op_eqD (hu64 hr)) (s_ofB sb_eq) (ve_var (pv 2)) (ve_tup va_nil) (nomark _)) (vss_one (vs_ret ve_int)) vss_nil)
    (vss_cons (vs_if (vt_not (vt_val (ve_var (pv 1)))) (vss_one (vs_ret (ve_if (PW.pt (vw_or (vt_cmp (op_eqD (hu64 hr)) (s_ofB sb_eq) (ve_sub (hu1 hr) (ve_var (pv 2)) ve_int fun _ _ => rfl) (ve_var (pv 0)) (nomark _)) (vw_or1 (vt_cmp (op_eqD (hu64 hr)) (s_ofB sb_eq) (ve_callB c_len s_len (by rfl) G.len PySem.boot_len (va_cons (ve_var (pv 2)) va_nil)) ve_int (nomark _))))) (ve_callB c_len s_len (by rfl) G.len PySem.boot_len (va_cons (ve_var (pv 2)) va_nil)) ve_int))) vss_nil)
    (vss_cons (vs_if (PW.pt (vw_or (vt_cmp (op_eqD (hu64 hr)) (s_ofB sb_eq) (ve_callB c_len s_len (by rfl) G.len PySem.boot_len (va_cons (ve_var (pv 2)) va_nil)) ve_int (nomark _)) (vw_or1 (PW.pt (vw_and (vt_cmp (op_eqD (hu64 hr)) (s_ofB sb_eq) (ve_callB c_len s_len (by rfl) G.len PySem.boot_len (va_cons (ve_var (pv 2)) va_nil)) ve_int (nomark _)) (vw_and (vt_cmp op_lt (s_ofB sb_int) (ve_sub (hu1 hr) (ve_var (pv 2)) ve_int fun _ _ => rfl) (ve_var (pv 0)) (nomark _)) (vw_and1 (vt_cmp op_lt (s_ofB sb_int) (ve_callB (c_sum rfl) s_sumA (by rfl) G.sum (by decide +kernel) (va_cons (ve_var (pv 2)) va_nil)) (ve_var (pv 0)) (nomark _))))))))) (vss_one (vs_ret (ve_callB c_len s_len (by rfl) G.len PySem.boot_len (va_cons (ve_var (pv 2)) va_nil)))) vss_nil)
    (vss_one (vs_ret ve_int)))))
theorem calLawNeeded {f : Addr} {fd : FuncData} (F : Fun K "_law_needed" "_law_needed" sLawNeeded f fd) (m : mg "_law_needed" = some (.ref f)) (G : Gb mg) (T : Tx K mg)  : Cal P w K mg base "_law_needed" 1 3 fnLawNeeded :=
  ⟨f, fd, ["pins", "last", "frame"], m, F.kp, F.binds (ps := ["pins", "last", "frame"]) (fun _ _ _ _ _ _ us hl => match us, hl with | [_, _, _], _ => rfl), rfl, okLawNeeded F G T ⟩
/-! ### _law_stands -/
abbrev sLawStands : Stmt := top 17
theorem scLawStands : FnScope ["pins", "frame", "stand", "roll"] ["pins", "frame"] (defScope sLawStands) := ⟨rfl, rfl, rfl, by decide +kernel, rfl, by decide +kernel, by decide +kernel⟩
theorem okLawStands {f : Addr} {fd : FuncData} (F : Fun K "_law_stands" "_law_stands" sLawStands f fd) (G : Gb mg) (T : Tx K mg)  : FnOk P w K mg base CX0 1 f fd ["pins", "frame"] (spV K 2 fnLawStands) :=
  fn_ok (k := 0) F scLawStands gLawStands fun cdv A outer s H E hr =>
    (vss_cons (vs_set (i := 2) scLawStands.nd rfl (by first | exact Or.inl rfl | exact Or.inr rfl) (ve_var (pv 0)))
    (vss_cons (vs_for PassesOwn.never rfl (vi_seq (ve_var (pv 1))) (vg_name (i := 3) scLawStands.nd rfl (by first | exact Or.inl rfl | exact Or.inr rfl)) (vss_cons (vs_set (i := 2) scLawStands.nd rfl (by first | exact Or.inl rfl | exact Or.inr rfl) (ve_bin op_sub s_sub (ve_var (pv 2)) (ve_var (pv 3))))
    (vss_one (vs_if (vt_cmp (op_eqD (hu64 hr)) (s_ofB sb_eq) (ve_var (pv 2)) ve_int (nomark _)) (vss_one (vs_set (i := 2) scLawStands.nd rfl (by first | exact Or.inl rfl | exact Or.inr rfl) (ve_var (pv 0)))) vss_nil))))
    (vss_one (vs_ret (ve_var (pv 2))))))
theorem calLawStands {f : Addr} {fd : FuncData} (F : Fun K "_law_stands" "_law_stands" sLawStands f fd) (m : mg "_law_stands" = some (.ref f)) (G : Gb mg) (T : Tx K mg)  : Cal P w K mg base "_law_stands" 1 2 fnLawStands :=
  ⟨f, fd, ["pins", "frame"], m, F.kp, F.binds (ps := ["pins", "frame"]) (fun _ _ _ _ _ _ us hl => match us, hl with | [_, _], _ => rfl), rfl, okLawStands F G T ⟩
/-! ### _law_split -/
abbrev sLawSplit : Stmt := top 18
theorem scLawSplit : FnScope ["rules", "rolls", "found", "roll"] ["rules", "rolls"] (defScope sLawSplit) := ⟨rfl, rfl, rfl, by decide +kernel, rfl, by decide +kernel, by decide +kernel⟩
theorem okLawSplit {f : Addr} {fd : FuncData} (F : Fun K "_law_split" "_law_split" sLawSplit f fd) (G : Gb mg) (T : Tx K mg) (C_LawStands : Cal P w K mg base "_law_stands" 1 2 fnLawStands) (C_LawNeeded : Cal P w K mg base "_law_needed" 1 3 fnLawNeeded) : FnOk P w K mg base CX0 2 f fd ["rules", "rolls"] (spV K 2 fnLawSplit) :=
  fn_ok (k := 1) F scLawSplit gLawSplit fun cdv A outer s H E hr =>
    (vss_cons (vs_set (i := 2) scLawSplit.nd rfl (by first | exact Or.inl rfl | exact Or.inr rfl) (ve_lst (va_cons (ve_tup va_nil) va_nil)))
    (vss_cons (vs_for PassesOwn.never rfl (vi_seq (ve_var (pv 1))) (vg_name (i := 3) scLawSplit.nd rfl (by first | exact Or.inl rfl | exact Or.inr rfl)) (vss_cons (vs_if (vt_cmp op_gt (s_ofB sb_int) (ve_callB c_len s_len (by rfl) G.len PySem.boot_len (va_cons (ve_var (pv 2)) va_nil)) (ve_sub (hu1 hr) (ve_var (pv 0)) ve_int fun _ _ => rfl) (nomark _)) (vss_one (vs_ret ve_non)) vss_nil)
    (vss_cons (vs_if (vt_not (vt_chain op_le op_le sb_int sb_int ve_int (ve_var (pv 3)) (ve_call C_LawStands (hr.mono (by decide)) (va_cons (ve_sub (hu1 hr) (ve_var (pv 0)) ve_int fun _ _ => rfl) (va_cons (ve_sub (hu1 hr) (ve_var (pv 2)) (ve_un un_neg s_neg ve_int) fun _ _ => rfl) va_nil)) rfl (by rfl)))) (vss_one (vs_ret ve_non)) vss_nil)
    (vss_cons (vs_sub (hu1 hr) (pv 2) (ve_un un_neg s_neg ve_int) (ve_bin op_addA s_add (ve_sub (hu1 hr) (ve_var (pv 2)) (ve_un un_neg s_neg ve_int) fun _ _ => rfl) (ve_tup (va_cons (ve_var (pv 3)) va_nil))))
    (vss_one (vs_if (vt_cmp op_gt (s_ofB sb_int) (ve_call C_LawNeeded (hr.mono (by decide)) (va_cons (ve_sub (hu1 hr) (ve_var (pv 0)) ve_int fun _ _ => rfl) (va_cons (ve_cmp (op_eqD (hu64 hr)) (s_ofB sb_eq) (ve_callB c_len s_len (by rfl) G.len PySem.boot_len (va_cons (ve_var (pv 2)) va_nil)) (ve_sub (hu1 hr) (ve_var (pv 0)) ve_int fun _ _ => rfl) (nomark _)) (va_cons (ve_sub (hu1 hr) (ve_var (pv 2)) (ve_un un_neg s_neg ve_int) fun _ _ => rfl) va_nil))) rfl (by rfl)) ve_int (nomark _)) (vss_one (vs_expr (ve_mutL PySem.F.slot_list_append PySem.F.type_list_append mt_append s_app (pv 2) (va_cons (ve_tup va_nil) va_nil)))) vss_nil))))))
    (vss_one (vs_ret (ve_var (pv 2))))))
theorem calLawSplit {f : Addr} {fd : FuncData} (F : Fun K "_law_split" "_law_split" sLawSplit f fd) (m : mg "_law_split" = some (.ref f)) (G : Gb mg) (T : Tx K mg) (C_LawStands : Cal P w K mg base "_law_stands" 1 2 fnLawStands) (C_LawNeeded : Cal P w K mg base "_law_needed" 1 3 fnLawNeeded) : Cal P w K mg base "_law_split" 2 2 fnLawSplit :=
  ⟨f, fd, ["rules", "rolls"], m, F.kp, F.binds (ps := ["rules", "rolls"]) (fun _ _ _ _ _ _ us hl => match us, hl with | [_, _], _ => rfl), rfl, okLawSplit F G T C_LawStands C_LawNeeded⟩
/-! ### _law_over -/
abbrev sLawOver : Stmt := top 19
theorem scLawOver : FnScope ["rules", "rolls"] ["rules", "rolls"] (defScope sLawOver) := ⟨rfl, rfl, rfl, by decide +kernel, rfl, by decide +kernel, by decide +kernel⟩
theorem okLawOver {f : Addr} {fd : FuncData} (F : Fun K "_law_over" "_law_over" sLawOver f fd) (G : Gb mg) (T : Tx K mg) (C_LawSplit : Cal P w K mg base "_law_split" 2 2 fnLawSplit) : FnOk P w K mg base CX0 3 f fd ["rules", "rolls"] (spV K 2 fnLawOver) :=
  fn_ok (k := 2) F scLawOver gLawOver fun cdv A outer s H E hr =>
    (vss_one (vs_ret (ve_cmp op_gt (s_ofB sb_int) (ve_callB c_len s_len (by rfl) G.len PySem.boot_len (va_cons (ve_call C_LawSplit (hr.mono (by decide)) (va_cons (ve_var (pv 0)) (va_cons (ve_var (pv 1)) va_nil)) rfl (by rfl)) va_nil)) (ve_sub (hu1 hr) (ve_var (pv 0)) ve_int fun _ _ => rfl) (nomark _))))
theorem calLawOver {f : Addr} {fd : FuncData} (F : Fun K "_law_over" "_law_over" sLawOver f fd) (m : mg "_law_over" = some (.ref f)) (G : Gb mg) (T : Tx K mg) (C_LawSplit : Cal P w K mg base "_law_split" 2 2 fnLawSplit) : Cal P w K mg base "_law_over" 3 2 fnLawOver :=
  ⟨f, fd, ["rules", "rolls"], m, F.kp, F.binds (ps := ["rules", "rolls"]) (fun _ _ _ _ _ _ us hl => match us, hl with | [_, _], _ => rfl), rfl, okLawOver F G T C_LawSplit⟩
/-! ### _law_parts -/
abbrev sLawParts : Stmt := top 20
theorem scLawParts : FnScope ["rules", "rolls", "found", "begun", "frames", "number", "frame", "size", "closed"] ["rules", "rolls"] (defScope sLawParts) := ⟨rfl, rfl, rfl, by decide +kernel, rfl, by decide +kernel, by decide +kernel⟩
theorem okLawParts {f : Addr} {fd : FuncData} (F : Fun K "_law_parts" "_law_parts" sLawParts f fd) (G : Gb mg) (T : Tx K mg) (C_LawSplit : Cal P w K mg base "_law_split" 2 2 fnLawSplit) (C_LawNeeded : Cal P w K mg base "_law_needed" 1 3 fnLawNeeded) : FnOk P w K mg base CX0 3 f fd ["rules", "rolls"] (spV K 2 fnLawParts) :=
  fn_ok (k := 2) F scLawParts gLawParts fun cdv A outer s H E hr =>
    (vss_cons (vs_par3 (i := 2) (j := 3) (l := 4) rfl scLawParts.nd rfl rfl rfl (by decide) (by decide) (by decide) rfl rfl rfl (va_cons (ve_lst va_nil) (va_cons ve_int (va_cons (ve_call C_LawSplit (hr.mono (by decide)) (va_cons (ve_var (pv 0)) (va_cons (ve_var (pv 1)) va_nil)) rfl (by rfl)) va_nil))) (by rfl))
    (vss_cons (vs_for PassesOwn.never rfl (vi_enum (by rfl) G.enumerate (ve_slice (ve_var (pv 4)) vo_none (vo_some (ve_sub (hu1 hr) (ve_var (pv 0)) ve_int fun _ _ => rfl)))) (vg_tup rfl (vgs_cons (vg_name (i := 5) scLawParts.nd rfl (by first | exact Or.inl rfl | exact Or.inr rfl)) (vgs_cons (vg_name (i := 6) scLawParts.nd rfl (by first | exact Or.inl rfl | exact Or.inr rfl)) vgs_nil))) (vss_cons (vs_set (i := 7) scLawParts.nd rfl (by first | exact Or.inl rfl | exact Or.inr rfl) (ve_callB c_len s_len (by rfl) G.len PySem.boot_len (va_cons (ve_var (pv 6)) va_nil)))
    (vss_cons (vs_set (i := 8) scLawParts.nd rfl (by first | exact Or.inl rfl | exact Or.inr rfl) (ve_cmp op_gt (s_ofB sb_int) (ve_call C_LawNeeded (hr.mono (by decide)) (va_cons (ve_sub (hu1 hr) (ve_var (pv 0)) ve_int fun _ _ => rfl) (va_cons (ve_cmp (op_eqD (hu64 hr)) (s_ofB sb_eq) (ve_var (pv 5)) (ve_bin op_sub s_sub (ve_sub (hu1 hr) (ve_var (pv 0)) ve_int fun _ _ => rfl) ve_int) (nomark _)) (va_cons (ve_var (pv 6)) va_nil))) rfl (by rfl)) ve_int (nomark _)))
    (vss_cons (vs_if (PW.pt (vw_and (vt_cmp op_lt (s_ofB sb_int) (ve_var (pv 5)) (ve_bin op_sub s_sub (ve_sub (hu1 hr) (ve_var (pv 0)) ve_int fun _ _ => rfl) ve_int) (nomark _)) (vw_and1 (vt_cmp (op_eqD (hu64 hr)) (s_ofB sb_eq) (ve_callB (c_sum rfl) s_sumA (by rfl) G.sum (by decide +kernel) (va_cons (ve_var (pv 6)) va_nil)) (ve_sub (hu1 hr) (ve_var (pv 0)) ve_int fun _ _ => rfl) (nomark _))))) (vss_one (vs_set (i := 7) scLawParts.nd rfl (by first | exact Or.inl rfl | exact Or.inr rfl) ve_int)) vss_nil)
    (vss_cons (vs_if (vt_cmp (op_neD (hu64 hr)) (s_ofB sb_ne) (ve_var (pv 6)) (ve_tup va_nil) (nomark _)) (vss_one (vs_expr (ve_mutL PySem.F.slot_list_append PySem.F.type_list_append mt_append s_app (pv 2) (va_cons (ve_tup (va_cons (ve_slice (ve_var (pv 1)) (vo_some (ve_var (pv 3))) (vo_some (ve_bin op_addA s_add (ve_var (pv 3)) (ve_var (pv 7))))) (va_cons (ve_and (ve_var (pv 8)) (ve_one (ve_cmp op_le (s_ofB sb_int) (ve_bin op_addA s_add (ve_var (pv 3)) (ve_var (pv 7))) (ve_callB c_len s_len (by rfl) G.len PySem.boot_len (va_cons (ve_var (pv 1)) va_nil)) (nomark _)))) va_nil))) va_nil)))) vss_nil)
    (vss_one (vs_set (i := 3) scLawParts.nd rfl (by first | exact Or.inl rfl | exact Or.inr rfl) (ve_bin op_addA s_add (ve_var (pv 3)) (ve_callB c_len s_len (by rfl) G.len PySem.boot_len (va_cons (ve_var (pv 6)) va_nil))))))))))
    (vss_one (vs_ret (ve_var (pv 2))))))
theorem calLawParts {f : Addr} {fd : FuncData} (F : Fun K "_law_parts" "_law_parts" sLawParts f fd) (m : mg "_law_parts" = some (.ref f)) (G : Gb mg) (T : Tx K mg) (C_LawSplit : Cal P w K mg base "_law_split" 2 2 fnLawSplit) (C_LawNeeded : Cal P w K mg base "_law_needed" 1 3 fnLawNeeded) : Cal P w K mg base "_law_parts" 3 2 fnLawParts :=
  ⟨f, fd, ["rules", "rolls"], m, F.kp, F.binds (ps := ["rules", "rolls"]) (fun _ _ _ _ _ _ us hl => match us, hl with | [_, _], _ => rfl), rfl, okLawParts F G T C_LawSplit C_LawNeeded⟩
/-! ### _law_points -/
abbrev sLawPoints : Stmt := top 21
theorem scLawPoints : FnScope ["rules", "rolls", "part", "settled"] ["rules", "rolls"] (defScope sLawPoints) := ⟨rfl, rfl, rfl, by decide +kernel, rfl, by decide +kernel, by decide +kernel⟩
theorem okLawPoints {f : Addr} {fd : FuncData} (F : Fun K "_law_points" "_law_points" sLawPoints f fd) (G : Gb mg) (T : Tx K mg) (C_LawParts : Cal P w K mg base "_law_parts" 3 2 fnLawParts) : FnOk P w K mg base CX0 4 f fd ["rules", "rolls"] (spV K 2 fnLawPoints) :=
  fn_ok (k := 3) F scLawPoints gLawPoints fun cdv A outer s H E hr =>
    (vss_one (vs_ret (ve_callB (c_sum rfl) s_sumA (by rfl) G.sum (by decide +kernel) (va_cons (ve_lc (own := [("part", 2), ("settled", 3)]) rfl scLawPoints.nd (vi_seq (ve_call C_LawParts (hr.mono (by decide)) (va_cons (ve_var (pv 0)) (va_cons (ve_var (pv 1)) va_nil)) rfl (by rfl))) (blkOk_by (own := [("part", 2), ("settled", 3)]) (N := ["rules", "rolls", "part", "settled"]) (sc := defScope sLawPoints) (by decide +kernel)) (fun _ _ _ _ _ => (vg_tup rfl (vgs_cons (vg_name (i := 2) scLawPoints.nd rfl (by first | exact Or.inl rfl | exact Or.inr rfl)) (vgs_cons (vg_name (i := 3) scLawPoints.nd rfl (by first | exact Or.inl rfl | exact Or.inr rfl)) vgs_nil)))) (fun _ _ _ _ _ => vts_nil) (fun _ _ _ _ _ => (ve_callB (c_sum rfl) s_sumA (by rfl) G.sum (by decide +kernel) (va_cons (ve_var (pv 2)) va_nil))) (by intro j hj; simp at hj; simp [tgHas, tgsHas]; omega)) va_nil))))
theorem calLawPoints {f : Addr} {fd : FuncData} (F : Fun K "_law_points" "_law_points" sLawPoints f fd) (m : mg "_law_points" = some (.ref f)) (G : Gb mg) (T : Tx K mg) (C_LawParts : Cal P w K mg base "_law_parts" 3 2 fnLawParts) : Cal P w K mg base "_law_points" 4 2 fnLawPoints :=
  ⟨f, fd, ["rules", "rolls"], m, F.kp, F.binds (ps := ["rules", "rolls"]) (fun _ _ _ _ _ _ us hl => match us, hl with | [_, _], _ => rfl), rfl, okLawPoints F G T C_LawParts⟩
/-! ### _law_further -/
abbrev sLawFurther : Stmt := top 22
theorem scLawFurther : FnScope ["tape", "rules", "rolls", "most", "way", "turn", "frames", "stand", "roll"] ["tape", "rules", "rolls", "most"] (defScope sLawFurther) := ⟨rfl, rfl, rfl, by decide +kernel, rfl, by decide +kernel, by decide +kernel⟩
theorem okLawFurther {f : Addr} {fd : FuncData} (F : Fun K "_law_further" "_law_further" sLawFurther f fd) (G : Gb mg) (T : Tx K mg) (C_LawDraw : Cal P w K mg base "_law_draw" 1 2 fnLawDraw) (C_LawSplit : Cal P w K mg base "_law_split" 2 2 fnLawSplit) (C_LawStands : Cal P w K mg base "_law_stands" 1 2 fnLawStands) : FnOk P w K mg base CX0 3 f fd ["tape", "rules", "rolls", "most"] (spV K 4 fnLawFurther) :=
  fn_ok (k := 2) F scLawFurther gLawFurther fun cdv A outer s H E hr =>
    (vss_cons (vs_set (i := 4) scLawFurther.nd rfl (by first | exact Or.inl rfl | exact Or.inr rfl) (ve_call C_LawDraw (hr.mono (by decide)) (va_cons (ve_var (pv 0)) (va_cons ve_int va_nil)) rfl (by rfl)))
    (vss_cons (vs_for PassesOwn.never rfl (vi_rg1 (by rfl) G.range (ve_var (pv 3))) (vg_name (i := 5) scLawFurther.nd rfl (by first | exact Or.inl rfl | exact Or.inr rfl)) (vss_cons (vs_set (i := 6) scLawFurther.nd rfl (by first | exact Or.inl rfl | exact Or.inr rfl) (ve_call C_LawSplit (hr.mono (by decide)) (va_cons (ve_var (pv 1)) (va_cons (ve_var (pv 2)) va_nil)) rfl (by rfl)))
    (vss_cons (vs_if (vt_cmp op_gt (s_ofB sb_int) (ve_callB c_len s_len (by rfl) G.len PySem.boot_len (va_cons (ve_var (pv 6)) va_nil)) (ve_sub (hu1 hr) (ve_var (pv 1)) ve_int fun _ _ => rfl) (nomark _)) (vss_one (vs_ret (ve_var (pv 2)))) vss_nil)
    (vss_cons (vs_set (i := 7) scLawFurther.nd rfl (by first | exact Or.inl rfl | exact Or.inr rfl) (ve_call C_LawStands (hr.mono (by decide)) (va_cons (ve_sub (hu1 hr) (ve_var (pv 1)) ve_int fun _ _ => rfl) (va_cons (ve_sub (hu1 hr) (ve_var (pv 6)) (ve_un un_neg s_neg ve_int) fun _ _ => rfl) va_nil)) rfl (by rfl)))
    (vss_cons (vs_set (i := 8) scLawFurther.nd rfl (by first | exact Or.inl rfl | exact Or.inr rfl) (ve_call C_LawDraw (hr.mono (by decide)) (va_cons (ve_var (pv 0)) (va_cons (ve_bin op_addA s_add (ve_var (pv 7)) ve_int) va_nil)) rfl (by rfl)))
    (vss_cons (vs_if (PW.pt (vw_or (vt_cmp (op_eqD (hu64 hr)) (s_ofB sb_eq) (ve_var (pv 4)) ve_int (nomark _)) (vw_or1 (PW.pt (vw_and (vt_cmp (op_eqD (hu64 hr)) (s_ofB sb_eq) (ve_var (pv 4)) ve_int (nomark _)) (vw_and1 (vt_cmp (op_eqD (hu64 hr)) (s_ofB sb_eq) (ve_call C_LawDraw (hr.mono (by decide)) (va_cons (ve_var (pv 0)) (va_cons ve_int va_nil)) rfl (by rfl)) ve_int (nomark _)))))))) (vss_one (vs_set (i := 8) scLawFurther.nd rfl (by first | exact Or.inl rfl | exact Or.inr rfl) (ve_var (pv 7)))) vss_nil)
    (vss_cons (vs_if (PW.pt (vw_and (vt_cmp (op_eqD (hu64 hr)) (s_ofB sb_eq) (ve_var (pv 4)) ve_int (nomark _)) (vw_and1 (vt_cmp op_gt (s_ofB sb_int) (ve_call C_LawDraw (hr.mono (by decide)) (va_cons (ve_var (pv 0)) (va_cons ve_int va_nil)) rfl (by rfl)) ve_int (nomark _))))) (vss_one (vs_set (i := 8) scLawFurther.nd rfl (by first | exact Or.inl rfl | exact Or.inr rfl) (ve_callB (c_min rfl) s_min (by rfl) G.min (by decide +kernel) (va_cons (ve_var (pv 8)) (va_cons ve_int va_nil))))) vss_nil)
    (vss_one (vs_set (i := 2) scLawFurther.nd rfl (by first | exact Or.inl rfl | exact Or.inr rfl) (ve_bin op_addA s_add (ve_var (pv 2)) (ve_tup (va_cons (ve_var (pv 8)) va_nil))))))))))))
    (vss_one (vs_ret (ve_var (pv 2))))))
theorem calLawFurther {f : Addr} {fd : FuncData} (F : Fun K "_law_further" "_law_further" sLawFurther f fd) (m : mg "_law_further" = some (.ref f)) (G : Gb mg) (T : Tx K mg) (C_LawDraw : Cal P w K mg base "_law_draw" 1 2 fnLawDraw) (C_LawSplit : Cal P w K mg base "_law_split" 2 2 fnLawSplit) (C_LawStands : Cal P w K mg base "_law_stands" 1 2 fnLawStands) : Cal P w K mg base "_law_further" 3 4 fnLawFurther :=
  ⟨f, fd, ["tape", "rules", "rolls", "most"], m, F.kp, F.binds (ps := ["tape", "rules", "rolls", "most"]) (fun _ _ _ _ _ _ us hl => match us, hl with | [_, _, _, _], _ => rfl), rfl, okLawFurther F G T C_LawDraw C_LawSplit C_LawStands⟩
/-! ### _law_game -/
abbrev sLawGame : Stmt := top 23
theorem scLawGame : FnScope ["tape", "rules"] ["tape", "rules"] (defScope sLawGame) := ⟨rfl, rfl, rfl, by decide +kernel, rfl, by decide +kernel, by decide +kernel⟩
theorem okLawGame {f : Addr} {fd : FuncData} (F : Fun K "_law_game" "_law_game" sLawGame f fd) (G : Gb mg) (T : Tx K mg) (C_LawFurther : Cal P w K mg base "_law_further" 3 4 fnLawFurther) : FnOk P w K mg base CX0 4 f fd ["tape", "rules"] (spV K 2 fnLawGame) :=
  fn_ok (k := 3) F scLawGame gLawGame fun cdv A outer s H E hr =>
    (vss_one (vs_ret (ve_call C_LawFurther (hr.mono (by decide)) (va_cons (ve_var (pv 0)) (va_cons (ve_var (pv 1)) (va_cons (ve_tup va_nil) (va_cons ve_int va_nil)))) rfl (by rfl))))
theorem calLawGame {f : Addr} {fd : FuncData} (F : Fun K "_law_game" "_law_game" sLawGame f fd) (m : mg "_law_game" = some (.ref f)) (G : Gb mg) (T : Tx K mg) (C_LawFurther : Cal P w K mg base "_law_further" 3 4 fnLawFurther) : Cal P w K mg base "_law_game" 4 2 fnLawGame :=
  ⟨f, fd, ["tape", "rules"], m, F.kp, F.binds (ps := ["tape", "rules"]) (fun _ _ _ _ _ _ us hl => match us, hl with | [_, _], _ => rfl), rfl, okLawGame F G T C_LawFurther⟩
/-! ### _law_start -/
abbrev sLawStart : Stmt := top 24
theorem scLawStart : FnScope ["tape", "rules", "whole", "short"] ["tape", "rules"] (defScope sLawStart) := ⟨rfl, rfl, rfl, by decide +kernel, rfl, by decide +kernel, by decide +kernel⟩
theorem okLawStart {f : Addr} {fd : FuncData} (F : Fun K "_law_start" "_law_start" sLawStart f fd) (G : Gb mg) (T : Tx K mg) (C_LawGame : Cal P w K mg base "_law_game" 4 2 fnLawGame) (C_LawDraw : Cal P w K mg base "_law_draw" 1 2 fnLawDraw) : FnOk P w K mg base CX0 5 f fd ["tape", "rules"] (spV K 2 fnLawStart) :=
  fn_ok (k := 4) F scLawStart gLawStart fun cdv A outer s H E hr =>
    (vss_cons (vs_set (i := 2) scLawStart.nd rfl (by first | exact Or.inl rfl | exact Or.inr rfl) (ve_call C_LawGame (hr.mono (by decide)) (va_cons (ve_var (pv 0)) (va_cons (ve_var (pv 1)) va_nil)) rfl (by rfl)))
    (vss_cons (vs_set (i := 3) scLawStart.nd rfl (by first | exact Or.inl rfl | exact Or.inr rfl) (ve_sub (hu1 hr) (ve_lst (va_cons (ve_call C_LawDraw (hr.mono (by decide)) (va_cons (ve_var (pv 0)) (va_cons ve_int va_nil)) rfl (by rfl)) (va_cons (ve_call C_LawDraw (hr.mono (by decide)) (va_cons (ve_var (pv 0)) (va_cons (ve_bin op_addA s_add (ve_callB c_len s_len (by rfl) G.len PySem.boot_len (va_cons (ve_var (pv 2)) va_nil)) ve_int) va_nil)) rfl (by rfl)) va_nil))) (ve_call C_LawDraw (hr.mono (by decide)) (va_cons (ve_var (pv 0)) (va_cons ve_int va_nil)) rfl (by rfl)) fun _ _ => rfl))
    (vss_one (vs_ret (ve_slice (ve_var (pv 2)) vo_none (vo_some (ve_callB (c_max rfl) s_max (by rfl) G.max (by decide +kernel) (va_cons ve_int (va_cons (ve_bin op_sub s_sub (ve_callB c_len s_len (by rfl) G.len PySem.boot_len (va_cons (ve_var (pv 2)) va_nil)) (ve_var (pv 3))) va_nil)))))))))
theorem calLawStart {f : Addr} {fd : FuncData} (F : Fun K "_law_start" "_law_start" sLawStart f fd) (m : mg "_law_start" = some (.ref f)) (G : Gb mg) (T : Tx K mg) (C_LawGame : Cal P w K mg base "_law_game" 4 2 fnLawGame) (C_LawDraw : Cal P w K mg base "_law_draw" 1 2 fnLawDraw) : Cal P w K mg base "_law_start" 5 2 fnLawStart :=
  ⟨f, fd, ["tape", "rules"], m, F.kp, F.binds (ps := ["tape", "rules"]) (fun _ _ _ _ _ _ us hl => match us, hl with | [_, _], _ => rfl), rfl, okLawStart F G T C_LawGame C_LawDraw⟩
/-! ### _law_all -/
abbrev sLawAll : Stmt := top 25
theorem scLawAll : FnScope ["rules", "rolls", "found", "open_so", "longer", "more", "frames", "stand", "roll"] ["rules", "rolls"] (defScope sLawAll) := ⟨rfl, rfl, rfl, by decide +kernel, rfl, by decide +kernel, by decide +kernel⟩
theorem okLawAll {f : Addr} {fd : FuncData} (F : Fun K "_law_all" "_law_all" sLawAll f fd) (G : Gb mg) (T : Tx K mg) (C_LawSplit : Cal P w K mg base "_law_split" 2 2 fnLawSplit) (C_LawStands : Cal P w K mg base "_law_stands" 1 2 fnLawStands) : FnOk P w K mg base CX0 3 f fd ["rules", "rolls"] (spV K 2 fnLawAll) :=
  fn_ok (k := 2) F scLawAll gLawAll fun cdv A outer s H E hr =>
    (vss_cons (vs_par (i := 2) (j := 3) rfl scLawAll.nd rfl rfl (by decide) rfl rfl (va_cons (ve_lst va_nil) (va_cons (ve_lst (va_cons (ve_tup va_nil) va_nil)) va_nil)) (by rfl))
    (vss_cons (vs_while (n := 1000) PassesOwn.never (vt_cmp (op_neD (hu64 hr)) (s_ofB sb_ne) (ve_var (pv 3)) (ve_lst va_nil) (nomark _)) (vss_cons (vs_set (i := 4) scLawAll.nd rfl (by first | exact Or.inl rfl | exact Or.inr rfl) (ve_lst va_nil))
    (vss_cons (vs_for PassesOwn.never rfl (vi_seq (ve_var (pv 3))) (vg_name (i := 5) scLawAll.nd rfl (by first | exact Or.inl rfl | exact Or.inr rfl)) (vss_cons (vs_set (i := 6) scLawAll.nd rfl (by first | exact Or.inl rfl | exact Or.inr rfl) (ve_call C_LawSplit (hr.mono (by decide)) (va_cons (ve_var (pv 0)) (va_cons (ve_bin op_addA s_add (ve_var (pv 1)) (ve_var (pv 5))) va_nil)) rfl (by rfl)))
    (vss_one (vs_if (vt_cmp op_gt (s_ofB sb_int) (ve_callB c_len s_len (by rfl) G.len PySem.boot_len (va_cons (ve_var (pv 6)) va_nil)) (ve_sub (hu1 hr) (ve_var (pv 0)) ve_int fun _ _ => rfl) (nomark _)) (vss_one (vs_expr (ve_mutL PySem.F.slot_list_append PySem.F.type_list_append mt_append s_app (pv 2) (va_cons (ve_var (pv 5)) va_nil)))) (vss_cons (vs_set (i := 7) scLawAll.nd rfl (by first | exact Or.inl rfl | exact Or.inr rfl) (ve_call C_LawStands (hr.mono (by decide)) (va_cons (ve_sub (hu1 hr) (ve_var (pv 0)) ve_int fun _ _ => rfl) (va_cons (ve_sub (hu1 hr) (ve_var (pv 6)) (ve_un un_neg s_neg ve_int) fun _ _ => rfl) va_nil)) rfl (by rfl)))
    (vss_one (vs_set (i := 4) scLawAll.nd rfl (by first | exact Or.inl rfl | exact Or.inr rfl) (ve_bin op_addA s_add (ve_var (pv 4)) (ve_lc (own := [("roll", 8)]) rfl scLawAll.nd (vi_rg1 (by rfl) G.range (ve_bin op_addA s_add (ve_var (pv 7)) ve_int)) (blkOk_by (own := [("roll", 8)]) (N := ["rules", "rolls", "found", "open_so", "longer", "more", "frames", "stand", "roll"]) (sc := defScope sLawAll) (by decide +kernel)) (fun _ _ _ _ _ => (vg_name (i := 8) scLawAll.nd rfl (by first | exact Or.inl rfl | exact Or.inr rfl))) (fun _ _ _ _ _ => vts_nil) (fun _ _ _ _ _ => (ve_bin op_addA s_add (ve_var (pv 5)) (ve_tup (va_cons (ve_var (pv 8)) va_nil)))) (by intro j hj; simp at hj; simp [tgHas, tgsHas]; omega))))))))))
    (vss_one (vs_set (i := 3) scLawAll.nd rfl (by first | exact Or.inl rfl | exact Or.inr rfl) (ve_var (pv 4)))))))
    (vss_one (vs_ret (ve_callB c_sort s_sortA (by rfl) G.sorted (by decide +kernel) (va_cons (ve_var (pv 2)) va_nil))))))
theorem calLawAll {f : Addr} {fd : FuncData} (F : Fun K "_law_all" "_law_all" sLawAll f fd) (m : mg "_law_all" = some (.ref f)) (G : Gb mg) (T : Tx K mg) (C_LawSplit : Cal P w K mg base "_law_split" 2 2 fnLawSplit) (C_LawStands : Cal P w K mg base "_law_stands" 1 2 fnLawStands) : Cal P w K mg base "_law_all" 3 2 fnLawAll :=
  ⟨f, fd, ["rules", "rolls"], m, F.kp, F.binds (ps := ["rules", "rolls"]) (fun _ _ _ _ _ _ us hl => match us, hl with | [_, _], _ => rfl), rfl, okLawAll F G T C_LawSplit C_LawStands⟩
/-! ### law -/
abbrev sLaw : Stmt := top 26
theorem scLaw : FnScope ["script", "tape", "rules", "game", "rolls", "totals", "total", "frames", "pins", "last", "frame", "small", "sums", "begun", "stand", "parts", "more", "roll"] ["script"] (defScope sLaw) := ⟨rfl, rfl, rfl, by decide +kernel, rfl, by decide +kernel, by decide +kernel⟩
theorem okLaw {f : Addr} {fd : FuncData} (F : Fun K "law" "law" sLaw f fd) (G : Gb mg) (T : Tx K mg) (C_LawDraw : Cal P w K mg base "_law_draw" 1 2 fnLawDraw) (C_LawGame : Cal P w K mg base "_law_game" 4 2 fnLawGame) (C_LawAll : Cal P w K mg base "_law_all" 3 2 fnLawAll) (C_LawPoints : Cal P w K mg base "_law_points" 4 2 fnLawPoints) (C_LawLike : Cal P w K mg base "_law_like" 4 2 (fnLawLike 4)) (C_CountGames : Cal P w K mg base "count_games" 32 2 fnCountGames) (C_CountTotal : Cal P w K mg base "count_total" 32 3 fnCountTotal) (C_LawStart : Cal P w K mg base "_law_start" 5 2 fnLawStart) (C_LawOver : Cal P w K mg base "_law_over" 3 2 fnLawOver) (C_Standing : Cal P w K mg base "standing" 3 2 fnStanding) : FnOk P w K mg base CX0 33 f fd ["script"] (spV K 1 fnLaw) :=
  fn_ok (k := 32) F scLaw gLaw fun cdv A outer s H E hr =>
    (vss_cons (vs_set (i := 1) scLaw.nd rfl (by first | exact Or.inl rfl | exact Or.inr rfl) (ve_lst (va_cons (ve_callTy call_list_of s_list (by rfl) G.list (by decide +kernel) (va_cons (ve_var (pv 0)) va_nil)) (va_cons ve_int (va_cons ve_int va_nil)))))
    (vss_cons (vs_set (i := 2) scLaw.nd rfl (by first | exact Or.inl rfl | exact Or.inr rfl) (ve_tup (va_cons (ve_bin op_addA s_add ve_int (ve_call C_LawDraw (hr.mono (by decide)) (va_cons (ve_var (pv 1)) (va_cons ve_int va_nil)) rfl (by rfl))) (va_cons (ve_bin op_addA s_add ve_int (ve_call C_LawDraw (hr.mono (by decide)) (va_cons (ve_var (pv 1)) (va_cons ve_int va_nil)) rfl (by rfl))) va_nil))))
    (vss_cons (vs_set (i := 3) scLaw.nd rfl (by first | exact Or.inl rfl | exact Or.inr rfl) (ve_call C_LawGame (hr.mono (by decide)) (va_cons (ve_var (pv 1)) (va_cons (ve_var (pv 2)) va_nil)) rfl (by rfl)))
    (vss_cons (vs_set (i := 4) scLaw.nd rfl (by first | exact Or.inl rfl | exact Or.inr rfl) (ve_slice (ve_var (pv 3)) vo_none (vo_some (ve_call C_LawDraw (hr.mono (by decide)) (va_cons (ve_var (pv 1)) (va_cons (ve_bin op_addA s_add (ve_callB c_len s_len (by rfl) G.len PySem.boot_len (va_cons (ve_var (pv 3)) va_nil)) ve_int) va_nil)) rfl (by rfl)))))
    (vss_cons (vs_setLc (i := 5) (own := [("more", 16)]) rfl scLaw.nd rfl rfl (sw_true rfl rfl rfl (by decide +kernel)) (vi_seq (ve_call C_LawAll (hr.mono (by decide)) (va_cons (ve_var (pv 2)) (va_cons (ve_var (pv 4)) va_nil)) rfl (by rfl))) (blkOk_by (own := [("more", 16)]) (N := ["script", "tape", "rules", "game", "rolls", "totals", "total", "frames", "pins", "last", "frame", "small", "sums", "begun", "stand", "parts", "more", "roll"]) (sc := defScope sLaw) (by decide +kernel)) (fun _ _ _ _ _ => (vg_name (i := 16) scLaw.nd rfl (by first | exact Or.inl rfl | exact Or.inr rfl))) (fun _ _ _ _ _ => vts_nil) (fun _ _ _ _ _ => (ve_call C_LawPoints (hr.mono (by decide)) (va_cons (ve_var (pv 2)) (va_cons (ve_bin op_addA s_add (ve_var (pv 4)) (ve_var (pv 16))) va_nil)) rfl (by rfl))) (by intro j hj; simp at hj; simp [tgHas, tgsHas]; omega))
    (vss_cons (vs_if (vt_not (vt_val (ve_call C_LawLike (hr.mono (by decide)) (va_cons (ve_call C_CountGames (hr.mono (by decide)) (va_cons (ve_var (pv 2)) (va_cons (ve_var (pv 4)) va_nil)) rfl (by rfl)) (va_cons (ve_callB c_len s_len (by rfl) G.len PySem.boot_len (va_cons (ve_var (pv 5)) va_nil)) va_nil)) rfl (by rfl)))) (vss_one (vs_ret ve_bl)) vss_nil)
    (vss_cons (vs_for PassesOwn.never rfl (vi_seq (ve_bin op_addA s_add (ve_slice (ve_sortSet (by rfl) G.sorted (by rfl) G.set (ve_var (pv 5))) vo_none (vo_some ve_int)) (ve_lst (va_cons (ve_bin op_addA s_add (ve_callB (c_max rfl) s_max (by rfl) G.max (by decide +kernel) (va_cons (ve_var (pv 5)) va_nil)) ve_int) (va_cons ve_int (va_cons ve_int va_nil)))))) (vg_name (i := 6) scLaw.nd rfl (by first | exact Or.inl rfl | exact Or.inr rfl)) (vss_one (vs_if (vt_not (vt_val (ve_call C_LawLike (hr.mono (by decide)) (va_cons (ve_call C_CountTotal (hr.mono (by decide)) (va_cons (ve_var (pv 2)) (va_cons (ve_var (pv 4)) (va_cons (ve_var (pv 6)) va_nil))) rfl (by rfl)) (va_cons (ve_count (pv 5) (ve_var (pv 6))) va_nil)) rfl (by rfl)))) (vss_one (vs_ret ve_bl)) vss_nil)))
    (vss_cons (vs_par (i := 7) (j := 8) rfl scLaw.nd rfl rfl (by decide) rfl rfl (va_cons (ve_bin op_addA s_add ve_int (ve_call C_LawDraw (hr.mono (by decide)) (va_cons (ve_var (pv 1)) (va_cons ve_int va_nil)) rfl (by rfl))) (va_cons (ve_bin op_addA s_add ve_int (ve_call C_LawDraw (hr.mono (by decide)) (va_cons (ve_var (pv 1)) (va_cons ve_int va_nil)) rfl (by rfl))) va_nil)) (by rfl))
    (vss_cons (vs_set (i := 9) scLaw.nd rfl (by first | exact Or.inl rfl | exact Or.inr rfl) (ve_bin op_sub s_sub (ve_bin op_addA s_add (ve_bin op_addA s_add (ve_bin op_addA s_add (ve_bin op_fdivW s_fdiv (ve_bin op_mulA s_mul (ve_var (pv 8)) (ve_bin op_addA s_add (ve_var (pv 8)) ve_int)) ve_int) (ve_bin op_mulA s_mul (ve_var (pv 8)) (ve_bin op_addA s_add (ve_var (pv 8)) ve_int))) (ve_bin op_addA s_add (ve_var (pv 8)) ve_int)) (ve_bin op_fdivW s_fdiv (ve_bin op_mulA s_mul (ve_bin op_addA s_add (ve_var (pv 8)) ve_int) (ve_bin op_addA s_add (ve_var (pv 8)) ve_int)) ve_int)) ve_int))
    (vss_cons (vs_for PassesOwn.never rfl (vi_rg1 (by rfl) G.range (ve_bin op_sub s_sub (ve_var (pv 7)) ve_int)) (vg_name (i := 10) scLaw.nd rfl (by first | exact Or.inl rfl | exact Or.inr rfl)) (vss_one (vs_set (i := 9) scLaw.nd rfl (by first | exact Or.inl rfl | exact Or.inr rfl) (ve_bin op_fdivW s_fdiv (ve_bin op_mulA s_mul (ve_bin op_mulA s_mul (ve_var (pv 9)) (ve_bin op_addA s_add (ve_var (pv 8)) ve_int)) (ve_bin op_addA s_add (ve_var (pv 8)) ve_int)) ve_int))))
    (vss_cons (vs_if (vt_cmp (op_neD (hu64 hr)) (s_ofB sb_ne) (ve_call C_CountGames (hr.mono (by decide)) (va_cons (ve_tup (va_cons (ve_var (pv 7)) (va_cons (ve_var (pv 8)) va_nil))) (va_cons (ve_tup va_nil) va_nil)) rfl (by rfl)) (ve_var (pv 9)) (nomark _)) (vss_one (vs_ret ve_bl)) vss_nil)
    (vss_cons (vs_set (i := 11) scLaw.nd rfl (by first | exact Or.inl rfl | exact Or.inr rfl) (ve_tup (va_cons (ve_bin op_addA s_add ve_int (ve_call C_LawDraw (hr.mono (by decide)) (va_cons (ve_var (pv 1)) (va_cons ve_int va_nil)) rfl (by rfl))) (va_cons (ve_bin op_addA s_add ve_int (ve_call C_LawDraw (hr.mono (by decide)) (va_cons (ve_var (pv 1)) (va_cons ve_int va_nil)) rfl (by rfl))) va_nil))))
    (vss_cons (vs_setLc (i := 12) (own := [("total", 6)]) rfl scLaw.nd rfl rfl (sw_true rfl rfl rfl (by decide +kernel)) (vi_rg1 (by rfl) G.range (ve_bin op_addA s_add (ve_bin op_mulA s_mul (ve_bin op_mulA s_mul ve_int (ve_sub (hu1 hr) (ve_var (pv 11)) ve_int fun _ _ => rfl)) (ve_sub (hu1 hr) (ve_var (pv 11)) ve_int fun _ _ => rfl)) ve_int)) (blkOk_by (own := [("total", 6)]) (N := ["script", "tape", "rules", "game", "rolls", "totals", "total", "frames", "pins", "last", "frame", "small", "sums", "begun", "stand", "parts", "more", "roll"]) (sc := defScope sLaw) (by decide +kernel)) (fun _ _ _ _ _ => (vg_name (i := 6) scLaw.nd rfl (by first | exact Or.inl rfl | exact Or.inr rfl))) (fun _ _ _ _ _ => vts_nil) (fun _ _ _ _ _ => (ve_call C_CountTotal (hr.mono (by decide)) (va_cons (ve_var (pv 11)) (va_cons (ve_tup va_nil) (va_cons (ve_var (pv 6)) va_nil))) rfl (by rfl))) (by intro j hj; simp at hj; simp [tgHas, tgsHas]; omega))
    (vss_cons (vs_if (PW.pt (vw_or (vt_cmp (op_neD (hu64 hr)) (s_ofB sb_ne) (ve_callB (c_sum rfl) s_sumA (by rfl) G.sum (by decide +kernel) (va_cons (ve_var (pv 12)) va_nil)) (ve_call C_CountGames (hr.mono (by decide)) (va_cons (ve_var (pv 11)) (va_cons (ve_tup va_nil) va_nil)) rfl (by rfl)) (nomark _)) (vw_or1 (vt_cmp op_lt (s_ofB sb_int) (ve_callB (c_min rfl) s_min (by rfl) G.min (by decide +kernel) (va_cons (ve_var (pv 12)) va_nil)) ve_int (nomark _))))) (vss_one (vs_ret ve_bl)) vss_nil)
    (vss_cons (vs_set (i := 13) scLaw.nd rfl (by first | exact Or.inl rfl | exact Or.inr rfl) (ve_call C_LawStart (hr.mono (by decide)) (va_cons (ve_var (pv 1)) (va_cons (ve_var (pv 11)) va_nil)) rfl (by rfl)))
    (vss_cons (vs_if (vt_not (vt_val (ve_call C_LawOver (hr.mono (by decide)) (va_cons (ve_var (pv 11)) (va_cons (ve_var (pv 13)) va_nil)) rfl (by rfl)))) (vss_cons (vs_set (i := 14) scLaw.nd rfl (by first | exact Or.inl rfl | exact Or.inr rfl) (ve_call C_Standing (hr.mono (by decide)) (va_cons (ve_var (pv 11)) (va_cons (ve_var (pv 13)) va_nil)) rfl (by rfl)))
    (vss_cons (vs_setLc (i := 15) (own := [("roll", 17)]) rfl scLaw.nd rfl rfl (sw_true rfl rfl rfl (by decide +kernel)) (vi_rg1 (by rfl) G.range (ve_bin op_addA s_add (ve_var (pv 14)) ve_int)) (blkOk_by (own := [("roll", 17)]) (N := ["script", "tape", "rules", "game", "rolls", "totals", "total", "frames", "pins", "last", "frame", "small", "sums", "begun", "stand", "parts", "more", "roll"]) (sc := defScope sLaw) (by decide +kernel)) (fun _ _ _ _ _ => (vg_name (i := 17) scLaw.nd rfl (by first | exact Or.inl rfl | exact Or.inr rfl))) (fun _ _ _ _ _ => vts_nil) (fun _ _ _ _ _ => (ve_call C_CountGames (hr.mono (by decide)) (va_cons (ve_var (pv 11)) (va_cons (ve_bin op_addA s_add (ve_var (pv 13)) (ve_tup (va_cons (ve_var (pv 17)) va_nil))) va_nil)) rfl (by rfl))) (by intro j hj; simp at hj; simp [tgHas, tgsHas]; omega))
    (vss_one (vs_if (vt_cmp (op_neD (hu64 hr)) (s_ofB sb_ne) (ve_callB (c_sum rfl) s_sumA (by rfl) G.sum (by decide +kernel) (va_cons (ve_var (pv 15)) va_nil)) (ve_call C_CountGames (hr.mono (by decide)) (va_cons (ve_var (pv 11)) (va_cons (ve_var (pv 13)) va_nil)) rfl (by rfl)) (nomark _)) (vss_one (vs_ret ve_bl)) vss_nil)))) vss_nil)
    (vss_one (vs_ret (ve_and (ve_cmp (op_eqD (hu64 hr)) (s_ofB sb_eq) (ve_call C_CountGames (hr.mono (by decide)) (va_cons (ve_tup (va_cons ve_int (va_cons ve_int va_nil))) (va_cons (ve_tup va_nil) va_nil)) rfl (by rfl)) (ve_bin op_mulA s_mul (ve_bin op_pow s_pow ve_int ve_int) ve_int) (nomark _)) (ve_one (ve_cmp (op_eqD (hu64 hr)) (s_ofB sb_eq) (ve_call C_CountTotal (hr.mono (by decide)) (va_cons (ve_tup (va_cons ve_int (va_cons ve_int va_nil))) (va_cons (ve_tup va_nil) (va_cons ve_int va_nil))) rfl (by rfl)) ve_int (nomark _))))))))))))))))))))))
theorem calLaw {f : Addr} {fd : FuncData} (F : Fun K "law" "law" sLaw f fd) (m : mg "law" = some (.ref f)) (G : Gb mg) (T : Tx K mg) (C_LawDraw : Cal P w K mg base "_law_draw" 1 2 fnLawDraw) (C_LawGame : Cal P w K mg base "_law_game" 4 2 fnLawGame) (C_LawAll : Cal P w K mg base "_law_all" 3 2 fnLawAll) (C_LawPoints : Cal P w K mg base "_law_points" 4 2 fnLawPoints) (C_LawLike : Cal P w K mg base "_law_like" 4 2 (fnLawLike 4)) (C_CountGames : Cal P w K mg base "count_games" 32 2 fnCountGames) (C_CountTotal : Cal P w K mg base "count_total" 32 3 fnCountTotal) (C_LawStart : Cal P w K mg base "_law_start" 5 2 fnLawStart) (C_LawOver : Cal P w K mg base "_law_over" 3 2 fnLawOver) (C_Standing : Cal P w K mg base "standing" 3 2 fnStanding) : Cal P w K mg base "law" 33 1 fnLaw :=
  ⟨f, fd, ["script"], m, F.kp, F.binds (ps := ["script"]) (fun _ _ _ _ _ _ us hl => match us, hl with | [_], _ => rfl), rfl, okLaw F G T C_LawDraw C_LawGame C_LawAll C_LawPoints C_LawLike C_CountGames C_CountTotal C_LawStart C_LawOver C_Standing⟩
end
end My
namespace My
open PySem L2 FL
theorem begin_ok (f p : Int) : fnBegin [.val (rulesD f p)] = some (.val (stD (beginS f p)), [.val (rulesD f p)]) := by
  simp [fnBegin, gBegin, defF_eq, stD, beginS, Part.s, cap]
theorem next_ok (pins roll : Int) (s : Gs) : fnNextState [.val (.int pins), .val (stD s), .val (.int roll)] = some (.val (stD (nextS pins s roll)), [.val (.int pins), .val (stD s), .val (.int roll)]) := by
  obtain ⟨l, m, t, p, st⟩ := s
  rw [fnNextState, defF_eq]
  simp only [nextS]
  cases p <;> by_cases h1 : roll < st <;> by_cases h2 : l = 1 <;> by_cases h3 : 1 < l <;> simp [gNextState, stD, h1, h2, h3, cap, overD, Gs.OVER] <;> rfl
theorem over_cmp (s : Gs) : bEq (stD s) (.tup overD) = some (decide (s = Gs.OVER)) := by rw [overD_eq]; exact bEq_stD s _
theorem st_at0 (s : Gs) : oIx (stD s) (.int 0) = some (.val (.int s.left)) := by simp [stD]
theorem st_at1 (s : Gs) : oIx (stD s) (.int 1) = some (.val (.int s.more)) := by simp [stD]
theorem st_at4 (s : Gs) : oIx (stD s) (.int 4) = some (.val (.int s.stand)) := by simp [stD]
end My
namespace My
open PySem L2 FL
/-! ## the tape -/
theorem big_of {m : Int} (h : m < 18446744073709551616) : m < big := h
theorem mix_ok (x : Int) : -18446744073709551616 < x % prime ∧ x % prime < 18446744073709551616 := by
  have h1 := Int.emod_nonneg x (show prime ≠ 0 by decide)
  have h2 := Int.emod_lt_of_pos x (show 0 < prime by decide)
  unfold prime at *
  omega
theorem tape_item (t : Tape) (h : 0 < (t.ns.length : Int)) : atI (t.ns.map D.int) (t.pos % (t.ns.length : Int)) = some (.int t.item) := by
  have h1 := Int.emod_nonneg t.pos (show (t.ns.length : Int) ≠ 0 by omega)
  have h2 := Int.emod_lt_of_pos t.pos h
  rw [atI_nat h1 (by simpa using h2)]
  unfold Tape.item
  rw [if_pos h, List.getElem?_map]
  have h3 : (t.pos % (t.ns.length : Int)).toNat < t.ns.length := by omega
  rw [List.getElem?_eq_getElem h3]
  rfl
theorem draw_ok (t : Tape) {m : Int} (h0 : 0 < m) (h1 : m < 18446744073709551616) : fnLawDraw [.own false t.d, .val (.int m)] = some (.val (.int (t.out m)), [.own false (t.rest m).d, .val (.int m)]) := by
  have hb : m < big := h1
  have k1 := mul_ok 1000003 t.pos (by omega)
  have k2 := mul_ok (mix1 t.pos t.item) (mix1 t.pos t.item) (mix_ok _)
  have k3 := mul_ok 1181783497276652981 (mix1 t.pos t.item) (by omega)
  have k4 := mul_ok (mix2 (mix1 t.pos t.item)) (mix2 (mix1 t.pos t.item)) (mix_ok _)
  rw [fnLawDraw, defF_eq]
  simp only [mix1, mix2, prime] at k2 k3 k4
  by_cases c1 : t.cell < m
  · by_cases c2 : 0 < t.ns.length
    · have c3 := tape_item t (by omega)
      by_cases c4 : (t.ns.length : Int) ≤ t.pos
      · simp [gLawDraw, Tape.d, c1, c2, c3, c4, k1, k2, k3, k4, Tape.out, Tape.rest, Tape.full, Tape.fresh, mix1, mix2, mix3, prime, h0, hb, ixN]
      · by_cases c5 : t.item < 1000000000000000000
        · simp [gLawDraw, Tape.d, c1, c2, c3, c4, c5, k1, k2, k3, k4, Tape.out, Tape.rest, Tape.full, Tape.fresh, mix1, mix2, mix3, prime, h0, hb, ixN]
        · simp [gLawDraw, Tape.d, c1, c2, c3, c4, c5, k1, k2, k3, k4, Tape.out, Tape.rest, Tape.full, Tape.fresh, mix1, mix2, mix3, prime, h0, hb, ixN]
    · have c2' : (t.ns.length : Int) = 0 := by omega
      have c3 : t.item = 0 := by unfold Tape.item; rw [if_neg (by omega)]
      have c6 : t.ns = [] := List.eq_nil_of_length_eq_zero (by omega)
      simp only [c3, Int.zero_add] at k2 k3 k4
      by_cases c4 : (0 : Int) ≤ t.pos
      · simp [gLawDraw, Tape.d, c1, c2, c3, c4, c2', c6, Int.zero_add, k1, k2, k3, k4, Tape.out, Tape.rest, Tape.full, Tape.fresh, mix1, mix2, mix3, prime, h0, hb, ixN]
      · simp [gLawDraw, Tape.d, c1, c2, c3, c4, c2', c6, Int.zero_add, k1, k2, k3, k4, Tape.out, Tape.rest, Tape.full, Tape.fresh, mix1, mix2, mix3, prime, h0, hb, ixN]
  · simp [gLawDraw, Tape.d, c1, Tape.out, Tape.rest, Tape.full, h0, hb, ixN]
end My
namespace My
open PySem L2 FL
/-! ## frames -/
theorem needed_ok (p : Int) (last : Bool) (frame : List Int) : fnLawNeeded [.val (.int p), .val (.bl last), .val (tI frame)] = some (.val (.int (neededF p last frame)), [.val (.int p), .val (.bl last), .val (tI frame)]) := by
  rw [fnLawNeeded, defF_eq]
  cases frame with
  | nil => simp [gLawNeeded, neededF, cap, bEq_tI0]
  | cons a r =>
    have hi : intsOf (D.int a :: r.map D.int) = some (a :: r) := intsOf_map (a :: r)
    have e1 : ((r.length : Int) + 1 = 2) ↔ r.length = 1 := by omega
    have e2 : ((r.length : Int) + 1 = 3) ↔ r.length = 2 := by omega
    cases last with
    | false =>
      by_cases k1 : a = p
      · simp [gLawNeeded, neededF, cap, bEq_tI0, k1, e1, e2]
      · by_cases k2 : r.length = 1 <;> simp [gLawNeeded, neededF, cap, bEq_tI0, k1, k2, e1, e2]
    | true =>
      by_cases k3 : r.length = 2
      · simp [gLawNeeded, neededF, cap, bEq_tI0, k3, e1, e2]
      · by_cases k2 : r.length = 1
        · by_cases k1 : a < p
          · by_cases k4 : a + r.sum < p <;> simp [gLawNeeded, neededF, cap, bEq_tI0, k1, k2, k3, k4, e1, e2, hi]
          · simp [gLawNeeded, neededF, cap, bEq_tI0, k1, k2, k3, e1, e2, hi]
        · simp [gLawNeeded, neededF, cap, bEq_tI0, k2, k3, e1, e2, hi]
theorem stands_loop (p : Int) (fd : D) : ∀ (frame : List Int) (st : Int) (s : Sl), FL.stored s = true →
    ∃ s', forL (.nm 3) gLawStands_b1 (frame.map D.int) [.val (.int p), .val fd, .val (.int st), s] = some (.nx, [.val (.int p), .val fd, .val (.int (frame.foldl (fun st r => if st - r = 0 then p else st - r) st)), s'])
  | [], st, s, _ => ⟨s, rfl⟩
  | r :: rs, st, s, hs => by
    obtain ⟨s', ih⟩ := stands_loop p fd rs (if st - r = 0 then p else st - r) (.val (.int r)) rfl
    refine ⟨s', ?_⟩
    rw [List.map_cons, forL_cons, List.foldl_cons, ← ih]
    by_cases h : st - r = 0 <;> simp [gLawStands_b1, hs, h]
theorem stands_ok (p : Int) (frame : List Int) : fnLawStands [.val (.int p), .val (tI frame)] = some (.val (.int (standsF p frame)), [.val (.int p), .val (tI frame)]) := by
  obtain ⟨s', h⟩ := stands_loop p (tI frame) frame p .no rfl
  rw [fnLawStands, defF_eq]
  simp [gLawStands, h, standsF]
/-! ## frames of rolls -/
abbrev frD (x : Fr) : D := .lst (x.1.map tI ++ [tI x.2])
theorem frD_step (done : List (List Int)) (cur : List Int) : D.lst (List.map tI done ++ [tI cur] ++ [D.tup []]) = frD (done ++ [cur], []) := by simp [frD, tI]
theorem split_step (f p r : Int) (x : Fr) (rd : D) (hl : x.1.length + x.2.length ≤ 1000) :
    ∃ o ρ, gLawSplit_b1 [.val (rulesD f p), .val rd, .own false (frD x), .val (.int r)] = some (o, ρ) ∧
      match stepF f p x r with
      | none => o = .rt (.val .non) ∧ ∃ s, ρ = [.val (rulesD f p), .val rd, .own false (frD x), s]
      | some y => o = .nx ∧ ρ = [.val (rulesD f p), .val rd, .own false (frD y), .val (.int r)] := by
  obtain ⟨done, cur⟩ := x
  have hl' : done.length + cur.length ≤ 1000 := hl
  have hl2 : cur.length + 1 ≤ 1000000 := by omega
  have hl3 : done.length + 1 < 1000000 := by omega
  unfold FL.stepF
  by_cases h1 : f < (done.length : Int) + 1
  · refine ⟨.rt (.val .non), [.val (rulesD f p), .val rd, .own false (frD (done, cur)), .val (.int r)], ?_, ?_⟩
    rotate_left
    · rw [if_pos h1]; exact ⟨rfl, _, rfl⟩
    · simp [gLawSplit_b1, h1]
  · have hst := stands_ok p cur
    by_cases h2 : 0 ≤ r ∧ r ≤ standsF p cur
    · have hn := needed_ok p (decide ((done.length : Int) + 1 = f)) (cur ++ [r])
      by_cases h3 : 0 < neededF p (decide ((done.length : Int) + 1 = f)) (cur ++ [r])
      · refine ⟨.nx, [.val (rulesD f p), .val rd, .own false (frD (done ++ [cur ++ [r]], [])), .val (.int r)], ?_, ?_⟩
        rotate_left
        · rw [if_neg h1, if_pos h2, if_pos h3]; exact ⟨rfl, rfl⟩
        · rw [← frD_step]
          simp [gLawSplit_b1, h1, hst, h2.1, h2.2, hn, h3, cap, FL.atI_last, hl2, hl3]
      · refine ⟨.nx, [.val (rulesD f p), .val rd, .own false (frD (done, cur ++ [r])), .val (.int r)], ?_, ?_⟩
        rotate_left
        · rw [if_neg h1, if_pos h2, if_neg h3]; exact ⟨rfl, rfl⟩
        · simp [gLawSplit_b1, h1, hst, h2.1, h2.2, hn, h3, cap, FL.atI_last, hl2]
    · refine ⟨.rt (.val .non), [.val (rulesD f p), .val rd, .own false (frD (done, cur)), .val (.int r)], ?_, ?_⟩
      rotate_left
      · rw [if_neg h1, if_neg h2]; exact ⟨rfl, _, rfl⟩
      · by_cases h4 : 0 ≤ r
        · have h5 : ¬ r ≤ standsF p cur := fun z => h2 ⟨h4, z⟩
          simp [gLawSplit_b1, h1, hst, h4, h5, FL.atI_last]
        · simp [gLawSplit_b1, h1, hst, h4, FL.atI_last]
theorem split_loop (f p : Int) (rd : D) : ∀ (rs : List Int) (x : Fr) (s : Sl), FL.stored s = true → x.1.length + x.2.length + rs.length ≤ 1000 →
    ∃ o ρ, forL (.nm 3) gLawSplit_b1 (rs.map D.int) [.val (rulesD f p), .val rd, .own false (frD x), s] = some (o, ρ) ∧
      match splitS f p x rs with
      | none => o = .rt (.val .non) ∧ ∃ s s', ρ = [.val (rulesD f p), .val rd, s, s']
      | some y => o = .nx ∧ ∃ s', ρ = [.val (rulesD f p), .val rd, .own false (frD y), s']
  | [], x, s, _, _ => ⟨.nx, _, rfl, rfl, s, rfl⟩
  | r :: rs, x, s, hs, hl => by
    have hl' : x.1.length + x.2.length + (rs.length + 1) ≤ 1000 := by simpa using hl
    obtain ⟨o, ρ, e, q⟩ := split_step f p r x rd (by omega)
    have e0 : asg (.nm 3) (.int r) [.val (rulesD f p), .val rd, .own false (frD x), s] = some [.val (rulesD f p), .val rd, .own false (frD x), .val (.int r)] := by simp [hs]
    rw [List.map_cons, forL_cons, e0]
    show ∃ o ρ, forO _ _ _ (gLawSplit_b1 _) = _ ∧ _
    rw [e, splitS]
    cases h : stepF f p x r with
    | none =>
      rw [h] at q
      obtain ⟨rfl, s1, rfl⟩ := q
      exact ⟨_, _, rfl, rfl, _, _, rfl⟩
    | some y =>
      rw [h] at q
      obtain ⟨rfl, rfl⟩ := q
      have := stepF_fit h
      exact split_loop f p rd rs y _ rfl (by omega)
theorem split_ok (f p : Int) (rs : List Int) (hl : rs.length ≤ 1000) : fnLawSplit [.val (rulesD f p), .val (tI rs)] = some (match splitS f p ([], []) rs with | none => .val .non | some y => .own (frD y), [.val (rulesD f p), .val (tI rs)]) := by
  obtain ⟨o, ρ, e, q⟩ := split_loop f p (tI rs) rs ([], []) .no rfl (by simpa using hl)
  rw [fnLawSplit, defF_eq]
  cases h : splitS f p ([], []) rs with
  | none =>
    rw [h] at q
    obtain ⟨rfl, s1, s2, rfl⟩ := q
    have e' : forL (.nm 3) gLawSplit_b1 (rs.map D.int) [.val (rulesD f p), .val (tI rs), .own false (.lst [.tup []]), .no] = _ := e
    simp [gLawSplit, cap, e']
  | some y =>
    rw [h] at q
    obtain ⟨rfl, s1, rfl⟩ := q
    have e' : forL (.nm 3) gLawSplit_b1 (rs.map D.int) [.val (rulesD f p), .val (tI rs), .own false (.lst [.tup []]), .no] = _ := e
    simp [gLawSplit, cap, e']
end My
namespace My
open PySem L2 FL
theorem stand_range {f p : Int} {done : List (List Int)} : ∀ {cur : List Int}, 0 < p → curOk f p done cur → 0 ≤ standsF p cur ∧ standsF p cur ≤ p
  | [], hp, _ => ⟨Int.le_of_lt hp, Int.le_refl _⟩
  | [a], hp, h => by
    obtain ⟨h1, h2, h3, h4⟩ := h
    show 0 ≤ (if p - a = 0 then p else p - a) ∧ (if p - a = 0 then p else p - a) ≤ p
    split <;> omega
  | [a, c], hp, h => by
    obtain ⟨h1, h2, h3, h4, h5, h6⟩ := h
    simp only [standsF, List.foldl]
    split <;> split <;> omega
/-! ## games go on -/
theorem further_step (f p way most : Int) (t : Tape) (rolls : List Int) (x : Fr) (tn s6 s7 s8 : Sl) (hp : 2 ≤ p) (hp2 : p ≤ 10) (hl : rolls.length ≤ 900) (hx : splitS f p ([], []) rolls = some x) (hc : curOk f p x.1 x.2)
    (h6 : FL.stored s6 = true) (h7 : FL.stored s7 = true) (h8 : FL.stored s8 = true) :
    if f < (x.1.length : Int) + 1 then ∃ ρ, gLawFurther_b1 [.own true t.d, .val (rulesD f p), .val (tI rolls), .val (.int most), .val (.int way), tn, s6, s7, s8] = some (.rt (.val (tI rolls)), .own true t.d :: ρ) ∧ ρ.length = 8
    else ∃ (t' : Tape) (r : Int), 0 ≤ r ∧ r ≤ standsF p x.2 ∧ gLawFurther_b1 [.own true t.d, .val (rulesD f p), .val (tI rolls), .val (.int most), .val (.int way), tn, s6, s7, s8] =
      some (.nx, [.own true t'.d, .val (rulesD f p), .val (tI (rolls ++ [r])), .val (.int most), .val (.int way), tn, .own false (frD x), .val (.int (standsF p x.2)), .val (.int r)]) := by
  have hs := split_ok f p rolls (by omega)
  rw [hx] at hs
  obtain ⟨b0, b1⟩ := stand_range (by omega) hc
  have hst := stands_ok p x.2
  have d1 : 0 < standsF p x.2 + 1 := by omega
  have d2 : standsF p x.2 + 1 < 18446744073709551616 := by omega
  have hl2 : rolls.length + 1 ≤ 1000000 := by omega
  have o1 := t.out_lo d1
  have o2 := t.out_hi d1
  by_cases h1 : f < (x.1.length : Int) + 1
  · rw [if_pos h1]
    exact ⟨[.val (rulesD f p), .val (tI rolls), .val (.int most), .val (.int way), tn, .own false (frD x), s7, s8], by simp [gLawFurther_b1, hs, h1, h6], rfl⟩
  · rw [if_neg h1]
    have hd := draw_ok t d1 d2
    generalize hT : t.rest (standsF p x.2 + 1) = t1 at *
    generalize hR : t.out (standsF p x.2 + 1) = r1 at *
    by_cases w1 : way = 1
    · exact ⟨t1, standsF p x.2, b0, Int.le_refl _, by simp [gLawFurther_b1, hs, h1, h6, h7, h8, hst, hd, w1, cap, hl2, FL.atI_last]⟩
    · by_cases w2 : way = 2
      · by_cases k : t1.out 2 = 0
        · exact ⟨t1.rest 2, standsF p x.2, b0, Int.le_refl _, by simp [gLawFurther_b1, hs, h1, h6, h7, h8, hst, hd, w2, draw_ok, k, cap, hl2, FL.atI_last]⟩
        · exact ⟨t1.rest 2, r1, o1, by omega, by simp [gLawFurther_b1, hs, h1, h6, h7, h8, hst, hd, w2, draw_ok, k, cap, hl2, FL.atI_last]⟩
      · by_cases w3 : way = 3
        · by_cases k : 0 < t1.out 3
          · exact ⟨t1.rest 3, if 1 < r1 then 1 else r1, by split <;> omega, by split <;> omega, by simp [gLawFurther_b1, hs, h1, h6, h7, h8, hst, hd, w3, draw_ok, k, cap, hl2, FL.atI_last]⟩
          · exact ⟨t1.rest 3, r1, o1, by omega, by simp [gLawFurther_b1, hs, h1, h6, h7, h8, hst, hd, w3, draw_ok, k, cap, hl2, FL.atI_last]⟩
        · exact ⟨t1, r1, o1, by omega, by simp [gLawFurther_b1, hs, h1, h6, h7, h8, hst, hd, w1, w2, w3, cap, hl2, FL.atI_last]⟩
theorem step_not {f p r : Int} {x : Fr} (h1 : ¬ f < (x.1.length : Int) + 1) (h0 : 0 ≤ r) (h2 : r ≤ standsF p x.2) : ∃ y, stepF f p x r = some y := by
  unfold FL.stepF
  rw [if_neg h1, if_pos ⟨h0, h2⟩]
  split <;> exact ⟨_, rfl⟩
/-- the game so far: its rolls, its frames -/
structure Game (f p : Int) (rolls : List Int) (x : Fr) : Prop where
  f1 : 1 ≤ f
  f2 : f ≤ 10
  p1 : 2 ≤ p
  p2 : p ≤ 10
  sp : splitS f p ([], []) rolls = some x
theorem Game.lock {f p : Int} {rolls : List Int} {x : Fr} (g : Game f p rolls x) : Lock f p (afterS p (beginS f p) rolls) x :=
  Lock.steps (by have := g.p1; omega) (Lock.begin (by have := g.f1; omega)) g.sp
theorem Game.next {f p r : Int} {rolls : List Int} {x y : Fr} (g : Game f p rolls x) (e : stepF f p x r = some y) : Game f p (rolls ++ [r]) y :=
  ⟨g.f1, g.f2, g.p1, g.p2, by rw [splitS_append, g.sp]; show splitS f p x [r] = _; rw [splitS_one, e]⟩
/-- all rolls of a game: how many there can be -/
theorem steps_fit {f p : Int} : ∀ {rs : List Int} {x y : Fr}, splitS f p x rs = some y → (x.1.map List.length).sum + x.2.length + rs.length = (y.1.map List.length).sum + y.2.length
  | [], x, y, e => by cases e; simp
  | r :: rs, x, y, e => by
    rw [splitS] at e
    cases h : stepF f p x r with
    | none => rw [h] at e; cases e
    | some z =>
      rw [h] at e
      have := steps_fit (rs := rs) (x := z) e
      have h2 : (z.1.map List.length).sum + z.2.length = (x.1.map List.length).sum + x.2.length + 1 := by
        unfold FL.stepF at h
        split at h
        · cases h
        · split at h
          · split at h
            · cases h; simp; omega
            · cases h; simp; omega
          · cases h
      simp only [List.length_cons]
      omega
theorem steps_small {f p : Int} : ∀ {rs : List Int} {x y : Fr}, (∀ fr ∈ x.1, fr.length ≤ 3) → x.2.length ≤ 2 → curOk f p x.1 x.2 → 0 < p → splitS f p x rs = some y → (∀ fr ∈ y.1, fr.length ≤ 3)
  | [], x, y, h, _, _, _, e => by cases e; exact h
  | r :: rs, x, y, h, h2, hc, hp, e => by
    rw [splitS] at e
    cases hz : stepF f p x r with
    | none => rw [hz] at e; cases e
    | some z =>
      rw [hz] at e
      have hL := Lock.step hp (s := stOf f p x.1 x.2) ⟨rfl, hc, curOk_le hc⟩ hz
      refine steps_small (rs := rs) (x := z) ?_ (curOk_len hL.2.1) hL.2.1 hp e
      unfold FL.stepF at hz
      split at hz
      · cases hz
      · split at hz
        · split at hz
          · cases hz
            intro fr hf
            rcases List.mem_append.mp hf with hf | hf
            · exact h fr hf
            · rw [List.mem_singleton.mp hf]; simp; omega
          · cases hz; exact h
        · cases hz
theorem sum_le_mul : ∀ {l : List Nat} {k : Nat}, (∀ a ∈ l, a ≤ k) → l.sum ≤ k * l.length
  | [], _, _ => by simp
  | a :: l, k, h => by
    have h1 := h a List.mem_cons_self
    have h2 := sum_le_mul (l := l) (k := k) fun b hb => h b (List.mem_cons_of_mem _ hb)
    rw [List.sum_cons, List.length_cons, Nat.mul_add]
    omega
/-- a game has at most 32 rolls (a rough bound) -/
theorem Game.few {f p : Int} {rolls : List Int} {x : Fr} (g : Game f p rolls x) : rolls.length ≤ 32 := by
  have hp : 0 < p := by have := g.p1; omega
  have hL := g.lock
  have h1 := steps_fit g.sp
  have h2 := steps_small (x := ([], [])) (by simp) (by simp) (by show ((([] : List (List Int)).length : Nat) : Int) ≤ f; simp; have := g.f1; omega) hp g.sp
  have h3 : (x.1.map List.length).sum ≤ 3 * (x.1.map List.length).length := sum_le_mul fun a ha => by
    obtain ⟨fr, hf, rfl⟩ := List.mem_map.mp ha
    exact h2 fr hf
  have h4 := curOk_len hL.2.1
  have h5 := hL.2.2
  have h6 := g.f2
  simp at h1 h3
  omega
theorem further_loop (f p way most : Int) : ∀ (ds : List D) (t : Tape) (rolls : List Int) (x : Fr) (tn s6 s7 s8 : Sl), Game f p rolls x → FL.stored tn = true → FL.stored s6 = true → FL.stored s7 = true → FL.stored s8 = true →
    ∃ (o : Out) (t' : Tape) (more : List Int) (y : Fr) (ρ : List Sl), forL (.nm 5) gLawFurther_b1 ds [.own true t.d, .val (rulesD f p), .val (tI rolls), .val (.int most), .val (.int way), tn, s6, s7, s8] = some (o, .own true t'.d :: ρ) ∧ ρ.length = 8 ∧ Game f p (rolls ++ more) y ∧ more.length ≤ ds.length ∧
      ((o = .rt (.val (tI (rolls ++ more))) ∧ f < (y.1.length : Int) + 1) ∨ (o = .nx ∧ more.length = ds.length ∧ ∃ a b s, ρ = a :: .val (tI (rolls ++ more)) :: b :: s))
  | [], t, rolls, x, tn, s6, s7, s8, g, _, _, _, _ => ⟨.nx, t, [], x, _, rfl, rfl, by rw [List.append_nil]; exact g, Nat.le_refl _, .inr ⟨rfl, rfl, _, _, _, by rw [List.append_nil]⟩⟩
  | d :: ds, t, rolls, x, tn, s6, s7, s8, g, ht, h6, h7, h8 => by
    have hL := g.lock
    have e0 : asg (.nm 5) d [.own true t.d, .val (rulesD f p), .val (tI rolls), .val (.int most), .val (.int way), tn, s6, s7, s8] = some [.own true t.d, .val (rulesD f p), .val (tI rolls), .val (.int most), .val (.int way), .val d, s6, s7, s8] := by simp [ht]
    have q := further_step f p way most t rolls x (.val d) s6 s7 s8 g.p1 g.p2 (by have := g.few; omega) g.sp hL.2.1 h6 h7 h8
    rw [forL_cons, e0]
    by_cases h1 : f < (x.1.length : Int) + 1
    · rw [if_pos h1] at q
      obtain ⟨ρ, e, hρ⟩ := q
      exact ⟨_, t, [], x, ρ, by show forO _ _ _ (gLawFurther_b1 _) = _; rw [e]; rfl, hρ, by rw [List.append_nil]; exact g, Nat.zero_le _, .inl ⟨by rw [List.append_nil], h1⟩⟩
    · rw [if_neg h1] at q
      obtain ⟨t1, r, r0, r1, e⟩ := q
      obtain ⟨y, hy⟩ := step_not h1 r0 r1
      obtain ⟨o, t', more, z, ρ, e2, hρ, g2, hm, q2⟩ := further_loop f p way most ds t1 (rolls ++ [r]) y (.val d) (.own false (frD x)) (.val (.int (standsF p x.2))) (.val (.int r)) (g.next hy) rfl rfl rfl rfl
      rw [List.append_assoc] at g2 q2
      refine ⟨o, t', [r] ++ more, z, ρ, ?_, hρ, g2, by simp; omega, ?_⟩
      · show forO _ _ _ (gLawFurther_b1 _) = _
        rw [e]; exact e2
      · rcases q2 with q2 | ⟨q2, q3, q4⟩
        · exact .inl q2
        · exact .inr ⟨q2, by simp; omega, q4⟩
theorem further_ok (f p most : Int) (t : Tape) (rolls : List Int) (x : Fr) (g : Game f p rolls x) (hm : 0 ≤ most) (hm2 : most ≤ 1000) :
    ∃ (t' : Tape) (more : List Int) (y : Fr), fnLawFurther [.own false t.d, .val (rulesD f p), .val (tI rolls), .val (.int most)] = some (.val (tI (rolls ++ more)), [.own false t'.d, .val (rulesD f p), .val (tI rolls), .val (.int most)]) ∧
      Game f p (rolls ++ more) y ∧ more.length ≤ most.toNat ∧ (f < (y.1.length : Int) + 1 ∨ more.length = most.toNat) := by
  obtain ⟨o, t', more, y, ρ, e, hρ, g2, hl, q⟩ := further_loop f p ((t.out 4)) most (rg1 most.toNat) (t.rest 4) rolls x .no .no .no .no g rfl rfl rfl rfl
  have hlr : (rg1 most.toNat).length = most.toNat := by simp [rg1]
  rw [hlr] at hl q
  refine ⟨t', more, y, ?_, g2, hl, ?_⟩
  · rw [fnLawFurther, defF_eq]
    obtain ⟨a1, a2, a3, a4, a5, a6, a7, a8, rfl⟩ : ∃ a1 a2 a3 a4 a5 a6 a7 a8, ρ = [a1, a2, a3, a4, a5, a6, a7, a8] := by
      match ρ, hρ with
      | [a1, a2, a3, a4, a5, a6, a7, a8], _ => exact ⟨_, _, _, _, _, _, _, _, rfl⟩
    have hm3 : -1000000 ≤ most := by omega
    have hm4 : most ≤ 1000000 := by omega
    rcases q with ⟨rfl, _⟩ | ⟨rfl, _, a, b, s, h⟩
    · simp [gLawFurther, draw_ok, hm3, hm4, e]
    · cases h
      simp [gLawFurther, draw_ok, hm3, hm4, e]
  · rcases q with ⟨_, h⟩ | ⟨_, h, _⟩
    · exact .inl h
    · exact .inr h
theorem Game.nil {f p : Int} (f1 : 1 ≤ f) (f2 : f ≤ 10) (p1 : 2 ≤ p) (p2 : p ≤ 10) : Game f p [] ([], []) := ⟨f1, f2, p1, p2, rfl⟩
theorem game_ok (f p : Int) (t : Tape) (f1 : 1 ≤ f) (f2 : f ≤ 10) (p1 : 2 ≤ p) (p2 : p ≤ 10) :
    ∃ (t' : Tape) (rolls : List Int) (y : Fr), fnLawGame [.own false t.d, .val (rulesD f p)] = some (.val (tI rolls), [.own false t'.d, .val (rulesD f p)]) ∧ Game f p rolls y ∧ (f < (y.1.length : Int) + 1 ∨ rolls.length = 25) := by
  obtain ⟨t', more, y, e, g, _, q⟩ := further_ok f p 25 t [] ([], []) (.nil f1 f2 p1 p2) (by decide) (by decide)
  refine ⟨t', more, y, ?_, g, q⟩
  have e' : fnLawFurther [.own false t.d, .val (rulesD f p), .val (.tup []), .val (.int 25)] = some (.val (tI more), [.own false t'.d, .val (rulesD f p), .val (.tup []), .val (.int 25)]) := e
  rw [fnLawGame, defF_eq]
  simp [gLawGame, cap, e']
theorem Game.part {f p : Int} {rolls : List Int} {x : Fr} (g : Game f p rolls x) (k : Nat) : ∃ y, Game f p (rolls.take k) y := by
  have h := g.sp
  rw [← List.take_append_drop k rolls, splitS_append] at h
  cases e : splitS f p ([], []) (rolls.take k) with
  | none => rw [e] at h; cases h
  | some y => exact ⟨y, g.f1, g.f2, g.p1, g.p2, e⟩
end My
namespace My
open PySem L2 FL
theorem start_ok (f p : Int) (t : Tape) (f1 : 1 ≤ f) (f2 : f ≤ 10) (p1 : 2 ≤ p) (p2 : p ≤ 10) :
    ∃ (t' : Tape) (rolls : List Int) (y : Fr), fnLawStart [.own false t.d, .val (rulesD f p)] = some (.val (tI rolls), [.own false t'.d, .val (rulesD f p)]) ∧ Game f p rolls y := by
  obtain ⟨t1, whole, y, e, g, _⟩ := game_ok f p t f1 f2 p1 p2
  have d1 : (0 : Int) < (whole.length : Int) + 1 := by omega
  have d2 : (whole.length : Int) + 1 < 18446744073709551616 := by have := g.few; omega
  have hd := draw_ok (t1.rest 4) d1 d2
  have c1 := ((t1.rest 4).rest ((whole.length : Int) + 1)).out_lo (m := 2) (by decide)
  have c2 := ((t1.rest 4).rest ((whole.length : Int) + 1)).out_hi (m := 2) (by decide)
  have key : ∀ k : Int, 0 ≤ (if (whole.length : Int) - k > 0 then (whole.length : Int) - k else 0) := fun k => by split <;> omega
  have key2 : ∀ k : Int, 0 ≤ (if k < (whole.length : Int) then (whole.length : Int) - k else 0) := fun k => by split <;> omega
  have : ((t1.rest 4).rest ((whole.length : Int) + 1)).out 2 = 0 ∨ ((t1.rest 4).rest ((whole.length : Int) + 1)).out 2 = 1 := by omega
  rcases this with h | h
  · obtain ⟨z, hz⟩ := g.part (if 0 < (whole.length : Int) - t1.out 4 then (whole.length : Int) - t1.out 4 else 0).toNat
    refine ⟨((t1.rest 4).rest ((whole.length : Int) + 1)).rest 2, _, z, ?_, hz⟩
    rw [fnLawStart, defF_eq]
    simp [gLawStart, e, draw_ok, hd, h, cap, slice_take, key2, -sliceT]
  · obtain ⟨z, hz⟩ := g.part (if 0 < (whole.length : Int) - (t1.rest 4).out ((whole.length : Int) + 1) then (whole.length : Int) - (t1.rest 4).out ((whole.length : Int) + 1) else 0).toNat
    refine ⟨((t1.rest 4).rest ((whole.length : Int) + 1)).rest 2, _, z, ?_, hz⟩
    rw [fnLawStart, defF_eq]
    simp [gLawStart, e, draw_ok, hd, h, cap, slice_take, key2, -sliceT]
end My
namespace My
open PySem L2 FL
/-! ## the state behind rolls -/
theorem after_loop (f p : Int) (rd : D) : ∀ (rs : List Int) (s : Gs) (sl : Sl), FL.stored sl = true →
    ∃ sl', forL (.nm 3) gStateAfter_b1 (rs.map D.int) [.val (rulesD f p), .val rd, .val (stD s), sl] = some (.nx, [.val (rulesD f p), .val rd, .val (stD (afterS p s rs)), sl'])
  | [], s, sl, _ => ⟨sl, rfl⟩
  | r :: rs, s, sl, h => by
    obtain ⟨sl', e⟩ := after_loop f p rd rs (nextS p s r) (.val (.int r)) rfl
    refine ⟨sl', ?_⟩
    have : afterS p s (r :: rs) = afterS p (nextS p s r) rs := rfl
    rw [List.map_cons, forL_cons, this, ← e]
    simp [gStateAfter_b1, h, next_ok]
theorem after_ok (f p : Int) (rs : List Int) : fnStateAfter [.val (rulesD f p), .val (tI rs)] = some (.val (stD (afterS p (beginS f p) rs)), [.val (rulesD f p), .val (tI rs)]) := by
  obtain ⟨sl', e⟩ := after_loop f p (tI rs) rs (beginS f p) .no rfl
  rw [fnStateAfter, defF_eq]
  simp [gStateAfter, begin_ok, e]
end My
namespace My
open PySem L2 FL
/-! ## weights and scores -/
theorem weights_loop (f p : Int) (rd : D) : ∀ (rs : List Int) (s : Gs) (acc : List Int) (sl : Sl), FL.stored sl = true → acc.length + rs.length ≤ 1000 →
    ∃ s' sl', forL (.nm 4) gWeights_b1 (rs.map D.int) [.val (rulesD f p), .val rd, .val (stD s), .val (.tup (acc.map D.int)), sl] = some (.nx, [.val (rulesD f p), .val rd, s', .val (.tup ((acc ++ wtS p s rs).map D.int)), sl'])
  | [], s, acc, sl, _, _ => ⟨_, sl, by rw [wtS, List.append_nil]; rfl⟩
  | r :: rs, s, acc, sl, h, hl => by
    have hl' : acc.length + (rs.length + 1) ≤ 1000 := by simpa using hl
    obtain ⟨s', sl', e⟩ := weights_loop f p rd rs (nextS p s r) (acc ++ [1 + s.more]) (.val (.int r)) rfl (by simp; omega)
    refine ⟨s', sl', ?_⟩
    have h2 : acc.length + 1 ≤ 1000000 := by omega
    rw [List.map_cons, forL_cons, wtS]
    rw [List.append_assoc, List.singleton_append] at e
    rw [← e]
    simp [gWeights_b1, h, next_ok, st_at1, cap, h2]
theorem weights_ok (f p : Int) (rs : List Int) (hl : rs.length ≤ 1000) : fnWeights [.val (rulesD f p), .val (tI rs)] = some (.val (tI (wtS p (beginS f p) rs)), [.val (rulesD f p), .val (tI rs)]) := by
  obtain ⟨s', sl', e⟩ := weights_loop f p (tI rs) rs (beginS f p) [] .no rfl (by simpa using hl)
  have e' : forL (.nm 4) gWeights_b1 (rs.map D.int) [.val (rulesD f p), .val (tI rs), .val (stD (beginS f p)), .val (.tup []), .no] = _ := e
  rw [fnWeights, defF_eq]
  simp [gWeights, begin_ok, cap, e']
theorem score_loop (ρ : List Sl) (ra rb : Sl) : ∀ (as bs : List Int) (acc : List D), acc.length + as.length ≤ 1000 → (∀ a ∈ as, -1000 ≤ a ∧ a ≤ 1000) →
    lcL (.tp [(.nm 2), (.nm 3)]) (fC (.bl true)) gScore_e1 [2, 3] (zipF (as.map D.int) (bs.map D.int)) acc [ra, rb, .no, .no] = some (acc ++ (List.zipWith (· * ·) as bs).map D.int, [ra, rb, .no, .no])
  | [], bs, acc, _, _ => by cases bs <;> simp [zipF]
  | a :: as, [], acc, _, _ => by simp [zipF]
  | a :: as, b :: bs, acc, hl, h => by
    have hl' : acc.length + (as.length + 1) ≤ 1000 := by simpa using hl
    have e := score_loop ρ ra rb as bs (acc ++ [.int (a * b)]) (by simp; omega) fun x hx => h x (List.mem_cons_of_mem _ hx)
    have ha := h a List.mem_cons_self
    have hm := mul_ok a b (by omega)
    have hc : acc.length < 1000000 := by omega
    rw [List.map_cons, List.map_cons, zipF, lcL_cons, List.zipWith_cons_cons, List.map_cons]
    rw [List.append_assoc, List.singleton_append] at e
    rw [← e]
    simp [gScore_e1, hm, cap, hc]
theorem score_ok (f p : Int) (rs : List Int) (hl : rs.length ≤ 1000) (h : ∀ a ∈ rs, -1000 ≤ a ∧ a ≤ 1000) : fnScore [.val (rulesD f p), .val (tI rs)] = some (.val (.int (scS p (beginS f p) rs)), [.val (rulesD f p), .val (tI rs)]) := by
  have e := score_loop [] (.val (rulesD f p)) (.val (tI rs)) rs (wtS p (beginS f p) rs) [] (by simpa using hl) h
  rw [fnScore, defF_eq]
  simp [gScore, weights_ok f p rs hl, zipD_eq, e, scS_zip, -List.map_zipWith]
end My
namespace My
open PySem L2 FL
/-! ## the frames of a game -/
theorem done_last {f p : Int} {fr : List Int} : ∀ {done : List (List Int)} {n : Int}, DoneOk f p n (done ++ [fr]) → Whole p (decide (n + (done.length : Int) + 1 = f)) fr
  | [], n, h => by
    have := h.2.1
    simpa using this
  | g :: more, n, h => by
    have := done_last (done := more) h.2.2
    have e : n + 1 + (more.length : Int) = n + ((g :: more).length : Int) := by simp; omega
    rw [e] at this; exact this
theorem Game.hp {f p : Int} {rolls : List Int} {x : Fr} (g : Game f p rolls x) : 0 < p := by have := g.p1; omega
theorem Game.done {f p : Int} {rolls : List Int} {x : Fr} (g : Game f p rolls x) : DoneOk f p 0 x.1 :=
  done_steps g.hp (x := ([], [])) (by
    have h := Lock.begin (f := f) (p := p) (by have := g.f1; omega)
    exact ⟨rfl, h.2⟩) trivial g.sp
theorem Game.over {f p : Int} {rolls : List Int} {x : Fr} (g : Game f p rolls x) : afterS p (beginS f p) rolls = Gs.OVER ↔ (x.1.length : Int) = f := by
  have h := g.lock
  rw [h.full g.hp]
  have := h.2.2
  omega
theorem Game.frok {f p : Int} {rolls : List Int} {x : Fr} (g : Game f p rolls x) : FrOk f p 0 (shown f x) := by
  have h := g.lock
  have hd := g.done
  by_cases hf : (x.1.length : Int) = f
  · rw [shown_over hf]
    exact hd.full (by omega)
  · have hlt : (x.1.length : Int) < f := by have := h.2.2; omega
    rw [shown_on hlt]
    exact hd.fr (by omega) (by rw [Int.zero_add]; exact going_of h.2.1)
theorem Game.cur_nil {f p : Int} {rolls : List Int} {x : Fr} (g : Game f p rolls x) (hf : (x.1.length : Int) = f) : x.2 = [] := by
  have h := g.lock.2.1
  match e : x.2, h with
  | [], _ => rfl
  | [a], h => have := h.1; omega
  | [a, c], h => have := h.1; omega
theorem Game.rolls_eq {f p : Int} {rolls : List Int} {x : Fr} (g : Game f p rolls x) : rolls = (shown f x).flatten := by
  have h := flat_steps g.sp
  simp only [List.flatten_nil, List.nil_append] at h
  by_cases hf : (x.1.length : Int) = f
  · rw [shown_over hf, h, g.cur_nil hf, List.append_nil]
  · have hlt : (x.1.length : Int) < f := by have := g.lock.2.2; omega
    rw [shown_on hlt, h]; simp
theorem Game.done_over {f p : Int} {rolls : List Int} {x : Fr} (g : Game f p rolls x) : (DoneOk f p 0 (shown f x) ∧ 0 + ((shown f x).length : Int) = f) ↔ (x.1.length : Int) = f := by
  by_cases hf : (x.1.length : Int) = f
  · rw [shown_over hf]
    exact ⟨fun _ => hf, fun _ => ⟨g.done, by omega⟩⟩
  · have hlt : (x.1.length : Int) < f := by have := g.lock.2.2; omega
    rw [shown_on hlt]
    refine ⟨fun h => ?_, fun h => absurd h hf⟩
    have h1 := done_last h.1
    rw [Int.zero_add] at h1
    exact (whole_not_going g.hp h1 (going_of g.lock.2.1)).elim
theorem Game.score_eq {f p : Int} {rolls : List Int} {x : Fr} (g : Game f p rolls x) : scS p (beginS f p) rolls = pointsF f p 0 (shown f x) := by
  have h := score_points g.hp 0 0 g.frok
  rw [← g.rolls_eq] at h
  unfold beginS
  rw [Int.sub_zero] at h
  rw [h]; simp
theorem Game.bounds {f p : Int} {rolls : List Int} {x : Fr} (g : Game f p rolls x) : ∀ a ∈ rolls, 0 ≤ a ∧ a ≤ p := by
  have key : ∀ (rs : List Int) (z y : Fr), Lock f p (stOf f p z.1 z.2) z → splitS f p z rs = some y → ∀ a ∈ rs, 0 ≤ a ∧ a ≤ p := by
    intro rs
    induction rs with
    | nil => intro _ _ _ _ a h; cases h
    | cons r rs ih =>
      intro z y hL e a ha
      rw [splitS] at e
      cases hz : stepF f p z r with
      | none => rw [hz] at e; cases e
      | some w =>
        rw [hz] at e
        have hL2 := hL.step g.hp hz
        rcases List.mem_cons.mp ha with rfl | ha
        · have hc := (hL.can (r := a) g.hp).mp (by rw [hz]; rfl)
          by_cases hf : f < (z.1.length : Int) + 1
          · exact absurd ((hL.full g.hp).mpr hf) hc.1
          · have := hL.stand g.hp hf
            have h2 := stand_range g.hp hL.2.1
            omega
        · exact ih w y ⟨rfl, hL2.2⟩ e a ha
  have h := Lock.begin (f := f) (p := p) (by have := g.f1; omega)
  exact key rolls ([], []) x ⟨rfl, h.2⟩ g.sp
theorem partsF_len (f p : Int) : ∀ (fs : List (List Int)) (n : Int), (partsF f p n fs).length ≤ fs.length
  | [], _ => Nat.le_refl _
  | fr :: more, n => by
    have := partsF_len f p more (n + 1)
    rw [partsF, List.length_append, List.length_cons]
    split
    · simp; omega
    · simp; omega
theorem shown_len {f : Int} (x : Fr) : (shown f x).length ≤ f.toNat := by unfold shown; rw [List.length_take]; exact Nat.min_le_left _ _
theorem shown_cut {f : Int} (hf : 0 ≤ f) (x : Fr) : cutD (x.1.map tI ++ [tI x.2]) none (some f) = (shown f x).map tI := by
  rw [cut_take _ hf]
  unfold shown
  rw [List.map_take]; simp
end My
namespace My
open PySem L2 FL
/-! ## the parts of the frames, as the law finds them -/
def partD (x : List Int × Bool) : D := .tup [tI x.1, .bl x.2]
theorem parts_loop (f p : Int) (hp : 0 < p) (rolls : List Int) (s4 : Sl) :
    ∀ (fs : List (List Int)) (n : Int) (b : Nat) (acc : List (List Int × Bool)) (s5 s6 s7 s8 : Sl), rolls.drop b = fs.flatten → rolls.length = b + fs.flatten.length → acc.length + fs.length ≤ 1000 →
      FL.stored s5 = true → FL.stored s6 = true → FL.stored s7 = true → FL.stored s8 = true →
      ∃ tail, forL (.tp [(.nm 5), (.nm 6)]) gLawParts_b1 (enumF n (fs.map tI)) [.val (rulesD f p), .val (tI rolls), .own false (.lst (acc.map partD)), .val (.int (b : Int)), s4, s5, s6, s7, s8] =
        some (.nx, .val (rulesD f p) :: .val (tI rolls) :: .own false (.lst ((acc ++ partsF f p n fs).map partD)) :: tail)
  | [], n, b, acc, s5, s6, s7, s8, _, _, _, _, _, _, _ => ⟨_, by rw [partsF, List.append_nil]; rfl⟩
  | fr :: more, n, b, acc, s5, s6, s7, s8, hd, hlen, hl, h5, h6, h7, h8 => by
    have hl' : acc.length + (more.length + 1) ≤ 1000 := by simpa using hl
    have hF : rolls.drop b = fr ++ more.flatten := by rw [hd, List.flatten_cons]
    have hlen' : rolls.length = b + fr.length + more.flatten.length := by rw [hlen, List.flatten_cons, List.length_append]; omega
    have hFl : (fr ++ more.flatten).length = fr.length + more.flatten.length := List.length_append
    have hac : acc.length < 1000000 := by omega
    have hd2 : rolls.drop (b + fr.length) = more.flatten := by rw [← List.drop_drop, hF, List.drop_left' rfl]
    have hn := needed_ok p (decide (n = f - 1)) fr
    have hsl := slice_mid rolls b (sizeF f p n fr)
    rw [hF] at hsl
    have hle : decide ((b : Int) + (sizeF f p n fr : Int) ≤ (rolls.length : Int)) = decide (sizeF f p n fr ≤ (fr ++ more.flatten).length) := by
      rw [decide_eq_decide]; omega
    have hszI : (sizeF f p n fr : Int) = if n < f - 1 ∧ fr.sum = p then 3 else (fr.length : Int) := by
      unfold sizeF; split <;> simp
    rw [List.map_cons, enumF, forL_cons, partsF]
    by_cases hfr : fr = []
    · obtain ⟨tail, ih⟩ := parts_loop f p hp rolls s4 more (n + 1) (b + fr.length) acc (.val (.int n)) (.val (tI fr)) (.val (.int (fr.length : Int))) (.val (.bl (decide (0 < neededF p (decide (n = f - 1)) fr)))) hd2 hlen' (by omega) rfl rfl rfl rfl
      refine ⟨tail, ?_⟩
      rw [if_pos hfr, List.nil_append, ← ih]
      subst hfr
      have k2 : ¬ (0 : Int) = p := by omega
      by_cases k1 : n < f - 1
      · simp [gLawParts_b1, h5, h6, h7, h8, hn, sum_tI, k1, k2, bNe_tI0, -sum2]
      · simp [gLawParts_b1, h5, h6, h7, h8, hn, k1, bNe_tI0]
    · rw [if_neg hfr]
      obtain ⟨tail, ih⟩ := parts_loop f p hp rolls s4 more (n + 1) (b + fr.length) (acc ++ [((fr ++ more.flatten).take (sizeF f p n fr), decide (0 < neededF p (decide (n = f - 1)) fr) && decide (sizeF f p n fr ≤ (fr ++ more.flatten).length))]) (.val (.int n)) (.val (tI fr)) (.val (.int (sizeF f p n fr : Int))) (.val (.bl (decide (0 < neededF p (decide (n = f - 1)) fr)))) hd2 hlen' (by simp; omega) rfl rfl rfl rfl
      refine ⟨tail, ?_⟩
      rw [List.append_assoc] at ih
      rw [← ih]
      clear ih hlen' hFl hd hF hd2 hlen
      generalize (fr ++ more.flatten).take (sizeF f p n fr) = T at *
      generalize decide (sizeF f p n fr ≤ (fr ++ more.flatten).length) = bb at *
      generalize (sizeF f p n fr : Int) = z at *
      by_cases k1 : n < f - 1
      · by_cases k2 : fr.sum = p
        · rw [if_pos ⟨k1, k2⟩] at hszI
          subst hszI
          by_cases hz : 0 < neededF p (decide (n = f - 1)) fr <;> simp [gLawParts_b1, h5, h6, h7, h8, hn, sum_tI, k1, k2, bNe_tI0, hfr, hsl, hle, hz, cap, hac, partD, -sum2, -sliceT]
        · rw [if_neg (fun h => k2 h.2)] at hszI
          subst hszI
          by_cases hz : 0 < neededF p (decide (n = f - 1)) fr <;> simp [gLawParts_b1, h5, h6, h7, h8, hn, sum_tI, k1, k2, bNe_tI0, hfr, hsl, hle, hz, cap, hac, partD, -sum2, -sliceT]
      · rw [if_neg (fun h => k1 h.1)] at hszI
        subst hszI
        by_cases hz : 0 < neededF p (decide (n = f - 1)) fr <;> simp [gLawParts_b1, h5, h6, h7, h8, hn, sum_tI, k1, bNe_tI0, hfr, hsl, hle, hz, cap, hac, partD, -sum2, -sliceT]
theorem parts_ok (f p : Int) (rolls : List Int) (x : Fr) (g : Game f p rolls x) : fnLawParts [.val (rulesD f p), .val (tI rolls)] = some (.own (.lst ((partsF f p 0 (shown f x)).map partD)), [.val (rulesD f p), .val (tI rolls)]) := by
  have hs := split_ok f p rolls (by have := g.few; omega)
  rw [g.sp] at hs
  have hc := shown_cut (f := f) (by have := g.f1; omega) x
  have hsl := shown_len (f := f) x
  obtain ⟨tail, e⟩ := parts_loop f p g.hp rolls (.own false (frD x)) (shown f x) 0 0 [] .no .no .no .no g.rolls_eq (by rw [Nat.zero_add, ← g.rolls_eq]) (by have := g.f2; simp; omega) rfl rfl rfl rfl
  have e' : forL (.tp [(.nm 5), (.nm 6)]) gLawParts_b1 (enumF 0 ((shown f x).map tI)) [.val (rulesD f p), .val (tI rolls), .own false (.lst []), .val (.int 0), .own false (frD x), .no, .no, .no, .no] = some (.nx, .val (rulesD f p) :: .val (tI rolls) :: .own false (.lst ((partsF f p 0 (shown f x)).map partD)) :: tail) := e
  rw [fnLawParts, defF_eq]
  simp [gLawParts, hs, hc, enumD_eq, e', cap]
end My
namespace My
open PySem L2 FL
theorem points_loop (ra rb : Sl) : ∀ (ps : List (List Int × Bool)) (acc : List D), acc.length + ps.length ≤ 1000 →
    lcL (.tp [(.nm 2), (.nm 3)]) (fC (.bl true)) gLawPoints_e1 [2, 3] (ps.map partD) acc [ra, rb, .no, .no] = some (acc ++ (ps.map fun x => x.1.sum).map D.int, [ra, rb, .no, .no])
  | [], acc, _ => by simp
  | x :: ps, acc, hl => by
    have hl' : acc.length + (ps.length + 1) ≤ 1000 := by simpa using hl
    have e := points_loop ra rb ps (acc ++ [.int x.1.sum]) (by simp; omega)
    have hc : acc.length < 1000000 := by omega
    rw [List.map_cons, lcL_cons, List.map_cons, List.map_cons]
    rw [List.append_assoc, List.singleton_append] at e
    rw [← e]
    simp [gLawPoints_e1, partD, cap, hc, sum_tI, -sum2]
theorem points_ok (f p : Int) (rolls : List Int) (x : Fr) (g : Game f p rolls x) : fnLawPoints [.val (rulesD f p), .val (tI rolls)] = some (.val (.int (pointsF f p 0 (shown f x))), [.val (rulesD f p), .val (tI rolls)]) := by
  have h1 := partsF_len f p (shown f x) 0
  have h2 := shown_len (f := f) x
  have h3 := g.f2
  have e := points_loop (.val (rulesD f p)) (.val (tI rolls)) (partsF f p 0 (shown f x)) [] (by simp; omega)
  rw [List.nil_append] at e
  have e2 : (intsOf (((partsF f p 0 (shown f x)).map fun x => x.1.sum).map D.int)) = some ((partsF f p 0 (shown f x)).map fun x => x.1.sum) := intsOf_map _
  rw [fnLawPoints, defF_eq]
  generalize hL : ((partsF f p 0 (shown f x)).map fun x => x.1.sum).map D.int = L at *
  simp [gLawPoints, parts_ok f p rolls x g, e, e2, pointsF]
end My
namespace My
open PySem L2 FL
/-! ## the law's own comparison -/
def atom : D → Bool
  | .non => true | .bl _ => true | .int _ => true
  | _ => false
/-- alike: an atom and the same -/
theorem like_atom (n : Nat) (a : D) (h : atom a = true) : fnLawLike (n + 1) [.val a, .val a] = some (.val (.bl true), [.val a, .val a]) := by
  rw [fnLawLike, defF_eq]
  cases a with
  | non =>
    have : bEq .non .non = some true := by decide +kernel
    simp [gLawLike, this]
  | bl b => simp [gLawLike]
  | int i => simp [gLawLike]
  | _ => cases h
theorem like_bl (n : Nat) (b : Bool) : fnLawLike (n + 1) [.val (.bl b), .val (.bl b)] = some (.val (.bl true), [.val (.bl b), .val (.bl b)]) := like_atom n _ rfl
theorem like_int (n : Nat) (i : Int) : fnLawLike (n + 1) [.val (.int i), .val (.int i)] = some (.val (.bl true), [.val (.int i), .val (.int i)]) := like_atom n _ rfl
/-- a walk over all items finds none that differs -/
theorem like_loop (n : Nat) (ra rb : Sl) (xs : List D) (mk : List D → D) (hmk : ∀ i : Int, oIx (mk xs) (.int i) = (atI xs i).map .val) (hra : ra = .val (mk xs) ∨ ∃ q, ra = .own q (mk xs)) (hrb : rb = .val (mk xs) ∨ ∃ q, rb = .own q (mk xs))
    (h : ∀ x ∈ xs, fnLawLike n [.val x, .val x] = some (.val (.bl true), [.val x, .val x])) :
    ∀ (ks : List Nat), (∀ k ∈ ks, k < xs.length) →
      lcL (.nm 2) (fNot (fCall (fnLawLike n) [(fOp2 oIx (fVar 0) (fVar 2)), (fOp2 oIx (fVar 1) (fVar 2))])) (gLawLike_e1 (fnLawLike n)) [2] (ks.map fun (k : Nat) => D.int (k : Int)) [] [ra, rb, .no] = some ([], [ra, rb, .no])
  | [], _ => rfl
  | k :: ks, hk => by
    have hlt := hk k List.mem_cons_self
    have e := like_loop n ra rb xs mk hmk hra hrb h ks fun j hj => hk j (List.mem_cons_of_mem _ hj)
    have hx := h xs[k] (List.getElem_mem hlt)
    have ha := atI_get (xs := xs) hlt
    rw [List.map_cons, lcL_cons, ← e]
    rcases hra with rfl | ⟨q, rfl⟩ <;> rcases hrb with rfl | ⟨q', rfl⟩ <;> simp [hmk, ha, hx]
theorem like_seq (n : Nat) (ra rb : Sl) (xs : List D) (mk : List D → D) (hm : mk = D.tup ∨ mk = D.lst) (hra : ra = .val (mk xs) ∨ ∃ q, ra = .own q (mk xs)) (hrb : rb = .val (mk xs) ∨ ∃ q, rb = .own q (mk xs)) (hl : xs.length ≤ 1000)
    (h : ∀ x ∈ xs, fnLawLike n [.val x, .val x] = some (.val (.bl true), [.val x, .val x])) : fnLawLike (n + 1) [ra, rb] = some (.val (.bl true), [ra, rb]) := by
  have hix : ∀ i : Int, oIx (mk xs) (.int i) = (atI xs i).map .val := fun i => by rcases hm with rfl | rfl <;> rfl
  have b1 : bEq (.lst []) (.lst []) = some true := by decide +kernel
  have hlen1 : -1000000 ≤ (xs.length : Int) := by omega
  have hlen2 : (xs.length : Int) ≤ 1000000 := by omega
  have pin : ∀ s : Sl, (s = .val (mk xs) ∨ ∃ q, s = .own q (mk xs)) → (pinS s = .val (mk xs) ∨ ∃ q, pinS s = .own q (mk xs)) := fun s hs => by
    rcases hs with rfl | ⟨q, rfl⟩
    · exact .inl rfl
    · exact .inr ⟨true, rfl⟩
  have e := like_loop n (pinS ra) (pinS rb) xs mk hix (pin ra hra) (pin rb hrb) h (List.range xs.length) fun k hk => List.mem_range.mp hk
  have e2 : (List.range xs.length).map (fun (k : Nat) => D.int (k : Int)) = rg1 xs.length := rfl
  rw [e2] at e
  rw [fnLawLike, defF_eq]
  rcases hm with rfl | rfl <;> rcases hra with rfl | ⟨q, rfl⟩ <;> rcases hrb with rfl | ⟨q', rfl⟩ <;> simp [gLawLike, hlen1, hlen2, cap] <;> simp only [pinS_val, pinS_own] at e <;> simp [e, b1]
theorem like_ints (n : Nat) (xs : List Int) (hl : xs.length ≤ 1000) (ra rb : Sl) (hra : ra = .val (lI xs) ∨ ∃ q, ra = .own q (lI xs)) (hrb : rb = .val (lI xs) ∨ ∃ q, rb = .own q (lI xs)) : fnLawLike (n + 2) [ra, rb] = some (.val (.bl true), [ra, rb]) :=
  like_seq (n + 1) ra rb (xs.map D.int) D.lst (.inr rfl) hra hrb (by simpa using hl) fun x hx => by
    obtain ⟨i, _, rfl⟩ := List.mem_map.mp hx
    exact like_int n i
theorem like_tI (n : Nat) (xs : List Int) (hl : xs.length ≤ 1000) : fnLawLike (n + 2) [.val (tI xs), .val (tI xs)] = some (.val (.bl true), [.val (tI xs), .val (tI xs)]) :=
  like_seq (n + 1) _ _ (xs.map D.int) D.tup (.inl rfl) (.inl rfl) (.inl rfl) (by simpa using hl) fun x hx => by
    obtain ⟨i, _, rfl⟩ := List.mem_map.mp hx
    exact like_int n i
end My
namespace My
open PySem L2 FL
theorem standing_ok (f p : Int) (rs : List Int) : fnStanding [.val (rulesD f p), .val (tI rs)] = some (.val (.int (afterS p (beginS f p) rs).stand), [.val (rulesD f p), .val (tI rs)]) := by
  rw [fnStanding, defF_eq]
  simp [gStanding, after_ok, st_at4]
end My
namespace My
open PySem L2 FL
theorem stOf_left_le {f p : Int} (hf : 0 ≤ f) (x : Fr) : (stOf f p x.1 x.2).left ≤ f := by
  obtain ⟨done, cur⟩ := x
  unfold stOf
  split
  · exact hf
  · simp only
    split <;> (try split) <;> simp [Gs.OVER] <;> omega
theorem Game.good {f p : Int} {rolls : List Int} {x : Fr} (g : Game f p rolls x) : GoodS p (afterS p (beginS f p) rolls) := by
  have key : ∀ (rs : List Int) (s : Gs) (z y : Fr), Lock f p s z → GoodS p s → splitS f p z rs = some y → GoodS p (afterS p s rs) := by
    intro rs
    induction rs with
    | nil => intro s z y _ h _; exact h
    | cons r rs ih =>
      intro s z y hL h e
      rw [splitS] at e
      cases hz : FL.stepF f p z r with
      | none => rw [hz] at e; cases e
      | some w =>
        rw [hz] at e
        have hc := (hL.can (r := r) g.hp).mp (by rw [hz]; rfl)
        exact ih (nextS p s r) w y (hL.step g.hp hz) (good_next g.p1 h hc.1 hc.2.1 hc.2.2) e
  exact key rolls _ _ x (Lock.begin (by have := g.f1; omega)) (good_begin g.f1) g.sp
theorem Game.left {f p : Int} {rolls : List Int} {x : Fr} (g : Game f p rolls x) : (afterS p (beginS f p) rolls).left ≤ 100 := by
  have h := g.lock.1
  rw [h]
  have := stOf_left_le (f := f) (p := p) (by have := g.f1; omega) x
  have := g.f2
  omega
/-- the state and the score of a game -/
abbrev sOf (f p : Int) (rolls : List Int) : Gs := afterS p (beginS f p) rolls
abbrev scOf (f p : Int) (rolls : List Int) : Int := scS p (beginS f p) rolls
theorem Game.scored {f p : Int} {rolls : List Int} {x : Fr} (g : Game f p rolls x) : fnScore [.val (rulesD f p), .val (tI rolls)] = some (.val (.int (scOf f p rolls)), [.val (rulesD f p), .val (tI rolls)]) :=
  score_ok f p rolls (by have := g.few; omega) fun a ha => by have := g.bounds a ha; have := g.p2; omega
end My
namespace My
open PySem L2 FL
theorem law_over_ok {f p : Int} {rolls : List Int} {x : Fr} (g : Game f p rolls x) : fnLawOver [.val (rulesD f p), .val (tI rolls)] = some (.val (.bl (decide (sOf f p rolls = Gs.OVER))), [.val (rulesD f p), .val (tI rolls)]) := by
  have hs := split_ok f p rolls (by have := g.few; omega)
  rw [g.sp] at hs
  have hL := g.lock
  have h1 : decide (sOf f p rolls = Gs.OVER) = decide (f < (x.1.length : Int) + 1) := by
    rw [decide_eq_decide]; exact hL.full g.hp
  rw [fnLawOver, defF_eq, h1]
  simp [gLawOver, hs]
end My
namespace My
open PySem L2 FL
/-- rolls that can be, from a state -/
def Runs (p : Int) : Gs → List Int → Prop
  | _, [] => True
  | s, r :: rs => s ≠ Gs.OVER ∧ 0 ≤ r ∧ r ≤ s.stand ∧ Runs p (nextS p s r) rs
theorem after_append (p : Int) (s : Gs) (a b : List Int) : afterS p s (a ++ b) = afterS p (afterS p s a) b := List.foldl_append
theorem runs_snoc {p r : Int} : ∀ {m : List Int} {s : Gs}, Runs p s (m ++ [r]) ↔ Runs p s m ∧ afterS p s m ≠ Gs.OVER ∧ 0 ≤ r ∧ r ≤ (afterS p s m).stand
  | [], s => by
    show (s ≠ Gs.OVER ∧ 0 ≤ r ∧ r ≤ s.stand ∧ True) ↔ (True ∧ s ≠ Gs.OVER ∧ 0 ≤ r ∧ r ≤ s.stand)
    constructor
    · rintro ⟨a, b, c, _⟩; exact ⟨trivial, a, b, c⟩
    · rintro ⟨_, a, b, c⟩; exact ⟨a, b, c, trivial⟩
  | q :: m, s => by
    have ih := runs_snoc (p := p) (r := r) (m := m) (s := nextS p s q)
    show (s ≠ Gs.OVER ∧ 0 ≤ q ∧ q ≤ s.stand ∧ Runs p (nextS p s q) (m ++ [r])) ↔ ((s ≠ Gs.OVER ∧ 0 ≤ q ∧ q ≤ s.stand ∧ Runs p (nextS p s q) m) ∧ afterS p (nextS p s q) m ≠ Gs.OVER ∧ 0 ≤ r ∧ r ≤ (afterS p (nextS p s q) m).stand)
    rw [ih]
    constructor
    · rintro ⟨a, b, c, d, e⟩; exact ⟨⟨a, b, c, d⟩, e⟩
    · rintro ⟨⟨a, b, c, d⟩, e⟩; exact ⟨a, b, c, d, e⟩
theorem ends_runs {p : Int} : ∀ {m : List Int} {s : Gs}, Ends p s m ↔ Runs p s m ∧ afterS p s m = Gs.OVER
  | [], s => by
    show s = Gs.OVER ↔ (True ∧ s = Gs.OVER)
    simp
  | q :: m, s => by
    have ih := ends_runs (p := p) (m := m) (s := nextS p s q)
    show (s ≠ Gs.OVER ∧ 0 ≤ q ∧ q ≤ s.stand ∧ Ends p (nextS p s q) m) ↔ ((s ≠ Gs.OVER ∧ 0 ≤ q ∧ q ≤ s.stand ∧ Runs p (nextS p s q) m) ∧ afterS p (nextS p s q) m = Gs.OVER)
    rw [ih]
    constructor
    · rintro ⟨a, b, c, d, e⟩; exact ⟨⟨a, b, c, d⟩, e⟩
    · rintro ⟨⟨a, b, c, d⟩, e⟩; exact ⟨a, b, c, d, e⟩
theorem sOf_append (f p : Int) (rolls m : List Int) : sOf f p (rolls ++ m) = afterS p (sOf f p rolls) m := after_append _ _ _ _
theorem frok_len {f p : Int} : ∀ {fs : List (List Int)} {n : Int}, FrOk f p n fs → (fs.flatten.length : Int) ≤ 2 * (f - n) + 1
  | [], n, h => by
    have h' : n = f := h
    simp; omega
  | fr :: more, n, h => by
    obtain ⟨hn, h⟩ := h
    rw [List.flatten_cons, List.length_append]
    rcases h with ⟨rfl, hg⟩ | ⟨hw, hm⟩
    · have hl : fr.length ≤ 2 := by
        match fr, hg with
        | [], _ => simp
        | [_], _ => simp
        | [_, _], _ => simp
      simp; omega
    · by_cases hl : n + 1 = f
      · have := whole_last_nil hl hm
        subst this
        have hl : fr.length ≤ 3 := by
          match fr, hw with
          | [_], _ => simp
          | [_, _], _ => simp
          | [_, _, _], _ => simp
        simp; omega
      · have ih := frok_len hm
        rw [decide_eq_false hl] at hw
        have hl : fr.length ≤ 2 := by
          match fr, hw with
          | [_], _ => simp
          | [_, _], _ => simp
          | [_, _, _], hw => cases hw.1
        omega
theorem Game.fewer {f p : Int} {rolls : List Int} {x : Fr} (g : Game f p rolls x) : (rolls.length : Int) ≤ 2 * f + 1 := by
  have := frok_len g.frok
  rw [← g.rolls_eq] at this
  omega
end My
namespace My
open PySem L2 FL
def canD (p : Int) (s : Gs) (v : Int) : Bool := decide (0 ≤ v ∧ v ≤ topS p s ∧ v ∉ gapsL s)
theorem canD_reach {p : Int} (hp : 2 ≤ p) {s : Gs} (hs : GoodS p s) (v : Int) : canD p s v = true ↔ Reach p s v := by
  unfold canD
  rw [decide_eq_true_eq, reach_iff hp hs]
  constructor
  · rintro ⟨h0, h1, h2⟩; exact ⟨h0, h1, fun z => h2 ((gapsL_iff hp hs h0).mpr z)⟩
  · rintro ⟨h0, h1, h2⟩; exact ⟨h0, h1, fun z => h2 ((gapsL_iff hp hs h0).mp z)⟩
end My
namespace My
open PySem L2 FL
/-! ## all further rolls -/
def overB (f p : Int) (rolls : List Int) : Bool := decide (sOf f p rolls = Gs.OVER)
def extsF (f p : Int) (rolls m : List Int) : List (List Int) := if overB f p (rolls ++ m) = true then [] else (List.range ((sOf f p (rolls ++ m)).stand + 1).toNat).map fun (r : Nat) => m ++ [(r : Int)]
theorem all_comp (m : List Int) (hm : m.length ≤ 900) (a0 a1 a2 a3 a4 a6 a7 : Sl) : ∀ (ks : List Nat) (acc : List D), acc.length + ks.length ≤ 1000 →
    lcL (.nm 8) (fC (.bl true)) gLawAll_e1 [8] (ks.map fun (k : Nat) => D.int (k : Int)) acc [a0, a1, a2, a3, a4, .val (tI m), a6, a7, .no] = some (acc ++ (ks.map fun (r : Nat) => m ++ [(r : Int)]).map tI, [a0, a1, a2, a3, a4, .val (tI m), a6, a7, .no])
  | [], acc, _ => by simp
  | k :: ks, acc, hl => by
    have hl' : acc.length + (ks.length + 1) ≤ 1000 := by simpa using hl
    have e := all_comp m hm a0 a1 a2 a3 a4 a6 a7 ks (acc ++ [tI (m ++ [(k : Int)])]) (by simp; omega)
    have hc : acc.length < 1000000 := by omega
    have hm2 : m.length + 1 ≤ 1000000 := by omega
    rw [List.map_cons, lcL_cons, List.map_cons, List.map_cons]
    rw [List.append_assoc, List.singleton_append] at e
    rw [← e]
    simp [gLawAll_e1, cap, hc, hm2]
theorem all_step {f p : Int} {rolls m : List Int} {x : Fr} (g : Game f p (rolls ++ m) x) (found longer : List (List Int)) (hf : found.length ≤ 500000) (hlg : longer.length ≤ 500000) (s3 s6 s7 : Sl) (h6 : FL.stored s6 = true) (h7 : FL.stored s7 = true) :
    ∃ s6' s7', FL.stored s6' = true ∧ FL.stored s7' = true ∧ gLawAll_b2 [.val (rulesD f p), .val (tI rolls), .own false (.lst (found.map tI)), s3, .own false (.lst (longer.map tI)), .val (tI m), s6, s7, .no] =
      some (.nx, [.val (rulesD f p), .val (tI rolls), .own false (.lst ((found ++ if overB f p (rolls ++ m) = true then [m] else []).map tI)), s3, .own false (.lst ((longer ++ extsF f p rolls m).map tI)), .val (tI m), s6', s7', .no]) := by
  have hfew := g.few
  have hfl : rolls.length + m.length ≤ 32 := by simpa using hfew
  have hs := split_ok f p (rolls ++ m) (by omega)
  rw [g.sp] at hs
  have hst := stands_ok p x.2
  have hL := g.lock
  have c1 : rolls.length + m.length ≤ 1000000 := by omega
  have c2 : found.length < 1000000 := by omega
  by_cases h1 : f < (x.1.length : Int) + 1
  · have ho : overB f p (rolls ++ m) = true := decide_eq_true ((hL.full g.hp).mpr h1)
    refine ⟨.own false (frD x), s7, rfl, h7, ?_⟩
    unfold extsF
    rw [if_pos ho, if_pos ho]
    simp [gLawAll_b2, hs, h1, h6, cap, c1, c2]
  · have ho : overB f p (rolls ++ m) = false := decide_eq_false fun z => h1 ((hL.full g.hp).mp z)
    obtain ⟨b0, b1⟩ := stand_range g.hp hL.2.1
    have hp2 := g.p2
    have hsd : (sOf f p (rolls ++ m)).stand = standsF p x.2 := hL.stand g.hp h1
    have r1 : -1000000 ≤ standsF p x.2 + 1 := by omega
    have r2 : standsF p x.2 + 1 ≤ 1000000 := by omega
    have hrg : rg1 (standsF p x.2 + 1).toNat = (List.range (standsF p x.2 + 1).toNat).map fun (k : Nat) => D.int (k : Int) := rfl
    have e := all_comp m (by omega) (.val (rulesD f p)) (.val (tI rolls)) (.own false (.lst (found.map tI))) s3 (.own false (.lst (longer.map tI))) (.own false (frD x)) (.val (.int (standsF p x.2))) (List.range (standsF p x.2 + 1).toNat) [] (by simp; omega)
    rw [← hrg, List.nil_append] at e
    have hlen : ((List.range (standsF p x.2 + 1).toNat).map fun (r : Nat) => m ++ [(r : Int)]).length ≤ 1000 := by simp; omega
    refine ⟨.own false (frD x), .val (.int (standsF p x.2)), rfl, rfl, ?_⟩
    unfold extsF
    rw [ho, hsd]
    simp only [Bool.false_eq_true, if_false, List.append_nil, List.map_append]
    have hlen2 : (((List.range (standsF p x.2 + 1).toNat).map fun (r : Nat) => m ++ [(r : Int)]).map tI).length ≤ 1000 := by simp; omega
    generalize ((List.range (standsF p x.2 + 1).toNat).map fun (r : Nat) => m ++ [(r : Int)]).map tI = E at e hlen2
    have c3 : longer.length + E.length ≤ 1000000 := by omega
    simp [gLawAll_b2, hs, h1, h6, h7, cap, c1, hst, r1, r2, e, c3, FL.atI_last]
theorem exts_len {f p : Int} {rolls m : List Int} {x : Fr} (g : Game f p (rolls ++ m) x) : (extsF f p rolls m).length ≤ 11 := by
  unfold extsF
  split
  · simp
  · have : (sOf f p (rolls ++ m)).stand ≤ p := (good_stand g.p1 g.good).2.1
    have := g.p2
    simp
    omega
theorem all_pass {f p : Int} {rolls : List Int} (s3 : Sl) : ∀ (ms found longer : List (List Int)) (s5 s6 s7 : Sl), (∀ m ∈ ms, ∃ x, Game f p (rolls ++ m) x) → found.length + ms.length ≤ 500000 → longer.length + 11 * ms.length ≤ 500000 → FL.stored s5 = true → FL.stored s6 = true → FL.stored s7 = true →
    ∃ s5' s6' s7', FL.stored s5' = true ∧ FL.stored s6' = true ∧ FL.stored s7' = true ∧ forL (.nm 5) gLawAll_b2 (ms.map tI) [.val (rulesD f p), .val (tI rolls), .own false (.lst (found.map tI)), s3, .own false (.lst (longer.map tI)), s5, s6, s7, .no] =
      some (.nx, [.val (rulesD f p), .val (tI rolls), .own false (.lst ((found ++ ms.filter fun m => overB f p (rolls ++ m)).map tI)), s3, .own false (.lst ((longer ++ ms.flatMap fun m => extsF f p rolls m).map tI)), s5', s6', s7', .no])
  | [], found, longer, s5, s6, s7, _, _, _, h5, h6, h7 => ⟨s5, s6, s7, h5, h6, h7, by simp⟩
  | m :: ms, found, longer, s5, s6, s7, hg, hf, hl, h5, h6, h7 => by
    obtain ⟨x, g⟩ := hg m List.mem_cons_self
    have hf' : found.length + (ms.length + 1) ≤ 500000 := by simpa using hf
    have hl' : longer.length + 11 * (ms.length + 1) ≤ 500000 := by simpa using hl
    have he := exts_len g
    obtain ⟨t6, t7, a6, a7, e⟩ := all_step g found longer (by omega) (by omega) s3 s6 s7 h6 h7
    have hfl : (found ++ if overB f p (rolls ++ m) = true then [m] else []).length ≤ found.length + 1 := by rw [List.length_append]; split <;> simp
    obtain ⟨u5, u6, u7, b5, b6, b7, e2⟩ := all_pass s3 ms (found ++ if overB f p (rolls ++ m) = true then [m] else []) (longer ++ extsF f p rolls m) (.val (tI m)) t6 t7 (fun q hq => hg q (List.mem_cons_of_mem _ hq)) (by omega) (by rw [List.length_append]; omega) rfl a6 a7
    refine ⟨u5, u6, u7, b5, b6, b7, ?_⟩
    have e0 : asg (.nm 5) (tI m) [.val (rulesD f p), .val (tI rolls), .own false (.lst (found.map tI)), s3, .own false (.lst (longer.map tI)), s5, s6, s7, .no] = some [.val (rulesD f p), .val (tI rolls), .own false (.lst (found.map tI)), s3, .own false (.lst (longer.map tI)), .val (tI m), s6, s7, .no] := by simp [h5]
    have e1 : (found ++ if overB f p (rolls ++ m) = true then [m] else []) ++ ms.filter (fun m => overB f p (rolls ++ m)) = found ++ (m :: ms).filter (fun m => overB f p (rolls ++ m)) := by
      rw [List.filter_cons, List.append_assoc]
      congr 1
      split <;> rfl
    have e3 : (longer ++ extsF f p rolls m) ++ ms.flatMap (fun m => extsF f p rolls m) = longer ++ (m :: ms).flatMap (fun m => extsF f p rolls m) := by
      rw [List.flatMap_cons, List.append_assoc]
    rw [e1, e3] at e2
    rw [List.map_cons, forL_cons, e0, ← e2]
    show forO _ _ _ (gLawAll_b2 _) = _
    rw [e]; rfl
/-! the passes -/
def openK (f p : Int) (rolls : List Int) : Nat → List (List Int)
  | 0 => [[]]
  | k + 1 => (openK f p rolls k).flatMap fun m => extsF f p rolls m
def foundK (f p : Int) (rolls : List Int) : Nat → List (List Int)
  | 0 => []
  | k + 1 => foundK f p rolls k ++ (openK f p rolls k).filter fun m => overB f p (rolls ++ m)
theorem openK_game {f p : Int} {rolls : List Int} {x : Fr} (g : Game f p rolls x) : ∀ (k : Nat), ∀ m ∈ openK f p rolls k, m.length = k ∧ ∃ y, Game f p (rolls ++ m) y
  | 0, m, hm => by
    rw [openK, List.mem_singleton] at hm
    subst hm
    exact ⟨rfl, x, by rw [List.append_nil]; exact g⟩
  | k + 1, m, hm => by
    rw [openK, List.mem_flatMap] at hm
    obtain ⟨m', h1, h2⟩ := hm
    obtain ⟨hl, y, gy⟩ := openK_game g k m' h1
    unfold extsF at h2
    split at h2
    · cases h2
    · rename_i ho
      obtain ⟨r, hr, rfl⟩ := List.mem_map.mp h2
      have hr' := List.mem_range.mp hr
      refine ⟨by simp [hl], ?_⟩
      have hL := gy.lock
      have ho' : sOf f p (rolls ++ m') ≠ Gs.OVER := fun z => ho (decide_eq_true z)
      have hc := (hL.can (r := (r : Int)) gy.hp).mpr ⟨ho', by omega, by show (r : Int) ≤ (sOf f p (rolls ++ m')).stand; omega⟩
      cases e : FL.stepF f p y (r : Int) with
      | none => rw [e] at hc; cases hc
      | some z => exact ⟨z, by rw [← List.append_assoc]; exact gy.next e⟩
theorem openK_nil {f p : Int} {rolls : List Int} {k : Nat} (h : openK f p rolls k = []) : ∀ j, openK f p rolls (k + j) = []
  | 0 => h
  | j + 1 => by
    show openK f p rolls (k + j + 1) = []
    rw [openK, openK_nil h j]; rfl
theorem foundK_stay {f p : Int} {rolls : List Int} {k : Nat} (h : openK f p rolls k = []) : ∀ j, foundK f p rolls (k + j) = foundK f p rolls k
  | 0 => rfl
  | j + 1 => by
    show foundK f p rolls (k + j + 1) = _
    rw [foundK, openK_nil h j, foundK_stay h j]; simp
theorem bNe_tups (ms : List (List Int)) : bNe (.lst (ms.map tI)) (.lst []) = some (!ms.isEmpty) := by
  rw [bNe_nil]
  · cases ms <;> rfl
  · rw [List.all_eq_true]
    intro d hd
    obtain ⟨m, _, rfl⟩ := List.mem_map.mp hd
    exact tI_lev m 18
theorem all_while {f p : Int} {rolls : List Int} {x : Fr} (g : Game f p rolls x) (B : Nat) (hB : ∀ k, (openK f p rolls k).length ≤ B ∧ (foundK f p rolls k).length ≤ B) (hB2 : B ≤ 40000) :
    ∀ (n k : Nat) (s3 s4 s5 s6 s7 : Sl), openK f p rolls (k + n) = [] → (s3 = .val (.lst ((openK f p rolls k).map tI)) ∨ s3 = .own false (.lst ((openK f p rolls k).map tI))) → FL.stored s4 = true → FL.stored s5 = true → FL.stored s6 = true → FL.stored s7 = true →
      ∃ tail, whileL gLawAll_c4 gLawAll_b3 (n + 1) [.val (rulesD f p), .val (tI rolls), .own false (.lst ((foundK f p rolls k).map tI)), s3, s4, s5, s6, s7, .no] = some (.nx, .val (rulesD f p) :: .val (tI rolls) :: .own false (.lst ((foundK f p rolls (k + n)).map tI)) :: tail) := by
  intro n
  induction n with
  | zero =>
    intro k s3 s4 s5 s6 s7 he h3 h4 h5 h6 h7
    have hb := bNe_tups (openK f p rolls k)
    have he' : openK f p rolls k = [] := he
    rw [he'] at hb h3
    have hb' : bNe (.lst []) (.lst []) = some false := hb
    rw [whileL_succ]
    rcases h3 with rfl | rfl <;> exact ⟨_, by simp [gLawAll_c4, cap, hb']; rfl⟩
  | succ n ih =>
    intro k s3 s4 s5 s6 s7 he h3 h4 h5 h6 h7
    have hb := bNe_tups (openK f p rolls k)
    rw [whileL_succ]
    by_cases ho : openK f p rolls k = []
    · have e := foundK_stay ho (n + 1)
      rw [e]
      rw [ho] at hb h3
      have hb' : bNe (.lst []) (.lst []) = some false := hb
      rcases h3 with rfl | rfl <;> exact ⟨_, by simp [gLawAll_c4, cap, hb']; rfl⟩
    · have hne : (!(openK f p rolls k).isEmpty) = true := by
        cases h : openK f p rolls k with
        | nil => exact absurd h ho
        | cons a l => rfl
      rw [hne] at hb
      obtain ⟨b1, b2⟩ := hB k
      have e1 : openK f p rolls (k + 1 + n) = [] := by rw [Nat.add_assoc, Nat.add_comm 1 n]; exact he
      have e2 : foundK f p rolls (k + (n + 1)) = foundK f p rolls (k + 1 + n) := by rw [Nat.add_assoc, Nat.add_comm 1 n]
      rw [e2]
      obtain ⟨t5, t6, t7, c5, c6, c7, ep⟩ := all_pass (.val (.lst ((openK f p rolls k).map tI))) (openK f p rolls k) (foundK f p rolls k) [] s5 s6 s7 (fun m hm => (openK_game g k m hm).2) (by omega) (by simp; omega) h5 h6 h7
      rw [List.nil_append] at ep
      obtain ⟨tail, ei⟩ := ih (k + 1) (.val (.lst ((openK f p rolls (k + 1)).map tI))) (.val (.lst ((openK f p rolls (k + 1)).map tI))) t5 t6 t7 e1 (.inl rfl) rfl c5 c6 c7
      refine ⟨tail, ?_⟩
      rw [← ei]
      have ep' : forL (.nm 5) gLawAll_b2 ((openK f p rolls k).map tI) [.val (rulesD f p), .val (tI rolls), .own false (.lst ((foundK f p rolls k).map tI)), .val (.lst ((openK f p rolls k).map tI)), .own false (.lst []), s5, s6, s7, .no] =
          some (.nx, [.val (rulesD f p), .val (tI rolls), .own false (.lst ((foundK f p rolls (k + 1)).map tI)), .val (.lst ((openK f p rolls k).map tI)), .own false (.lst ((openK f p rolls (k + 1)).map tI)), t5, t6, t7, .no]) := ep
      generalize (openK f p rolls k).map tI = OK at *
      generalize (openK f p rolls (k + 1)).map tI = OK1 at *
      rcases h3 with rfl | rfl <;> simp [gLawAll_c4, gLawAll_b3, cap, hb, h4, ep']
end My
namespace My
open PySem L2 FL
theorem openK_mem {f p : Int} {rolls : List Int} : ∀ (k : Nat) (m : List Int), m ∈ openK f p rolls k ↔ Runs p (sOf f p rolls) m ∧ m.length = k
  | 0, m => by
    rw [openK, List.mem_singleton]
    constructor
    · rintro rfl; exact ⟨trivial, rfl⟩
    · rintro ⟨_, h⟩; exact List.eq_nil_of_length_eq_zero h
  | k + 1, m => by
    rw [openK, List.mem_flatMap]
    constructor
    · rintro ⟨m', h1, h2⟩
      obtain ⟨hr, hl⟩ := (openK_mem k m').mp h1
      unfold extsF at h2
      split at h2
      · cases h2
      · rename_i ho
        obtain ⟨r, hr2, rfl⟩ := List.mem_map.mp h2
        have hr' := List.mem_range.mp hr2
        have ho' : sOf f p (rolls ++ m') ≠ Gs.OVER := fun z => ho (decide_eq_true z)
        rw [sOf_append] at ho' hr'
        exact ⟨runs_snoc.mpr ⟨hr, ho', by omega, by omega⟩, by simp [hl]⟩
    · rintro ⟨hr, hl⟩
      rcases List.eq_nil_or_concat m with rfl | ⟨m', r, rfl⟩
      · simp at hl
      · rw [List.concat_eq_append] at hr hl ⊢
        obtain ⟨h1, h2, h3, h4⟩ := runs_snoc.mp hr
        refine ⟨m', (openK_mem k m').mpr ⟨h1, by simpa using hl⟩, ?_⟩
        rw [← sOf_append] at h2 h4
        have ho : ¬ overB f p (rolls ++ m') = true := fun z => h2 (of_decide_eq_true z)
        unfold extsF
        rw [if_neg ho]
        refine List.mem_map.mpr ⟨r.toNat, List.mem_range.mpr (by omega), ?_⟩
        rw [Int.toNat_of_nonneg h3]
theorem foundK_mem {f p : Int} {rolls : List Int} : ∀ (k : Nat) (m : List Int), m ∈ foundK f p rolls k ↔ Ends p (sOf f p rolls) m ∧ m.length < k
  | 0, m => by rw [foundK]; simp
  | k + 1, m => by
    rw [foundK, List.mem_append, foundK_mem k m, List.mem_filter, openK_mem]
    have ho : overB f p (rolls ++ m) = true ↔ afterS p (sOf f p rolls) m = Gs.OVER := by
      unfold overB; rw [decide_eq_true_eq, sOf_append]
    rw [ho, ends_runs]
    constructor
    · rintro (⟨h1, h2⟩ | ⟨⟨h1, h2⟩, h3⟩)
      · exact ⟨h1, by omega⟩
      · exact ⟨⟨h1, h3⟩, by omega⟩
    · rintro ⟨h1, h2⟩
      by_cases h : m.length < k
      · exact .inl ⟨h1, h⟩
      · exact .inr ⟨⟨h1.1, by omega⟩, h1.2⟩
theorem nodup_flatMap {α β : Type} (g : α → List β) : ∀ (l : List α), l.Nodup → (∀ a ∈ l, (g a).Nodup) → (∀ a ∈ l, ∀ b ∈ l, ∀ y, y ∈ g a → y ∈ g b → a = b) → (l.flatMap g).Nodup
  | [], _, _, _ => List.nodup_nil
  | a :: l, h, h1, h2 => by
    rw [List.flatMap_cons, List.nodup_append]
    rw [List.nodup_cons] at h
    refine ⟨h1 a List.mem_cons_self, nodup_flatMap g l h.2 (fun b hb => h1 b (List.mem_cons_of_mem _ hb)) (fun b hb c hc => h2 b (List.mem_cons_of_mem _ hb) c (List.mem_cons_of_mem _ hc)), ?_⟩
    intro y hy z hz e
    subst e
    obtain ⟨b, hb, hyb⟩ := List.mem_flatMap.mp hz
    have := h2 a List.mem_cons_self b (List.mem_cons_of_mem _ hb) y hy hyb
    subst this
    exact h.1 hb
theorem openK_nodup {f p : Int} {rolls : List Int} : ∀ k, (openK f p rolls k).Nodup
  | 0 => by rw [openK]; simp
  | k + 1 => by
    rw [openK]
    refine nodup_flatMap _ _ (openK_nodup k) (fun m _ => ?_) (fun a _ b _ y hy hz => ?_)
    · unfold extsF
      split
      · exact List.nodup_nil
      · rw [List.nodup_iff_pairwise_ne, List.pairwise_map]
        refine List.nodup_range.imp ?_
        intro i j hij h
        have := List.append_cancel_left h
        simp at this
        omega
    · unfold extsF at hy hz
      split at hy
      · cases hy
      · split at hz
        · cases hz
        · obtain ⟨r, _, rfl⟩ := List.mem_map.mp hy
          obtain ⟨r', _, e⟩ := List.mem_map.mp hz
          have := List.append_inj_left' e rfl
          exact this.symm
theorem foundK_nodup {f p : Int} {rolls : List Int} : ∀ k, (foundK f p rolls k).Nodup
  | 0 => by rw [foundK]; exact List.nodup_nil
  | k + 1 => by
    rw [foundK, List.nodup_append]
    refine ⟨foundK_nodup k, (openK_nodup k).filter _, fun a ha b hb e => ?_⟩
    subst e
    have h1 := ((foundK_mem k a).mp ha).2
    have h2 := ((openK_mem k a).mp (List.mem_filter.mp hb).1).2
    omega
theorem openK_len {f p : Int} {rolls : List Int} {x : Fr} (g : Game f p rolls x) : ∀ k, (openK f p rolls k).length ≤ (p.toNat + 1) ^ k
  | 0 => by simp [openK]
  | k + 1 => by
    rw [openK, List.length_flatMap]
    have ih := openK_len g k
    have h1 : ((openK f p rolls k).map fun m => (extsF f p rolls m).length).sum ≤ (p.toNat + 1) * ((openK f p rolls k).map fun m => (extsF f p rolls m).length).length := sum_le_mul fun a ha => by
      obtain ⟨m, hm, rfl⟩ := List.mem_map.mp ha
      obtain ⟨_, y, gy⟩ := openK_game g k m hm
      unfold extsF
      split
      · simp
      · have h2 : (sOf f p (rolls ++ m)).stand ≤ p := (good_stand gy.p1 gy.good).2.1
        have h3 : 0 ≤ (sOf f p (rolls ++ m)).stand := (good_stand gy.p1 gy.good).1
        simp
        omega
    rw [List.length_map] at h1
    refine Nat.le_trans h1 ?_
    rw [Nat.pow_succ, Nat.mul_comm]
    exact Nat.mul_le_mul_right _ ih
end My
namespace My
open PySem L2 FL
theorem openK_end {f p : Int} {rolls : List Int} {x : Fr} (g : Game f p rolls x) {k : Nat} (h : 2 * f + 1 < (rolls.length : Int) + (k : Int)) : openK f p rolls k = [] := by
  cases e : openK f p rolls k with
  | nil => rfl
  | cons m l =>
    obtain ⟨h1, y, gy⟩ := openK_game g k m (by rw [e]; exact List.mem_cons_self)
    have := gy.fewer
    rw [List.length_append] at this
    omega
theorem foundK_len {f p : Int} {rolls : List Int} {x : Fr} (g : Game f p rolls x) {K : Nat} (hE : ∀ k, K < k → openK f p rolls k = []) : ∀ k, (foundK f p rolls k).length ≤ (min k (K + 1)) * (p.toNat + 1) ^ K
  | 0 => by simp [foundK]
  | k + 1 => by
    have ih := foundK_len g hE k
    rw [foundK, List.length_append]
    have h1 := List.length_filter_le (fun m => overB f p (rolls ++ m)) (openK f p rolls k)
    by_cases hk : k ≤ K
    · have h2 := openK_len g k
      have h3 : (p.toNat + 1) ^ k ≤ (p.toNat + 1) ^ K := Nat.pow_le_pow_right (by omega) hk
      have e1 : min k (K + 1) = k := by omega
      have e2 : min (k + 1) (K + 1) = k + 1 := by omega
      rw [e1] at ih
      rw [e2, Nat.add_mul, Nat.one_mul]
      omega
    · have h2 := hE k (by omega)
      rw [h2] at h1 ⊢
      have e1 : min k (K + 1) = K + 1 := by omega
      have e2 : min (k + 1) (K + 1) = K + 1 := by omega
      rw [e1] at ih
      rw [e2]
      simp at h1 ⊢
      omega
def geo (q : Nat) : Nat → Nat
  | 0 => 0
  | k + 1 => geo q k + q ^ k
theorem foundK_geo {f p : Int} {rolls : List Int} {x : Fr} (g : Game f p rolls x) : ∀ k, (foundK f p rolls k).length ≤ geo (p.toNat + 1) k
  | 0 => by simp [foundK, geo]
  | k + 1 => by
    have ih := foundK_geo g k
    have h1 := List.length_filter_le (fun m => overB f p (rolls ++ m)) (openK f p rolls k)
    have h2 := openK_len g k
    rw [foundK, List.length_append, geo]
    omega
theorem geo_mono {a b : Nat} (h : a ≤ b) : ∀ k, geo a k ≤ geo b k
  | 0 => Nat.le_refl _
  | k + 1 => by
    have := geo_mono h k
    have h2 : a ^ k ≤ b ^ k := Nat.pow_le_pow_left h k
    rw [geo, geo]; omega
theorem all_bound {f p : Int} {rolls : List Int} {x : Fr} (g : Game f p rolls x) {K : Nat} (hE : ∀ k, K < k → openK f p rolls k = []) (k : Nat) : (openK f p rolls k).length ≤ (K + 1) * (p.toNat + 1) ^ K ∧ (foundK f p rolls k).length ≤ (K + 1) * (p.toNat + 1) ^ K := by
  constructor
  · by_cases hk : k ≤ K
    · have h2 := openK_len g k
      have h3 : (p.toNat + 1) ^ k ≤ (p.toNat + 1) ^ K := Nat.pow_le_pow_right (by omega) hk
      have h4 : 1 * (p.toNat + 1) ^ K ≤ (K + 1) * (p.toNat + 1) ^ K := Nat.mul_le_mul_right _ (by omega)
      omega
    · rw [hE k (by omega)]; simp
  · have h1 := foundK_len g hE k
    have h2 : (min k (K + 1)) * (p.toNat + 1) ^ K ≤ (K + 1) * (p.toNat + 1) ^ K := Nat.mul_le_mul_right _ (by omega)
    omega
theorem tupsI_map : ∀ ms : List (List Int), tupsI (ms.map tI) = some ms
  | [] => rfl
  | m :: ms => by
    rw [List.map_cons, tupsI, intsOf_map, tupsI_map ms]; rfl
theorem sort_tups (ms : List (List Int)) (h : ms.length < 2 ∨ ∀ m ∈ ms, m ≠ []) : oSortA [.lst (ms.map tI)] = some (.own (.lst ((sortT ms).map tI))) := by
  cases ms with
  | nil =>
    have e : sortT [] = [] := by unfold sortT; simp
    have e2 : sortI [] = [] := by unfold sortI; simp
    have h0 : oSortA [.lst []] = some (.own (.lst ((sortI []).map .int))) := rfl
    rw [e2] at h0
    rw [e]
    exact h0
  | cons m ms =>
    have h1 : intsOf ((m :: ms).map tI) = none := rfl
    have h0 : ∀ ds, intsOf ds = none → oSortA [.lst ds] = (tupsI ds).bind fun nss => if nss.length < 2 ∨ nss.all (fun ns => !ns.isEmpty) = true then some (.own (.lst ((sortT nss).map fun ns => .tup (ns.map .int)))) else none := fun ds hd => by
      unfold oSortA
      simp only [hd]
    rw [h0 _ h1, tupsI_map]
    show (if _ then _ else _) = _
    rw [if_pos]
    rcases h with h | h
    · exact .inl h
    · refine .inr (List.all_eq_true.mpr fun q hq => ?_)
      cases q with
      | nil => exact absurd rfl (h _ hq)
      | cons _ _ => rfl
theorem law_all_ok {f p : Int} {rolls : List Int} {x : Fr} (g : Game f p rolls x) {K : Nat} (hE : ∀ k, K < k → openK f p rolls k = []) (hK2 : K ≤ 900) (hB : (K + 1) * (p.toNat + 1) ^ K ≤ 40000) :
    ∃ A : List (List Int), fnLawAll [.val (rulesD f p), .val (tI rolls)] = some (.own (.lst (A.map tI)), [.val (rulesD f p), .val (tI rolls)]) ∧ (∀ m, m ∈ A ↔ Ends p (sOf f p rolls) m) ∧ A.Nodup ∧ (A.Pairwise fun a b => lexI b a = false) ∧ A.length ≤ 40000 ∧ A.length ≤ geo (p.toNat + 1) (K + 1) := by
  have hb := all_bound g hE
  obtain ⟨tail, e⟩ := all_while g _ hb hB 999 0 (.own false (.lst ((openK f p rolls 0).map tI))) .no .no .no .no (hE _ (by omega)) (.inr rfl) rfl rfl rfl rfl
  rw [Nat.zero_add] at e
  have hmem : ∀ m, m ∈ foundK f p rolls 999 ↔ Ends p (sOf f p rolls) m := fun m => by
    rw [foundK_mem]
    refine ⟨fun h => h.1, fun h => ⟨h, ?_⟩⟩
    have h2 : m ∈ openK f p rolls m.length := (openK_mem _ _).mpr ⟨(ends_runs.mp h).1, rfl⟩
    obtain ⟨_, y, gy⟩ := openK_game g _ m h2
    have := gy.few
    simp at this
    omega
  have hnd := foundK_nodup (f := f) (p := p) (rolls := rolls) 999
  have hlen := (hb 999).2
  have hsort : (foundK f p rolls 999).length < 2 ∨ ∀ m ∈ foundK f p rolls 999, m ≠ [] := by
    by_cases ho : sOf f p rolls = Gs.OVER
    · refine .inl ?_
      have hall : ∀ m ∈ foundK f p rolls 999, m = [] := fun m hm => by
        have := (hmem m).mp hm
        rw [ho] at this
        cases m with
        | nil => rfl
        | cons r rs => exact absurd rfl this.1
      generalize foundK f p rolls 999 = L at hall hnd
      match L, hall, hnd with
      | [], _, _ => simp
      | [_], _, _ => simp
      | a :: b :: l, hall, hnd =>
        have h1 := hall a (by simp)
        have h2 := hall b (by simp)
        rw [h1, h2] at hnd
        simp at hnd
    · refine .inr fun m hm z => ho ?_
      subst z
      exact (hmem []).mp hm
  refine ⟨sortT (foundK f p rolls 999), ?_, fun m => ?_, ?_, sortT_sorted _, ?_, ?_⟩
  · have hst := sort_tups _ hsort
    have e' : whileL gLawAll_c4 gLawAll_b3 1000 [.val (rulesD f p), .val (tI rolls), .own false (.lst []), .own false (.lst [.tup []]), .no, .no, .no, .no, .no] = some (.nx, .val (rulesD f p) :: .val (tI rolls) :: .own false (.lst ((foundK f p rolls 999).map tI)) :: tail) := e
    rw [fnLawAll, defF_eq]
    generalize (foundK f p rolls 999).map tI = L at *
    simp [gLawAll, cap, st_while, e', hst]
  · rw [(sortT_perm _).mem_iff]; exact hmem m
  · exact (sortT_perm _).nodup_iff.mpr hnd
  · rw [(sortT_perm _).length_eq]; omega
  · rw [(sortT_perm _).length_eq]
    have e0 : openK f p rolls (K + 1) = [] := hE _ (by omega)
    have e1 := foundK_stay e0 (999 - (K + 1))
    have e2 : K + 1 + (999 - (K + 1)) = 999 := by omega
    rw [e2] at e1
    rw [e1]
    exact foundK_geo g _
end My
namespace My
open PySem L2 FL
theorem runs_rest {p : Int} (hp : 2 ≤ p) : ∀ {m : List Int} {s : Gs}, GoodS p s → Runs p s m → m.length ≤ restS s
  | [], _, _, _ => Nat.zero_le _
  | r :: m, s, hs, h => by
    obtain ⟨h1, h2, h3, h4⟩ := h
    have ih := runs_rest hp (good_next hp hs h1 h2 h3) h4
    have := rest_step (r := r) hp hs h1
    rw [List.length_cons]; omega
theorem openK_rest {f p : Int} {rolls : List Int} {x : Fr} (g : Game f p rolls x) {k : Nat} (h : restS (sOf f p rolls) < k) : openK f p rolls k = [] := by
  cases e : openK f p rolls k with
  | nil => rfl
  | cons m l =>
    obtain ⟨h1, h2⟩ := (openK_mem k m).mp (by rw [e]; exact List.mem_cons_self)
    have := runs_rest g.p1 (s := sOf f p rolls) g.good h1
    omega
end My
namespace My
open PySem L2 FL
/-! ## totals by all further rolls -/
theorem sc_append (p : Int) : ∀ (a b : List Int) (s : Gs), scS p s (a ++ b) = scS p s a + scS p (afterS p s a) b
  | [], b, s => by
    show scS p s b = 0 + scS p s b
    omega
  | r :: a, b, s => by
    rw [List.cons_append, scS, scS, sc_append p a b]
    show _ = _ + scS p (afterS p (nextS p s r) a) b
    omega
theorem gap_lt {p : Int} (hp : 2 ≤ p) {s : Gs} (hs : GoodS p s) {v : Int} (h : gapS p s v) : v < topS p s := by
  obtain ⟨n, m, l, part, t⟩ := s
  cases part with
  | first =>
    obtain ⟨g1, g2, g3⟩ := hs
    obtain ⟨h1, h2⟩ := h
    simp only at g1 g2 g3 h1 h2
    subst g3 h1
    unfold gapsFirst at h2
    simp only [topS]
    rcases g2 with ⟨rfl, rfl⟩ | ⟨rfl, rfl⟩ | ⟨rfl, rfl⟩ | ⟨rfl, rfl⟩ <;> omega
  | second =>
    obtain ⟨g1, g2, g3, g4, g5⟩ := hs
    obtain ⟨h1, h2, h3, h4⟩ := h
    simp only at g1 g2 g3 g4 g5 h1 h2 h3 h4
    subst h1 h2
    simp only [topS]
    omega
  | _ => exact h.elim
theorem top_nonneg {p : Int} (hp : 2 ≤ p) {s : Gs} (hs : GoodS p s) : 0 ≤ topS p s := by
  obtain ⟨n, m, l, part, t⟩ := s
  cases part with
  | first =>
    obtain ⟨g1, g2, g3⟩ := hs
    simp only at g1 g2 g3
    subst g3
    have h1 : 0 ≤ t * n := Int.mul_nonneg (by omega) (by omega)
    have h2 : 0 ≤ t * (m + l) := Int.mul_nonneg (by omega) (by unfold Bon at g2; omega)
    simp only [topS]
    omega
  | second =>
    obtain ⟨g1, g2, g3, g4, g5⟩ := hs
    simp only at g1 g2 g3 g4 g5
    have h1 : 0 ≤ p * (n - 1) := Int.mul_nonneg (by omega) (by omega)
    have h2 : 0 ≤ t * (1 + m) := Int.mul_nonneg (by omega) (by omega)
    simp only [topS]
    omega
  | two =>
    obtain ⟨g1, g2, g3, g4⟩ := hs
    simp only at g1 g2 g3 g4
    have h2 : 0 ≤ p * (1 + m) := Int.mul_nonneg (by omega) (by omega)
    simp only [topS]
    omega
  | one => obtain ⟨g1, g2, g3, g4, g5⟩ := hs; simp only at g4; simp only [topS]; omega
  | over => simp [topS]
theorem reach_zero {p : Int} (hp : 2 ≤ p) {s : Gs} (hs : GoodS p s) : Reach p s 0 := by
  rw [reach_iff hp hs]
  refine ⟨by omega, top_nonneg hp hs, fun h => ?_⟩
  obtain ⟨n, m, l, part, t⟩ := s
  cases part with
  | first => obtain ⟨h1, h2⟩ := h; unfold gapsFirst at h2; simp only at h2; omega
  | second => obtain ⟨h1, h2, h3, h4⟩ := h; omega
  | _ => exact h
theorem reach_top {p : Int} (hp : 2 ≤ p) {s : Gs} (hs : GoodS p s) : Reach p s (topS p s) := by
  rw [reach_iff hp hs]
  refine ⟨top_nonneg hp hs, Int.le_refl _, fun h => ?_⟩
  have := gap_lt hp hs h
  omega
/-- the totals of all further rolls -/
def totF (f p : Int) (rolls : List Int) (A : List (List Int)) : List Int := A.map fun m => scOf f p (rolls ++ m)
theorem tot_mem {f p : Int} {rolls : List Int} {A : List (List Int)} (hA : ∀ m, m ∈ A ↔ Ends p (sOf f p rolls) m) (v : Int) : v ∈ totF f p rolls A ↔ Reach p (sOf f p rolls) (v - scOf f p rolls) := by
  unfold totF
  rw [List.mem_map]
  constructor
  · rintro ⟨m, hm, rfl⟩
    exact ⟨m, (hA m).mp hm, by
      have := sc_append p rolls m (beginS f p)
      show scS p (afterS p (beginS f p) rolls) m = scS p (beginS f p) (rolls ++ m) - scS p (beginS f p) rolls
      omega⟩
  · rintro ⟨m, hm, e⟩
    refine ⟨m, (hA m).mpr hm, ?_⟩
    have := sc_append p rolls m (beginS f p)
    have e' : scS p (afterS p (beginS f p) rolls) m = v - scS p (beginS f p) rolls := e
    show scS p (beginS f p) (rolls ++ m) = v
    omega
theorem tot_min {f p : Int} {rolls : List Int} {x : Fr} (g : Game f p rolls x) {A : List (List Int)} (hA : ∀ m, m ∈ A ↔ Ends p (sOf f p rolls) m) : totF f p rolls A ≠ [] ∧ minI (totF f p rolls A) = scOf f p rolls ∧ maxI (totF f p rolls A) = scOf f p rolls + topS p (sOf f p rolls) := by
  have hg : GoodS p (sOf f p rolls) := g.good
  have h0 : scOf f p rolls ∈ totF f p rolls A := (tot_mem hA _).mpr (by rw [Int.sub_self]; exact reach_zero g.p1 hg)
  have h1 : scOf f p rolls + topS p (sOf f p rolls) ∈ totF f p rolls A := (tot_mem hA _).mpr (by
    have : scOf f p rolls + topS p (sOf f p rolls) - scOf f p rolls = topS p (sOf f p rolls) := by omega
    rw [this]; exact reach_top g.p1 hg)
  have hne : totF f p rolls A ≠ [] := fun z => by rw [z] at h0; cases h0
  obtain ⟨a1, a2⟩ := minI_mem hne
  obtain ⟨b1, b2⟩ := maxI_mem hne
  have c1 := (reach_iff g.p1 hg _).mp ((tot_mem hA _).mp a1)
  have c2 := (reach_iff g.p1 hg _).mp ((tot_mem hA _).mp b1)
  have d1 := a2 _ h0
  have d2 := b2 _ h1
  exact ⟨hne, by omega, by omega⟩
theorem tot_can {f p : Int} {rolls : List Int} {x : Fr} (g : Game f p rolls x) {A : List (List Int)} (hA : ∀ m, m ∈ A ↔ Ends p (sOf f p rolls) m) (v : Int) : canD p (sOf f p rolls) (v - scOf f p rolls) = decide (v ∈ totF f p rolls A) := by
  rw [Bool.eq_iff_iff, canD_reach g.p1 g.good, decide_eq_true_eq, tot_mem hA]
end My
namespace My
open PySem L2 FL
theorem next_left {p r : Int} {s : Gs} (h : 0 ≤ s.left) : (nextS p s r).left ≤ s.left := by
  unfold nextS
  (repeat' split) <;> (try simp only [Gs.OVER]) <;> omega
theorem good_left0 {p : Int} {s : Gs} (hg : GoodS p s) : 0 ≤ s.left := by
  obtain ⟨n', m', l', part, t'⟩ := s
  cases part with
  | first => have := hg.1; simp only at this ⊢; omega
  | second => have := hg.1; simp only at this ⊢; omega
  | two => have := hg.1; simp only at this ⊢; omega
  | one => have := hg.1; simp only at this ⊢; omega
  | over =>
    have hg' : (⟨n', m', l', .over, t'⟩ : Gs) = Gs.OVER := hg
    rw [hg']; decide
theorem sc_bound (p : Int) : ∀ (rs : List Int) (s : Gs), 0 ≤ s.more → s.more ≤ 2 → 0 ≤ s.later → s.later ≤ 1 → (∀ r ∈ rs, 0 ≤ r ∧ r ≤ 10) → 0 ≤ scS p s rs ∧ scS p s rs ≤ 30 * (rs.length : Int)
  | [], _, _, _, _, _, _ => by simp [scS]
  | r :: rs, s, h1, h2, h3, h4, hr => by
    have hr0 := hr r List.mem_cons_self
    have ih := sc_bound p rs (nextS p s r) (by unfold nextS; (repeat' split) <;> (try simp [Gs.OVER]) <;> (try omega)) (by unfold nextS; (repeat' split) <;> (try simp [Gs.OVER]) <;> (try omega)) (by unfold nextS; (repeat' split) <;> (try simp [Gs.OVER]) <;> (try omega)) (by unfold nextS; (repeat' split) <;> (try simp [Gs.OVER]) <;> (try omega)) fun q hq => hr q (List.mem_cons_of_mem _ hq)
    rw [scS, List.length_cons]
    have hm : s.more = 0 ∨ s.more = 1 ∨ s.more = 2 := by omega
    rcases hm with h | h | h <;> rw [h] <;> omega
theorem Game.sc_bound {f p : Int} {rolls : List Int} {x : Fr} (g : Game f p rolls x) : 0 ≤ scOf f p rolls ∧ scOf f p rolls ≤ 960 := by
  have := My.sc_bound p rolls (beginS f p) (by show (0 : Int) ≤ 0; decide) (by show (0 : Int) ≤ 2; decide) (by show (0 : Int) ≤ 0; decide) (by show (0 : Int) ≤ 1; decide) fun r hr => by
    have := g.bounds r hr
    have := g.p2
    omega
  have := g.few
  show 0 ≤ scS p (beginS f p) rolls ∧ scS p (beginS f p) rolls ≤ 960
  omega
theorem Game.left10 {f p : Int} {rolls : List Int} {x : Fr} (g : Game f p rolls x) : (sOf f p rolls).left ≤ 10 := by
  have h := g.lock.1
  show (afterS p (beginS f p) rolls).left ≤ 10
  rw [h]
  have := stOf_left_le (f := f) (p := p) (by have := g.f1; omega) x
  have := g.f2
  omega
theorem top_bound {p : Int} (hp : 2 ≤ p) (hp2 : p ≤ 10) {s : Gs} (hs : GoodS p s) (hl : s.left ≤ 10) : topS p s ≤ 400 := by
  obtain ⟨n, m, l, part, t⟩ := s
  cases part with
  | first =>
    obtain ⟨g1, g2, g3⟩ := hs
    simp only at g1 g2 g3 hl
    subst g3
    have h1 : t * n ≤ 10 * 10 := Int.mul_le_mul hp2 hl (by omega) (by omega)
    have h2 : t * (m + l) ≤ 10 * 3 := Int.mul_le_mul hp2 (by unfold Bon at g2; omega) (by unfold Bon at g2; omega) (by omega)
    simp only [topS]
    omega
  | second =>
    obtain ⟨g1, g2, g3, g4, g5⟩ := hs
    simp only at g1 g2 g3 g4 g5 hl
    have h1 : p * (n - 1) ≤ 10 * 10 := Int.mul_le_mul hp2 (by omega) (by omega) (by omega)
    have h2 : t * (1 + m) ≤ 10 * 2 := Int.mul_le_mul (by omega) (by omega) (by omega) (by omega)
    simp only [topS]
    omega
  | two =>
    obtain ⟨g1, g2, g3, g4⟩ := hs
    simp only at g1 g2 g3 g4
    have h2 : p * (1 + m) ≤ 10 * 2 := Int.mul_le_mul hp2 (by omega) (by omega) (by omega)
    simp only [topS]
    omega
  | one => obtain ⟨g1, g2, g3, g4, g5⟩ := hs; simp only at g4 g5; simp only [topS]; omega
  | over => simp [topS]
end My
namespace My
open PySem L2 FL
/-- rolls that end a game make a game -/
theorem Game.ended {f p : Int} {rolls : List Int} {x : Fr} (g : Game f p rolls x) {m : List Int} (hm : Ends p (sOf f p rolls) m) : ∃ y, Game f p (rolls ++ m) y ∧ sOf f p (rolls ++ m) = Gs.OVER := by
  have key : ∀ (m : List Int) (rolls : List Int) (x : Fr), Game f p rolls x → Ends p (sOf f p rolls) m → ∃ y, Game f p (rolls ++ m) y ∧ sOf f p (rolls ++ m) = Gs.OVER := by
    intro m
    induction m with
    | nil => intro rolls x g h; rw [List.append_nil]; exact ⟨x, g, h⟩
    | cons r m ih =>
      intro rolls x g h
      obtain ⟨h1, h2, h3, h4⟩ := h
      have hL := g.lock
      have hc := (hL.can (r := r) g.hp).mpr ⟨h1, h2, h3⟩
      cases e : FL.stepF f p x r with
      | none => rw [e] at hc; cases hc
      | some z =>
        have g2 := g.next e
        have e2 : sOf f p (rolls ++ [r]) = nextS p (sOf f p rolls) r := by
          show afterS p (beginS f p) (rolls ++ [r]) = _
          unfold afterS
          rw [List.foldl_append]; rfl
        rw [← e2] at h4
        obtain ⟨y, g3, h5⟩ := ih _ z g2 h4
        rw [List.append_assoc] at g3 h5
        exact ⟨y, g3, h5⟩
  exact key m rolls x g hm
end My
namespace My
open PySem L2 FL
theorem runs_of {f p : Int} (hp : 0 < p) : ∀ {m : List Int} {s : Gs} {x y : Fr}, Lock f p s x → splitS f p x m = some y → Runs p s m
  | [], _, _, _, _, _ => trivial
  | r :: m, s, x, y, h, e => by
    rw [splitS] at e
    cases hz : FL.stepF f p x r with
    | none => rw [hz] at e; cases e
    | some z =>
      rw [hz] at e
      have hc := (h.can (r := r) hp).mp (by rw [hz]; rfl)
      exact ⟨hc.1, hc.2.1, hc.2.2, runs_of hp (m := m) (h.step hp hz) e⟩
theorem Game.ends {f p : Int} {rolls m : List Int} {x y : Fr} (g : Game f p rolls x) (g2 : Game f p (rolls ++ m) y) (ho : sOf f p (rolls ++ m) = Gs.OVER) : Ends p (sOf f p rolls) m := by
  have h := g2.sp
  rw [splitS_append, g.sp] at h
  have hr := runs_of g.hp g.lock (m := m) (y := y) h
  rw [sOf_append] at ho
  exact ends_runs.mpr ⟨hr, ho⟩
/-- up to 25 more rolls end each game -/
theorem further_over (f p : Int) (t : Tape) (rolls : List Int) (x : Fr) (g : Game f p rolls x) :
    ∃ (t' : Tape) (more : List Int) (y : Fr), fnLawFurther [.own false t.d, .val (rulesD f p), .val (tI rolls), .val (.int 25)] = some (.val (tI (rolls ++ more)), [.own false t'.d, .val (rulesD f p), .val (tI rolls), .val (.int 25)]) ∧
      Game f p (rolls ++ more) y ∧ sOf f p (rolls ++ more) = Gs.OVER ∧ Ends p (sOf f p rolls) more := by
  obtain ⟨t', more, y, e, g2, _, q⟩ := further_ok f p 25 t rolls x g (by decide) (by decide)
  have ho : sOf f p (rolls ++ more) = Gs.OVER := by
    rcases q with q | q
    · exact (g2.lock.full g2.hp).mpr q
    · have h1 := g2.fewer
      have h2 := g2.f2
      rw [List.length_append, q] at h1
      have : (25 : Int).toNat = 25 := rfl
      omega
  exact ⟨t', more, y, e, g2, ho, g.ends g2 ho⟩
theorem game_over (f p : Int) (t : Tape) (f1 : 1 ≤ f) (f2 : f ≤ 10) (p1 : 2 ≤ p) (p2 : p ≤ 10) :
    ∃ (t' : Tape) (rolls : List Int) (y : Fr), fnLawGame [.own false t.d, .val (rulesD f p)] = some (.val (tI rolls), [.own false t'.d, .val (rulesD f p)]) ∧ Game f p rolls y ∧ sOf f p rolls = Gs.OVER := by
  obtain ⟨t', rolls, y, e, g, q⟩ := game_ok f p t f1 f2 p1 p2
  refine ⟨t', rolls, y, e, g, ?_⟩
  rcases q with q | q
  · exact (g.lock.full g.hp).mpr q
  · have h1 := g.fewer
    rw [q] at h1
    omega
end My
namespace My
open PySem L2 FL
theorem game_of {f p : Int} {rolls : List Int} (f1 : 1 ≤ f) (f2 : f ≤ 10) (p1 : 2 ≤ p) (p2 : p ≤ 10) (h : (splitS f p ([], []) rolls).isSome = true) : ∃ x, Game f p rolls x ∧ splitS f p ([], []) rolls = some x := by
  cases e : splitS f p ([], []) rolls with
  | none => rw [e] at h; cases h
  | some x => exact ⟨x, ⟨f1, f2, p1, p2, e⟩, rfl⟩
end My
namespace My
open PySem L2 FL
/-! ## dicts -/
theorem inD_eq (b : Bool) (ks : List D) (kvs : List (List Key × D)) : oInD b (.tup ks) (.dic kvs) = (toKey ks).map fun k => .val (.bl (if b then !(valD kvs k).isSome else (valD kvs k).isSome)) := rfl
theorem ixD_eq (kvs : List (List Key × D)) (ks : List D) : oIx (.dic kvs) (.tup ks) = (toKey ks).bind fun k => (valD kvs k).map .val := rfl
theorem valD_map (k : List Key) (v : D) : ∀ kvs : List (List Key × D), (kvs.any fun kv => decide (kv.1 = k)) = true → valD (kvs.map fun kv => if kv.1 = k then (kv.1, v) else kv) k = some v
  | [], h => by cases h
  | kv :: kvs, h => by
    unfold valD
    rw [List.map_cons, List.find?_cons]
    by_cases hk : kv.1 = k
    · simp [hk]
    · rw [List.any_cons, decide_eq_false hk, Bool.false_or] at h
      have ih := valD_map k v kvs h
      unfold valD at ih
      simp [hk]
      simpa using ih
theorem valD_none {kvs : List (List Key × D)} {k : List Key} (h : ¬ (kvs.any fun kv => decide (kv.1 = k)) = true) : valD kvs k = none := by
  unfold valD
  rw [List.find?_eq_none.mpr fun kv hm => ?_]
  · rfl
  · intro hk
    exact h (List.any_eq_true.mpr ⟨kv, hm, hk⟩)
theorem valD_put (kvs : List (List Key × D)) (k : List Key) (v : D) : valD (putD kvs k v) k = some v := by
  unfold putD
  split
  · rename_i h; exact valD_map k v kvs h
  · rename_i h
    have hn := valD_none h
    unfold valD at hn ⊢
    rw [List.find?_append]
    have : kvs.find? (fun kv => decide (kv.1 = k)) = none := by
      cases e : kvs.find? (fun kv => decide (kv.1 = k)) with
      | none => rfl
      | some q => rw [e] at hn; cases hn
    rw [this]; simp
theorem put_mem {kvs : List (List Key × D)} {k : List Key} {v : D} {kv : List Key × D} (h : kv ∈ putD kvs k v) : kv ∈ kvs ∨ kv = (k, v) := by
  unfold putD at h
  split at h
  · obtain ⟨q, hq, rfl⟩ := List.mem_map.mp h
    by_cases hk : q.1 = k
    · right; rw [if_pos hk, hk]
    · left; rw [if_neg hk]; exact hq
  · rcases List.mem_append.mp h with h | h
    · exact .inl h
    · exact .inr (List.mem_singleton.mp h)
theorem put_keys (kvs : List (List Key × D)) (k : List Key) (v : D) (h : (kvs.map (·.1)).Nodup) : ((putD kvs k v).map (·.1)).Nodup := by
  unfold putD
  split
  · have : (kvs.map fun kv => if kv.1 = k then (kv.1, v) else kv).map (·.1) = kvs.map (·.1) := by
      rw [List.map_map]
      apply List.map_congr_left
      intro kv _
      show (if kv.1 = k then (kv.1, v) else kv).1 = kv.1
      split <;> rfl
    rw [this]; exact h
  · rename_i hn
    rw [List.map_append, List.nodup_append]
    refine ⟨h, by simp, fun a ha b hb e => ?_⟩
    subst e
    obtain ⟨q, hq, rfl⟩ := List.mem_map.mp ha
    have : q.1 = k := by simpa using hb
    exact hn (List.any_eq_true.mpr ⟨q, hq, decide_eq_true this⟩)
theorem nodup_len {α : Type} [DecidableEq α] : ∀ {l m : List α}, l.Nodup → (∀ a ∈ l, a ∈ m) → l.length ≤ m.length
  | [], _, _, _ => Nat.zero_le _
  | a :: l, m, h, hs => by
    rw [List.nodup_cons] at h
    have ha := hs a List.mem_cons_self
    have := nodup_len (l := l) (m := m.erase a) h.2 fun b hb => by
      have hne : b ≠ a := fun e => h.1 (e ▸ hb)
      exact (List.mem_erase_of_ne hne).mpr (hs b (List.mem_cons_of_mem _ hb))
    rw [List.length_erase_of_mem ha] at this
    have hpos := List.length_pos_of_mem ha
    rw [List.length_cons]; omega
end My
namespace My
open PySem L2 FL
/-! ## counts, kept in a dict -/
theorem st_at3 (s : Gs) : oIx (stD s) (.int 3) = some (.val (.str s.part.s)) := by simp [stD]
def keyS (s : Gs) : List Key := [.inl s.left, .inr s.part.s, .inl s.stand]
abbrev keyD (s : Gs) : List D := [.int s.left, .str s.part.s, .int s.stand]
theorem toKey_keyS (s : Gs) : toKey (keyD s) = some (keyS s) := by
  unfold toKey
  rw [if_neg]
  · rfl
  · simp [eqDs, overD]
theorem keyS_core {s s' : Gs} : keyS s = keyS s' ↔ core s = core s' := by
  unfold keyS core
  constructor
  · intro h
    simp only [List.cons.injEq, Sum.inl.injEq, Sum.inr.injEq] at h
    simp only [Prod.mk.injEq]
    exact ⟨h.1, Part.s_inj.mp h.2.1, h.2.2.1⟩
  · intro h
    simp only [Prod.mk.injEq] at h
    rw [h.1, h.2.1, h.2.2]
def allKeys : List (List Key) := (List.range 11).flatMap fun (l : Nat) => [Part.first, Part.second, Part.two, Part.one, Part.over].flatMap fun q => (List.range 11).map fun (t : Nat) => [.inl (l : Int), .inr q.s, .inl (t : Int)]
theorem allKeys_len : allKeys.length = 605 := by
  unfold allKeys
  simp [List.length_flatMap]
  rfl
theorem key_all {p : Int} (hp : 2 ≤ p) (hp2 : p ≤ 10) {s : Gs} (hs : GoodS p s) (hl : s.left ≤ 10) (hl0 : 0 ≤ s.left) : keyS s ∈ allKeys := by
  obtain ⟨g1, g2, g3, g4⟩ := good_stand hp hs
  unfold allKeys keyS
  rw [List.mem_flatMap]
  refine ⟨s.left.toNat, List.mem_range.mpr (by omega), ?_⟩
  rw [List.mem_flatMap]
  refine ⟨s.part, by cases s.part <;> simp, ?_⟩
  refine List.mem_map.mpr ⟨s.stand.toNat, List.mem_range.mpr (by omega), ?_⟩
  rw [Int.toNat_of_nonneg hl0, Int.toNat_of_nonneg g1]
structure Known (p : Int) (kvs : List (List Key × D)) : Prop where
  all : ∀ kv ∈ kvs, ∃ s, GoodS p s ∧ s.left ≤ 10 ∧ 0 ≤ s.left ∧ kv.1 = keyS s ∧ kv.2 = .int ((cntS p s : Nat) : Int)
  nd : (kvs.map (·.1)).Nodup
theorem Known.nil (p : Int) : Known p [] := ⟨fun _ h => (by cases h), by simp⟩
theorem Known.len {p : Int} (hp : 2 ≤ p) (hp2 : p ≤ 10) {kvs : List (List Key × D)} (h : Known p kvs) : kvs.length ≤ 605 := by
  have := nodup_len h.nd (m := allKeys) fun a ha => by
    obtain ⟨kv, hkv, rfl⟩ := List.mem_map.mp ha
    obtain ⟨s, h1, h2, h3, h4, _⟩ := h.all kv hkv
    rw [h4]; exact key_all hp hp2 h1 h2 h3
  rw [List.length_map, allKeys_len] at this
  exact this
theorem Known.val {p : Int} (hp : 2 ≤ p) {kvs : List (List Key × D)} (h : Known p kvs) {s : Gs} (hs : GoodS p s) {d : D} (e : valD kvs (keyS s) = some d) : d = .int ((cntS p s : Nat) : Int) := by
  unfold valD at e
  obtain ⟨kv, h1, rfl⟩ := map_some e
  have h2 := List.mem_of_find?_eq_some h1
  have h3 : kv.1 = keyS s := by
    have := List.find?_some h1
    simpa using this
  obtain ⟨s', g1, _, _, g2, g3⟩ := h.all kv h2
  rw [g3, cnt_core hp (restS s') (Nat.le_refl _) g1 hs (keyS_core.mp (g2.symm.trans h3))]
theorem Known.put {p : Int} {kvs : List (List Key × D)} (h : Known p kvs) {s : Gs} (hs : GoodS p s) (hl : s.left ≤ 10) (hl0 : 0 ≤ s.left) : Known p (putD kvs (keyS s) (.int ((cntS p s : Nat) : Int))) :=
  ⟨fun kv hkv => (put_mem hkv).elim (h.all kv) fun e => ⟨s, hs, hl, hl0, by rw [e], by rw [e]⟩, put_keys _ _ _ h.nd⟩
theorem sum_cast (f : Nat → Nat) : ∀ ks : List Nat, (ks.map fun r => ((f r : Nat) : Int)).sum = (((ks.map f).sum : Nat) : Int)
  | [] => rfl
  | k :: ks => by
    rw [List.map_cons, List.map_cons, List.sum_cons, List.sum_cons, sum_cast f ks]
    omega
/-- what a call keeps: the dict stays right -/
def CountOk (p : Int) (self : Fn) (k : Nat) : Prop := ∀ (s : Gs) (kvs : List (List Key × D)), GoodS p s → s.left ≤ 10 → 0 ≤ s.left → restS s < k → Known p kvs →
  ∃ kvs', Known p kvs' ∧ self [.val (.int p), .val (stD s), .own false (.dic kvs)] = some (.val (.int ((cntS p s : Nat) : Int)), [.val (.int p), .val (stD s), .own false (.dic kvs')])
theorem count_comp {p : Int} (hp : 2 ≤ p) {self : Fn} {k : Nat} (hself : CountOk p self k) {s : Gs} (hs : GoodS p s) (ho : s ≠ Gs.OVER) (hl : s.left ≤ 10) (hl0 : 0 ≤ s.left) (hk : restS s ≤ k) (s3 : Sl) :
    ∀ (ks : List Nat) (ns : List Int) (kvs : List (List Key × D)), (∀ r ∈ ks, (r : Int) ≤ s.stand) → ns.length + ks.length ≤ 1000 → Known p kvs →
      ∃ kvs', Known p kvs' ∧ lcL (.nm 4) (fC (.bl true)) (gCountFrom_e1 self) [4] (ks.map fun (r : Nat) => D.int (r : Int)) (ns.map D.int) [.val (.int p), .val (stD s), .own true (.dic kvs), s3, .no] =
        some ((ns ++ ks.map fun (r : Nat) => ((cntS p (nextS p s (r : Int)) : Nat) : Int)).map D.int, [.val (.int p), .val (stD s), .own true (.dic kvs'), s3, .no])
  | [], ns, kvs, _, _, h => ⟨kvs, h, by simp⟩
  | r :: ks, ns, kvs, hr, hlen, h => by
    have hlen' : ns.length + (ks.length + 1) ≤ 1000 := by simpa using hlen
    have hr0 := hr r List.mem_cons_self
    have hlt := rest_step (r := (r : Int)) hp hs ho
    have hgn := good_next hp hs ho (r := (r : Int)) (Int.natCast_nonneg r) hr0
    have hll := next_left (p := p) (r := (r : Int)) hl0
    obtain ⟨kvs1, hk1, e1⟩ := hself (nextS p s (r : Int)) kvs hgn (by omega) (good_left0 hgn) (by omega) h
    obtain ⟨kvs2, hk2, e2⟩ := count_comp hp hself hs ho hl hl0 hk s3 ks (ns ++ [((cntS p (nextS p s (r : Int)) : Nat) : Int)]) kvs1 (fun q hq => hr q (List.mem_cons_of_mem _ hq)) (by simp; omega) hk1
    refine ⟨kvs2, hk2, ?_⟩
    have hc : (ns.map D.int).length < 1000000 := by rw [List.length_map]; omega
    have hn := next_ok p (r : Int) s
    rw [List.map_cons, lcL_cons, List.map_cons, List.append_cons, ← e2, List.map_append]
    generalize ((cntS p (nextS p s (r : Int)) : Nat) : Int) = c at *
    generalize (r : Int) = ri at *
    generalize nextS p s ri = s' at *
    generalize ns.map D.int = NS at *
    simp [gCountFrom_e1, hn, e1, cap, hc]
theorem count_ok {p : Int} (hp : 2 ≤ p) (hp2 : p ≤ 10) : ∀ k : Nat, CountOk p (fnCountFrom k) k := by
  intro k
  induction k with
  | zero => intro s kvs _ _ _ h; omega
  | succ k ih =>
    intro s kvs hs hl hl0 hk hkn
    by_cases ho : s = Gs.OVER
    · refine ⟨kvs, hkn, ?_⟩
      have hc : ((cntS p s : Nat) : Int) = 1 := by rw [ho, cnt_over]; rfl
      rw [hc, fnCountFrom, defF_eq]
      simp [gCountFrom, over_cmp, ho]
    · have htk := toKey_keyS s
      have hin := inD_eq true (keyD s) kvs
      rw [htk] at hin
      cases hv : valD kvs (keyS s) with
      | some d =>
        refine ⟨kvs, hkn, ?_⟩
        have hd := hkn.val hp hs hv
        have hix := ixD_eq kvs (keyD s)
        rw [htk] at hix
        have hix' : oIx (.dic kvs) (.tup (keyD s)) = some (.val d) := by rw [hix]; show (valD kvs (keyS s)).map R.val = _; rw [hv]; rfl
        have hin' : oInD true (.tup (keyD s)) (.dic kvs) = some (.val (.bl false)) := by rw [hin, Option.map_some, hv]; rfl
        rw [hd] at hix'
        generalize ((cntS p s : Nat) : Int) = c at *
        rw [fnCountFrom, defF_eq]
        simp only [keyD] at hin' hix'
        simp [gCountFrom, over_cmp, ho, st_at0, st_at3, st_at4, cap, hin', hix']
      | none =>
        obtain ⟨g1, g2, g3, g4⟩ := good_stand hp hs
        obtain ⟨kvs1, hk1, e1⟩ := count_comp hp ih hs ho hl hl0 (by omega) (.val (.tup (keyD s))) (List.range (s.stand + 1).toNat) [] kvs (fun r hr => by have := List.mem_range.mp hr; omega) (by simp; omega) hkn
        have hlen1 := hk1.len hp hp2
        refine ⟨putD kvs1 (keyS s) (.int ((cntS p s : Nat) : Int)), hk1.put hs hl hl0, ?_⟩
        have hix : oIx (.dic (putD kvs1 (keyS s) (.int ((cntS p s : Nat) : Int)))) (.tup (keyD s)) = some (.val (.int ((cntS p s : Nat) : Int))) := by
          rw [ixD_eq, htk]
          show (valD (putD kvs1 (keyS s) (.int ((cntS p s : Nat) : Int))) (keyS s)).map R.val = _
          rw [valD_put]; rfl
        have hin' : oInD true (.tup (keyD s)) (.dic kvs) = some (.val (.bl true)) := by rw [hin, Option.map_some, hv]; rfl
        have hsum := sum_cast (fun r => cntS p (nextS p s (r : Int))) (List.range (s.stand + 1).toNat)
        rw [← cnt_step hp hs ho] at hsum
        rw [List.nil_append, List.map_nil] at e1
        have hrg : rg1 (s.stand + 1).toNat = (List.range (s.stand + 1).toNat).map fun (k : Nat) => D.int (k : Int) := rfl
        rw [← hrg] at e1
        have hint : intsOf (((List.range (s.stand + 1).toNat).map fun (r : Nat) => ((cntS p (nextS p s (r : Int)) : Nat) : Int)).map D.int) = some ((List.range (s.stand + 1).toNat).map fun (r : Nat) => ((cntS p (nextS p s (r : Int)) : Nat) : Int)) := intsOf_map _
        generalize (List.range (s.stand + 1).toNat).map (fun (r : Nat) => ((cntS p (nextS p s (r : Int)) : Nat) : Int)) = NL at *
        generalize NL.map D.int = ND at *
        generalize ((cntS p s : Nat) : Int) = c at *
        have hlc : kvs1.length < 1000000 := by omega
        have r1 : -1000000 ≤ s.stand + 1 ∧ s.stand + 1 ≤ 1000000 := by omega
        rw [fnCountFrom, defF_eq]
        simp only [keyD] at hin' hix htk e1
        simp [gCountFrom, over_cmp, ho, st_at0, st_at3, st_at4, cap, hin', r1, e1, hint, hsum, htk, hlc, hix]
theorem count_games_ok {f p : Int} {rolls : List Int} {x : Fr} (g : Game f p rolls x) : fnCountGames [.val (rulesD f p), .val (tI rolls)] = some (.val (.int ((cntS p (sOf f p rolls) : Nat) : Int)), [.val (rulesD f p), .val (tI rolls)]) := by
  have h3 := after_ok f p rolls
  have hg : GoodS p (sOf f p rolls) := g.good
  have hr : restS (sOf f p rolls) ≤ 21 := rest_le g.left10 (good_left0 hg)
  obtain ⟨kvs', _, e⟩ := count_ok g.p1 g.p2 30 (sOf f p rolls) [] hg g.left10 (good_left0 hg) (by omega) (.nil p)
  rw [fnCountGames, defF_eq]
  generalize ((cntS p (sOf f p rolls) : Nat) : Int) = c at *
  simp [gCountGames, h3, e]
end My
namespace My
open PySem L2 FL
/-! ## how many ways have a total -/
def cV (p : Int) (s : Gs) (v : Int) : Nat := (waysL p s).countP fun m => decide (scS p s m = v)
theorem cV_over (p v : Int) : cV p Gs.OVER v = if v = 0 then 1 else 0 := by
  unfold cV
  rw [ways_over, List.countP_singleton]
  show (if decide ((0 : Int) = v) = true then 1 else 0) = _
  by_cases h : v = 0
  · subst h; rfl
  · rw [if_neg h, if_neg (by simpa using fun e => h e.symm)]
theorem cV_step {p : Int} (hp : 2 ≤ p) {s : Gs} (hs : GoodS p s) (ho : s ≠ Gs.OVER) (v : Int) : cV p s v = ((List.range (s.stand + 1).toNat).map fun (r : Nat) => cV p (nextS p s (r : Int)) (v - (r : Int) * (1 + s.more))).sum := by
  unfold cV
  rw [ways_step hp hs ho, List.countP_flatMap]
  congr 1
  apply List.map_congr_left
  intro r _
  show List.countP _ (List.map _ _) = _
  rw [List.countP_map]
  apply List.countP_congr
  intro m _
  show decide (scS p s ((r : Int) :: m) = v) = true ↔ decide (scS p (nextS p s (r : Int)) m = v - (r : Int) * (1 + s.more)) = true
  rw [decide_eq_true_eq, decide_eq_true_eq, scS]
  omega
theorem ways_reach {p : Int} (hp : 2 ≤ p) {s : Gs} (hs : GoodS p s) {m : List Int} (h : m ∈ waysL p s) : Reach p s (scS p s m) := ⟨m, (ways_mem hp hs).mp h, rfl⟩
theorem cV_zero {p : Int} (hp : 2 ≤ p) {s : Gs} (hs : GoodS p s) {v : Int} (h : v < 0 ∨ topS p s < v) : cV p s v = 0 := by
  unfold cV
  rw [List.countP_eq_zero]
  intro m hm
  rw [decide_eq_true_eq]
  intro e
  have := (reach_iff hp hs _).mp (ways_reach hp hs hm)
  omega
theorem cV_pos {p : Int} (hp : 2 ≤ p) {s : Gs} (hs : GoodS p s) {v : Int} (h : Reach p s v) : 0 < cV p s v := by
  obtain ⟨m, h1, h2⟩ := h
  unfold cV
  rw [List.countP_pos_iff]
  exact ⟨m, (ways_mem hp hs).mpr h1, by rw [decide_eq_true_eq]; exact h2⟩
theorem one_hot (a : Int) : ∀ n : Nat, ((List.range n).map fun (v : Nat) => if a = (v : Int) then 1 else 0).sum = if 0 ≤ a ∧ a < (n : Int) then 1 else 0
  | 0 => by simp
  | n + 1 => by
    rw [List.range_succ, List.map_append, List.sum_append, one_hot a n]
    show _ + ((if a = (n : Int) then 1 else 0) + 0) = _
    (repeat' split) <;> omega
theorem sum_add (f g : Nat → Nat) : ∀ l : List Nat, (l.map fun v => f v + g v).sum = (l.map f).sum + (l.map g).sum
  | [] => rfl
  | a :: l => by
    rw [List.map_cons, List.map_cons, List.map_cons, List.sum_cons, List.sum_cons, List.sum_cons, sum_add f g l]
    omega
theorem count_sum {α : Type} (f : α → Int) (n : Nat) : ∀ l : List α, (∀ m ∈ l, 0 ≤ f m ∧ f m < (n : Int)) → ((List.range n).map fun (v : Nat) => l.countP fun m => decide (f m = (v : Int))).sum = l.length
  | [], _ => by
    have : ∀ k : List Nat, (k.map fun (v : Nat) => ([] : List α).countP fun m => decide (f m = (v : Int))).sum = 0 := fun k => by
      induction k with
      | nil => rfl
      | cons a k ih => rw [List.map_cons, List.sum_cons, ih]; rfl
    exact this _
  | m :: l, h => by
    have ih := count_sum f n l fun q hq => h q (List.mem_cons_of_mem _ hq)
    have e : (fun (v : Nat) => (m :: l).countP fun q => decide (f q = (v : Int))) = fun (v : Nat) => (l.countP fun q => decide (f q = (v : Int))) + if f m = (v : Int) then 1 else 0 := by
      funext v
      rw [List.countP_cons]
      simp only [decide_eq_true_eq]
    rw [e, sum_add, ih, one_hot, if_pos (h m List.mem_cons_self), List.length_cons]
theorem cV_sum {p : Int} (hp : 2 ≤ p) {s : Gs} (hs : GoodS p s) {n : Nat} (h : topS p s < (n : Int)) : ((List.range n).map fun (v : Nat) => cV p s (v : Int)).sum = cntS p s :=
  count_sum (fun m => scS p s m) n (waysL p s) fun m hm => by
    have := (reach_iff hp hs _).mp (ways_reach hp hs hm)
    omega
/-- one way only gets the most: tested along the way of all pins -/
def aloneB (p : Int) : Nat → Gs → Bool
  | 0, s => decide (s = Gs.OVER)
  | n + 1, s => decide (s = Gs.OVER) || ((List.range s.stand.toNat).all fun (r : Nat) => decide ((r : Int) * (1 + s.more) + topS p (nextS p s (r : Int)) < topS p s)) && aloneB p n (nextS p s s.stand)
theorem alone_ok {p : Int} (hp : 2 ≤ p) : ∀ (n : Nat) {s : Gs}, GoodS p s → aloneB p n s = true → cV p s (topS p s) = 1
  | n, s, hs, h => by
    by_cases ho : s = Gs.OVER
    · rw [ho, cV_over]; rfl
    · cases n with
      | zero => exact absurd (of_decide_eq_true h) ho
      | succ n =>
        rw [aloneB, decide_eq_false ho, Bool.false_or, Bool.and_eq_true, List.all_eq_true] at h
        obtain ⟨h1, h2⟩ := h
        obtain ⟨g1, g2, g3, g4⟩ := good_stand hp hs
        obtain ⟨k, hk⟩ : ∃ k : Nat, s.stand = (k : Int) := ⟨s.stand.toNat, by omega⟩
        have ih := alone_ok hp n (good_next hp hs ho (r := s.stand) g1 (Int.le_refl _)) h2
        obtain ⟨t1, _⟩ := top_step hp hs ho
        have e1 : (s.stand + 1).toNat = k + 1 := by omega
        have e2 : s.stand.toNat = k := by omega
        rw [e2] at h1
        rw [cV_step hp hs ho, e1, List.range_succ, List.map_append, List.sum_append]
        have z : ((List.range k).map fun (r : Nat) => cV p (nextS p s (r : Int)) (topS p s - (r : Int) * (1 + s.more))).sum = 0 := by
          rw [List.sum_eq_zero_iff_forall_eq_nat]
          intro c hc
          obtain ⟨r, hr, rfl⟩ := List.mem_map.mp hc
          have hr2 := List.mem_range.mp hr
          have := of_decide_eq_true (h1 r hr)
          exact cV_zero hp (good_next hp hs ho (r := (r : Int)) (by omega) (by omega)) (.inr (by omega))
        rw [z]
        show 0 + (cV p (nextS p s (k : Int)) (topS p s - (k : Int) * (1 + s.more)) + 0) = 1
        rw [← hk]
        have e3 : topS p s - s.stand * (1 + s.more) = topS p (nextS p s s.stand) := by omega
        rw [e3, ih]
/-! ### rows of counts -/
def rowL (L : Nat) (F : Int → Int) : List Int := (List.range L).map fun (v : Nat) => F (v : Int)
theorem rowL_len (L : Nat) (F : Int → Int) : (rowL L F).length = L := by simp [rowL]
def rowV (p : Int) (s : Gs) : List Int := rowL (topS p s + 1).toNat fun v => ((cV p s v : Nat) : Int)
theorem rowL_pad {L : Nat} {F : Int → Int} (h : ∀ v : Int, (L : Int) ≤ v → F v = 0) (k : Nat) : rowL L F ++ List.replicate k 0 = rowL (L + k) F := by
  unfold rowL
  rw [List.range_add, List.map_append]
  congr 1
  rw [List.map_map]
  apply List.ext_getElem
  · simp
  · intro i h1 h2
    simp
    exact (h _ (by omega)).symm
theorem rowL_get {L : Nat} {F : Int → Int} {i : Int} (h0 : 0 ≤ i) (h1 : i < (L : Int)) : atI ((rowL L F).map D.int) i = some (.int (F i)) := by
  obtain ⟨k, rfl⟩ : ∃ k : Nat, i = (k : Int) := ⟨i.toNat, by omega⟩
  have hk : k < ((rowL L F).map D.int).length := by rw [List.length_map, rowL_len]; omega
  rw [atI_get hk]
  simp [rowL]
theorem rowL_set {L : Nat} {F : Int → Int} {i : Int} (h0 : 0 ≤ i) (c : Int) : ((rowL L F).map D.int).set i.toNat (.int c) = (rowL L fun v => if v = i then c else F v).map D.int := by
  apply List.ext_getElem
  · simp [rowL]
  · intro j h1 h2
    rw [List.getElem_set]
    simp only [List.getElem_map, rowL, List.getElem_range]
    by_cases h : i.toNat = j
    · rw [if_pos h, if_pos (by omega)]
    · rw [if_neg h, if_neg (by omega)]
/-- counts added from a place on -/
def addAt : (Int → Int) → Int → List Int → Int → Int
  | F, _, [] => F
  | F, i, c :: cs => addAt (fun v => if v = i then F v + c else F v) (i + 1) cs
theorem addAt_eq : ∀ (cs : List Int) (F : Int → Int) (i v : Int), addAt F i cs v = F v + if i ≤ v then cs.getD (v - i).toNat 0 else 0
  | [], F, i, v => by simp [addAt]
  | c :: cs, F, i, v => by
    rw [addAt, addAt_eq cs]
    by_cases h : v = i
    · subst h
      rw [if_pos rfl, if_neg (by omega), if_pos (Int.le_refl _)]
      have : (v - v).toNat = 0 := by omega
      rw [this]; simp
    · rw [if_neg h]
      by_cases h2 : i ≤ v
      · rw [if_pos h2, if_pos (by omega)]
        have : (v - i).toNat = (v - (i + 1)).toNat + 1 := by omega
        rw [this]; rfl
      · rw [if_neg h2, if_neg (by omega)]
theorem addAt_row {p : Int} (hp : 2 ≤ p) {s : Gs} (hs : GoodS p s) (F : Int → Int) (i v : Int) : addAt F i (rowV p s) v = F v + ((cV p s (v - i) : Nat) : Int) := by
  rw [addAt_eq]
  congr 1
  by_cases h : i ≤ v
  · rw [if_pos h]
    by_cases h2 : v - i ≤ topS p s
    · have hl : (v - i).toNat < (rowV p s).length := by unfold rowV; rw [rowL_len]; omega
      rw [List.getD_eq_getElem?_getD, List.getElem?_eq_getElem hl]
      simp only [rowV, rowL, List.getElem_map, List.getElem_range, Option.getD_some]
      rw [Int.toNat_of_nonneg (by omega)]
    · rw [cV_zero hp hs (.inr (by omega)), List.getD_eq_getElem?_getD, List.getElem?_eq_none (by unfold rowV; rw [rowL_len]; omega)]
      rfl
  · rw [if_neg h, cV_zero hp hs (.inl (by omega))]; rfl
end My
namespace My
open PySem L2 FL
/-! ## rows of counts, kept in a dict -/
def keyF (s : Gs) : List Key := [.inl s.left, .inl s.more, .inl s.later, .inr s.part.s, .inl s.stand]
abbrev keyE (s : Gs) : List D := [.int s.left, .int s.more, .int s.later, .str s.part.s, .int s.stand]
theorem toKey_keyE {s : Gs} (ho : s ≠ Gs.OVER) : toKey (keyE s) = some (keyF s) := by
  have h := bEq_stD s Gs.OVER
  unfold bEq at h
  rw [lev_stD, lev_stD, Bool.and_self, if_pos rfl] at h
  have h2 : eqDs (keyE s) overD = decide (s = Gs.OVER) := by
    have := Option.some.inj h
    rw [show stD Gs.OVER = D.tup overD from rfl, show stD s = D.tup (keyE s) from rfl, eqD_tup] at this
    exact this
  unfold toKey
  rw [h2, decide_eq_false ho, if_neg (by simp)]
  rfl
theorem keyF_inj {s s' : Gs} (h : keyF s = keyF s') : s = s' := by
  obtain ⟨n, m, l, q, t⟩ := s
  obtain ⟨n', m', l', q', t'⟩ := s'
  unfold keyF at h
  simp only [List.cons.injEq, Sum.inl.injEq, Sum.inr.injEq] at h
  obtain ⟨rfl, rfl, rfl, hq, rfl, _⟩ := h
  rw [Part.s_inj.mp hq]
def allKeys5 : List (List Key) := (List.range 11).flatMap fun (l : Nat) => (List.range 3).flatMap fun (m : Nat) => (List.range 2).flatMap fun (e : Nat) => [Part.first, Part.second, Part.two, Part.one, Part.over].flatMap fun q => (List.range 11).map fun (t : Nat) => [.inl (l : Int), .inl (m : Int), .inl (e : Int), .inr q.s, .inl (t : Int)]
theorem flat_len {α β : Type} (f : α → List β) (c : Nat) : ∀ l : List α, (∀ a ∈ l, (f a).length = c) → (l.flatMap f).length = l.length * c
  | [], _ => by simp
  | a :: l, h => by
    rw [List.flatMap_cons, List.length_append, h a List.mem_cons_self, flat_len f c l fun b hb => h b (List.mem_cons_of_mem _ hb), List.length_cons, Nat.add_mul, Nat.one_mul, Nat.add_comm]
theorem allKeys5_len : allKeys5.length = 11 * (3 * (2 * (5 * 11))) := by
  unfold allKeys5
  rw [flat_len _ (3 * (2 * (5 * 11)))]
  · rw [List.length_range]
  · intro a _
    rw [flat_len _ (2 * (5 * 11))]
    · rw [List.length_range]
    · intro b _
      rw [flat_len _ (5 * 11)]
      · rw [List.length_range]
      · intro c _
        rw [flat_len _ 11]
        · rfl
        · intro d _
          rw [List.length_map, List.length_range]
theorem good_later {p : Int} {s : Gs} (hs : GoodS p s) : 0 ≤ s.later ∧ s.later ≤ 1 := by
  obtain ⟨n, m, l, q, t⟩ := s
  cases q with
  | first => obtain ⟨_, h, _⟩ := hs; unfold Bon at h; simp only at h ⊢; omega
  | second => obtain ⟨_, _, h, _⟩ := hs; simp only at h ⊢; omega
  | two => obtain ⟨_, _, h, _⟩ := hs; simp only at h ⊢; omega
  | one => obtain ⟨_, _, h, _⟩ := hs; simp only at h ⊢; omega
  | over => have h : (⟨n, m, l, .over, t⟩ : Gs) = Gs.OVER := hs; have h2 : l = 0 := congrArg Gs.later h; simp only; omega
theorem key5_all {p : Int} (hp : 2 ≤ p) (hp2 : p ≤ 10) {s : Gs} (hs : GoodS p s) (hl : s.left ≤ 10) (hl0 : 0 ≤ s.left) : keyF s ∈ allKeys5 := by
  obtain ⟨g1, g2, g3, g4⟩ := good_stand hp hs
  have g5 := good_later hs
  unfold allKeys5 keyF
  rw [List.mem_flatMap]
  refine ⟨s.left.toNat, List.mem_range.mpr (by omega), ?_⟩
  rw [List.mem_flatMap]
  refine ⟨s.more.toNat, List.mem_range.mpr (by omega), ?_⟩
  rw [List.mem_flatMap]
  refine ⟨s.later.toNat, List.mem_range.mpr (by omega), ?_⟩
  rw [List.mem_flatMap]
  refine ⟨s.part, by cases s.part <;> simp, ?_⟩
  refine List.mem_map.mpr ⟨s.stand.toNat, List.mem_range.mpr (by omega), ?_⟩
  rw [Int.toNat_of_nonneg hl0, Int.toNat_of_nonneg g1, Int.toNat_of_nonneg g3, Int.toNat_of_nonneg g5.1]
structure KnownR (p : Int) (kvs : List (List Key × D)) : Prop where
  all : ∀ kv ∈ kvs, ∃ s, GoodS p s ∧ s.left ≤ 10 ∧ 0 ≤ s.left ∧ kv.1 = keyF s ∧ kv.2 = lI (rowV p s)
  nd : (kvs.map (·.1)).Nodup
theorem KnownR.nil (p : Int) : KnownR p [] := ⟨fun _ h => (by cases h), by simp⟩
theorem KnownR.len {p : Int} (hp : 2 ≤ p) (hp2 : p ≤ 10) {kvs : List (List Key × D)} (h : KnownR p kvs) : kvs.length ≤ 3630 := by
  have := nodup_len h.nd (m := allKeys5) fun a ha => by
    obtain ⟨kv, hkv, rfl⟩ := List.mem_map.mp ha
    obtain ⟨s, h1, h2, h3, h4, _⟩ := h.all kv hkv
    rw [h4]; exact key5_all hp hp2 h1 h2 h3
  rw [List.length_map, allKeys5_len] at this
  omega
theorem KnownR.val {p : Int} {kvs : List (List Key × D)} (h : KnownR p kvs) {s : Gs} {d : D} (e : valD kvs (keyF s) = some d) : d = lI (rowV p s) := by
  unfold valD at e
  obtain ⟨kv, h1, rfl⟩ := map_some e
  have h2 := List.mem_of_find?_eq_some h1
  have h3 : kv.1 = keyF s := by
    have := List.find?_some h1
    simpa using this
  obtain ⟨s', g1, _, _, g2, g3⟩ := h.all kv h2
  have : s' = s := keyF_inj (g2.symm.trans h3)
  rw [← this]; exact g3
theorem KnownR.put {p : Int} {kvs : List (List Key × D)} (h : KnownR p kvs) {s : Gs} (hs : GoodS p s) (hl : s.left ≤ 10) (hl0 : 0 ≤ s.left) : KnownR p (putD kvs (keyF s) (lI (rowV p s))) :=
  ⟨fun kv hkv => (put_mem hkv).elim (h.all kv) fun e => ⟨s, hs, hl, hl0, by rw [e], by rw [e]⟩, put_keys _ _ _ h.nd⟩
/-! ### the most that a roll can lead to -/
def endT (p : Int) (s : Gs) (r : Int) : Int := r * (1 + s.more) + topS p (nextS p s r)
theorem end_mono {p : Int} (hp : 2 ≤ p) {s : Gs} (hs : GoodS p s) (ho : s ≠ Gs.OVER) {r : Int} (h0 : 0 ≤ r) (h1 : r + 1 ≤ s.stand) : endT p s r ≤ endT p s (r + 1) := by
  obtain ⟨n, m, l, q, t⟩ := s
  unfold endT
  cases q with
  | first =>
    obtain ⟨g1, g2, g3⟩ := hs
    simp only at g1 g2 g3 h1
    subst g3
    have hr : r < t := by omega
    have e1 : nextS t ⟨n, m, l, .first, t⟩ r = ⟨n, l, 0, .second, t - r⟩ := by simp [nextS, hr]
    rw [e1]
    by_cases h2 : r + 1 < t
    · have e2 : nextS t ⟨n, m, l, .first, t⟩ (r + 1) = ⟨n, l, 0, .second, t - (r + 1)⟩ := by simp [nextS, h2]
      rw [e2]
      simp only [topS]
      unfold Bon at g2
      rcases g2 with ⟨rfl, rfl⟩ | ⟨rfl, rfl⟩ | ⟨rfl, rfl⟩ | ⟨rfl, rfl⟩ <;> omega
    · have hh : r + 1 = t := by omega
      by_cases hn : n = 1
      · have e2 : nextS t ⟨n, m, l, .first, t⟩ (r + 1) = ⟨1, l, 0, .two, t⟩ := by simp [nextS, h2, hn]
        rw [e2]
        simp only [topS]
        subst hn
        unfold Bon at g2
        rcases g2 with ⟨rfl, rfl⟩ | ⟨rfl, rfl⟩ | ⟨rfl, rfl⟩ | ⟨rfl, rfl⟩ <;> omega
      · have e2 : nextS t ⟨n, m, l, .first, t⟩ (r + 1) = ⟨n - 1, l + 1, 1, .first, t⟩ := by simp [nextS, h2, hn]
        rw [e2]
        simp only [topS]
        generalize t * (n - 1) = w
        unfold Bon at g2
        rcases g2 with ⟨rfl, rfl⟩ | ⟨rfl, rfl⟩ | ⟨rfl, rfl⟩ | ⟨rfl, rfl⟩ <;> omega
  | second =>
    obtain ⟨g1, g2, g3, g4, g5⟩ := hs
    simp only at g1 g2 g3 g4 g5 h1
    subst g3
    have hr : r < t := by omega
    by_cases hn : 1 < n
    · have e1 : nextS p ⟨n, m, 0, .second, t⟩ r = ⟨n - 1, 0, 0, .first, p⟩ := by simp [nextS, hr, hn]
      rw [e1]
      by_cases h2 : r + 1 < t
      · have e2 : nextS p ⟨n, m, 0, .second, t⟩ (r + 1) = ⟨n - 1, 0, 0, .first, p⟩ := by simp [nextS, h2, hn]
        rw [e2]
        simp only []
        rcases g2 with rfl | rfl <;> omega
      · have e2 : nextS p ⟨n, m, 0, .second, t⟩ (r + 1) = ⟨n - 1, 1, 0, .first, p⟩ := by
          have : ¬ n = 1 := by omega
          simp [nextS, h2, this]
        rw [e2]
        simp only [topS]
        generalize p * (n - 1) = w
        rcases g2 with rfl | rfl <;> omega
    · have e1 : nextS p ⟨n, m, 0, .second, t⟩ r = Gs.OVER := by simp [nextS, hr, hn]
      rw [e1]
      by_cases h2 : r + 1 < t
      · have e2 : nextS p ⟨n, m, 0, .second, t⟩ (r + 1) = Gs.OVER := by simp [nextS, h2, hn]
        rw [e2]
        simp only []
        rcases g2 with rfl | rfl <;> omega
      · have e2 : nextS p ⟨n, m, 0, .second, t⟩ (r + 1) = ⟨1, 0, 0, .one, p⟩ := by
          have : n = 1 := by omega
          simp [nextS, h2, this]
        rw [e2]
        simp only [topS, Gs.OVER]
        rcases g2 with rfl | rfl <;> omega
  | two =>
    obtain ⟨g1, g2, g3, g4⟩ := hs
    simp only at g1 g2 g3 g4 h1
    subst g3 g4
    have e1 : ∀ q, nextS t ⟨n, m, 0, .two, t⟩ q = ⟨n, 0, 0, .one, if q < t then t - q else t⟩ := fun q => by simp [nextS]
    rw [e1, e1]
    simp only [topS]
    rcases g2 with rfl | rfl <;> (repeat' split) <;> omega
  | one =>
    have e1 : ∀ q, nextS p ⟨n, m, l, .one, t⟩ q = Gs.OVER := fun q => by simp [nextS]
    obtain ⟨g1, g2, g3, g4, g5⟩ := hs
    simp only at g2
    subst g2
    rw [e1, e1]
    simp only []
    omega
  | over => exact absurd hs ho
end My
namespace My
open PySem L2 FL
/-! ## the walk through totals_from -/
theorem augL_ok (self : Fn) (a0 a1 a2 a4 s6 : Sl) (L : Nat) (F : Int → Int) (more num c : Int) (h0 : 0 ≤ more + num) (h1 : more + num < (L : Int)) : gTotalsFrom_b1 self [a0, a1, a2, .own false (lI (rowL L F)), a4, .val (.int more), s6, .val (.int num), .val (.int c)] =
    some (.nx, [a0, a1, a2, .own false (lI (rowL L fun v => if v = more + num then F v + c else F v)), a4, .val (.int more), s6, .val (.int num), .val (.int c)]) := by
  have hg := rowL_get (F := F) h0 h1
  have hx : ixN ((rowL L F).map D.int).length (more + num) = some (more + num).toNat := ixN_in h0 (by rw [List.length_map, rowL_len]; exact h1)
  have hs := rowL_set (L := L) (F := F) h0 (F (more + num) + c)
  have hf : (fun v : Int => if v = more + num then F (more + num) + c else F v) = fun v : Int => if v = more + num then F v + c else F v := by
    funext v
    by_cases h : v = more + num
    · subst h; rfl
    · rw [if_neg h, if_neg h]
  rw [hf] at hs
  rw [List.length_map] at hx
  rw [gTotalsFrom_b1, sAugL]
  simp only [List.getElem?_cons_succ, List.getElem?_cons_zero, lI]
  simp [hg, hx, hs]
theorem tot_inner (self : Fn) (a0 a1 a2 a4 s6 : Sl) (L : Nat) (more : Int) : ∀ (cs : List Int) (j : Int) (F : Int → Int) (s7 s8 : Sl), 0 ≤ more + j → more + j + (cs.length : Int) ≤ (L : Int) → FL.stored s7 = true → FL.stored s8 = true →
    ∃ t7 t8, FL.stored t7 = true ∧ FL.stored t8 = true ∧ forL (.tp [.nm 7, .nm 8]) (gTotalsFrom_b1 self) (enumF j (cs.map D.int)) [a0, a1, a2, .own false (lI (rowL L F)), a4, .val (.int more), s6, s7, s8] =
      some (.nx, [a0, a1, a2, .own false (lI (rowL L (addAt F (more + j) cs))), a4, .val (.int more), s6, t7, t8])
  | [], j, F, s7, s8, _, _, h7, h8 => ⟨s7, s8, h7, h8, rfl⟩
  | c :: cs, j, F, s7, s8, h0, h1, h7, h8 => by
    rw [List.length_cons] at h1
    obtain ⟨t7, t8, q7, q8, e⟩ := tot_inner self a0 a1 a2 a4 s6 L more cs (j + 1) (fun v => if v = more + j then F v + c else F v) (.val (.int j)) (.val (.int c)) (by omega) (by omega) rfl rfl
    refine ⟨t7, t8, q7, q8, ?_⟩
    have e1 := augL_ok self a0 a1 a2 a4 s6 L F more j c h0 (by omega)
    have e0 : asg (.tp [.nm 7, .nm 8]) (.tup [.int j, .int c]) [a0, a1, a2, .own false (lI (rowL L F)), a4, .val (.int more), s6, s7, s8] = some [a0, a1, a2, .own false (lI (rowL L F)), a4, .val (.int more), s6, .val (.int j), .val (.int c)] := by
      simp [h7, h8]
    have ej : more + (j + 1) = more + j + 1 := by omega
    rw [ej] at e
    rw [List.map_cons, enumF, forL_cons, e0, Option.bind_some, e1, forO_nx, e, addAt]
/-- what a call keeps: the dict stays right -/
def TotOk (p : Int) (self : Fn) (k : Nat) : Prop := ∀ (s : Gs) (kvs : List (List Key × D)), GoodS p s → s.left ≤ 10 → 0 ≤ s.left → restS s < k → KnownR p kvs →
  ∃ kvs' rr, KnownR p kvs' ∧ (rr = .own (lI (rowV p s)) ∨ rr = .val (lI (rowV p s))) ∧ self [.val (.int p), .val (stD s), .own false (.dic kvs)] = some (rr, [.val (.int p), .val (stD s), .own false (.dic kvs')])
def sumC (p : Int) (s : Gs) (k : Nat) (v : Int) : Int := (((List.range k).map fun (r : Nat) => cV p (nextS p s (r : Int)) (v - (r : Int) * (1 + s.more))).sum : Nat)
theorem sumC_succ (p : Int) (s : Gs) (k : Nat) (v : Int) : sumC p s (k + 1) v = sumC p s k v + ((cV p (nextS p s (k : Int)) (v - (k : Int) * (1 + s.more)) : Nat) : Int) := by
  unfold sumC
  rw [List.range_succ, List.map_append, List.sum_append, List.map_singleton, List.sum_singleton, Int.natCast_add]
theorem repl_flat (k : Nat) : (List.replicate k [D.int 0]).flatten = (List.replicate k (0 : Int)).map D.int := by
  induction k with
  | zero => rfl
  | succ k ih => rw [List.replicate_succ, List.replicate_succ, List.flatten_cons, ih]; rfl
theorem row_step1 (a0 a2 a3 s5 s6 s7 s8 : Sl) (s : Gs) (ri more : Int) (hm : oMul (.int ri) (.int (1 + s.more)) = some (.val (.int more))) (h5 : FL.stored s5 = true) : sAsg 5 (fOp2 oMul (fVar 4) (fOp2 oAdd (fC (.int 1)) (fOp2 oIx (fVar 1) (fC (.int 1))))) [a0, .val (stD s), a2, a3, .val (.int ri), s5, s6, s7, s8] = some (.nx, [a0, .val (stD s), a2, a3, .val (.int ri), .val (.int more), s6, s7, s8]) := by
  simp [st_at1, hm, h5, -mulI]
theorem row_step3 (a0 a1 a2 a4 t6 s7 s8 : Sl) (more qi : Int) (R1 R2 R3 R4 : List D) (hk1' : more + (R4.length : Int) - (R3.length : Int) = qi) (hmm : oMul (.lst [.int 0]) (.int qi) = some (.own (.lst R2))) (hadd : oAdd (.lst R3) (.lst R2) = some (.own (.lst R1))) (h6' : t6 = .val (.lst R4) ∨ t6 = .own false (.lst R4)) : sAsg 3 (fOp2 oAdd (fVar 3) (fOp2 oMul (fLst [(fC (.int 0))]) (fOp2 oSub (fOp2 oAdd (fVar 5) (fOpN oLen [(fVar 6)])) (fOpN oLen [(fVar 3)])))) [a0, a1, a2, .own false (.lst R3), a4, .val (.int more), t6, s7, s8] = some (.nx, [a0, a1, a2, .own false (.lst R1), a4, .val (.int more), t6, s7, s8]) := by
  rcases h6' with rfl | rfl <;> simp [hk1', hmm, hadd, cap, -mulL]
theorem row_mul (q : Nat) (hq2 : (q : Int) ≤ 1000) : oMul (.lst [.int 0]) (.int (q : Int)) = some (.own (.lst ((List.replicate q (0 : Int)).map D.int))) := by
  have h0 : (0 : Int) ≤ (q : Int) := Int.natCast_nonneg q
  have h : oMul (.lst [.int 0]) (.int (q : Int)) = some (.own (.lst (List.replicate (q : Int).toNat [D.int 0]).flatten)) := by
    generalize (q : Int) = qi at *
    rw [mulL, if_pos ⟨h0, hq2, by simp⟩]
  rw [h, Int.toNat_natCast, repl_flat]
theorem row_add (a b : List D) (h : a.length + b.length ≤ cap) : oAdd (.lst a) (.lst b) = some (.own (.lst (a ++ b))) := by
  show (if _ then _ else _) = _
  rw [if_pos h]
theorem tot_turn {p : Int} (hp : 2 ≤ p) (hp2 : p ≤ 10) {self : Fn} {k : Nat} (hself : TotOk p self k) {s : Gs} (hs : GoodS p s) (ho : s ≠ Gs.OVER) (hl : s.left ≤ 10) (hl0 : 0 ≤ s.left) (hk : restS s ≤ k)
    (r : Nat) (hr : (r : Int) ≤ s.stand) (L : Nat) (F : Int → Int) (hL : (L : Int) ≤ endT p s (r : Int) + 1) (hF : ∀ v : Int, (L : Int) ≤ v → F v = 0) (kvs : List (List Key × D)) (hkn : KnownR p kvs) (s5 s6 s7 s8 : Sl) (h5 : FL.stored s5 = true) (h6 : FL.stored s6 = true) (h7 : FL.stored s7 = true) (h8 : FL.stored s8 = true) :
    ∃ kvs' t6 t7 t8, KnownR p kvs' ∧ FL.stored t6 = true ∧ FL.stored t7 = true ∧ FL.stored t8 = true ∧ gTotalsFrom_b2 self [.val (.int p), .val (stD s), .own true (.dic kvs), .own false (lI (rowL L F)), .val (.int (r : Int)), s5, s6, s7, s8] =
      some (.nx, [.val (.int p), .val (stD s), .own true (.dic kvs'), .own false (lI (rowL (endT p s (r : Int) + 1).toNat fun v => F v + ((cV p (nextS p s (r : Int)) (v - (r : Int) * (1 + s.more)) : Nat) : Int))), .val (.int (r : Int)), .val (.int ((r : Int) * (1 + s.more))), t6, t7, t8]) := by
  obtain ⟨g1, g2, g3, g4⟩ := good_stand hp hs
  have hgn := good_next hp hs ho (r := (r : Int)) (Int.natCast_nonneg r) hr
  have hlt := rest_step (r := (r : Int)) hp hs ho
  have hll := next_left (p := p) (r := (r : Int)) hl0
  obtain ⟨kvs', rr, hk', hrr, e⟩ := hself (nextS p s (r : Int)) kvs hgn (by omega) (good_left0 hgn) (by omega) hkn
  have htop := top_bound hp hp2 hgn (by omega)
  have htop0 := top_nonneg hp hgn
  have hrowl : ((rowV p (nextS p s (r : Int))).length : Int) = topS p (nextS p s (r : Int)) + 1 := by unfold rowV; rw [rowL_len]; omega
  have hm0 : 0 ≤ (r : Int) * (1 + s.more) := Int.mul_nonneg (by omega) (by omega)
  have hm1 : (r : Int) * (1 + s.more) ≤ 30 := by
    have h1 : (r : Int) * (1 + s.more) ≤ 10 * (1 + s.more) := Int.mul_le_mul_of_nonneg_right (by omega) (by omega)
    omega
  have hmul := mul_ok (r : Int) (1 + s.more) (by omega)
  have hn := next_ok p (r : Int) s
  have hend : endT p s (r : Int) = (r : Int) * (1 + s.more) + topS p (nextS p s (r : Int)) := rfl
  rw [hend] at hL ⊢
  have hrow := fun F i v => addAt_row hp hgn F i v
  generalize nextS p s (r : Int) = s' at *
  generalize hmore : (r : Int) * (1 + s.more) = more at *
  obtain ⟨t7, t8, q7, q8, ei⟩ := tot_inner self (.val (.int p)) (.val (stD s)) (.own true (.dic kvs')) (.val (.int (r : Int))) (.val (lI (rowV p s'))) (more + topS p s' + 1).toNat more (rowV p s') 0 F s7 s8 (by omega) (by omega) h7 h8
  rw [Int.add_zero] at ei
  have hfun : addAt F more (rowV p s') = fun v => F v + ((cV p s' (v - more) : Nat) : Int) := funext fun v => hrow F more v
  rw [hfun] at ei
  refine ⟨kvs', .val (lI (rowV p s')), t7, t8, hk', rfl, q7, q8, ?_⟩
  have hpad := rowL_pad hF ((more + topS p s' + 1).toNat - L)
  have hLe : L + ((more + topS p s' + 1).toNat - L) = (more + topS p s' + 1).toNat := by omega
  rw [hLe] at hpad
  have hlenL : ((rowL L F).map D.int).length = L := by rw [List.length_map, rowL_len]
  have hk1 : more + ((rowV p s').length : Int) - (L : Int) = (((more + topS p s' + 1).toNat - L : Nat) : Int) := by omega
  have x1 : sAsg 5 (fOp2 oMul (fVar 4) (fOp2 oAdd (fC (.int 1)) (fOp2 oIx (fVar 1) (fC (.int 1))))) [.val (.int p), .val (stD s), .own true (.dic kvs), .own false (lI (rowL L F)), .val (.int (r : Int)), s5, s6, s7, s8] = some (.nx, [.val (.int p), .val (stD s), .own true (.dic kvs), .own false (lI (rowL L F)), .val (.int (r : Int)), .val (.int more), s6, s7, s8]) := by
    have hm : oMul (.int (r : Int)) (.int (1 + s.more)) = some (.val (.int more)) := by rw [mulI, if_pos hmul, hmore]
    exact row_step1 _ _ _ _ _ _ _ s (r : Int) more hm h5
  have hsz : L + ((more + topS p s' + 1).toNat - L) ≤ 1000000 := by omega
  generalize hq : (more + topS p s' + 1).toNat - L = q at *
  have hq2 : (q : Int) ≤ 1000 := by omega
  have x3 : ∀ t6 : Sl, (t6 = .val (lI (rowV p s')) ∨ t6 = .own false (lI (rowV p s'))) → sAsg 3 (fOp2 oAdd (fVar 3) (fOp2 oMul (fLst [(fC (.int 0))]) (fOp2 oSub (fOp2 oAdd (fVar 5) (fOpN oLen [(fVar 6)])) (fOpN oLen [(fVar 3)])))) [.val (.int p), .val (stD s), .own true (.dic kvs'), .own false (lI (rowL L F)), .val (.int (r : Int)), .val (.int more), t6, s7, s8] = some (.nx, [.val (.int p), .val (stD s), .own true (.dic kvs'), .own false (lI (rowL (more + topS p s' + 1).toNat F)), .val (.int (r : Int)), .val (.int more), t6, s7, s8]) := by
    intro t6 h6'
    have hk1' : more + (((rowV p s').map D.int).length : Int) - (((rowL L F).map D.int).length : Int) = (q : Int) := by rw [hlenL, List.length_map]; exact hk1
    have hadd : oAdd (.lst ((rowL L F).map D.int)) (.lst ((List.replicate q (0 : Int)).map D.int)) = some (.own (.lst ((rowL (more + topS p s' + 1).toNat F).map D.int))) := by
      rw [← hpad, List.map_append]
      exact row_add _ _ (by rw [hlenL, List.length_map, List.length_replicate]; exact hsz)
    exact row_step3 _ _ _ _ _ _ _ _ _ _ _ _ _ hk1' (row_mul q hq2) hadd h6'
  have x4 : ∀ t6 : Sl, (t6 = .val (lI (rowV p s')) ∨ t6 = .own false (lI (rowV p s'))) → sFor (itEnum (fVar 6)) (.tp [(.nm 7), (.nm 8)]) (gTotalsFrom_b1 self) [.val (.int p), .val (stD s), .own true (.dic kvs'), .own false (lI (rowL (more + topS p s' + 1).toNat F)), .val (.int (r : Int)), .val (.int more), t6, s7, s8] = some (.nx, [.val (.int p), .val (stD s), .own true (.dic kvs'), .own false (lI (rowL (more + topS p s' + 1).toNat fun v => F v + ((cV p s' (v - more) : Nat) : Int))), .val (.int (r : Int)), .val (.int more), .val (lI (rowV p s')), t7, t8]) := by
    intro t6 h6'
    rw [← ei]
    simp only [lI] at h6' ⊢
    generalize (rowL (more + topS p s' + 1).toNat F).map D.int = R1 at *
    generalize (rowV p s').map D.int = R4 at *
    rcases h6' with rfl | rfl <;> simp [enumD_eq]
  have x2 : ∃ t6 : Sl, (t6 = .val (lI (rowV p s')) ∨ t6 = .own false (lI (rowV p s'))) ∧ sAsg 6 (fCall self [(fVar 0), (fCall fnNextState [(fVar 0), (fVar 1), (fVar 4)]), (fVar 2)]) [.val (.int p), .val (stD s), .own true (.dic kvs), .own false (lI (rowL L F)), .val (.int (r : Int)), .val (.int more), s6, s7, s8] = some (.nx, [.val (.int p), .val (stD s), .own true (.dic kvs'), .own false (lI (rowL L F)), .val (.int (r : Int)), .val (.int more), t6, s7, s8]) := by
    simp only [lI] at hrr ⊢
    generalize (rowL L F).map D.int = R3 at *
    generalize (rowV p s').map D.int = R4 at *
    generalize (r : Int) = ri at *
    rcases hrr with rfl | rfl
    · exact ⟨_, .inr rfl, by simp [hn, e, h6]⟩
    · exact ⟨_, .inl rfl, by simp [hn, e, h6]⟩
  obtain ⟨t6, h6', x2⟩ := x2
  rw [gTotalsFrom_b2, st_seq, x1, seqO_nx, st_seq, x2, seqO_nx, st_seq, x3 t6 h6', seqO_nx, x4 t6 h6']
end My
namespace My
open PySem L2 FL
theorem tot_loop {p : Int} (hp : 2 ≤ p) (hp2 : p ≤ 10) {self : Fn} {K : Nat} (hself : TotOk p self K) {s : Gs} (hs : GoodS p s) (ho : s ≠ Gs.OVER) (hl : s.left ≤ 10) (hl0 : 0 ≤ s.left) (hk : restS s ≤ K) :
    ∀ (n k : Nat) (L : Nat) (kvs : List (List Key × D)) (s4 s5 s6 s7 s8 : Sl), ((k + n : Nat) : Int) = s.stand → (L : Int) ≤ endT p s (k : Int) + 1 → (∀ v : Int, (L : Int) ≤ v → sumC p s k v = 0) → KnownR p kvs → FL.stored s4 = true → FL.stored s5 = true → FL.stored s6 = true → FL.stored s7 = true → FL.stored s8 = true →
      ∃ kvs' t4 t5 t6 t7 t8, KnownR p kvs' ∧ forL (.nm 4) (gTotalsFrom_b2 self) ((List.range' k (n + 1)).map fun (r : Nat) => D.int (r : Int)) [.val (.int p), .val (stD s), .own true (.dic kvs), .own false (lI (rowL L (sumC p s k))), s4, s5, s6, s7, s8] =
        some (.nx, [.val (.int p), .val (stD s), .own true (.dic kvs'), .own false (lI (rowV p s)), t4, t5, t6, t7, t8]) := by
  intro n
  induction n with
  | zero =>
    intro k L kvs s4 s5 s6 s7 s8 hkn hL hF hkv h4 h5 h6 h7 h8
    have hkk : (k : Int) = s.stand := by omega
    obtain ⟨kvs', t6, t7, t8, q1, q6, q7, q8, e⟩ := tot_turn hp hp2 hself hs ho hl hl0 hk k (by omega) L _ hL hF kvs hkv s5 s6 s7 s8 h5 h6 h7 h8
    refine ⟨kvs', .val (.int (k : Int)), .val (.int ((k : Int) * (1 + s.more))), t6, t7, t8, q1, ?_⟩
    have e0 : asg (.nm 4) (.int (k : Int)) [.val (.int p), .val (stD s), .own true (.dic kvs), .own false (lI (rowL L (sumC p s k))), s4, s5, s6, s7, s8] = some [.val (.int p), .val (stD s), .own true (.dic kvs), .own false (lI (rowL L (sumC p s k))), .val (.int (k : Int)), s5, s6, s7, s8] := by
      generalize (k : Int) = ki at *
      simp [h4]
    show forL _ _ [D.int (k : Int)] _ = _
    rw [forL_cons, e0, Option.bind_some, e, forO_nx]
    have hend : endT p s (k : Int) = topS p s := by rw [hkk]; exact (top_step hp hs ho).1.symm
    have hrow : (rowL (endT p s (k : Int) + 1).toNat fun v => sumC p s k v + ((cV p (nextS p s (k : Int)) (v - (k : Int) * (1 + s.more)) : Nat) : Int)) = rowV p s := by
      unfold rowV
      rw [hend]
      refine congrArg (rowL (topS p s + 1).toNat) (funext fun v => ?_)
      have e1 : (s.stand + 1).toNat = k + 1 := by omega
      rw [← sumC_succ, cV_step hp hs ho v, e1, sumC]
    rw [hrow, forL_nil]
  | succ n ih =>
    intro k L kvs s4 s5 s6 s7 s8 hkn hL hF hkv h4 h5 h6 h7 h8
    have hkk : (k : Int) + 1 ≤ s.stand := by omega
    have hend := end_mono hp hs ho (r := (k : Int)) (Int.natCast_nonneg k) hkk
    have hgn := good_next hp hs ho (r := (k : Int)) (Int.natCast_nonneg k) (by omega)
    have htop0 := top_nonneg hp hgn
    obtain ⟨g1, g2, g3, g4⟩ := good_stand hp hs
    have hm0 : 0 ≤ (k : Int) * (1 + s.more) := Int.mul_nonneg (by omega) (by omega)
    have hendd : endT p s (k : Int) = (k : Int) * (1 + s.more) + topS p (nextS p s (k : Int)) := rfl
    obtain ⟨kvs1, t6, t7, t8, q1, q6, q7, q8, e⟩ := tot_turn hp hp2 hself hs ho hl hl0 hk k (by omega) L _ hL hF kvs hkv s5 s6 s7 s8 h5 h6 h7 h8
    have hfun : (fun v => sumC p s k v + ((cV p (nextS p s (k : Int)) (v - (k : Int) * (1 + s.more)) : Nat) : Int)) = sumC p s (k + 1) := funext fun v => (sumC_succ p s k v).symm
    rw [hfun] at e
    have ek : ((k + 1 : Nat) : Int) = (k : Int) + 1 := by omega
    obtain ⟨kvs', u4, u5, u6, u7, u8, r1, e2⟩ := ih (k + 1) (endT p s (k : Int) + 1).toNat kvs1 (.val (.int (k : Int))) (.val (.int ((k : Int) * (1 + s.more)))) t6 t7 t8 (by omega) (by rw [ek]; omega) (fun v hv => by
      rw [sumC_succ, hF v (by omega), cV_zero hp hgn (.inr (by omega))]; rfl) q1 rfl rfl q6 q7 q8
    refine ⟨kvs', u4, u5, u6, u7, u8, r1, ?_⟩
    have e0 : asg (.nm 4) (.int (k : Int)) [.val (.int p), .val (stD s), .own true (.dic kvs), .own false (lI (rowL L (sumC p s k))), s4, s5, s6, s7, s8] = some [.val (.int p), .val (stD s), .own true (.dic kvs), .own false (lI (rowL L (sumC p s k))), .val (.int (k : Int)), s5, s6, s7, s8] := by
      generalize (k : Int) = ki at *
      simp [h4]
    rw [List.range'_succ, List.map_cons, forL_cons, e0, Option.bind_some, e, forO_nx, e2]
theorem rowV_over (p : Int) : rowV p Gs.OVER = [1] := by
  unfold rowV rowL
  show [((cV p Gs.OVER (0 : Int) : Nat) : Int)] = _
  rw [cV_over]; rfl
theorem tot_ok {p : Int} (hp : 2 ≤ p) (hp2 : p ≤ 10) : ∀ k : Nat, TotOk p (fnTotalsFrom k) k := by
  intro k
  induction k with
  | zero => intro s kvs _ _ _ h; omega
  | succ k ih =>
    intro s kvs hs hl hl0 hk hkn
    by_cases ho : s = Gs.OVER
    · refine ⟨kvs, .own (lI [1]), hkn, .inl (by rw [ho, rowV_over]), ?_⟩
      rw [fnTotalsFrom, defF_eq]
      simp [gTotalsFrom, over_cmp, ho, cap]
    · have htk := toKey_keyE ho
      have hst : stD s = .tup (keyE s) := rfl
      have hin : oInD true (stD s) (.dic kvs) = some (.val (.bl (!(valD kvs (keyF s)).isSome))) := by
        rw [hst, inD_eq, htk]; rfl
      cases hv : valD kvs (keyF s) with
      | some d =>
        have hd := hkn.val hv
        subst hd
        refine ⟨kvs, .val (lI (rowV p s)), hkn, .inr rfl, ?_⟩
        have hix' : oIx (.dic kvs) (stD s) = some (.val (lI (rowV p s))) := by
          rw [hst, ixD_eq, htk]
          show (valD kvs (keyF s)).map R.val = _
          rw [hv]; rfl
        rw [hv] at hin
        rw [fnTotalsFrom, defF_eq]
        generalize lI (rowV p s) = RV at *
        simp [gTotalsFrom, over_cmp, ho, hin, hix']
      | none =>
        obtain ⟨g1, g2, g3, g4⟩ := good_stand hp hs
        obtain ⟨n, hn⟩ : ∃ n : Nat, (n : Int) = s.stand := ⟨s.stand.toNat, by omega⟩
        have hg0 := good_next hp hs ho (r := 0) (by omega) (by omega)
        have ht0 := top_nonneg hp hg0
        have hm0 : endT p s ((0 : Nat) : Int) = topS p (nextS p s 0) := by unfold endT; simp
        obtain ⟨kvs1, t4, t5, t6, t7, t8, hk1, e1⟩ := tot_loop hp hp2 ih hs ho hl hl0 (by omega) n 0 1 kvs .no .no .no .no .no (by omega) (by rw [hm0]; omega) (fun v _ => rfl) hkn rfl rfl rfl rfl rfl
        have hlen1 := hk1.len hp hp2
        refine ⟨putD kvs1 (keyF s) (lI (rowV p s)), .val (lI (rowV p s)), hk1.put hs hl hl0, .inr rfl, ?_⟩
        have hix : oIx (.dic (putD kvs1 (keyF s) (lI (rowV p s)))) (stD s) = some (.val (lI (rowV p s))) := by
          rw [hst, ixD_eq, htk]
          show (valD (putD kvs1 (keyF s) (lI (rowV p s))) (keyF s)).map R.val = _
          rw [valD_put]; rfl
        rw [hv] at hin
        have hr0 : lI (rowL 1 (sumC p s 0)) = .lst [.int 0] := rfl
        rw [hr0, ← List.range_eq_range'] at e1
        have hrg : rg1 (n + 1) = (List.range (n + 1)).map fun (k : Nat) => D.int (k : Int) := rfl
        rw [← hrg] at e1
        have hnn : (s.stand + 1).toNat = n + 1 := by omega
        have r1 : -1000000 ≤ s.stand + 1 ∧ s.stand + 1 ≤ 1000000 := by omega
        have x1 : sSub 2 (fVar 1) (fVar 3) [.val (.int p), .val (stD s), .own true (.dic kvs1), .own false (lI (rowV p s)), t4, t5, t6, t7, t8] = some (.nx, [.val (.int p), .val (stD s), .own true (.dic (putD kvs1 (keyF s) (lI (rowV p s)))), .val (lI (rowV p s)), t4, t5, t6, t7, t8]) := by
          have hlc : kvs1.length < cap := by unfold cap; omega
          generalize lI (rowV p s) = RV at *
          rw [hst]
          simp [htk, hlc]
        rw [fnTotalsFrom, defF_eq]
        generalize lI (rowV p s) = RV at *
        simp [gTotalsFrom, over_cmp, ho, hin, st_at4, cap, r1, hnn, e1, -st_sub]
        rw [x1]
        simp [hix]
theorem count_total_ok {f p : Int} {rolls : List Int} {x : Fr} (g : Game f p rolls x) (total : Int) : fnCountTotal [.val (rulesD f p), .val (tI rolls), .val (.int total)] = some (.val (.int ((cV p (sOf f p rolls) (total - scOf f p rolls) : Nat) : Int)), [.val (rulesD f p), .val (tI rolls), .val (.int total)]) := by
  have h3 := after_ok f p rolls
  have hg : GoodS p (sOf f p rolls) := g.good
  have hr : restS (sOf f p rolls) ≤ 21 := rest_le g.left10 (good_left0 hg)
  have hsc := g.scored
  obtain ⟨kvs', rr, _, hrr, e⟩ := tot_ok g.p1 g.p2 30 (sOf f p rolls) [] hg g.left10 (good_left0 hg) (by omega) (.nil p)
  have htop0 := top_nonneg g.p1 hg
  have hlen : (((rowV p (sOf f p rolls)).map D.int).length : Int) = topS p (sOf f p rolls) + 1 := by rw [List.length_map]; unfold rowV; rw [rowL_len]; omega
  have hget : 0 ≤ total - scOf f p rolls → total - scOf f p rolls < topS p (sOf f p rolls) + 1 → atI ((rowV p (sOf f p rolls)).map D.int) (total - scOf f p rolls) = some (.int ((cV p (sOf f p rolls) (total - scOf f p rolls) : Nat) : Int)) := fun h1 h2 => by
    unfold rowV
    exact rowL_get h1 (by omega)
  have hzero := fun h => cV_zero (v := total - scOf f p rolls) g.p1 hg h
  have hc0 : ∀ n : Nat, n = 0 → (n : Int) = 0 := fun n h => by omega
  have hzero' := fun h => hc0 _ (hzero h)
  simp only [lI] at hrr
  generalize (rowV p (sOf f p rolls)).map D.int = RV at *
  generalize ((cV p (sOf f p rolls) (total - scOf f p rolls) : Nat) : Int) = c at *
  rw [fnCountTotal, defF_eq]
  by_cases h1 : 0 ≤ total - scOf f p rolls
  · by_cases h2 : total - scOf f p rolls < topS p (sOf f p rolls) + 1
    · have hg2 := hget h1 h2
      rw [← hlen] at h2
      generalize topS p (sOf f p rolls) = top at *
      generalize scOf f p rolls = sc at *
      generalize hd : total - sc = dif at *
      rcases hrr with rfl | rfl <;> simp [gCountTotal, h3, e, hsc, hd, h1, h2, hg2]
    · have hz := hzero' (.inr (by omega))
      rw [← hlen] at h2
      generalize topS p (sOf f p rolls) = top at *
      generalize scOf f p rolls = sc at *
      generalize hd : total - sc = dif at *
      rcases hrr with rfl | rfl <;> simp [gCountTotal, h3, e, hsc, hd, h1, h2, hz]
  · have hz := hzero' (.inl (by omega))
    generalize scOf f p rolls = sc at *
    generalize hd : total - sc = dif at *
    rcases hrr with rfl | rfl <;> simp [gCountTotal, h3, e, hsc, hd, h1, hz]
end My
namespace My
open PySem L2 FL
/-! ## the number of all games by a rule -/
def triN (P : Nat) : Nat := ((List.range P).map fun r => P - r).sum
theorem tri_two : ∀ P : Nat, 2 * triN P = P * (P + 1)
  | 0 => rfl
  | P + 1 => by
    have ih := tri_two P
    have e : triN (P + 1) = (P + 1) + triN P := by
      unfold triN
      rw [List.range_succ_eq_map, List.map_cons, List.sum_cons, List.map_map]
      congr 2
      apply List.map_congr_left
      intro r _
      show P + 1 - (r + 1) = P - r
      omega
    rw [e, Nat.mul_add, ih]
    have h1 : (P + 1) * (P + 1 + 1) = P * (P + 1) + 2 * (P + 1) := by rw [← Nat.add_mul, Nat.mul_comm]
    rw [h1]; omega
theorem sum_const (c : Nat) : ∀ l : List Nat, (l.map fun _ => c).sum = l.length * c
  | [] => by simp
  | a :: l => by rw [List.map_cons, List.sum_cons, sum_const c l, List.length_cons, Nat.add_mul, Nat.one_mul, Nat.add_comm]
theorem sum_scale (f : Nat → Nat) (c : Nat) : ∀ l : List Nat, (l.map fun r => f r * c).sum = (l.map f).sum * c
  | [] => by simp
  | a :: l => by rw [List.map_cons, List.map_cons, List.sum_cons, List.sum_cons, sum_scale f c l, Nat.add_mul]
/-- a step: rolls below the stand, the stand itself -/
theorem cnt_split {p : Int} (hp : 2 ≤ p) {s : Gs} (hs : GoodS p s) (ho : s ≠ Gs.OVER) {T : Nat} (hT : s.stand = (T : Int)) {g : Nat → Nat} {c : Nat} (hg : ∀ r, r < T → cntS p (nextS p s (r : Int)) = g r) (hc : cntS p (nextS p s (T : Int)) = c) : cntS p s = ((List.range T).map g).sum + c := by
  have e1 : (s.stand + 1).toNat = T + 1 := by omega
  rw [cnt_step hp hs ho, e1, List.range_succ, List.map_append, List.sum_append, List.map_singleton, List.sum_singleton, hc]
  congr 2
  apply List.map_congr_left
  intro r hr
  exact hg r (List.mem_range.mp hr)
/-! ### steps by parts -/
section
variable {p n m l t r : Int}
theorem ns_first_lt (h : r < t) : nextS p ⟨n, m, l, .first, t⟩ r = ⟨n, l, 0, .second, t - r⟩ := by simp [nextS, h]
theorem ns_first_one (h : ¬ r < t) : nextS p ⟨1, m, l, .first, t⟩ r = ⟨1, l, 0, .two, p⟩ := by simp [nextS, h]
theorem ns_first_go (h : ¬ r < t) (hn : ¬ n = 1) : nextS p ⟨n, m, l, .first, t⟩ r = ⟨n - 1, l + 1, 1, .first, p⟩ := by simp [nextS, h, hn]
theorem ns_second_lt (h : r < t) (hn : 1 < n) : nextS p ⟨n, m, 0, .second, t⟩ r = ⟨n - 1, 0, 0, .first, p⟩ := by simp [nextS, h, hn]
theorem ns_second_eq (h : ¬ r < t) (hn : ¬ n = 1) : nextS p ⟨n, m, 0, .second, t⟩ r = ⟨n - 1, 1, 0, .first, p⟩ := by simp [nextS, h, hn]
theorem ns_second1_lt (h : r < t) : nextS p ⟨1, m, 0, .second, t⟩ r = Gs.OVER := by simp [nextS, h]
theorem ns_second1_eq (h : ¬ r < t) : nextS p ⟨1, m, 0, .second, t⟩ r = ⟨1, 0, 0, .one, p⟩ := by simp [nextS, h]
theorem ns_two_lt (h : r < t) : nextS p ⟨1, m, 0, .two, t⟩ r = ⟨1, 0, 0, .one, p - r⟩ := by simp [nextS, h]
theorem ns_two_eq (h : ¬ r < t) : nextS p ⟨1, m, 0, .two, t⟩ r = ⟨1, 0, 0, .one, p⟩ := by simp [nextS, h]
end
theorem cnt_one {p : Int} (hp : 2 ≤ p) {t : Int} (h1 : 1 ≤ t) (h2 : t ≤ p) : cntS p ⟨1, 0, 0, .one, t⟩ = t.toNat + 1 := by
  have hs : GoodS p ⟨1, 0, 0, .one, t⟩ := ⟨rfl, rfl, rfl, h1, h2⟩
  have e1 : ∀ q, nextS p ⟨1, 0, 0, .one, t⟩ q = Gs.OVER := fun q => by simp [nextS]
  have h := cnt_split hp hs (by simp [Gs.OVER]) (T := t.toNat) (by simp only; omega) (g := fun _ => 1) (c := 1) (fun r _ => by rw [e1, cnt_over]) (by rw [e1, cnt_over])
  rw [h, sum_const, List.length_range]; omega
theorem cnt_second1 {p : Int} (hp : 2 ≤ p) {m t : Int} (hm : m = 0 ∨ m = 1) (h1 : 1 ≤ t) (h2 : t ≤ p) : cntS p ⟨1, m, 0, .second, t⟩ = t.toNat + (p.toNat + 1) := by
  have hs : GoodS p ⟨1, m, 0, .second, t⟩ := ⟨by simp, hm, rfl, h1, h2⟩
  have h := cnt_split hp hs (by simp [Gs.OVER]) (T := t.toNat) (by simp only; omega) (g := fun _ => 1) (c := p.toNat + 1) (fun r hr => by
    have h3 : (r : Int) < t := by omega
    have e1 : nextS p ⟨1, m, 0, .second, t⟩ (r : Int) = Gs.OVER := ns_second1_lt h3
    rw [e1, cnt_over]) (by
    have h3 : ¬ (t.toNat : Int) < t := by omega
    have e1 : nextS p ⟨1, m, 0, .second, t⟩ (t.toNat : Int) = ⟨1, 0, 0, .one, p⟩ := ns_second1_eq h3
    rw [e1, cnt_one hp (by omega) (Int.le_refl _)])
  rw [h, sum_const, List.length_range]; omega
theorem cnt_two {P : Nat} (hp : 2 ≤ (P : Int)) {m : Int} (hm : m = 0 ∨ m = 1) : cntS (P : Int) ⟨1, m, 0, .two, (P : Int)⟩ = triN P + P + (P + 1) := by
  have hs : GoodS (P : Int) ⟨1, m, 0, .two, (P : Int)⟩ := ⟨rfl, hm, rfl, rfl⟩
  have h := cnt_split hp hs (by simp [Gs.OVER]) (T := P) rfl (g := fun r => (P - r) + 1) (c := P + 1) (fun r hr => by
    have h3 : (r : Int) < (P : Int) := by omega
    have e1 : nextS (P : Int) ⟨1, m, 0, .two, (P : Int)⟩ (r : Int) = ⟨1, 0, 0, .one, (P : Int) - (r : Int)⟩ := ns_two_lt h3
    rw [e1, cnt_one hp (by omega) (by omega)]
    omega) (by
    have e1 : nextS (P : Int) ⟨1, m, 0, .two, (P : Int)⟩ (P : Int) = ⟨1, 0, 0, .one, (P : Int)⟩ := ns_two_eq (Int.lt_irrefl _)
    rw [e1, cnt_one hp (by omega) (Int.le_refl _)]
    omega)
  rw [h, sum_add, sum_const, List.length_range]
  show triN P + P * 1 + _ = _
  omega
def baseN (P : Nat) : Nat := triN P + P * (P + 1) + (triN P + P + (P + 1))
def facN (P : Nat) : Nat := triN P + P + 1
theorem bon_later {m l : Int} (h : Bon m l) : l = 0 ∨ l = 1 := by unfold Bon at h; omega
theorem cnt_first1 {P : Nat} (hp : 2 ≤ (P : Int)) {m l : Int} (hb : Bon m l) : cntS (P : Int) ⟨1, m, l, .first, (P : Int)⟩ = baseN P := by
  have hs : GoodS (P : Int) ⟨1, m, l, .first, (P : Int)⟩ := ⟨Int.le_refl _, hb, rfl⟩
  have h := cnt_split hp hs (by simp [Gs.OVER]) (T := P) rfl (g := fun r => (P - r) + (P + 1)) (c := triN P + P + (P + 1)) (fun r hr => by
    have h3 : (r : Int) < (P : Int) := by omega
    have e1 : nextS (P : Int) ⟨1, m, l, .first, (P : Int)⟩ (r : Int) = ⟨1, l, 0, .second, (P : Int) - (r : Int)⟩ := ns_first_lt h3
    rw [e1, cnt_second1 hp (bon_later hb) (by omega) (by omega)]
    omega) (by
    have e1 : nextS (P : Int) ⟨1, m, l, .first, (P : Int)⟩ (P : Int) = ⟨1, l, 0, .two, (P : Int)⟩ := ns_first_one (Int.lt_irrefl _)
    rw [e1, cnt_two hp (bon_later hb)])
  rw [h, sum_add, sum_const, List.length_range]
  rfl
theorem cnt_first {P : Nat} (hp : 2 ≤ (P : Int)) : ∀ (k : Nat) {m l : Int}, Bon m l → cntS (P : Int) ⟨(k : Int) + 1, m, l, .first, (P : Int)⟩ = baseN P * facN P ^ k
  | 0, m, l, hb => by
    rw [Nat.pow_zero, Nat.mul_one]
    exact cnt_first1 hp hb
  | k + 1, m, l, hb => by
    have hk : ((k + 1 : Nat) : Int) = (k : Int) + 1 := by omega
    rw [hk]
    have hs : GoodS (P : Int) ⟨(k : Int) + 1 + 1, m, l, .first, (P : Int)⟩ := ⟨by simp only; omega, hb, rfl⟩
    have ih0 := cnt_first hp k (m := 0) (l := 0) (.inl ⟨rfl, rfl⟩)
    have ih1 := cnt_first hp k (m := 1) (l := 0) (.inr (.inl ⟨rfl, rfl⟩))
    have hn1 : ¬ (k : Int) + 1 + 1 = 1 := by omega
    have hn2 : 1 < (k : Int) + 1 + 1 := by omega
    have hn3 : (k : Int) + 1 + 1 - 1 = (k : Int) + 1 := by omega
    have hsec : ∀ t : Nat, 1 ≤ (t : Int) → (t : Int) ≤ (P : Int) → cntS (P : Int) ⟨(k : Int) + 1 + 1, l, 0, .second, (t : Int)⟩ = (t + 1) * (baseN P * facN P ^ k) := fun t h1 h2 => by
      have hs2 : GoodS (P : Int) ⟨(k : Int) + 1 + 1, l, 0, .second, (t : Int)⟩ := ⟨by simp only; omega, bon_later hb, rfl, h1, h2⟩
      have h := cnt_split hp hs2 (by simp [Gs.OVER]) (T := t) rfl (g := fun _ => baseN P * facN P ^ k) (c := baseN P * facN P ^ k) (fun r hr => by
        have h3 : (r : Int) < (t : Int) := by omega
        have e1 : nextS (P : Int) ⟨(k : Int) + 1 + 1, l, 0, .second, (t : Int)⟩ (r : Int) = ⟨(k : Int) + 1, 0, 0, .first, (P : Int)⟩ := by rw [ns_second_lt h3 hn2, hn3]
        rw [e1, ih0]) (by
        have e1 : nextS (P : Int) ⟨(k : Int) + 1 + 1, l, 0, .second, (t : Int)⟩ (t : Int) = ⟨(k : Int) + 1, 1, 0, .first, (P : Int)⟩ := by rw [ns_second_eq (Int.lt_irrefl _) hn1, hn3]
        rw [e1, ih1])
      rw [h, sum_const, List.length_range, Nat.add_mul, Nat.one_mul]
    have h := cnt_split hp hs (by simp [Gs.OVER]) (T := P) rfl (g := fun r => ((P - r) + 1) * (baseN P * facN P ^ k)) (c := baseN P * facN P ^ k) (fun r hr => by
      have h3 : (r : Int) < (P : Int) := by omega
      have e1 : nextS (P : Int) ⟨(k : Int) + 1 + 1, m, l, .first, (P : Int)⟩ (r : Int) = ⟨(k : Int) + 1 + 1, l, 0, .second, ((P - r : Nat) : Int)⟩ := by
        have : ((P - r : Nat) : Int) = (P : Int) - (r : Int) := by omega
        rw [this]
        exact ns_first_lt h3
      rw [e1, hsec (P - r) (by omega) (by omega)]) (by
      have e1 : nextS (P : Int) ⟨(k : Int) + 1 + 1, m, l, .first, (P : Int)⟩ (P : Int) = ⟨(k : Int) + 1, l + 1, 1, .first, (P : Int)⟩ := by rw [ns_first_go (Int.lt_irrefl _) hn1, hn3]
      rw [e1]
      refine cnt_first hp k ?_
      unfold Bon at hb ⊢
      omega)
    rw [h, sum_scale, sum_add, sum_const, List.length_range]
    show (triN P + P * 1) * (baseN P * facN P ^ k) + _ = _
    have hf : facN P = triN P + P * 1 + 1 := by rw [Nat.mul_one]; rfl
    have h1 : (triN P + P * 1) * (baseN P * facN P ^ k) + baseN P * facN P ^ k = facN P * (baseN P * facN P ^ k) := by
      rw [hf, Nat.add_mul (triN P + P * 1) 1, Nat.one_mul]
    rw [h1, Nat.pow_succ, Nat.mul_left_comm, Nat.mul_comm (facN P)]
theorem cnt_begin {P : Nat} (hp : 2 ≤ (P : Int)) (k : Nat) : cntS (P : Int) (beginS ((k : Int) + 1) (P : Int)) = baseN P * facN P ^ k := cnt_first hp k (.inl ⟨rfl, rfl⟩)
end My
namespace My
open PySem L2 FL
/-! ## the law of counts -/
theorem min_lst (ds : List D) : oMin [.lst ds] = (intsOf ds).bind fun ns => if ns.isEmpty then none else some (.val (.int (minI ns))) := rfl
theorem max_lst (ds : List D) : oMax [.lst ds] = (intsOf ds).bind fun ns => if ns.isEmpty then none else some (.val (.int (maxI ns))) := rfl
theorem k08_tot (f p : Int) (rolls : List Int) (s0 s1 s3 s5 s6 s7 s8 s9 s10 s11 s12 s13 s14 s15 s17 : Sl) : ∀ (ms : List (List Int)) (acc : List Int), (∀ m ∈ ms, ∃ x, Game f p (rolls ++ m) x) → acc.length + ms.length ≤ 500000 →
    lcL (.nm 16) (fC (.bl true)) gLaw_e1 [16] (ms.map tI) (acc.map D.int) [s0, s1, .val (rulesD f p), s3, .val (tI rolls), s5, s6, s7, s8, s9, s10, s11, s12, s13, s14, s15, .no, s17] = some ((acc ++ (ms.map fun m => scOf f p (rolls ++ m))).map D.int, [s0, s1, .val (rulesD f p), s3, .val (tI rolls), s5, s6, s7, s8, s9, s10, s11, s12, s13, s14, s15, .no, s17])
  | [], acc, _, _ => by simp
  | m :: ms, acc, hg, hl => by
    have hl' : acc.length + (ms.length + 1) ≤ 500000 := by simpa using hl
    obtain ⟨x, g⟩ := hg m List.mem_cons_self
    have e := k08_tot f p rolls s0 s1 s3 s5 s6 s7 s8 s9 s10 s11 s12 s13 s14 s15 s17 ms (acc ++ [scOf f p (rolls ++ m)]) (fun q hq => hg q (List.mem_cons_of_mem _ hq)) (by simp; omega)
    have hc : (acc.map D.int).length < 1000000 := by rw [List.length_map]; omega
    have hp := points_ok f p (rolls ++ m) x g
    rw [← g.score_eq] at hp
    have hfew := g.few
    have hc2 : rolls.length + m.length ≤ 1000000 := by simp at hfew; omega
    rw [List.map_cons, lcL_cons, List.map_cons]
    rw [List.append_assoc, List.singleton_append, List.map_append, List.map_singleton] at e
    rw [← e]
    generalize acc.map D.int = ACC at *
    simp [gLaw_e1, cap, hc, hc2, hp]
theorem count_map {f p : Int} {rolls : List Int} {A : List (List Int)} (hA : A = waysL p (sOf f p rolls)) (v : Int) : (A.map fun m => scOf f p (rolls ++ m)).count v = cV p (sOf f p rolls) (v - scOf f p rolls) := by
  unfold cV List.count
  rw [hA, List.countP_map]
  apply List.countP_congr
  intro m _
  show (scOf f p (rolls ++ m) == v) = true ↔ decide (scS p (sOf f p rolls) m = v - scOf f p rolls) = true
  rw [beq_iff_eq, decide_eq_true_eq]
  show scS p (beginS f p) (rolls ++ m) = v ↔ _
  rw [sc_append]
  show scS p (beginS f p) rolls + scS p (sOf f p rolls) m = v ↔ scS p (sOf f p rolls) m = v - scS p (beginS f p) rolls
  omega
theorem k08_b2 {f p : Int} {rolls : List Int} {x : Fr} (g : Game f p rolls x) {T : List Int} (hT : ∀ v, T.count v = cV p (sOf f p rolls) (v - scOf f p rolls)) (s0 s1 s3 s7 s8 s9 s10 s11 s12 s13 s14 s15 s16 s17 : Sl) (v : Int) : gLaw_b2 [s0, s1, .val (rulesD f p), s3, .val (tI rolls), .own false (lI T), .val (.int v), s7, s8, s9, s10, s11, s12, s13, s14, s15, s16, s17] = some (.nx, [s0, s1, .val (rulesD f p), s3, .val (tI rolls), .own false (lI T), .val (.int v), s7, s8, s9, s10, s11, s12, s13, s14, s15, s16, s17]) := by
  have e1 := count_total_ok g v
  rw [← hT] at e1
  have e2 := like_int 3 ((T.count v : Nat) : Int)
  have e3 : ∀ ρ : List Sl, ρ = [s0, s1, .val (rulesD f p), s3, .val (tI rolls), .own false (lI T), .val (.int v), s7, s8, s9, s10, s11, s12, s13, s14, s15, s16, s17] → fCount 5 (fVar 6) ρ = some (.val (.int ((T.count v : Nat) : Int)), ρ) := fun ρ hρ => by
    subst hρ
    have hi : intsOf (T.map D.int) = some T := intsOf_map _
    unfold fCount
    simp only [List.getElem?_cons_succ, List.getElem?_cons_zero, lI]
    simp [oCount, hi]
  have e3' := e3 _ rfl
  generalize ((T.count v : Nat) : Int) = c at *
  simp only [lI] at *
  generalize T.map D.int = TD at *
  simp [gLaw_b2, e1, e2, e3']
theorem k08_for {f p : Int} {rolls : List Int} {x : Fr} (g : Game f p rolls x) {T : List Int} (hT : ∀ v, T.count v = cV p (sOf f p rolls) (v - scOf f p rolls)) (s0 s1 s3 s7 s8 s9 s10 s11 s12 s13 s14 s15 s16 s17 : Sl) : ∀ (vs : List Int) (s6 : Sl), Loose s6 →
    ∃ t6, Loose t6 ∧ forL (.nm 6) gLaw_b2 (vs.map D.int) [s0, s1, .val (rulesD f p), s3, .val (tI rolls), .own false (lI T), s6, s7, s8, s9, s10, s11, s12, s13, s14, s15, s16, s17] = some (.nx, [s0, s1, .val (rulesD f p), s3, .val (tI rolls), .own false (lI T), t6, s7, s8, s9, s10, s11, s12, s13, s14, s15, s16, s17])
  | [], s6, h => ⟨s6, h, rfl⟩
  | v :: vs, s6, h => by
    obtain ⟨t6, ht, e⟩ := k08_for g hT s0 s1 s3 s7 s8 s9 s10 s11 s12 s13 s14 s15 s16 s17 vs (.val (.int v)) (Loose.val _)
    have h6 := h.stored
    have e1 := k08_b2 g hT s0 s1 s3 s7 s8 s9 s10 s11 s12 s13 s14 s15 s16 s17 v
    refine ⟨t6, ht, ?_⟩
    have e0 : asg (.nm 6) (.int v) [s0, s1, .val (rulesD f p), s3, .val (tI rolls), .own false (lI T), s6, s7, s8, s9, s10, s11, s12, s13, s14, s15, s16, s17] = some [s0, s1, .val (rulesD f p), s3, .val (tI rolls), .own false (lI T), .val (.int v), s7, s8, s9, s10, s11, s12, s13, s14, s15, s16, s17] := by simp [h6]
    rw [List.map_cons, forL_cons, e0, Option.bind_some, e1, forO_nx, e]
/-! ### the closed form, in the program's words -/
theorem tri_half (P : Nat) : ((P : Int) * ((P : Int) + 1)) / 2 = (triN P : Int) := by
  have h : ((P * (P + 1) : Nat) : Int) = ((2 * triN P : Nat) : Int) := by rw [tri_two]
  rw [Int.natCast_mul, Int.natCast_mul, Int.natCast_add] at h
  have h' : (P : Int) * ((P : Int) + 1) = 2 * (triN P : Int) := h
  rw [h']; omega
theorem fac_two (P : Nat) : ((P : Int) + 1) * ((P : Int) + 2) = 2 * (facN P : Int) := by
  have h1 := tri_half P
  have h : ((P * (P + 1) : Nat) : Int) = ((2 * triN P : Nat) : Int) := by rw [tri_two]
  rw [Int.natCast_mul, Int.natCast_mul, Int.natCast_add] at h
  have h' : (P : Int) * ((P : Int) + 1) = 2 * (triN P : Int) := h
  have h2 : ((P : Int) + 1) * ((P : Int) + 2) = (P : Int) * ((P : Int) + 1) + 2 * ((P : Int) + 1) := by
    have e : ((P : Int) + 2) = (P : Int) + 2 := rfl
    rw [Int.mul_add, Int.mul_comm ((P : Int) + 1) (P : Int), Int.mul_comm ((P : Int) + 1) 2]
  have h3 : (facN P : Int) = (triN P : Int) + (P : Int) + 1 := by unfold facN; omega
  rw [h2, h', h3]; omega
theorem base_eq (P : Nat) : (baseN P : Int) = (triN P : Int) + (P : Int) * ((P : Int) + 1) + ((P : Int) + 1) + (facN P : Int) - 1 := by
  unfold baseN facN
  have h : ((P * (P + 1) : Nat) : Int) = (P : Int) * ((P : Int) + 1) := by rw [Int.natCast_mul, Int.natCast_add]; rfl
  generalize hq : P * (P + 1) = q at *
  omega
theorem base_le {P : Nat} (h : P ≤ 10) : baseN P ≤ 241 ∧ facN P ≤ 66 := by
  have : ∀ P, P ≤ 10 → baseN P ≤ 241 ∧ facN P ≤ 66 := by decide +kernel
  exact this P h
theorem b3_step (y pp z : Int) (m1 : mulOk y (pp + 1) = true) (m2 : mulOk (y * (pp + 1)) (pp + 2) = true) (hd : (y * (pp + 1) * (pp + 2)) / 2 = z) (s0 s1 s2 s3 s4 s5 s6 s7 s10 s11 s12 s13 s14 s15 s16 s17 : Sl) : gLaw_b3 [s0, s1, s2, s3, s4, s5, s6, s7, .val (.int pp), .val (.int y), s10, s11, s12, s13, s14, s15, s16, s17] = some (.nx, [s0, s1, s2, s3, s4, s5, s6, s7, .val (.int pp), .val (.int z), s10, s11, s12, s13, s14, s15, s16, s17]) := by
  have o1 : oMul (.int y) (.int (pp + 1)) = some (.val (.int (y * (pp + 1)))) := by rw [mulI, if_pos m1]
  have o2 : oMul (.int (y * (pp + 1))) (.int (pp + 2)) = some (.val (.int (y * (pp + 1) * (pp + 2)))) := by rw [mulI, if_pos m2]
  have o3 : oFDiv (.int (y * (pp + 1) * (pp + 2))) (.int 2) = some (.val (.int z)) := by rw [fdivI, if_pos ⟨by decide, by decide⟩, hd]
  generalize y * (pp + 1) * (pp + 2) = w at *
  generalize y * (pp + 1) = w2 at *
  simp [gLaw_b3, o1, o2, o3, -mulI, -fdivI]
theorem mulOk_nat (a : Nat) (b : Int) (h : a ≤ 241 * 66 ^ 8 * 11) : mulOk (a : Int) b = true := by
  have h4 : (241 * 66 ^ 8 * 11 : Nat) < 18446744073709551616 := by decide
  have h5 : (a : Int) < ((18446744073709551616 : Nat) : Int) := Int.ofNat_lt.mpr (Nat.lt_of_le_of_lt h h4)
  have h6 : (0 : Int) ≤ (a : Int) := Int.natCast_nonneg a
  generalize (a : Int) = x at *
  exact mul_ok x b ⟨Int.lt_of_lt_of_le (by decide) h6, h5⟩
theorem k08_b3 (P : Nat) (hP : P ≤ 10) (j : Nat) (hj : j ≤ 8) (s0 s1 s2 s3 s4 s5 s6 s7 s10 s11 s12 s13 s14 s15 s16 s17 : Sl) : gLaw_b3 [s0, s1, s2, s3, s4, s5, s6, s7, .val (.int (P : Int)), .val (.int ((baseN P * facN P ^ j : Nat) : Int)), s10, s11, s12, s13, s14, s15, s16, s17] = some (.nx, [s0, s1, s2, s3, s4, s5, s6, s7, .val (.int (P : Int)), .val (.int ((baseN P * facN P ^ (j + 1) : Nat) : Int)), s10, s11, s12, s13, s14, s15, s16, s17]) := by
  obtain ⟨b1, b2⟩ := base_le hP
  have h1 : facN P ^ j ≤ 66 ^ 8 := Nat.le_trans (Nat.pow_le_pow_left b2 j) (Nat.pow_le_pow_right (by decide) hj)
  have h2 : baseN P * facN P ^ j ≤ 241 * 66 ^ 8 := Nat.mul_le_mul b1 h1
  have h3 : baseN P * facN P ^ j * (P + 1) ≤ 241 * 66 ^ 8 * 11 := Nat.mul_le_mul h2 (Nat.succ_le_succ hP)
  have h2' : baseN P * facN P ^ j ≤ 241 * 66 ^ 8 * 11 := Nat.le_trans h2 (Nat.le_mul_of_pos_right _ (by decide))
  have hf := fac_two P
  have hz : ((baseN P * facN P ^ (j + 1) : Nat) : Int) = ((baseN P * facN P ^ j : Nat) : Int) * (facN P : Int) := by
    rw [Nat.pow_succ, ← Nat.mul_assoc, Int.natCast_mul]
  have h5 : ((baseN P * facN P ^ j : Nat) : Int) * ((P : Int) + 1) = ((baseN P * facN P ^ j * (P + 1) : Nat) : Int) := by
    rw [Int.natCast_mul (baseN P * facN P ^ j), Int.natCast_add]; rfl
  have m1 := mulOk_nat _ ((P : Int) + 1) h2'
  have m2 := mulOk_nat _ ((P : Int) + 2) h3
  rw [← h5] at m2
  clear h1 h2 h3 h2' h5 b1 b2
  generalize baseN P * facN P ^ (j + 1) = z at *
  generalize baseN P * facN P ^ j = y at *
  refine b3_step (y : Int) (P : Int) (z : Int) m1 m2 ?_ s0 s1 s2 s3 s4 s5 s6 s7 s10 s11 s12 s13 s14 s15 s16 s17
  rw [hz, Int.mul_assoc, hf, Int.mul_left_comm]
  exact Int.mul_ediv_cancel_left _ (by decide)
theorem k08_frames (P : Nat) (hP : P ≤ 10) (s0 s1 s2 s3 s4 s5 s6 s7 s11 s12 s13 s14 s15 s16 s17 : Sl) : ∀ (ds : List D) (j : Nat) (s10 : Sl), j + ds.length ≤ 9 → FL.stored s10 = true →
    ∃ t10, FL.stored t10 = true ∧ forL (.nm 10) gLaw_b3 ds [s0, s1, s2, s3, s4, s5, s6, s7, .val (.int (P : Int)), .val (.int ((baseN P * facN P ^ j : Nat) : Int)), s10, s11, s12, s13, s14, s15, s16, s17] = some (.nx, [s0, s1, s2, s3, s4, s5, s6, s7, .val (.int (P : Int)), .val (.int ((baseN P * facN P ^ (j + ds.length) : Nat) : Int)), t10, s11, s12, s13, s14, s15, s16, s17])
  | [], j, s10, _, h => ⟨s10, h, rfl⟩
  | d :: ds, j, s10, hl, h => by
    rw [List.length_cons] at hl
    obtain ⟨t10, ht, e⟩ := k08_frames P hP s0 s1 s2 s3 s4 s5 s6 s7 s11 s12 s13 s14 s15 s16 s17 ds (j + 1) (.val d) (by omega) rfl
    have e1 := k08_b3 P hP j (by omega) s0 s1 s2 s3 s4 s5 s6 s7 (.val d) s11 s12 s13 s14 s15 s16 s17
    refine ⟨t10, ht, ?_⟩
    have e0 : asg (.nm 10) d [s0, s1, s2, s3, s4, s5, s6, s7, .val (.int (P : Int)), .val (.int ((baseN P * facN P ^ j : Nat) : Int)), s10, s11, s12, s13, s14, s15, s16, s17] = some [s0, s1, s2, s3, s4, s5, s6, s7, .val (.int (P : Int)), .val (.int ((baseN P * facN P ^ j : Nat) : Int)), .val d, s11, s12, s13, s14, s15, s16, s17] := by
      generalize ((baseN P * facN P ^ j : Nat) : Int) = y at *
      generalize (P : Int) = pp at *
      simp [h]
    have hj : j + (d :: ds).length = j + 1 + ds.length := by rw [List.length_cons]; omega
    rw [forL_cons, e0, Option.bind_some, e1, forO_nx, e, hj]
/-! ### all totals of small rules -/
theorem top_begin (f p : Int) : topS p (beginS f p) = 3 * f * p := by
  show 3 * (p * f) + p * (0 + 0) = 3 * f * p
  rw [Int.mul_comm p f, Int.mul_assoc]; omega
theorem good_begin {f p : Int} (hf : 1 ≤ f) : GoodS p (beginS f p) := ⟨hf, .inl ⟨rfl, rfl⟩, rfl⟩
theorem sum_begin {f p : Int} (hp : 2 ≤ p) (hf : 1 ≤ f) : (rowL (3 * f * p + 1).toNat fun v => ((cV p (beginS f p) v : Nat) : Int)).sum = ((cntS p (beginS f p) : Nat) : Int) := by
  have h0 : 0 ≤ 3 * f * p := Int.mul_nonneg (by omega) (by omega)
  have h := cV_sum hp (good_begin (p := p) hf) (n := (3 * f * p + 1).toNat) (by rw [top_begin]; omega)
  rw [← h, ← sum_cast (fun v => cV p (beginS f p) (v : Int))]
  rfl
theorem min_begin {f p : Int} (hp : 2 ≤ p) (hf : 1 ≤ f) : ¬ minI (rowL (3 * f * p + 1).toNat fun v => ((cV p (beginS f p) v : Nat) : Int)) < 1 ∧ (rowL (3 * f * p + 1).toNat fun v => ((cV p (beginS f p) v : Nat) : Int)) ≠ [] := by
  have h0 : 0 ≤ 3 * f * p := Int.mul_nonneg (by omega) (by omega)
  have hne : (rowL (3 * f * p + 1).toNat fun v => ((cV p (beginS f p) v : Nat) : Int)) ≠ [] := fun e => by
    have := rowL_len (3 * f * p + 1).toNat fun v => ((cV p (beginS f p) v : Nat) : Int)
    rw [e] at this
    simp at this
    omega
  refine ⟨?_, hne⟩
  obtain ⟨h1, _⟩ := minI_mem hne
  unfold rowL at h1
  obtain ⟨v, hv, e⟩ := List.mem_map.mp h1
  have hv2 := List.mem_range.mp hv
  have hr : Reach p (beginS f p) (v : Int) := (reach_iff hp (good_begin hf) _).mpr ⟨by omega, by rw [top_begin]; omega, fun h => by
    have h' : f = 1 ∧ gapsFirst p 0 0 (v : Int) := h
    obtain ⟨_, h2⟩ := h'
    unfold gapsFirst at h2
    omega⟩
  have hpos := cV_pos hp (good_begin hf) hr
  intro hlt
  have e' : ((cV p (beginS f p) (v : Int) : Nat) : Int) = minI (rowL (3 * f * p + 1).toNat fun v => ((cV p (beginS f p) v : Nat) : Int)) := e
  rw [← e'] at hlt
  omega
theorem k08_sums {f p : Int} (g : Game f p [] ([], [])) (s0 s1 s2 s3 s4 s5 s7 s8 s9 s10 s12 s13 s14 s15 s16 s17 : Sl) : ∀ (ks : List Nat) (acc : List Int), acc.length + ks.length ≤ 1000 →
    lcL (.nm 6) (fC (.bl true)) gLaw_e4 [6] (ks.map fun (v : Nat) => D.int (v : Int)) (acc.map D.int) [s0, s1, s2, s3, s4, s5, .no, s7, s8, s9, s10, .val (rulesD f p), s12, s13, s14, s15, s16, s17] = some ((acc ++ ks.map fun (v : Nat) => ((cV p (beginS f p) (v : Int) : Nat) : Int)).map D.int, [s0, s1, s2, s3, s4, s5, .no, s7, s8, s9, s10, .val (rulesD f p), s12, s13, s14, s15, s16, s17])
  | [], acc, _ => by simp
  | v :: ks, acc, hl => by
    have hl' : acc.length + (ks.length + 1) ≤ 1000 := by simpa using hl
    have e := k08_sums g s0 s1 s2 s3 s4 s5 s7 s8 s9 s10 s12 s13 s14 s15 s16 s17 ks (acc ++ [((cV p (beginS f p) (v : Int) : Nat) : Int)]) (by simp; omega)
    have hc : (acc.map D.int).length < 1000000 := by rw [List.length_map]; omega
    have e1 : fnCountTotal [.val (rulesD f p), .val (.tup []), .val (.int (v : Int))] = some (.val (.int ((cV p (beginS f p) ((v : Int) - 0) : Nat) : Int)), [.val (rulesD f p), .val (.tup []), .val (.int (v : Int))]) := count_total_ok g (v : Int)
    rw [Int.sub_zero] at e1
    rw [List.map_cons, lcL_cons, List.map_cons]
    rw [List.append_assoc, List.singleton_append, List.map_append, List.map_singleton] at e
    rw [← e]
    generalize acc.map D.int = ACC at *
    generalize ((cV p (beginS f p) (v : Int) : Nat) : Int) = c at *
    generalize (v : Int) = vi at *
    simp [gLaw_e4, cap, hc, e1]
theorem k08_parts {f p : Int} {rolls : List Int} {x : Fr} (g : Game f p rolls x) (ho : sOf f p rolls ≠ Gs.OVER) (s0 s1 s2 s3 s4 s5 s6 s7 s8 s9 s10 s12 s14 s15 s16 : Sl) : ∀ (ks : List Nat) (acc : List Int), (∀ r ∈ ks, (r : Int) ≤ (sOf f p rolls).stand) → acc.length + ks.length ≤ 1000 →
    lcL (.nm 17) (fC (.bl true)) gLaw_e5 [17] (ks.map fun (v : Nat) => D.int (v : Int)) (acc.map D.int) [s0, s1, s2, s3, s4, s5, s6, s7, s8, s9, s10, .val (rulesD f p), s12, .val (tI rolls), s14, s15, s16, .no] = some ((acc ++ ks.map fun (r : Nat) => ((cntS p (nextS p (sOf f p rolls) (r : Int)) : Nat) : Int)).map D.int, [s0, s1, s2, s3, s4, s5, s6, s7, s8, s9, s10, .val (rulesD f p), s12, .val (tI rolls), s14, s15, s16, .no])
  | [], acc, _, _ => by simp
  | r :: ks, acc, hr, hl => by
    have hl' : acc.length + (ks.length + 1) ≤ 1000 := by simpa using hl
    have hr0 := hr r List.mem_cons_self
    have e := k08_parts g ho s0 s1 s2 s3 s4 s5 s6 s7 s8 s9 s10 s12 s14 s15 s16 ks (acc ++ [((cntS p (nextS p (sOf f p rolls) (r : Int)) : Nat) : Int)]) (fun q hq => hr q (List.mem_cons_of_mem _ hq)) (by simp; omega)
    have hc : (acc.map D.int).length < 1000000 := by rw [List.length_map]; omega
    have hcan := (g.lock.can (r := (r : Int)) g.hp).mpr ⟨ho, Int.natCast_nonneg r, hr0⟩
    cases hz : FL.stepF f p x (r : Int) with
    | none => rw [hz] at hcan; cases hcan
    | some z =>
      have g2 := g.next hz
      have e1 := count_games_ok g2
      have e2 : sOf f p (rolls ++ [(r : Int)]) = nextS p (sOf f p rolls) (r : Int) := sOf_append f p rolls [(r : Int)]
      rw [e2] at e1
      have hfew := g.few
      have hc2 : rolls.length + 1 ≤ 1000000 := by omega
      rw [List.map_cons, lcL_cons, List.map_cons]
      rw [List.append_assoc, List.singleton_append, List.map_append, List.map_singleton] at e
      rw [← e]
      generalize acc.map D.int = ACC at *
      generalize ((cntS p (nextS p (sOf f p rolls) (r : Int)) : Nat) : Int) = c at *
      generalize (r : Int) = ri at *
      simp [gLaw_e5, cap, hc, hc2, e1]
end My
namespace My
open PySem L2 FL
/-! ## ascending lists -/
theorem asc_len : ∀ {l : List Int} {lo hi : Int}, l.Pairwise (· < ·) → (∀ v ∈ l, lo ≤ v ∧ v ≤ hi) → (l.length : Int) ≤ (if hi + 1 - lo ≤ 0 then 0 else hi + 1 - lo)
  | [], lo, hi, _, _ => by simp only [List.length_nil]; split <;> omega
  | x :: l, lo, hi, h, hb => by
    rw [List.pairwise_cons] at h
    have hx := hb x List.mem_cons_self
    have ih := asc_len (lo := x + 1) (hi := hi) h.2 fun v hv => by
      have := h.1 v hv
      have := hb v (List.mem_cons_of_mem _ hv)
      omega
    rw [List.length_cons]
    split at ih <;> split <;> omega
theorem asc_head {l : List Int} {lo : Int} (h : l.Pairwise (· < ·)) (hm : lo ∈ l) (hb : ∀ v ∈ l, lo ≤ v) : ∃ r, l = lo :: r := by
  cases l with
  | nil => cases hm
  | cons x r =>
    rw [List.pairwise_cons] at h
    have h1 := hb x List.mem_cons_self
    rcases List.mem_cons.mp hm with rfl | hm
    · exact ⟨r, rfl⟩
    · have := h.1 lo hm; omega
theorem asc_last {l : List Int} {hi : Int} (h : l.Pairwise (· < ·)) (hm : hi ∈ l) (hb : ∀ v ∈ l, v ≤ hi) : ∃ r, l = r ++ [hi] := by
  rcases List.eq_nil_or_concat l with rfl | ⟨r, x, rfl⟩
  · cases hm
  · rw [List.concat_eq_append] at h hm hb ⊢
    have h1 := hb x (by simp)
    rw [List.pairwise_append] at h
    rcases List.mem_append.mp hm with hm | hm
    · have := h.2.2 hi hm x (by simp); omega
    · rw [List.mem_singleton.mp hm]; exact ⟨r, rfl⟩
end My
namespace My
open PySem L2 FL
theorem top_small {p : Int} (hp : 2 ≤ p) (hp2 : p ≤ 4) {s : Gs} (hs : GoodS p s) (hl : s.left ≤ 2) : topS p s ≤ 50 := by
  obtain ⟨n, m, l, part, t⟩ := s
  simp only at hl
  have hpc : p = 2 ∨ p = 3 ∨ p = 4 := by omega
  cases part with
  | first =>
    obtain ⟨g1, g2, g3⟩ := hs
    simp only at g1 g2 g3
    subst g3
    simp only [topS]
    unfold Bon at g2
    rcases g2 with ⟨rfl, rfl⟩ | ⟨rfl, rfl⟩ | ⟨rfl, rfl⟩ | ⟨rfl, rfl⟩ <;> rcases hpc with rfl | rfl | rfl <;> omega
  | second =>
    obtain ⟨g1, g2, g3, g4, g5⟩ := hs
    simp only at g1 g2 g3 g4 g5
    simp only [topS]
    rcases g2 with rfl | rfl <;> rcases hpc with rfl | rfl | rfl <;> omega
  | two =>
    obtain ⟨g1, g2, g3, g4⟩ := hs
    simp only at g1 g2 g3 g4
    simp only [topS]
    rcases g2 with rfl | rfl <;> omega
  | one => obtain ⟨g1, g2, g3, g4, g5⟩ := hs; simp only at g4 g5; simp only [topS]; omega
  | over => simp [topS]
theorem Game.leftF {f p : Int} {rolls : List Int} {x : Fr} (g : Game f p rolls x) : (sOf f p rolls).left ≤ f := by
  have hL := g.lock
  have hst : sOf f p rolls = stOf f p x.1 x.2 := hL.1
  rw [hst]
  have hc := hL.2.1
  have := g.f1
  unfold stOf
  split
  · show (0 : Int) ≤ f; omega
  · match e : x.2, hc with
    | [], _ => simp only; omega
    | [a], _ => simp only; split <;> simp only <;> omega
    | [a, c], _ => simp only; omega
theorem k08_x8 (pi tr fc bn : Int) (hp10 : pi ≤ 10) (hp2 : 2 ≤ pi) (hb : bn = tr + pi * (pi + 1) + (pi + 1) + fc - 1) (ht : (pi * (pi + 1)) / 2 = tr) (hfh : ((pi + 1) * (pi + 2)) / 2 = fc) (s0 s1 s2 s3 s4 s5 s6 s7 s8 s9 s10 s11 s12 s13 s14 s15 s16 s17 : Sl) (h9 : FL.stored s9 = true) : (sAsg 9 (fOp2 oSub (fOp2 oAdd (fOp2 oAdd (fOp2 oAdd (fOp2 oFDiv (fOp2 oMul (fVar 8) (fOp2 oAdd (fVar 8) (fC (.int 1)))) (fC (.int 2))) (fOp2 oMul (fVar 8) (fOp2 oAdd (fVar 8) (fC (.int 1))))) (fOp2 oAdd (fVar 8) (fC (.int 1)))) (fOp2 oFDiv (fOp2 oMul (fOp2 oAdd (fVar 8) (fC (.int 1))) (fOp2 oAdd (fVar 8) (fC (.int 2)))) (fC (.int 2)))) (fC (.int 1)))) [s0, s1, s2, s3, s4, s5, s6, s7, .val (.int pi), s9, s10, s11, s12, s13, s14, s15, s16, s17] = some (.nx, [s0, s1, s2, s3, s4, s5, s6, s7, .val (.int pi), .val (.int bn), s10, s11, s12, s13, s14, s15, s16, s17]) := by
  have m1 : oMul (.int pi) (.int (pi + 1)) = some (.val (.int (pi * (pi + 1)))) := by rw [mulI, if_pos (mul_ok pi (pi + 1) (by omega))]
  have m2 : oMul (.int (pi + 1)) (.int (pi + 2)) = some (.val (.int ((pi + 1) * (pi + 2)))) := by rw [mulI, if_pos (mul_ok (pi + 1) (pi + 2) (by omega))]
  have d1 : oFDiv (.int (pi * (pi + 1))) (.int 2) = some (.val (.int tr)) := by rw [fdivI, if_pos ⟨by decide, by decide⟩, ht]
  have d2 : oFDiv (.int ((pi + 1) * (pi + 2))) (.int 2) = some (.val (.int fc)) := by rw [fdivI, if_pos ⟨by decide, by decide⟩, hfh]
  generalize pi * (pi + 1) = w1 at *
  generalize (pi + 1) * (pi + 2) = w2 at *
  simp [m1, m2, d1, d2, hb, h9, -mulI, -fdivI]
theorem k08_x10 (ki pi bn : Int) (ecg : fnCountGames [.val (.tup [.int ki, .int pi]), .val (.tup [])] = some (.val (.int bn), [.val (.tup [.int ki, .int pi]), .val (.tup [])])) (s0 s1 s2 s3 s4 s5 s6 s7 s8 s9 s10 s11 s12 s13 s14 s15 s16 s17 : Sl) : (sIf (fOp2 (oB bNe) (fCall fnCountGames [(fTup [(fVar 7), (fVar 8)]), (fTup [])]) (fVar 9)) (sRet (fC (.bl false))) sNx) [s0, s1, s2, s3, s4, s5, s6, .val (.int ki), .val (.int pi), .val (.int bn), s10, s11, s12, s13, s14, s15, s16, s17] = some (.nx, [s0, s1, s2, s3, s4, s5, s6, .val (.int ki), .val (.int pi), .val (.int bn), s10, s11, s12, s13, s14, s15, s16, s17]) := by
  simp [ecg, cap]

theorem k08_A (ns : List Int) : ∃ (t3 : Tape) (s2 s3 s4 s5 t6 : Sl), Loose t6 ∧ ∀ rest : Stm, (sSeq (sAsg 1 (fLst [(fOpN oList [(fVar 0)]), (fC (.int 0)), (fC (.int 0))])) (sSeq (sAsg 2 (fTup [(fOp2 oAdd (fC (.int 1)) (fCall fnLawDraw [(fVar 1), (fC (.int 2))])), (fOp2 oAdd (fC (.int 2)) (fCall fnLawDraw [(fVar 1), (fC (.int 3))]))])) (sSeq (sAsg 3 (fCall fnLawGame [(fVar 1), (fVar 2)])) (sSeq (sAsg 4 (fSlice (fVar 3) none (some (fCall fnLawDraw [(fVar 1), (fOp2 oAdd (fOpN oLen [(fVar 3)]) (fC (.int 1)))])))) (sSeq (sAsg 5 (fLc (itSeq (fCall fnLawAll [(fVar 2), (fVar 4)])) (.nm 16) (fC (.bl true)) gLaw_e1 [16])) (sSeq (sIf (fNot (fCall (fnLawLike 4) [(fCall fnCountGames [(fVar 2), (fVar 4)]), (fOpN oLen [(fVar 5)])])) (sRet (fC (.bl false))) sNx) (sSeq (sFor (itSeq (fOp2 oAdd (fSlice (fSortSet (fVar 5)) none (some (fC (.int 30)))) (fLst [(fOp2 oAdd (fOpN oMax [(fVar 5)]) (fC (.int 1))), (fC (.int 0)), (fC (.int 400))]))) (.nm 6) gLaw_b2) (rest)))))))) [.val (.scr ns), .no, .no, .no, .no, .no, .no, .no, .no, .no, .no, .no, .no, .no, .no, .no, .no, .no] = rest [.val (.scr ns), .own false t3.d, s2, s3, s4, s5, t6, .no, .no, .no, .no, .no, .no, .no, .no, .no, .no, .no] := by
  have a1 := (Tape.mk ns 0 0).out_lo (m := 2) (by decide)
  have a2 := (Tape.mk ns 0 0).out_hi (m := 2) (by decide)
  have c1 := ((Tape.mk ns 0 0).rest 2).out_lo (m := 3) (by decide)
  have c2 := ((Tape.mk ns 0 0).rest 2).out_hi (m := 3) (by decide)
  have hd1 := draw_ok (Tape.mk ns 0 0) (m := 2) (by decide) (by decide)
  have hd2 := draw_ok ((Tape.mk ns 0 0).rest 2) (m := 3) (by decide) (by decide)
  obtain ⟨f, hf⟩ : ∃ f, f = 1 + (Tape.mk ns 0 0).out 2 := ⟨_, rfl⟩
  obtain ⟨p, hp⟩ : ∃ p, p = 2 + ((Tape.mk ns 0 0).rest 2).out 3 := ⟨_, rfl⟩
  have f1 : 1 ≤ f ∧ f ≤ 2 := by omega
  have p1 : 2 ≤ p ∧ p ≤ 4 := by omega
  have x0 : (sAsg 1 (fLst [(fOpN oList [(fVar 0)]), (fC (.int 0)), (fC (.int 0))])) [.val (.scr ns), .no, .no, .no, .no, .no, .no, .no, .no, .no, .no, .no, .no, .no, .no, .no, .no, .no] = some (.nx, [.val (.scr ns), .own false (Tape.mk ns 0 0).d, .no, .no, .no, .no, .no, .no, .no, .no, .no, .no, .no, .no, .no, .no, .no, .no]) := by
    simp [cap, Tape.d]
  have x1 : (sAsg 2 (fTup [(fOp2 oAdd (fC (.int 1)) (fCall fnLawDraw [(fVar 1), (fC (.int 2))])), (fOp2 oAdd (fC (.int 2)) (fCall fnLawDraw [(fVar 1), (fC (.int 3))]))])) [.val (.scr ns), .own false (Tape.mk ns 0 0).d, .no, .no, .no, .no, .no, .no, .no, .no, .no, .no, .no, .no, .no, .no, .no, .no] = some (.nx, [.val (.scr ns), .own false (((Tape.mk ns 0 0).rest 2).rest 3).d, .val (rulesD f p), .no, .no, .no, .no, .no, .no, .no, .no, .no, .no, .no, .no, .no, .no, .no]) := by
    simp [hd1, hd2, cap, hf, hp]
  generalize (((Tape.mk ns 0 0).rest 2).rest 3) = t1 at *
  clear hf hp
  obtain ⟨t2, game, x0', e2, g0, ho0⟩ := game_over f p t1 f1.1 (by omega) p1.1 (by omega)
  have hgl := g0.few
  have hd3 := draw_ok t2 (m := (game.length : Int) + 1) (by omega) (by omega)
  have o1 := t2.out_lo (m := (game.length : Int) + 1) (by omega)
  obtain ⟨x, g⟩ := g0.part (t2.out ((game.length : Int) + 1)).toNat
  have hsl := slice_take game (k := t2.out ((game.length : Int) + 1)) o1
  generalize game.take (t2.out ((game.length : Int) + 1)).toNat = R at g hsl
  generalize t2.rest ((game.length : Int) + 1) = t3 at *
  generalize t2.out ((game.length : Int) + 1) = w at *
  have hfb : (5 + 1) * (p.toNat + 1) ^ 5 ≤ 40000 := by
    have h1 : p.toNat + 1 ≤ 5 := by omega
    have h2 : (p.toNat + 1) ^ 5 ≤ 5 ^ 5 := Nat.pow_le_pow_left h1 5
    omega
  obtain ⟨A, hall, hA, hnd, hsrt, hAl, hAg⟩ := law_all_ok g (K := 5) (fun k hk => openK_end g (by omega)) (by omega) hfb
  have hAw := ways_uniq g.p1 g.good hA hnd hsrt
  have hAl2 : A.length ≤ 4000 := by
    have h1 := geo_mono (show p.toNat + 1 ≤ 5 by omega) (5 + 1)
    have h2 : geo 5 (5 + 1) = 3906 := by decide
    omega
  have hgm : ∀ m ∈ A, ∃ y, Game f p (R ++ m) y := fun m hm => by
    obtain ⟨y, gy, _⟩ := g.ended ((hA m).mp hm)
    exact ⟨y, gy⟩
  have hgood : GoodS p (sOf f p R) := g.good
  have htop := top_small p1.1 p1.2 hgood (by have := g.leftF; omega)
  have htop0 := top_nonneg p1.1 hgood
  have hsb := g.sc_bound
  have hcnt : ((cntS p (sOf f p R) : Nat) : Int) = (A.length : Int) := by rw [hAw]; rfl
  have hA0 : 0 < A.length := by
    have := cnt_pos p1.1 _ (Nat.le_refl _) hgood
    unfold cntS at this
    rw [hAw]; exact this
  have x2 : (sAsg 3 (fCall fnLawGame [(fVar 1), (fVar 2)])) [.val (.scr ns), .own false t1.d, .val (rulesD f p), .no, .no, .no, .no, .no, .no, .no, .no, .no, .no, .no, .no, .no, .no, .no] = some (.nx, [.val (.scr ns), .own false t2.d, .val (rulesD f p), .val (tI game), .no, .no, .no, .no, .no, .no, .no, .no, .no, .no, .no, .no, .no, .no]) := by
    simp [e2]
  have x3 : (sAsg 4 (fSlice (fVar 3) none (some (fCall fnLawDraw [(fVar 1), (fOp2 oAdd (fOpN oLen [(fVar 3)]) (fC (.int 1)))])))) [.val (.scr ns), .own false t2.d, .val (rulesD f p), .val (tI game), .no, .no, .no, .no, .no, .no, .no, .no, .no, .no, .no, .no, .no, .no] = some (.nx, [.val (.scr ns), .own false t3.d, .val (rulesD f p), .val (tI game), .val (tI R), .no, .no, .no, .no, .no, .no, .no, .no, .no, .no, .no, .no, .no]) := by
    simp [hd3, hsl, -sliceT]
  have e4 := k08_tot f p R (.val (.scr ns)) (.own false t3.d) (.val (tI game)) .no .no .no .no .no .no .no .no .no .no .no .no A [] hgm (by simp; omega)
  rw [List.nil_append, List.map_nil] at e4
  have hTl : (A.map fun m => scOf f p (R ++ m)).length = A.length := List.length_map _
  have hTc : ∀ v, (A.map fun m => scOf f p (R ++ m)).count v = cV p (sOf f p R) (v - scOf f p R) := count_map hAw
  have hTb : ∀ v ∈ A.map (fun m => scOf f p (R ++ m)), scOf f p R ≤ v ∧ v ≤ scOf f p R + topS p (sOf f p R) := fun v hv => by
    have h1 := List.count_pos_iff.mpr hv
    rw [hTc] at h1
    by_cases h2 : v - scOf f p R < 0 ∨ topS p (sOf f p R) < v - scOf f p R
    · rw [cV_zero p1.1 hgood h2] at h1; omega
    · omega
  have htot : fnCountGames [.val (rulesD f p), .val (tI R)] = some (.val (.int (A.length : Int)), [.val (rulesD f p), .val (tI R)]) := by
    rw [count_games_ok g, hcnt]
  have hAne : A.map (fun m => scOf f p (R ++ m)) ≠ [] := fun e => by
    have := hTl
    rw [e] at this
    simp at this; omega
  generalize A.map (fun m => scOf f p (R ++ m)) = T at *
  have hSl : (setI T).length < 64 := by
    have h1 := asc_len (asc_setI T) (fun v hv => hTb v (mem_setI.mp hv))
    split at h1 <;> omega
  have hint : intsOf (T.map D.int) = some T := intsOf_map _
  have x4 : (sAsg 5 (fLc (itSeq (fCall fnLawAll [(fVar 2), (fVar 4)])) (.nm 16) (fC (.bl true)) gLaw_e1 [16])) [.val (.scr ns), .own false t3.d, .val (rulesD f p), .val (tI game), .val (tI R), .no, .no, .no, .no, .no, .no, .no, .no, .no, .no, .no, .no, .no] = some (.nx, [.val (.scr ns), .own false t3.d, .val (rulesD f p), .val (tI game), .val (tI R), .own false (lI T), .no, .no, .no, .no, .no, .no, .no, .no, .no, .no, .no, .no]) := by
    generalize A.map tI = AL at *
    generalize hL : T.map D.int = TL at *
    simp [hall, e4, hL]
  have hlk := like_int 3 (A.length : Int)
  have x5 : (sIf (fNot (fCall (fnLawLike 4) [(fCall fnCountGames [(fVar 2), (fVar 4)]), (fOpN oLen [(fVar 5)])])) (sRet (fC (.bl false))) sNx) [.val (.scr ns), .own false t3.d, .val (rulesD f p), .val (tI game), .val (tI R), .own false (lI T), .no, .no, .no, .no, .no, .no, .no, .no, .no, .no, .no, .no] = some (.nx, [.val (.scr ns), .own false t3.d, .val (rulesD f p), .val (tI game), .val (tI R), .own false (lI T), .no, .no, .no, .no, .no, .no, .no, .no, .no, .no, .no, .no]) := by
    have hlen : ((T.map D.int).length : Int) = (A.length : Int) := by rw [List.length_map, hTl]
    simp only [lI]
    generalize T.map D.int = TL at *
    generalize (A.length : Int) = al at *
    simp [htot, hlen, hlk]
  obtain ⟨t6, ht6, e6⟩ := k08_for g hTc (.val (.scr ns)) (.own false t3.d) (.val (tI game)) .no .no .no .no .no .no .no .no .no .no .no ((setI T).take 30 ++ [maxI T + 1, 0, 400]) .no Loose.no
  have hmx : oMax [.lst (T.map D.int)] = some (.val (.int (maxI T))) := by
    rw [max_lst, hint, Option.bind_some, if_neg (by cases T with | nil => exact absurd rfl hAne | cons a l => simp)]
  have hsl2 : oSlice (.lst ((setI T).map D.int)) none (some 30) = some (.own (lI ((setI T).take 30))) := by
    rw [sliceL, cut_take _ (by decide), ← List.map_take]; rfl
  have x6 : (sFor (itSeq (fOp2 oAdd (fSlice (fSortSet (fVar 5)) none (some (fC (.int 30)))) (fLst [(fOp2 oAdd (fOpN oMax [(fVar 5)]) (fC (.int 1))), (fC (.int 0)), (fC (.int 400))]))) (.nm 6) gLaw_b2) [.val (.scr ns), .own false t3.d, .val (rulesD f p), .val (tI game), .val (tI R), .own false (lI T), .no, .no, .no, .no, .no, .no, .no, .no, .no, .no, .no, .no] = some (.nx, [.val (.scr ns), .own false t3.d, .val (rulesD f p), .val (tI game), .val (tI R), .own false (lI T), t6, .no, .no, .no, .no, .no, .no, .no, .no, .no, .no, .no]) := by
    have hTT : T.length ≤ 4000 ∧ (setI T).length < 64 := ⟨by rw [hTl]; exact hAl2, hSl⟩
    have hcat : (((setI T).take 30).map D.int).length + 3 ≤ 1000000 := by rw [List.length_map, List.length_take]; omega
    rw [List.map_append] at e6
    simp only [lI, List.map_cons, List.map_nil] at e6 hsl2 ⊢
    generalize ((setI T).take 30).map D.int = TK at *
    generalize hSS : (setI T).map D.int = SS at *
    generalize hL : T.map D.int = TL at *
    simp [hint, hTT, hSS, hsl2, hmx, cap, hcat, e6, -sliceL]
  refine ⟨t3, .val (rulesD f p), .val (tI game), .val (tI R), .own false (lI T), t6, ht6, fun rest => ?_⟩
  rw [st_seq, x0, seqO_nx, st_seq, x1, seqO_nx, st_seq, x2, seqO_nx, st_seq, x3, seqO_nx, st_seq, x4, seqO_nx, st_seq, x5, seqO_nx, st_seq, x6, seqO_nx]
theorem k08_B (ns : List Int) (t3 : Tape) (s2 s3 s4 s5 t6 : Sl) : ∃ (t5 : Tape) (s7 s8 s9 t10 : Sl), ∀ rest : Stm, (sSeq (sPar [7, 8] [(fOp2 oAdd (fC (.int 1)) (fCall fnLawDraw [(fVar 1), (fC (.int 10))])), (fOp2 oAdd (fC (.int 2)) (fCall fnLawDraw [(fVar 1), (fC (.int 9))]))]) (sSeq (sAsg 9 (fOp2 oSub (fOp2 oAdd (fOp2 oAdd (fOp2 oAdd (fOp2 oFDiv (fOp2 oMul (fVar 8) (fOp2 oAdd (fVar 8) (fC (.int 1)))) (fC (.int 2))) (fOp2 oMul (fVar 8) (fOp2 oAdd (fVar 8) (fC (.int 1))))) (fOp2 oAdd (fVar 8) (fC (.int 1)))) (fOp2 oFDiv (fOp2 oMul (fOp2 oAdd (fVar 8) (fC (.int 1))) (fOp2 oAdd (fVar 8) (fC (.int 2)))) (fC (.int 2)))) (fC (.int 1)))) (sSeq (sFor (itRg1 (fOp2 oSub (fVar 7) (fC (.int 1)))) (.nm 10) gLaw_b3) (sSeq (sIf (fOp2 (oB bNe) (fCall fnCountGames [(fTup [(fVar 7), (fVar 8)]), (fTup [])]) (fVar 9)) (sRet (fC (.bl false))) sNx) (rest))))) [.val (.scr ns), .own false t3.d, s2, s3, s4, s5, t6, .no, .no, .no, .no, .no, .no, .no, .no, .no, .no, .no] = rest [.val (.scr ns), .own false t5.d, s2, s3, s4, s5, t6, s7, s8, s9, t10, .no, .no, .no, .no, .no, .no, .no] := by
  have r1 := t3.out_lo (m := 10) (by decide)
  have r2 := t3.out_hi (m := 10) (by decide)
  have r3 := (t3.rest 10).out_lo (m := 9) (by decide)
  have r4 := (t3.rest 10).out_hi (m := 9) (by decide)
  have hd5 := draw_ok t3 (m := 10) (by decide) (by decide)
  have hd6 := draw_ok (t3.rest 10) (m := 9) (by decide) (by decide)
  obtain ⟨k, hk⟩ : ∃ k : Nat, t3.out 10 = (k : Int) := ⟨(t3.out 10).toNat, by omega⟩
  obtain ⟨P, hP⟩ : ∃ P : Nat, 2 + (t3.rest 10).out 9 = (P : Int) := ⟨(2 + (t3.rest 10).out 9).toNat, by omega⟩
  rw [hk] at hd5
  have hk9 : k ≤ 9 := by omega
  have hP10 : P ≤ 10 := by omega
  have hP2 : 2 ≤ P := by omega
  have x7 : (sPar [7, 8] [(fOp2 oAdd (fC (.int 1)) (fCall fnLawDraw [(fVar 1), (fC (.int 10))])), (fOp2 oAdd (fC (.int 2)) (fCall fnLawDraw [(fVar 1), (fC (.int 9))]))]) [.val (.scr ns), .own false t3.d, s2, s3, s4, s5, t6, .no, .no, .no, .no, .no, .no, .no, .no, .no, .no, .no] = some (.nx, [.val (.scr ns), .own false ((t3.rest 10).rest 9).d, s2, s3, s4, s5, t6, .val (.int ((k : Int) + 1)), .val (.int (P : Int)), .no, .no, .no, .no, .no, .no, .no, .no, .no]) := by
    have ek : 1 + (k : Int) = (k : Int) + 1 := by omega
    generalize (k : Int) = ki at *
    generalize (P : Int) = pi at *
    simp [hd5, hd6, hP, ek]
  generalize (t3.rest 10).rest 9 = t5 at *
  have x8 : (sAsg 9 (fOp2 oSub (fOp2 oAdd (fOp2 oAdd (fOp2 oAdd (fOp2 oFDiv (fOp2 oMul (fVar 8) (fOp2 oAdd (fVar 8) (fC (.int 1)))) (fC (.int 2))) (fOp2 oMul (fVar 8) (fOp2 oAdd (fVar 8) (fC (.int 1))))) (fOp2 oAdd (fVar 8) (fC (.int 1)))) (fOp2 oFDiv (fOp2 oMul (fOp2 oAdd (fVar 8) (fC (.int 1))) (fOp2 oAdd (fVar 8) (fC (.int 2)))) (fC (.int 2)))) (fC (.int 1)))) [.val (.scr ns), .own false t5.d, s2, s3, s4, s5, t6, .val (.int ((k : Int) + 1)), .val (.int (P : Int)), .no, .no, .no, .no, .no, .no, .no, .no, .no] = some (.nx, [.val (.scr ns), .own false t5.d, s2, s3, s4, s5, t6, .val (.int ((k : Int) + 1)), .val (.int (P : Int)), .val (.int ((baseN P : Nat) : Int)), .no, .no, .no, .no, .no, .no, .no, .no]) := by
    have hfh : (((P : Int) + 1) * ((P : Int) + 2)) / 2 = (facN P : Int) := by rw [fac_two P]; exact Int.mul_ediv_cancel_left _ (by decide)
    exact k08_x8 (P : Int) (triN P : Int) (facN P : Int) ((baseN P : Nat) : Int) (by omega) (by omega) (base_eq P) (tri_half P) hfh _ _ _ _ _ _ _ _ .no .no _ _ _ _ _ _ _ _ rfl
  obtain ⟨t10, ht10, e9⟩ := k08_frames P hP10 (.val (.scr ns)) (.own false t5.d) s2 s3 s4 s5 t6 (.val (.int ((k : Int) + 1))) .no .no .no .no .no .no .no (rg1 k) 0 .no (by simp [rg1]; omega) rfl
  have hrgl : (rg1 k).length = k := by simp [rg1]
  rw [hrgl, Nat.zero_add, Nat.pow_zero, Nat.mul_one] at e9
  have x9 : (sFor (itRg1 (fOp2 oSub (fVar 7) (fC (.int 1)))) (.nm 10) gLaw_b3) [.val (.scr ns), .own false t5.d, s2, s3, s4, s5, t6, .val (.int ((k : Int) + 1)), .val (.int (P : Int)), .val (.int ((baseN P : Nat) : Int)), .no, .no, .no, .no, .no, .no, .no, .no] = some (.nx, [.val (.scr ns), .own false t5.d, s2, s3, s4, s5, t6, .val (.int ((k : Int) + 1)), .val (.int (P : Int)), .val (.int ((baseN P * facN P ^ k : Nat) : Int)), t10, .no, .no, .no, .no, .no, .no, .no]) := by
    have ek : (k : Int) + 1 - 1 = (k : Int) := by omega
    have k1 : -1000000 ≤ (k : Int) := by omega
    have k2 : (k : Int) ≤ 1000000 := by omega
    have k3 : (k : Int).toNat = k := Int.toNat_natCast k
    rw [← e9]
    generalize ((baseN P : Nat) : Int) = bn at *
    generalize (P : Int) = pi at *
    generalize (k : Int) = ki at *
    simp [ek, k1, k2, k3]
  have gn : Game ((k : Int) + 1) (P : Int) [] ([], []) := .nil (by omega) (by omega) (by omega) (by omega)
  have ecg : fnCountGames [.val (.tup [.int ((k : Int) + 1), .int (P : Int)]), .val (.tup [])] = some (.val (.int ((baseN P * facN P ^ k : Nat) : Int)), [.val (.tup [.int ((k : Int) + 1), .int (P : Int)]), .val (.tup [])]) := by
    have h := count_games_ok gn
    have hb : sOf ((k : Int) + 1) (P : Int) [] = beginS ((k : Int) + 1) (P : Int) := rfl
    rw [hb, cnt_begin (by omega) k] at h
    exact h
  have x10 : (sIf (fOp2 (oB bNe) (fCall fnCountGames [(fTup [(fVar 7), (fVar 8)]), (fTup [])]) (fVar 9)) (sRet (fC (.bl false))) sNx) [.val (.scr ns), .own false t5.d, s2, s3, s4, s5, t6, .val (.int ((k : Int) + 1)), .val (.int (P : Int)), .val (.int ((baseN P * facN P ^ k : Nat) : Int)), t10, .no, .no, .no, .no, .no, .no, .no] = some (.nx, [.val (.scr ns), .own false t5.d, s2, s3, s4, s5, t6, .val (.int ((k : Int) + 1)), .val (.int (P : Int)), .val (.int ((baseN P * facN P ^ k : Nat) : Int)), t10, .no, .no, .no, .no, .no, .no, .no]) := by
    exact k08_x10 _ _ _ ecg _ _ _ _ _ _ _ .no .no .no _ _ _ _ _ _ _ _
  refine ⟨t5, .val (.int ((k : Int) + 1)), .val (.int (P : Int)), .val (.int ((baseN P * facN P ^ k : Nat) : Int)), t10, fun rest => ?_⟩
  rw [st_seq, x7, seqO_nx, st_seq, x8, seqO_nx, st_seq, x9, seqO_nx, st_seq, x10, seqO_nx]
theorem k08_C (ns : List Int) (t5 : Tape) (s2 s3 s4 s5 t6 s7 s8 s9 t10 : Sl) (ht6 : Loose t6) : ∃ (ρ : List Sl), ∀ rest : Stm, (sSeq (sAsg 11 (fTup [(fOp2 oAdd (fC (.int 1)) (fCall fnLawDraw [(fVar 1), (fC (.int 4))])), (fOp2 oAdd (fC (.int 2)) (fCall fnLawDraw [(fVar 1), (fC (.int 4))]))])) (sSeq (sAsg 12 (fLc (itRg1 (fOp2 oAdd (fOp2 oMul (fOp2 oMul (fC (.int 3)) (fOp2 oIx (fVar 11) (fC (.int 0)))) (fOp2 oIx (fVar 11) (fC (.int 1)))) (fC (.int 1)))) (.nm 6) (fC (.bl true)) gLaw_e4 [6])) (sSeq (sIf (fOr (fOp2 (oB bNe) (fOpN oSumA [(fVar 12)]) (fCall fnCountGames [(fVar 11), (fTup [])])) (fOp2 (oB bLt) (fOpN oMin [(fVar 12)]) (fC (.int 1)))) (sRet (fC (.bl false))) sNx) (sSeq (sAsg 13 (fCall fnLawStart [(fVar 1), (fVar 11)])) (sSeq (sIf (fNot (fCall fnLawOver [(fVar 11), (fVar 13)])) (sSeq (sAsg 14 (fCall fnStanding [(fVar 11), (fVar 13)]))
    (sSeq (sAsg 15 (fLc (itRg1 (fOp2 oAdd (fVar 14) (fC (.int 1)))) (.nm 17) (fC (.bl true)) gLaw_e5 [17]))
    (sIf (fOp2 (oB bNe) (fOpN oSumA [(fVar 15)]) (fCall fnCountGames [(fVar 11), (fVar 13)])) (sRet (fC (.bl false))) sNx))) sNx) (rest)))))) [.val (.scr ns), .own false t5.d, s2, s3, s4, s5, t6, s7, s8, s9, t10, .no, .no, .no, .no, .no, .no, .no] = rest (.val (.scr ns) :: ρ) := by
  have u1 := t5.out_lo (m := 4) (by decide)
  have u2 := t5.out_hi (m := 4) (by decide)
  have u3 := (t5.rest 4).out_lo (m := 4) (by decide)
  have u4 := (t5.rest 4).out_hi (m := 4) (by decide)
  have hd7 := draw_ok t5 (m := 4) (by decide) (by decide)
  have hd8 := draw_ok (t5.rest 4) (m := 4) (by decide) (by decide)
  obtain ⟨a, ha⟩ : ∃ a, 1 + t5.out 4 = a := ⟨_, rfl⟩
  obtain ⟨b, hb⟩ : ∃ b, 2 + (t5.rest 4).out 4 = b := ⟨_, rfl⟩
  have ha1 : 1 ≤ a ∧ a ≤ 4 := by omega
  have hb1 : 2 ≤ b ∧ b ≤ 5 := by omega
  have x11 : (sAsg 11 (fTup [(fOp2 oAdd (fC (.int 1)) (fCall fnLawDraw [(fVar 1), (fC (.int 4))])), (fOp2 oAdd (fC (.int 2)) (fCall fnLawDraw [(fVar 1), (fC (.int 4))]))])) [.val (.scr ns), .own false t5.d, s2, s3, s4, s5, t6, s7, s8, s9, t10, .no, .no, .no, .no, .no, .no, .no] = some (.nx, [.val (.scr ns), .own false ((t5.rest 4).rest 4).d, s2, s3, s4, s5, t6, s7, s8, s9, t10, .val (rulesD a b), .no, .no, .no, .no, .no, .no]) := by
    simp [hd7, hd8, cap, ha, hb]
  generalize (t5.rest 4).rest 4 = t7 at *
  have gs : Game a b [] ([], []) := .nil (by omega) (by omega) (by omega) (by omega)
  have hab : 3 * a * b ≤ 60 ∧ 0 ≤ 3 * a * b := by
    have h1 : a = 1 ∨ a = 2 ∨ a = 3 ∨ a = 4 := by omega
    rcases h1 with rfl | rfl | rfl | rfl <;> omega
  obtain ⟨mn1, mn2⟩ := min_begin hb1.1 ha1.1
  have smb := sum_begin hb1.1 ha1.1
  have e12 := k08_sums gs (.val (.scr ns)) (.own false t7.d) s2 s3 s4 s5 s7 s8 s9 t10 .no .no .no .no .no .no (List.range (3 * a * b + 1).toNat) [] (by simp; omega)
  rw [List.nil_append, List.map_nil] at e12
  have hrow : ((List.range (3 * a * b + 1).toNat).map fun (v : Nat) => ((cV b (beginS a b) (v : Int) : Nat) : Int)) = rowL (3 * a * b + 1).toNat fun v => ((cV b (beginS a b) v : Nat) : Int) := rfl
  rw [hrow] at e12
  have hrg : ((List.range (3 * a * b + 1).toNat).map fun (v : Nat) => D.int (v : Int)) = rg1 (3 * a * b + 1).toNat := rfl
  rw [hrg] at e12
  have ecs : fnCountGames [.val (rulesD a b), .val (.tup [])] = some (.val (.int ((cntS b (beginS a b) : Nat) : Int)), [.val (rulesD a b), .val (.tup [])]) := count_games_ok gs
  rw [← smb] at ecs
  generalize (rowL (3 * a * b + 1).toNat fun v => ((cV b (beginS a b) v : Nat) : Int)) = W at *
  have hwi : intsOf (W.map D.int) = some W := intsOf_map _
  generalize hWL : W.map D.int = WL at *
  have hWe : W.isEmpty = false := by cases W with | nil => exact absurd rfl mn2 | cons _ _ => rfl
  have x12 : (sAsg 12 (fLc (itRg1 (fOp2 oAdd (fOp2 oMul (fOp2 oMul (fC (.int 3)) (fOp2 oIx (fVar 11) (fC (.int 0)))) (fOp2 oIx (fVar 11) (fC (.int 1)))) (fC (.int 1)))) (.nm 6) (fC (.bl true)) gLaw_e4 [6])) [.val (.scr ns), .own false t7.d, s2, s3, s4, s5, t6, s7, s8, s9, t10, .val (rulesD a b), .no, .no, .no, .no, .no, .no] = some (.nx, [.val (.scr ns), .own false t7.d, s2, s3, s4, s5, t6, s7, s8, s9, t10, .val (rulesD a b), .own false (.lst WL), .no, .no, .no, .no, .no]) := by
    have q1 : -1000000 ≤ 3 * a * b + 1 ∧ 3 * a * b + 1 ≤ 1000000 := by omega
    have m1 : oMul (.int 3) (.int a) = some (.val (.int (3 * a))) := by rw [mulI, if_pos (mul_ok 3 a (by decide))]
    have m2 : oMul (.int (3 * a)) (.int b) = some (.val (.int (3 * a * b))) := by rw [mulI, if_pos (mul_ok _ b (by omega))]
    rcases ht6 with rfl | ⟨d6, rfl⟩ <;> simp [m1, m2, q1, e12, -mulI]
  have x13 : (sIf (fOr (fOp2 (oB bNe) (fOpN oSumA [(fVar 12)]) (fCall fnCountGames [(fVar 11), (fTup [])])) (fOp2 (oB bLt) (fOpN oMin [(fVar 12)]) (fC (.int 1)))) (sRet (fC (.bl false))) sNx) [.val (.scr ns), .own false t7.d, s2, s3, s4, s5, t6, s7, s8, s9, t10, .val (rulesD a b), .own false (.lst WL), .no, .no, .no, .no, .no] = some (.nx, [.val (.scr ns), .own false t7.d, s2, s3, s4, s5, t6, s7, s8, s9, t10, .val (rulesD a b), .own false (.lst WL), .no, .no, .no, .no, .no]) := by
    simp [hwi, ecs, min_lst, mn2, mn1, cap]
  obtain ⟨t8, begun, y, e13, gb⟩ := start_ok a b t7 ha1.1 (by omega) hb1.1 (by omega)
  have x14 : (sAsg 13 (fCall fnLawStart [(fVar 1), (fVar 11)])) [.val (.scr ns), .own false t7.d, s2, s3, s4, s5, t6, s7, s8, s9, t10, .val (rulesD a b), .own false (.lst WL), .no, .no, .no, .no, .no] = some (.nx, [.val (.scr ns), .own false t8.d, s2, s3, s4, s5, t6, s7, s8, s9, t10, .val (rulesD a b), .own false (.lst WL), .val (tI begun), .no, .no, .no, .no]) := by
    simp [e13]
  have hov := law_over_ok gb
  have x15 : ∃ t14 t15, (sIf (fNot (fCall fnLawOver [(fVar 11), (fVar 13)])) (sSeq (sAsg 14 (fCall fnStanding [(fVar 11), (fVar 13)]))
    (sSeq (sAsg 15 (fLc (itRg1 (fOp2 oAdd (fVar 14) (fC (.int 1)))) (.nm 17) (fC (.bl true)) gLaw_e5 [17]))
    (sIf (fOp2 (oB bNe) (fOpN oSumA [(fVar 15)]) (fCall fnCountGames [(fVar 11), (fVar 13)])) (sRet (fC (.bl false))) sNx))) sNx) [.val (.scr ns), .own false t8.d, s2, s3, s4, s5, t6, s7, s8, s9, t10, .val (rulesD a b), .own false (.lst WL), .val (tI begun), .no, .no, .no, .no] = some (.nx, [.val (.scr ns), .own false t8.d, s2, s3, s4, s5, t6, s7, s8, s9, t10, .val (rulesD a b), .own false (.lst WL), .val (tI begun), t14, t15, .no, .no]) := by
    by_cases ho : sOf a b begun = Gs.OVER
    · rw [decide_eq_true ho] at hov
      exact ⟨.no, .no, by simp [hov]⟩
    · rw [decide_eq_false ho] at hov
      have hbg : GoodS b (sOf a b begun) := gb.good
      obtain ⟨v1, v2, v3, v4⟩ := good_stand hb1.1 hbg
      have hst : fnStanding [.val (rulesD a b), .val (tI begun)] = some (.val (.int (sOf a b begun).stand), [.val (rulesD a b), .val (tI begun)]) := standing_ok a b begun
      have e15 := fun st => k08_parts gb ho (.val (.scr ns)) (.own false t8.d) s2 s3 s4 s5 t6 s7 s8 s9 t10 (.own false (.lst WL)) st .no .no (List.range ((sOf a b begun).stand + 1).toNat) [] (fun r hr => by have := List.mem_range.mp hr; omega) (by simp; omega)
      have hrg2 : ((List.range ((sOf a b begun).stand + 1).toNat).map fun (v : Nat) => D.int (v : Int)) = rg1 ((sOf a b begun).stand + 1).toNat := rfl
      rw [hrg2] at e15
      have hsum := sum_cast (fun r => cntS b (nextS b (sOf a b begun) (r : Int))) (List.range ((sOf a b begun).stand + 1).toNat)
      rw [← cnt_step hb1.1 hbg ho] at hsum
      have ecb := count_games_ok gb
      rw [← hsum] at ecb
      generalize ((List.range ((sOf a b begun).stand + 1).toNat).map fun (r : Nat) => ((cntS b (nextS b (sOf a b begun) (r : Int)) : Nat) : Int)) = V at *
      simp only [List.nil_append, List.map_nil] at e15
      have hvi : intsOf (V.map D.int) = some V := intsOf_map _
      generalize hVL : V.map D.int = VL at *
      generalize (sOf a b begun).stand = sd at *
      have q1 : -1000000 ≤ sd + 1 ∧ sd + 1 ≤ 1000000 := by omega
      exact ⟨.val (.int sd), .own false (.lst VL), by simp [hov, hst, q1, e15, hvi, ecb]⟩
  obtain ⟨t14, t15, x15⟩ := x15
  refine ⟨[.own false t8.d, s2, s3, s4, s5, t6, s7, s8, s9, t10, .val (rulesD a b), .own false (.lst WL), .val (tI begun), t14, t15, .no, .no], fun rest => ?_⟩
  rw [st_seq, x11, seqO_nx, st_seq, x12, seqO_nx, st_seq, x13, seqO_nx, st_seq, x14, seqO_nx, st_seq, x15, seqO_nx]
theorem k08_z1 : fnCountGames [.val (.tup [.int 10, .int 10]), .val (.tup [])] = some (.val (.int (66 ^ 9 * 241)), [.val (.tup [.int 10, .int 10]), .val (.tup [])]) := by
    have gz : Game 10 10 [] ([], []) := .nil (by decide) (by decide) (by decide) (by decide)
    have h := count_games_ok gz
    have hb := cnt_begin (P := 10) (by decide) 9
    have hb2 : sOf 10 10 [] = beginS ((9 : Nat) + 1) ((10 : Nat) : Int) := rfl
    have hb3 : (10 : Int) = ((10 : Nat) : Int) := rfl
    rw [hb2] at h
    have hc : cntS 10 (beginS (((9 : Nat) : Int) + 1) ((10 : Nat) : Int)) = baseN 10 * facN 10 ^ 9 := hb
    rw [hc] at h
    have hn : ((baseN 10 * facN 10 ^ 9 : Nat) : Int) = 66 ^ 9 * 241 := by decide +kernel
    rw [hn] at h
    exact h
theorem k08_z2 : fnCountTotal [.val (.tup [.int 10, .int 10]), .val (.tup []), .val (.int 300)] = some (.val (.int 1), [.val (.tup [.int 10, .int 10]), .val (.tup []), .val (.int 300)]) := by
    have gz : Game 10 10 [] ([], []) := .nil (by decide) (by decide) (by decide) (by decide)
    have h := count_total_ok gz 300
    have hb2 : sOf 10 10 [] = beginS 10 10 := rfl
    have hb3 : (300 : Int) - scOf 10 10 [] = topS 10 (beginS 10 10) := by decide +kernel
    rw [hb2, hb3, alone_ok (by decide) 12 (good_begin (by decide)) (by decide +kernel)] at h
    exact h
theorem k08_z4 : oPow (.int 66) (.int 9) = some (.val (.int (66 ^ 9))) := by rw [powI, if_pos (by decide)]; rfl
theorem k08_z5 : oMul (.int (66 ^ 9)) (.int 241) = some (.val (.int (66 ^ 9 * 241))) := by rw [mulI, if_pos (by decide +kernel)]
theorem k08_ret (F1 F2 : Fn) (big1 big2 : Int) (z1 : F1 [.val (.tup [.int 10, .int 10]), .val (.tup [])] = some (.val (.int big1), [.val (.tup [.int 10, .int 10]), .val (.tup [])])) (z2 : F2 [.val (.tup [.int 10, .int 10]), .val (.tup []), .val (.int 300)] = some (.val (.int 1), [.val (.tup [.int 10, .int 10]), .val (.tup []), .val (.int 300)])) (z4 : oPow (.int 66) (.int 9) = some (.val (.int big2))) (z5 : oMul (.int big2) (.int 241) = some (.val (.int big1))) (ρ : List Sl) : (sRet (fAnd (fOp2 (oB bEq) (fCall F1 [(fTup [(fC (.int 10)), (fC (.int 10))]), (fTup [])]) (fOp2 oMul (fOp2 oPow (fC (.int 66)) (fC (.int 9))) (fC (.int 241)))) (fOp2 (oB bEq) (fCall F2 [(fTup [(fC (.int 10)), (fC (.int 10))]), (fTup []), (fC (.int 300))]) (fC (.int 1))))) ρ = some (.rt (.val (.bl true)), ρ) := by
  simp [cap, z1, z2, z4, z5, -mulI, -powI]
theorem plain : ∀ ns : List Int, ns.length ≤ 63 → ∃ ρ', fnLaw [.val (.scr ns)] = some (.val (.bl true), ρ') := by
  intro ns _
  obtain ⟨t3, s2, s3, s4, s5, t6, ht6, hA⟩ := k08_A ns
  obtain ⟨t5, s7, s8, s9, t10, hB⟩ := k08_B ns t3 s2 s3 s4 s5 t6
  obtain ⟨ρ, hC⟩ := k08_C ns t5 s2 s3 s4 s5 t6 s7 s8 s9 t10 ht6
  refine ⟨[.val (.scr ns)], ?_⟩
  have hrep : List.map pinS [Sl.val (.scr ns)] ++ List.replicate 17 Sl.no = [.val (.scr ns), .no, .no, .no, .no, .no, .no, .no, .no, .no, .no, .no, .no, .no, .no, .no, .no, .no] := rfl
  rw [fnLaw, defF_eq]
  rw [hrep, gLaw, hA, hB, hC, k08_ret fnCountGames fnCountTotal _ _ k08_z1 k08_z2 k08_z4 k08_z5]
  simp
end My
namespace My
open PySem L2 FL
theorem all_mk {l : PySem.W.OpenLaw} {w : World} {K : PySem.W.Frag} {h : Heap} {mg : Str → Option Value} {fa f1 f2 f3 f4 f5 f6 f7 f8 f9 f10 f11 f12 f13 f14 f15 f16 f17 f18 f19 f20 f21 f22 f23 : Addr} (X : K.In h) (G : h.Ns mainGlobals mg) (hfa : mg "law" = some (.ref fa))
    {od1 od2 od3 od4 od5 od6 od7 od8 od9 od10 od11 od12 od13 od14 od15 od16 od17 od18 od19 od20 od21 od22 od23 an1 an2 an3 an4 an5 an6 an7 an8 an9 an10 an11 an12 an13 an14 an15 an16 an17 an18 an19 an20 an21 an22 an23 : Option Addr} {sl1 sl2 sl3 sl4 sl5 sl6 sl7 sl8 sl9 sl10 sl11 sl12 sl13 sl14 sl15 sl16 sl17 sl18 sl19 sl20 sl21 sl22 sl23 : Array (Option Value)} {oc1 oc2 oc3 oc4 oc5 oc6 oc7 oc8 oc9 oc10 oc11 oc12 oc13 oc14 oc15 oc16 oc17 oc18 oc19 oc20 oc21 oc22 oc23 kV1 kV2 kV3 kV4 kV5 kV6 kV7 kV8 kV9 kV10 kV11 kV12 kV13 kV14 kV15 kV16 kV17 kV18 kV19 kV20 kV21 kV22 kV23 dc1 dc2 dc3 dc4 dc5 dc6 dc7 dc8 dc9 dc10 dc11 dc12 dc13 dc14 dc15 dc16 dc17 dc18 dc19 dc20 dc21 dc22 dc23 pm1 pm2 pm3 pm4 pm5 pm6 pm7 pm8 pm9 pm10 pm11 pm12 pm13 pm14 pm15 pm16 pm17 pm18 pm19 pm20 pm21 pm22 pm23 cd1 cd2 cd3 cd4 cd5 cd6 cd7 cd8 cd9 cd10 cd11 cd12 cd13 cd14 cd15 cd16 cd17 cd18 cd19 cd20 cd21 cd22 cd23 ct1 ct2 ct3 ct4 ct5 ct6 ct7 ct8 ct9 ct10 ct11 ct12 ct13 ct14 ct15 ct16 ct17 ct18 ct19 ct20 ct21 ct22 ct23 : Value}
    (a1 : PySem.W.nsIn K mainGlobals "begin" = some (some (.ref f1))) (l1 : K.lookup f1 = some ⟨oc1, od1, .func (PySem.W.fnOf "begin" "begin" (defArgs sBegin) (defBody sBegin) (defScope sBegin) .none kV1 dc1 pm1 an1 cd1 ct1), sl1⟩) (c1 : PySem.W.codeIn K cd1 "begin" = true) (k1 : PySem.W.keepIn K (.ref f1) = true)
    (a2 : PySem.W.nsIn K mainGlobals "next_state" = some (some (.ref f2))) (l2 : K.lookup f2 = some ⟨oc2, od2, .func (PySem.W.fnOf "next_state" "next_state" (defArgs sNextState) (defBody sNextState) (defScope sNextState) .none kV2 dc2 pm2 an2 cd2 ct2), sl2⟩) (c2 : PySem.W.codeIn K cd2 "next_state" = true) (k2 : PySem.W.keepIn K (.ref f2) = true)
    (a3 : PySem.W.nsIn K mainGlobals "state_after" = some (some (.ref f3))) (l3 : K.lookup f3 = some ⟨oc3, od3, .func (PySem.W.fnOf "state_after" "state_after" (defArgs sStateAfter) (defBody sStateAfter) (defScope sStateAfter) .none kV3 dc3 pm3 an3 cd3 ct3), sl3⟩) (c3 : PySem.W.codeIn K cd3 "state_after" = true) (k3 : PySem.W.keepIn K (.ref f3) = true)
    (a4 : PySem.W.nsIn K mainGlobals "standing" = some (some (.ref f4))) (l4 : K.lookup f4 = some ⟨oc4, od4, .func (PySem.W.fnOf "standing" "standing" (defArgs sStanding) (defBody sStanding) (defScope sStanding) .none kV4 dc4 pm4 an4 cd4 ct4), sl4⟩) (c4 : PySem.W.codeIn K cd4 "standing" = true) (k4 : PySem.W.keepIn K (.ref f4) = true)
    (a5 : PySem.W.nsIn K mainGlobals "weights" = some (some (.ref f5))) (l5 : K.lookup f5 = some ⟨oc5, od5, .func (PySem.W.fnOf "weights" "weights" (defArgs sWeights) (defBody sWeights) (defScope sWeights) .none kV5 dc5 pm5 an5 cd5 ct5), sl5⟩) (c5 : PySem.W.codeIn K cd5 "weights" = true) (k5 : PySem.W.keepIn K (.ref f5) = true)
    (a6 : PySem.W.nsIn K mainGlobals "score" = some (some (.ref f6))) (l6 : K.lookup f6 = some ⟨oc6, od6, .func (PySem.W.fnOf "score" "score" (defArgs sScore) (defBody sScore) (defScope sScore) .none kV6 dc6 pm6 an6 cd6 ct6), sl6⟩) (c6 : PySem.W.codeIn K cd6 "score" = true) (k6 : PySem.W.keepIn K (.ref f6) = true)
    (a7 : PySem.W.nsIn K mainGlobals "count_from" = some (some (.ref f7))) (l7 : K.lookup f7 = some ⟨oc7, od7, .func (PySem.W.fnOf "count_from" "count_from" (defArgs sCountFrom) (defBody sCountFrom) (defScope sCountFrom) .none kV7 dc7 pm7 an7 cd7 ct7), sl7⟩) (c7 : PySem.W.codeIn K cd7 "count_from" = true) (k7 : PySem.W.keepIn K (.ref f7) = true)
    (a8 : PySem.W.nsIn K mainGlobals "count_games" = some (some (.ref f8))) (l8 : K.lookup f8 = some ⟨oc8, od8, .func (PySem.W.fnOf "count_games" "count_games" (defArgs sCountGames) (defBody sCountGames) (defScope sCountGames) .none kV8 dc8 pm8 an8 cd8 ct8), sl8⟩) (c8 : PySem.W.codeIn K cd8 "count_games" = true) (k8 : PySem.W.keepIn K (.ref f8) = true)
    (a9 : PySem.W.nsIn K mainGlobals "totals_from" = some (some (.ref f9))) (l9 : K.lookup f9 = some ⟨oc9, od9, .func (PySem.W.fnOf "totals_from" "totals_from" (defArgs sTotalsFrom) (defBody sTotalsFrom) (defScope sTotalsFrom) .none kV9 dc9 pm9 an9 cd9 ct9), sl9⟩) (c9 : PySem.W.codeIn K cd9 "totals_from" = true) (k9 : PySem.W.keepIn K (.ref f9) = true)
    (a10 : PySem.W.nsIn K mainGlobals "count_total" = some (some (.ref f10))) (l10 : K.lookup f10 = some ⟨oc10, od10, .func (PySem.W.fnOf "count_total" "count_total" (defArgs sCountTotal) (defBody sCountTotal) (defScope sCountTotal) .none kV10 dc10 pm10 an10 cd10 ct10), sl10⟩) (c10 : PySem.W.codeIn K cd10 "count_total" = true) (k10 : PySem.W.keepIn K (.ref f10) = true)
    (a11 : PySem.W.nsIn K mainGlobals "_law_draw" = some (some (.ref f11))) (l11 : K.lookup f11 = some ⟨oc11, od11, .func (PySem.W.fnOf "_law_draw" "_law_draw" (defArgs sLawDraw) (defBody sLawDraw) (defScope sLawDraw) .none kV11 dc11 pm11 an11 cd11 ct11), sl11⟩) (c11 : PySem.W.codeIn K cd11 "_law_draw" = true) (k11 : PySem.W.keepIn K (.ref f11) = true)
    (a12 : PySem.W.nsIn K mainGlobals "_law_like" = some (some (.ref f12))) (l12 : K.lookup f12 = some ⟨oc12, od12, .func (PySem.W.fnOf "_law_like" "_law_like" (defArgs sLawLike) (defBody sLawLike) (defScope sLawLike) .none kV12 dc12 pm12 an12 cd12 ct12), sl12⟩) (c12 : PySem.W.codeIn K cd12 "_law_like" = true) (k12 : PySem.W.keepIn K (.ref f12) = true)
    (a13 : PySem.W.nsIn K mainGlobals "_law_needed" = some (some (.ref f13))) (l13 : K.lookup f13 = some ⟨oc13, od13, .func (PySem.W.fnOf "_law_needed" "_law_needed" (defArgs sLawNeeded) (defBody sLawNeeded) (defScope sLawNeeded) .none kV13 dc13 pm13 an13 cd13 ct13), sl13⟩) (c13 : PySem.W.codeIn K cd13 "_law_needed" = true) (k13 : PySem.W.keepIn K (.ref f13) = true)
    (a14 : PySem.W.nsIn K mainGlobals "_law_stands" = some (some (.ref f14))) (l14 : K.lookup f14 = some ⟨oc14, od14, .func (PySem.W.fnOf "_law_stands" "_law_stands" (defArgs sLawStands) (defBody sLawStands) (defScope sLawStands) .none kV14 dc14 pm14 an14 cd14 ct14), sl14⟩) (c14 : PySem.W.codeIn K cd14 "_law_stands" = true) (k14 : PySem.W.keepIn K (.ref f14) = true)
    (a15 : PySem.W.nsIn K mainGlobals "_law_split" = some (some (.ref f15))) (l15 : K.lookup f15 = some ⟨oc15, od15, .func (PySem.W.fnOf "_law_split" "_law_split" (defArgs sLawSplit) (defBody sLawSplit) (defScope sLawSplit) .none kV15 dc15 pm15 an15 cd15 ct15), sl15⟩) (c15 : PySem.W.codeIn K cd15 "_law_split" = true) (k15 : PySem.W.keepIn K (.ref f15) = true)
    (a16 : PySem.W.nsIn K mainGlobals "_law_over" = some (some (.ref f16))) (l16 : K.lookup f16 = some ⟨oc16, od16, .func (PySem.W.fnOf "_law_over" "_law_over" (defArgs sLawOver) (defBody sLawOver) (defScope sLawOver) .none kV16 dc16 pm16 an16 cd16 ct16), sl16⟩) (c16 : PySem.W.codeIn K cd16 "_law_over" = true) (k16 : PySem.W.keepIn K (.ref f16) = true)
    (a17 : PySem.W.nsIn K mainGlobals "_law_parts" = some (some (.ref f17))) (l17 : K.lookup f17 = some ⟨oc17, od17, .func (PySem.W.fnOf "_law_parts" "_law_parts" (defArgs sLawParts) (defBody sLawParts) (defScope sLawParts) .none kV17 dc17 pm17 an17 cd17 ct17), sl17⟩) (c17 : PySem.W.codeIn K cd17 "_law_parts" = true) (k17 : PySem.W.keepIn K (.ref f17) = true)
    (a18 : PySem.W.nsIn K mainGlobals "_law_points" = some (some (.ref f18))) (l18 : K.lookup f18 = some ⟨oc18, od18, .func (PySem.W.fnOf "_law_points" "_law_points" (defArgs sLawPoints) (defBody sLawPoints) (defScope sLawPoints) .none kV18 dc18 pm18 an18 cd18 ct18), sl18⟩) (c18 : PySem.W.codeIn K cd18 "_law_points" = true) (k18 : PySem.W.keepIn K (.ref f18) = true)
    (a19 : PySem.W.nsIn K mainGlobals "_law_further" = some (some (.ref f19))) (l19 : K.lookup f19 = some ⟨oc19, od19, .func (PySem.W.fnOf "_law_further" "_law_further" (defArgs sLawFurther) (defBody sLawFurther) (defScope sLawFurther) .none kV19 dc19 pm19 an19 cd19 ct19), sl19⟩) (c19 : PySem.W.codeIn K cd19 "_law_further" = true) (k19 : PySem.W.keepIn K (.ref f19) = true)
    (a20 : PySem.W.nsIn K mainGlobals "_law_game" = some (some (.ref f20))) (l20 : K.lookup f20 = some ⟨oc20, od20, .func (PySem.W.fnOf "_law_game" "_law_game" (defArgs sLawGame) (defBody sLawGame) (defScope sLawGame) .none kV20 dc20 pm20 an20 cd20 ct20), sl20⟩) (c20 : PySem.W.codeIn K cd20 "_law_game" = true) (k20 : PySem.W.keepIn K (.ref f20) = true)
    (a21 : PySem.W.nsIn K mainGlobals "_law_start" = some (some (.ref f21))) (l21 : K.lookup f21 = some ⟨oc21, od21, .func (PySem.W.fnOf "_law_start" "_law_start" (defArgs sLawStart) (defBody sLawStart) (defScope sLawStart) .none kV21 dc21 pm21 an21 cd21 ct21), sl21⟩) (c21 : PySem.W.codeIn K cd21 "_law_start" = true) (k21 : PySem.W.keepIn K (.ref f21) = true)
    (a22 : PySem.W.nsIn K mainGlobals "_law_all" = some (some (.ref f22))) (l22 : K.lookup f22 = some ⟨oc22, od22, .func (PySem.W.fnOf "_law_all" "_law_all" (defArgs sLawAll) (defBody sLawAll) (defScope sLawAll) .none kV22 dc22 pm22 an22 cd22 ct22), sl22⟩) (c22 : PySem.W.codeIn K cd22 "_law_all" = true) (k22 : PySem.W.keepIn K (.ref f22) = true)
    (a23 : PySem.W.nsIn K mainGlobals "law" = some (some (.ref f23))) (l23 : K.lookup f23 = some ⟨oc23, od23, .func (PySem.W.fnOf "law" "law" (defArgs sLaw) (defBody sLaw) (defScope sLaw) .none kV23 dc23 pm23 an23 cd23 ct23), sl23⟩) (c23 : PySem.W.codeIn K cd23 "law" = true) (k23 : PySem.W.keepIn K (.ref f23) = true)
    {ov : Addr} {odv : Option Addr} {nv : Nat} {slv : Array (Option Value)} {t1 t2 t3 t4 t5 : Tok} (gOV : PySem.W.nsIn K mainGlobals "OVER" = some (some (.ref ov))) (lOV : K.lookup ov = some ⟨.type "tuple", odv, .seq #[.int 0 t1, .int 0 t2, .int 0 t3, .str "over" t4, .int 0 t5] nv, slv⟩)
    (zlen : PySem.W.nsIn K mainGlobals "len" = some none)
    (zsum : PySem.W.nsIn K mainGlobals "sum" = some none)
    (zmax : PySem.W.nsIn K mainGlobals "max" = some none)
    (zmin : PySem.W.nsIn K mainGlobals "min" = some none)
    (zlist : PySem.W.nsIn K mainGlobals "list" = some none)
    (ztuple : PySem.W.nsIn K mainGlobals "tuple" = some none)
    (zbool : PySem.W.nsIn K mainGlobals "bool" = some none)
    (zsorted : PySem.W.nsIn K mainGlobals "sorted" = some none)
    (zrange : PySem.W.nsIn K mainGlobals "range" = some none)
    (zenumerate : PySem.W.nsIn K mainGlobals "enumerate" = some none)
    (zzip : PySem.W.nsIn K mainGlobals "zip" = some none)
    (zisinstance : PySem.W.nsIn K mainGlobals "isinstance" = some none)
    (zset : PySem.W.nsIn K mainGlobals "set" = some none) :
    ∃ fd : FuncData, (∀ (s : Shared) (v : Value), BindsTo s fd ⟨[v], []⟩ [("script", v)]) ∧ ∀ base : Heap, K.In base → base.Ns mainGlobals mg → FnOk l.prog w K mg base CX0 33 fa fd ["script"] (spV K 1 fnLaw) := by
  have e := hfa.symm.trans (PySem.W.mg_of X G a23)
  cases e
  have G1 : Gb mg := ⟨PySem.W.mg_none_of X G zlen, PySem.W.mg_none_of X G zsum, PySem.W.mg_none_of X G zmax, PySem.W.mg_none_of X G zmin, PySem.W.mg_none_of X G zlist, PySem.W.mg_none_of X G ztuple, PySem.W.mg_none_of X G zbool, PySem.W.mg_none_of X G zsorted, PySem.W.mg_none_of X G zrange, PySem.W.mg_none_of X G zenumerate, PySem.W.mg_none_of X G zzip, PySem.W.mg_none_of X G zisinstance, PySem.W.mg_none_of X G zset, trivial⟩
  have T1 : Tx K mg := ⟨over_at X G gOV lOV, trivial⟩
  refine ⟨PySem.W.fnOf "law" "law" (defArgs sLaw) (defBody sLaw) (defScope sLaw) .none kV23 dc23 pm23 an23 cd23 ct23, fun s v => .of_eq rfl, fun base _ _ => ?_⟩
  have C_Begin : Cal l.prog w K mg base "begin" 1 1 fnBegin := calBegin (fun_mk (st := sBegin) l1 c1 k1) (PySem.W.mg_of X G a1) G1 T1 
  have C_NextState : Cal l.prog w K mg base "next_state" 1 3 fnNextState := calNextState (fun_mk (st := sNextState) l2 c2 k2) (PySem.W.mg_of X G a2) G1 T1 
  have C_StateAfter : Cal l.prog w K mg base "state_after" 2 2 fnStateAfter := calStateAfter (fun_mk (st := sStateAfter) l3 c3 k3) (PySem.W.mg_of X G a3) G1 T1 C_Begin C_NextState
  have C_Standing : Cal l.prog w K mg base "standing" 3 2 fnStanding := calStanding (fun_mk (st := sStanding) l4 c4 k4) (PySem.W.mg_of X G a4) G1 T1 C_StateAfter
  have C_Weights : Cal l.prog w K mg base "weights" 2 2 fnWeights := calWeights (fun_mk (st := sWeights) l5 c5 k5) (PySem.W.mg_of X G a5) G1 T1 C_Begin C_NextState
  have C_Score : Cal l.prog w K mg base "score" 3 2 fnScore := calScore (fun_mk (st := sScore) l6 c6 k6) (PySem.W.mg_of X G a6) G1 T1 C_Weights
  have C_CountFrom : Cal l.prog w K mg base "count_from" 31 3 (fnCountFrom 30) := calCountFrom (fun_mk (st := sCountFrom) l7 c7 k7) (PySem.W.mg_of X G a7) G1 T1 C_NextState 30
  have C_CountGames : Cal l.prog w K mg base "count_games" 32 2 fnCountGames := calCountGames (fun_mk (st := sCountGames) l8 c8 k8) (PySem.W.mg_of X G a8) G1 T1 C_CountFrom C_StateAfter
  have C_TotalsFrom : Cal l.prog w K mg base "totals_from" 31 3 (fnTotalsFrom 30) := calTotalsFrom (fun_mk (st := sTotalsFrom) l9 c9 k9) (PySem.W.mg_of X G a9) G1 T1 C_NextState 30
  have C_CountTotal : Cal l.prog w K mg base "count_total" 32 3 fnCountTotal := calCountTotal (fun_mk (st := sCountTotal) l10 c10 k10) (PySem.W.mg_of X G a10) G1 T1 C_TotalsFrom C_StateAfter C_Score
  have C_LawDraw : Cal l.prog w K mg base "_law_draw" 1 2 fnLawDraw := calLawDraw (fun_mk (st := sLawDraw) l11 c11 k11) (PySem.W.mg_of X G a11) G1 T1 
  have C_LawLike : Cal l.prog w K mg base "_law_like" 4 2 (fnLawLike 4) := calLawLike (fun_mk (st := sLawLike) l12 c12 k12) (PySem.W.mg_of X G a12) G1 T1  4
  have C_LawNeeded : Cal l.prog w K mg base "_law_needed" 1 3 fnLawNeeded := calLawNeeded (fun_mk (st := sLawNeeded) l13 c13 k13) (PySem.W.mg_of X G a13) G1 T1 
  have C_LawStands : Cal l.prog w K mg base "_law_stands" 1 2 fnLawStands := calLawStands (fun_mk (st := sLawStands) l14 c14 k14) (PySem.W.mg_of X G a14) G1 T1 
  have C_LawSplit : Cal l.prog w K mg base "_law_split" 2 2 fnLawSplit := calLawSplit (fun_mk (st := sLawSplit) l15 c15 k15) (PySem.W.mg_of X G a15) G1 T1 C_LawStands C_LawNeeded
  have C_LawOver : Cal l.prog w K mg base "_law_over" 3 2 fnLawOver := calLawOver (fun_mk (st := sLawOver) l16 c16 k16) (PySem.W.mg_of X G a16) G1 T1 C_LawSplit
  have C_LawParts : Cal l.prog w K mg base "_law_parts" 3 2 fnLawParts := calLawParts (fun_mk (st := sLawParts) l17 c17 k17) (PySem.W.mg_of X G a17) G1 T1 C_LawSplit C_LawNeeded
  have C_LawPoints : Cal l.prog w K mg base "_law_points" 4 2 fnLawPoints := calLawPoints (fun_mk (st := sLawPoints) l18 c18 k18) (PySem.W.mg_of X G a18) G1 T1 C_LawParts
  have C_LawFurther : Cal l.prog w K mg base "_law_further" 3 4 fnLawFurther := calLawFurther (fun_mk (st := sLawFurther) l19 c19 k19) (PySem.W.mg_of X G a19) G1 T1 C_LawDraw C_LawSplit C_LawStands
  have C_LawGame : Cal l.prog w K mg base "_law_game" 4 2 fnLawGame := calLawGame (fun_mk (st := sLawGame) l20 c20 k20) (PySem.W.mg_of X G a20) G1 T1 C_LawFurther
  have C_LawStart : Cal l.prog w K mg base "_law_start" 5 2 fnLawStart := calLawStart (fun_mk (st := sLawStart) l21 c21 k21) (PySem.W.mg_of X G a21) G1 T1 C_LawGame C_LawDraw
  have C_LawAll : Cal l.prog w K mg base "_law_all" 3 2 fnLawAll := calLawAll (fun_mk (st := sLawAll) l22 c22 k22) (PySem.W.mg_of X G a22) G1 T1 C_LawSplit C_LawStands
  exact okLaw (fun_mk (st := sLaw) l23 c23 k23) G1 T1 C_LawDraw C_LawGame C_LawAll C_LawPoints C_LawLike C_CountGames C_CountTotal C_LawStart C_LawOver C_Standing
/-- what is left: the plain law -/
abbrev Plain : Prop := ∀ ns : List Int, ns.length ≤ 63 → ∃ ρ', fnLaw [.val (.scr ns)] = some (.val (.bl true), ρ')
theorem walk (hp : Plain) {l : PySem.W.OpenLaw} {q : Program} {loose : List Str} {XP : (Str → Option Value) → Heap → Prop} {YP : World → Heap → Prop} {d : DefRec} {K : Params → PySem.W.Frag} (hn : l.most = some 63) (hdf : d.params.defaults = [])
    (hY : ∀ (w : World) (h : Heap), YP w h → (K w.params).In h)
    (F : ∀ (w : World) (mg : Str → Option Value) (fa : Addr) (h : Heap), (K w.params).In h → h.Ns mainGlobals mg → mg d.name = some (.ref fa) →
      ∃ fd : FuncData, (∀ (s : Shared) (u : Value), BindsTo s fd ⟨[u], []⟩ [("script", u)]) ∧ ∀ base : Heap, (K w.params).In base → base.Ns mainGlobals mg → FnOk l.prog w (K w.params) mg base CX0 33 fa fd ["script"] (spV (K w.params) 1 fnLaw)) :
    PySem.W.WalkO q loose XP YP l.row.toRowW d [] (fun f vs => PySem.call f vs) :=
  L2.walk_of (n := 63) (k := 33) (x := "script") (CX := fun _ => CX0) (sp := fun w => spV (K w.params) 1 fnLaw) hn (by decide) hdf ⟨rfl, by decide, by decide⟩ hY F (fun _ _ a ns hl _ hS => let ⟨_, e⟩ := hp ns hl; sp_law hS e) fun _ _ _ _ _ z => z
end My

open PySem PySem.W PyProof.Rows in
set_option maxRecDepth 100000 in
set_option maxHeartbeats 0 in
theorem PySem.Challenge.cw_pinframes_k08_whole_games_counted_holds : PySem.Challenge.rw_pinframes_k08_whole_games_counted.Holds := by
  w_on; o_law; k_head; (case hw => w_witness2)
  k_fill
  refine My.walk My.plain (l := PySem.Challenge.rw_pinframes_k08_whole_games_counted) rfl rfl (fun w h Y => PySem.W.kIn_of Y) ?F
  case F =>
    intro w mg fa h KX G hmg
    refine' My.all_mk KX G hmg ?a1 ?l1 ?c1 ?k1 ?a2 ?l2 ?c2 ?k2 ?a3 ?l3 ?c3 ?k3 ?a4 ?l4 ?c4 ?k4 ?a5 ?l5 ?c5 ?k5 ?a6 ?l6 ?c6 ?k6 ?a7 ?l7 ?c7 ?k7 ?a8 ?l8 ?c8 ?k8 ?a9 ?l9 ?c9 ?k9 ?a10 ?l10 ?c10 ?k10 ?a11 ?l11 ?c11 ?k11 ?a12 ?l12 ?c12 ?k12 ?a13 ?l13 ?c13 ?k13 ?a14 ?l14 ?c14 ?k14 ?a15 ?l15 ?c15 ?k15 ?a16 ?l16 ?c16 ?k16 ?a17 ?l17 ?c17 ?k17 ?a18 ?l18 ?c18 ?k18 ?a19 ?l19 ?c19 ?k19 ?a20 ?l20 ?c20 ?k20 ?a21 ?l21 ?c21 ?k21 ?a22 ?l22 ?c22 ?k22 ?a23 ?l23 ?c23 ?k23 ?gOV ?lOV ?zlen ?zsum ?zmax ?zmin ?zlist ?ztuple ?zbool ?zsorted ?zrange ?zenumerate ?zzip ?zisinstance ?zset
    (case a1 => k_is)
    (case l1 => k_is)
    (case c1 => k_is)
    (case k1 => k_is)
    (case a2 => k_is)
    (case l2 => k_is)
    (case c2 => k_is)
    (case k2 => k_is)
    (case a3 => k_is)
    (case l3 => k_is)
    (case c3 => k_is)
    (case k3 => k_is)
    (case a4 => k_is)
    (case l4 => k_is)
    (case c4 => k_is)
    (case k4 => k_is)
    (case a5 => k_is)
    (case l5 => k_is)
    (case c5 => k_is)
    (case k5 => k_is)
    (case a6 => k_is)
    (case l6 => k_is)
    (case c6 => k_is)
    (case k6 => k_is)
    (case a7 => k_is)
    (case l7 => k_is)
    (case c7 => k_is)
    (case k7 => k_is)
    (case a8 => k_is)
    (case l8 => k_is)
    (case c8 => k_is)
    (case k8 => k_is)
    (case a9 => k_is)
    (case l9 => k_is)
    (case c9 => k_is)
    (case k9 => k_is)
    (case a10 => k_is)
    (case l10 => k_is)
    (case c10 => k_is)
    (case k10 => k_is)
    (case a11 => k_is)
    (case l11 => k_is)
    (case c11 => k_is)
    (case k11 => k_is)
    (case a12 => k_is)
    (case l12 => k_is)
    (case c12 => k_is)
    (case k12 => k_is)
    (case a13 => k_is)
    (case l13 => k_is)
    (case c13 => k_is)
    (case k13 => k_is)
    (case a14 => k_is)
    (case l14 => k_is)
    (case c14 => k_is)
    (case k14 => k_is)
    (case a15 => k_is)
    (case l15 => k_is)
    (case c15 => k_is)
    (case k15 => k_is)
    (case a16 => k_is)
    (case l16 => k_is)
    (case c16 => k_is)
    (case k16 => k_is)
    (case a17 => k_is)
    (case l17 => k_is)
    (case c17 => k_is)
    (case k17 => k_is)
    (case a18 => k_is)
    (case l18 => k_is)
    (case c18 => k_is)
    (case k18 => k_is)
    (case a19 => k_is)
    (case l19 => k_is)
    (case c19 => k_is)
    (case k19 => k_is)
    (case a20 => k_is)
    (case l20 => k_is)
    (case c20 => k_is)
    (case k20 => k_is)
    (case a21 => k_is)
    (case l21 => k_is)
    (case c21 => k_is)
    (case k21 => k_is)
    (case a22 => k_is)
    (case l22 => k_is)
    (case c22 => k_is)
    (case k22 => k_is)
    (case a23 => k_is)
    (case l23 => k_is)
    (case c23 => k_is)
    (case k23 => k_is)
    (case gOV => k_is)
    (case lOV => k_is)
    (case zlen => k_is)
    (case zsum => k_is)
    (case zmax => k_is)
    (case zmin => k_is)
    (case zlist => k_is)
    (case ztuple => k_is)
    (case zbool => k_is)
    (case zsorted => k_is)
    (case zrange => k_is)
    (case zenumerate => k_is)
    (case zzip => k_is)
    (case zisinstance => k_is)
    (case zset => k_is)
