import PyProof.Rows.All
import Wide.All
import OpenK.AllK
import Wide.FinOn
import HandS.ForMost
import HandS.ForExc
import HandS.Lambda
import HandS.Wide
import HandS.Style
import HandS.TupAny
import HandS.IsInst
import HandS.Walk
import HandS.Zip
import HandS.Conv
import HandS.Codes
import HandS.CallSlots
import KE.KExcSuper
import HandS.ExcField
import HandS.Words
import HandS.Defaults
import HandS.Head0
import HandS.Head1
import HandS.Head2
import HandS.HeadHook1
import HandS.HeadHook2
import HandS.HeadHook4
import HandS.HeadWalk
import HandS.CallLocal
import HandS.TupMul
import PySem.Challenge.RW_dealtoncurves_k01_whole_numbers_by_a_pri
set_option Elab.async false
set_option linter.all false
set_option maxRecDepth 100000
set_option maxHeartbeats 4000000
/-! MV1: plain data D, the list objects that change (Mu), how both stand in the abstract heap -/
namespace MV
open PySem L2

inductive D where
  | non | bl (b : Bool) | int (i : Int) | str (x : Str)
  | tup (ds : List D) | lst (ds : List D) | ro (ds : List D) | ob (n : Nat) | fn (x : Str)

/-- an object that changes -/
inductive MO where
  | lst (ds : List D)
abbrev Mu := List (Option MO)
abbrev Rho := List (Option D)

structure Cz where
  K : PySem.W.Frag
  mg : Str → Option Value
  /-- lists that somebody is filling: nobody else holds them -/
  pv : List Addr
  /-- the tables of code objects, each with the name of the code objects in it -/
  T : List (Addr × Str)
structure SS where
  ι : List Addr
  μ : Mu
  H : Hp
def SS.live (s : SS) (a : Addr) : Prop := ∃ (n : Nat) (o : MO), s.μ[n]? = some (some o) ∧ s.ι[n]? = some a

mutual
inductive Rep (c : Cz) (s : SS) : D → V → Prop
  | non : Rep c s .non .non
  | bl (b : Bool) : Rep c s (.bl b) (.bl b)
  | int (i : Int) : Rep c s (.int i) (.int i)
  | str (x : Str) : Rep c s (.str x) (.str x)
  | tup {ds : List D} {a : Addr} {vs : List V} (h : SqT c.K s.H a vs) (r : Reps c s ds vs) : Rep c s (.tup ds) (.ref a)
  | lst {ds : List D} {a : Addr} {vs : List V} (h : s.H a = some (.lst vs)) (nl : ¬ (s.live a ∨ a ∈ c.pv)) (r : Reps c s ds vs) : Rep c s (.lst ds) (.ref a)
  | ro {ds : List D} {a : Addr} {vs : List V} (h : (∃ o, s.H a = some (.frz o (.lst vs))) ∨ SqL c.K (fun _ => none) a vs) (r : Reps c s ds vs) : Rep c s (.ro ds) (.ref a)
  | ob {n : Nat} {a : Addr} (h : s.ι[n]? = some a) : Rep c s (.ob n) (.ref a)
  | fn {x : Str} {a : Addr} (h : c.mg x = some (.ref a)) : Rep c s (.fn x) (.ref a)
inductive Reps (c : Cz) (s : SS) : List D → List V → Prop
  | nil : Reps c s [] []
  | cons {d : D} {ds : List D} {v : V} {vs : List V} (r : Rep c s d v) (t : Reps c s ds vs) : Reps c s (d :: ds) (v :: vs)
end

/-- what stands at the place of an object that changes -/
def MOk (c : Cz) (s : SS) (a : Addr) : MO → Prop
  | .lst ds => ∃ vs, s.H a = some (.lst vs) ∧ Reps c s ds vs

structure Ok (c : Cz) (s : SS) : Prop where
  len : s.ι.length = s.μ.length
  obj : ∀ (n : Nat) (o : MO), s.μ[n]? = some (some o) → ∃ a, s.ι[n]? = some a ∧ MOk c s a o
  pvt : ∀ a, a ∈ c.pv → (∃ vs, s.H a = some (.lst vs)) ∧ ¬ s.live a
  inj : ∀ (n m : Nat) (o o' : MO) (a : Addr), s.μ[n]? = some (some o) → s.μ[m]? = some (some o') → s.ι[n]? = some a → s.ι[m]? = some a → n = m
  tab : LamX.Tabs c.T s.H

structure Aft (s s' : SS) : Prop where
  pre : ∃ more, s'.ι = s.ι ++ more
  fz : ∀ a o, s.H a = some o → (∀ ps, o ≠ .tbl ps) → ¬ s.live a → s'.H a = some o
  lv : ∀ a, s'.live a → s.live a ∨ ∀ o, s.H a = some o → ∃ ps, o = .tbl ps

/-- tables stay where all but lists stay -/
theorem tabs_keep {T : List (Addr × Str)} {H H' : Hp} (t : LamX.Tabs T H) (e : ∀ b o, H b = some o → (∀ xs, o ≠ .lst xs) → H' b = some o) : LamX.Tabs T H' := fun p hp => by
  obtain ⟨ps, h1, h2, h3⟩ := t p hp
  refine ⟨ps, e _ _ h1 (fun xs z => by cases z), h2, fun pos cv hc => ?_⟩
  obtain ⟨c, e1, e2⟩ := h3 pos cv hc
  exact ⟨c, e1, e _ _ e2 (fun xs z => by unfold LamX.CodeO at z; cases z)⟩
theorem tabs_new {T : List (Addr × Str)} {H : Hp} {p : Addr} {o : HO} (t : LamX.Tabs T H) (hp : H p = none) : LamX.Tabs T (upd H p o) := tabs_keep t fun b u e _ => by
  rw [upd_ne (ne_of_none e hp)]
  exact e
theorem tabs_put {T : List (Addr × Str)} {H : Hp} {p : Addr} {vs ws : List V} (t : LamX.Tabs T H) (hp : H p = some (.lst vs)) : LamX.Tabs T (upd H p (.lst ws)) := tabs_keep t fun b u e n => by
  rw [upd_ne (fun z => n vs (Option.some.inj (e.symm.trans (by rw [z]; exact hp))))]
  exact e
section
variable {c : Cz} {s s' s1 s2 : SS}

theorem Ok.live_lst (k : Ok c s) {a : Addr} (h : s.live a) : ∃ vs, s.H a = some (.lst vs) := by
  obtain ⟨n, o, h1, h2⟩ := h
  obtain ⟨b, e, m⟩ := k.obj n o h1
  rw [h2] at e
  cases e
  cases o with
  | lst ds =>
    obtain ⟨vs, e, _⟩ := m
    exact ⟨vs, e⟩
theorem Ok.live_ne (k : Ok c s) {a : Addr} (h : s.live a) : s.H a ≠ none := by
  obtain ⟨vs, e⟩ := k.live_lst h
  rw [e]
  simp
theorem Aft.refl (s : SS) : Aft s s := ⟨⟨[], by simp⟩, fun _ _ h _ _ => h, fun _ h => .inl h⟩
theorem Aft.trans (x : Aft s s1) (y : Aft s1 s2) : Aft s s2 := by
  refine ⟨?_, fun a o h t n => ?_, fun a h => ?_⟩
  · obtain ⟨m1, e1⟩ := x.pre
    obtain ⟨m2, e2⟩ := y.pre
    exact ⟨m1 ++ m2, by rw [e2, e1, List.append_assoc]⟩
  · refine y.fz a o (x.fz a o h t n) t fun l => ?_
    rcases x.lv a l with q | q
    · exact n q
    · obtain ⟨ps, z⟩ := q o h
      exact t ps z
  · rcases y.lv a h with q | q
    · exact x.lv a q
    · by_cases l : s.live a
      · exact .inl l
      · refine .inr fun o e => ?_
        by_cases t : ∀ ps, o ≠ .tbl ps
        · exact q o (x.fz a o e t l)
        · obtain ⟨ps, z⟩ := Classical.not_forall.mp t
          exact ⟨ps, Classical.not_not.mp z⟩

theorem rd_tup_aft (k : Ok c s) (x : Aft s s') {a : Addr} {vs : List V} (h : SqT c.K s.H a vs) : SqT c.K s'.H a vs := by
  have nl : ∀ o, s.H a = some o → (∀ vs, o ≠ .lst vs) → ¬ s.live a := fun o e ne l => by
    obtain ⟨ws, q⟩ := k.live_lst l
    rw [e] at q
    exact ne ws (Option.some.inj q)
  rcases h with (h | ⟨o, h⟩) | h
  · exact .inl (.inl (x.fz a _ h (fun ps z => by cases z) (nl _ h fun vs z => by cases z)))
  · exact .inl (.inr ⟨o, x.fz a _ h (fun ps z => by cases z) (nl _ h fun vs z => by cases z)⟩)
  · exact .inr h

mutual
theorem Rep.aft (k : Ok c s) (x : Aft s s') : ∀ {d : D} {v : V}, Rep c s d v → Rep c s' d v
  | _, _, .non => .non
  | _, _, .bl b => .bl b
  | _, _, .int i => .int i
  | _, _, .str y => .str y
  | _, _, .tup h r => .tup (rd_tup_aft k x h) (Reps.aft k x r)
  | _, _, .lst h nl r => .lst (x.fz _ _ h (fun ps z => by cases z) fun l => nl (.inl l)) (fun l => by
      rcases l with l | l
      · rcases x.lv _ l with q | q
        · exact nl (.inl q)
        · obtain ⟨ps, z⟩ := q _ h
          cases z
      · exact nl (.inr l)) (Reps.aft k x r)
  | _, _, .ro h r => .ro (by
      rcases h with ⟨o, h⟩ | h
      · refine .inl ⟨o, x.fz _ _ h (fun ps z => by cases z) fun l => ?_⟩
        obtain ⟨ws, q⟩ := k.live_lst l
        rw [h] at q
        cases q
      · exact .inr h) (Reps.aft k x r)
  | _, _, .ob h => .ob (by
      obtain ⟨m, e⟩ := x.pre
      rw [e]
      exact (List.getElem?_append_left (List.getElem?_eq_some_iff.mp h).1).trans h)
  | _, _, .fn h => .fn h
theorem Reps.aft (k : Ok c s) (x : Aft s s') : ∀ {ds : List D} {vs : List V}, Reps c s ds vs → Reps c s' ds vs
  | _, _, .nil => .nil
  | _, _, .cons r t => .cons (Rep.aft k x r) (Reps.aft k x t)
end

theorem Reps.length : ∀ {ds : List D} {vs : List V}, Reps c s ds vs → ds.length = vs.length
  | _, _, .nil => rfl
  | _, _, .cons _ t => by rw [List.length_cons, List.length_cons, Reps.length t]
theorem Reps.get : ∀ {ds : List D} {vs : List V} {i : Nat} {d : D}, Reps c s ds vs → ds[i]? = some d → ∃ v, vs[i]? = some v ∧ Rep c s d v
  | _, _, _, _, .nil, e => by simp at e
  | _, _, 0, _, .cons r _, e => by
    have e' := Option.some.inj e
    subst e'
    exact ⟨_, rfl, r⟩
  | _, _, i + 1, d, .cons _ t, e => by
    obtain ⟨u, h1, h2⟩ := Reps.get (i := i) (d := d) t (by simpa using e)
    exact ⟨u, by simpa using h1, h2⟩
theorem Reps.getV : ∀ {ds : List D} {vs : List V} {i : Nat} {v : V}, Reps c s ds vs → vs[i]? = some v → ∃ d, ds[i]? = some d ∧ Rep c s d v
  | _, _, _, _, .nil, e => by simp at e
  | _, _, 0, _, .cons r _, e => by
    have e' := Option.some.inj e
    subst e'
    exact ⟨_, rfl, r⟩
  | _, _, i + 1, d, .cons _ t, e => by
    obtain ⟨u, h1, h2⟩ := Reps.getV (i := i) (v := d) t (by simpa using e)
    exact ⟨u, by simpa using h1, h2⟩
theorem Reps.append : ∀ {ds es : List D} {vs ws : List V}, Reps c s ds vs → Reps c s es ws → Reps c s (ds ++ es) (vs ++ ws)
  | _, _, _, _, .nil, q => q
  | _, _, _, _, .cons r t, q => .cons r (Reps.append t q)
theorem Reps.take : ∀ {ds : List D} {vs : List V} (n : Nat), Reps c s ds vs → Reps c s (ds.take n) (vs.take n)
  | _, _, 0, _ => .nil
  | _, _, _ + 1, .nil => .nil
  | _, _, n + 1, .cons r t => .cons r (Reps.take n t)
theorem Reps.drop : ∀ {ds : List D} {vs : List V} (n : Nat), Reps c s ds vs → Reps c s (ds.drop n) (vs.drop n)
  | _, _, 0, r => r
  | _, _, _ + 1, .nil => .nil
  | _, _, n + 1, .cons _ t => Reps.drop n t
theorem Reps.set {d : D} {v : V} (r : Rep c s d v) : ∀ {ds : List D} {vs : List V} (i : Nat), Reps c s ds vs → Reps c s (ds.set i d) (vs.set i v)
  | _, _, _, .nil => .nil
  | _, _, 0, .cons _ t => .cons r t
  | _, _, i + 1, .cons q t => .cons q (Reps.set r i t)
theorem Reps.reverse {ds : List D} {vs : List V} (h : Reps c s ds vs) : Reps c s ds.reverse vs.reverse := by
  have go : ∀ {ds : List D} {vs : List V}, Reps c s ds vs → ∀ {es : List D} {ws : List V}, Reps c s es ws → Reps c s (ds.reverse ++ es) (vs.reverse ++ ws) := by
    intro ds
    induction ds with
    | nil =>
      intro vs h es ws q
      cases h
      exact q
    | cons d ds ih =>
      intro vs h es ws q
      cases h with
      | cons r t =>
        rw [List.reverse_cons, List.reverse_cons, List.append_assoc, List.append_assoc]
        exact ih t (.cons r q)
  have := go h .nil
  simpa using this
theorem Reps.dropLast : ∀ {ds : List D} {vs : List V}, Reps c s ds vs → Reps c s ds.dropLast vs.dropLast := fun {ds vs} h => by
  rw [List.dropLast_eq_take, List.dropLast_eq_take, Reps.length h]
  exact Reps.take _ h

/-! ### the four moves of the state -/
theorem live_upd {ι : List Addr} {μ : Mu} {H H' : Hp} {a : Addr} : SS.live ⟨ι, μ, H'⟩ a ↔ SS.live ⟨ι, μ, H⟩ a := Iff.rfl
/-- something new stands, nobody's -/
theorem new_obj {ι : List Addr} {μ : Mu} {H : Hp} {p : Addr} {o : HO} (k : Ok c ⟨ι, μ, H⟩) (hp : H p = none) :
    Ok c ⟨ι, μ, upd H p o⟩ ∧ Aft ⟨ι, μ, H⟩ ⟨ι, μ, upd H p o⟩ ∧ ¬ (SS.live ⟨ι, μ, upd H p o⟩ p ∨ p ∈ c.pv) := by
  have hA : Aft ⟨ι, μ, H⟩ ⟨ι, μ, upd H p o⟩ := ⟨⟨[], by simp⟩, fun a u h _ _ => by
    show upd H p o a = some u
    rw [upd_ne (ne_of_none h hp)]
    exact h, fun a h => .inl h⟩
  refine ⟨⟨k.len, fun n ob h => ?_, fun a h => ?_, k.inj, tabs_new k.tab hp⟩, hA, fun h => ?_⟩
  · obtain ⟨a, e, m⟩ := k.obj n ob h
    refine ⟨a, e, ?_⟩
    cases ob with
    | lst ds =>
      obtain ⟨vs, e1, r⟩ := m
      refine ⟨vs, ?_, Reps.aft k hA r⟩
      show upd H p o a = some _
      rw [upd_ne (ne_of_none e1 hp)]
      exact e1
  · obtain ⟨⟨vs, e⟩, n⟩ := k.pvt a h
    refine ⟨⟨vs, ?_⟩, n⟩
    show upd H p o a = some _
    rw [upd_ne (ne_of_none e hp)]
    exact e
  · rcases h with h | h
    · exact k.live_ne (show SS.live ⟨ι, μ, H⟩ p from h) hp
    · obtain ⟨⟨vs, e⟩, n⟩ := k.pvt p h
      rw [show (⟨ι, μ, H⟩ : SS).H p = H p from rfl, hp] at e
      cases e
/-- a new list that will change -/
theorem new_mut {ι : List Addr} {μ : Mu} {H : Hp} {p : Addr} {ds : List D} {vs : List V} (k : Ok c ⟨ι, μ, H⟩) (hp : H p = none) (r : Reps c ⟨ι, μ, H⟩ ds vs) :
    Ok c ⟨ι ++ [p], μ ++ [some (.lst ds)], upd H p (.lst vs)⟩ ∧ Aft ⟨ι, μ, H⟩ ⟨ι ++ [p], μ ++ [some (.lst ds)], upd H p (.lst vs)⟩ ∧ Rep c ⟨ι ++ [p], μ ++ [some (.lst ds)], upd H p (.lst vs)⟩ (.ob μ.length) (.ref p) := by
  have kl : ι.length = μ.length := k.len
  have get1 : ∀ {n : Nat} {o : MO}, (μ ++ [some (.lst ds)])[n]? = some (some o) → (n < μ.length ∧ μ[n]? = some (some o)) ∨ (n = μ.length ∧ o = .lst ds) := fun {n o} h => by
    by_cases hn : n < μ.length
    · rw [List.getElem?_append_left hn] at h
      exact .inl ⟨hn, h⟩
    · have hle : μ.length ≤ n := Nat.le_of_not_lt hn
      rw [List.getElem?_append_right hle] at h
      have hn2 : n - μ.length = 0 := by
        have := (List.getElem?_eq_some_iff.mp h).1
        simp at this
        omega
      rw [hn2] at h
      simp at h
      exact .inr ⟨by omega, h.symm⟩
  have gi : ∀ {n : Nat}, n < μ.length → (ι ++ [p])[n]? = ι[n]? := fun {n} hn => List.getElem?_append_left (by rw [kl]; exact hn)
  have gp : (ι ++ [p])[μ.length]? = some p := by rw [← kl]; simp
  have hA : Aft ⟨ι, μ, H⟩ ⟨ι ++ [p], μ ++ [some (.lst ds)], upd H p (.lst vs)⟩ := ⟨⟨[p], rfl⟩, fun a u h _ _ => by
    show upd H p _ a = some u
    rw [upd_ne (ne_of_none h hp)]
    exact h, fun a h => by
    obtain ⟨n, o, h1, h2⟩ := h
    rcases get1 h1 with ⟨hn, q⟩ | ⟨hn, q⟩
    · exact .inl ⟨n, o, q, by rw [← gi hn]; exact h2⟩
    · subst hn
      have h2' : (ι ++ [p])[μ.length]? = some a := h2
      rw [gp] at h2'
      cases h2'
      exact .inr fun o z => by
        rw [show (⟨ι, μ, H⟩ : SS).H p = H p from rfl, hp] at z
        cases z⟩
  refine ⟨⟨by show (ι ++ [p]).length = (μ ++ [some (MO.lst ds)]).length; rw [List.length_append, List.length_append, kl]; rfl, fun n ob h => ?_, fun a h => ?_, fun n m o o' a h1 h2 h3 h4 => ?_, tabs_new k.tab hp⟩, hA, .ob gp⟩
  · rcases get1 h with ⟨hn, q⟩ | ⟨hn, q⟩
    · obtain ⟨a, e, m⟩ := k.obj n ob q
      refine ⟨a, by rw [show (⟨ι ++ [p], μ ++ [some (.lst ds)], upd H p (.lst vs)⟩ : SS).ι = ι ++ [p] from rfl, gi hn]; exact e, ?_⟩
      cases ob with
      | lst es =>
        obtain ⟨ws, e1, r1⟩ := m
        refine ⟨ws, ?_, Reps.aft k hA r1⟩
        show upd H p _ a = some _
        rw [upd_ne (ne_of_none e1 hp)]
        exact e1
    · subst hn
      subst q
      exact ⟨p, gp, vs, upd_same, Reps.aft k hA r⟩
  · obtain ⟨⟨ws, e⟩, n⟩ := k.pvt a h
    refine ⟨⟨ws, ?_⟩, fun l => ?_⟩
    · show upd H p _ a = some _
      rw [upd_ne (ne_of_none e hp)]
      exact e
    · rcases hA.lv a l with q | q
      · exact n q
      · obtain ⟨ps, z⟩ := q _ e
        cases z
  · have key : ∀ {n : Nat} {o : MO}, (μ ++ [some (.lst ds)])[n]? = some (some o) → (ι ++ [p])[n]? = some a → (μ[n]? = some (some o) ∧ ι[n]? = some a ∧ a ≠ p) ∨ (n = μ.length ∧ a = p) := fun {n o} q1 q2 => by
      rcases get1 q1 with ⟨hn, z⟩ | ⟨hn, z⟩
      · rw [gi hn] at q2
        refine .inl ⟨z, q2, fun e => ?_⟩
        subst e
        exact k.live_ne ⟨n, o, z, q2⟩ hp
      · subst hn
        rw [gp] at q2
        exact .inr ⟨rfl, (Option.some.inj q2).symm⟩
    rcases key h1 h3 with ⟨a1, a2, a3⟩ | ⟨a1, a2⟩
    · rcases key h2 h4 with ⟨b1, b2, b3⟩ | ⟨b1, b2⟩
      · exact k.inj n m o o' a a1 b1 a2 b2
      · exact absurd b2 a3
    · rcases key h2 h4 with ⟨b1, b2, b3⟩ | ⟨b1, b2⟩
      · exact absurd a2 b3
      · rw [a1, b1]
/-- a list that changes is written -/
theorem put_mut {ι : List Addr} {μ : Mu} {H : Hp} {n : Nat} {o : MO} {a : Addr} {ds : List D} {vs : List V} (k : Ok c ⟨ι, μ, H⟩) (hn : μ[n]? = some (some o)) (ha : ι[n]? = some a) (r : Reps c ⟨ι, μ, H⟩ ds vs) :
    Ok c ⟨ι, μ.set n (some (.lst ds)), upd H a (.lst vs)⟩ ∧ Aft ⟨ι, μ, H⟩ ⟨ι, μ.set n (some (.lst ds)), upd H a (.lst vs)⟩ := by
  have nlt : n < μ.length := (List.getElem?_eq_some_iff.mp hn).1
  have get1 : ∀ {m : Nat} {u : MO}, (μ.set n (some (.lst ds)))[m]? = some (some u) → (m = n ∧ u = .lst ds) ∨ (m ≠ n ∧ μ[m]? = some (some u)) := fun {m u} h => by
    by_cases e : m = n
    · subst e
      rw [List.getElem?_set_self nlt] at h
      exact .inl ⟨rfl, by cases h; rfl⟩
    · rw [List.getElem?_set_ne (Ne.symm e)] at h
      exact .inr ⟨e, h⟩
  have lv : ∀ b, SS.live ⟨ι, μ.set n (some (.lst ds)), upd H a (.lst vs)⟩ b → SS.live ⟨ι, μ, H⟩ b := fun b ⟨m, u, h1, h2⟩ => by
    rcases get1 h1 with ⟨e, _⟩ | ⟨_, e⟩
    · subst e
      exact ⟨m, o, hn, h2⟩
    · exact ⟨m, u, e, h2⟩
  obtain ⟨wa, hwa⟩ : ∃ ws, H a = some (.lst ws) := k.live_lst ⟨n, o, hn, ha⟩
  have hA : Aft ⟨ι, μ, H⟩ ⟨ι, μ.set n (some (.lst ds)), upd H a (.lst vs)⟩ := ⟨⟨[], by simp⟩, fun b u h _ nl => by
    show upd H a _ b = some u
    have hb : b ≠ a := fun e => nl ⟨n, o, hn, by rw [e]; exact ha⟩
    rw [upd_ne hb]
    exact h, fun b h => .inl (lv b h)⟩
  refine ⟨⟨by show ι.length = (μ.set n _).length; rw [List.length_set]; exact k.len, fun m u h => ?_, fun b h => ?_, fun m1 m2 o1 o2 b h1 h2 h3 h4 => ?_, tabs_put k.tab hwa⟩, hA⟩
  · rcases get1 h with ⟨e, q⟩ | ⟨e, q⟩
    · subst e
      subst q
      exact ⟨a, ha, vs, upd_same, Reps.aft k hA r⟩
    · obtain ⟨b, e1, m1⟩ := k.obj m u q
      refine ⟨b, e1, ?_⟩
      cases u with
      | lst es =>
        obtain ⟨ws, e2, r2⟩ := m1
        refine ⟨ws, ?_, Reps.aft k hA r2⟩
        show upd H a _ b = some _
        have hb : b ≠ a := fun z => e (k.inj m n _ _ a q hn (by rw [← z]; exact e1) ha)
        rw [upd_ne hb]
        exact e2
  · obtain ⟨⟨ws, e⟩, nb⟩ := k.pvt b h
    exact ⟨⟨ws, hA.fz b _ e (fun ps z => by cases z) nb⟩, fun l => nb (lv b l)⟩
  · have q1 : ∃ u, μ[m1]? = some (some u) := by
      rcases get1 h1 with ⟨e, _⟩ | ⟨_, e⟩
      · subst e
        exact ⟨o, hn⟩
      · exact ⟨o1, e⟩
    have q2 : ∃ u, μ[m2]? = some (some u) := by
      rcases get1 h2 with ⟨e, _⟩ | ⟨_, e⟩
      · subst e
        exact ⟨o, hn⟩
      · exact ⟨o2, e⟩
    obtain ⟨u1, q1⟩ := q1
    obtain ⟨u2, q2⟩ := q2
    exact k.inj m1 m2 u1 u2 b q1 q2 h3 h4
/-- a list that changed changes no more -/
theorem freeze_mut {ι : List Addr} {μ : Mu} {H : Hp} {n : Nat} {ds : List D} (k : Ok c ⟨ι, μ, H⟩) (hn : μ[n]? = some (some (.lst ds))) {a : Addr} (ha : ι[n]? = some a) :
    Ok c ⟨ι, μ.set n none, H⟩ ∧ Aft ⟨ι, μ, H⟩ ⟨ι, μ.set n none, H⟩ ∧ Rep c ⟨ι, μ.set n none, H⟩ (.lst ds) (.ref a) := by
  have nlt : n < μ.length := (List.getElem?_eq_some_iff.mp hn).1
  have get1 : ∀ {m : Nat} {u : MO}, (μ.set n none)[m]? = some (some u) → m ≠ n ∧ μ[m]? = some (some u) := fun {m u} h => by
    by_cases e : m = n
    · subst e
      rw [List.getElem?_set_self nlt] at h
      cases h
    · rw [List.getElem?_set_ne (Ne.symm e)] at h
      exact ⟨e, h⟩
  have lv : ∀ b, SS.live ⟨ι, μ.set n none, H⟩ b → SS.live ⟨ι, μ, H⟩ b := fun b ⟨m, u, h1, h2⟩ => ⟨m, u, (get1 h1).2, h2⟩
  have hA : Aft ⟨ι, μ, H⟩ ⟨ι, μ.set n none, H⟩ := ⟨⟨[], by simp⟩, fun b u h _ _ => h, fun b h => .inl (lv b h)⟩
  obtain ⟨b, e1, vs, e2, r⟩ := k.obj n _ hn
  rw [show (⟨ι, μ, H⟩ : SS).ι[n]? = ι[n]? from rfl, ha] at e1
  cases e1
  refine ⟨⟨by show ι.length = (μ.set n _).length; rw [List.length_set]; exact k.len, fun m u h => ?_, fun b h => ?_, fun m1 m2 o1 o2 b h1 h2 h3 h4 => k.inj m1 m2 o1 o2 b (get1 h1).2 (get1 h2).2 h3 h4, k.tab⟩, hA, .lst e2 (fun z => by
    rcases z with ⟨m, u, h1, h2⟩ | z
    · exact (get1 h1).1 (k.inj m n _ _ _ (get1 h1).2 hn h2 ha)
    · exact (k.pvt _ z).2 ⟨n, _, hn, ha⟩) (Reps.aft k hA r)⟩
  obtain ⟨b, e1, m1⟩ := k.obj m u (get1 h).2
  refine ⟨b, e1, ?_⟩
  cases u with
  | lst es =>
    obtain ⟨ws, e2, r2⟩ := m1
    exact ⟨ws, e2, Reps.aft k hA r2⟩
  · obtain ⟨e, nb⟩ := k.pvt b h
    exact ⟨e, fun l => nb (lv b l)⟩
end
/-! ### a list that is being filled, nobody else's -/
abbrev Cz.add (c : Cz) (p : Addr) : Cz := ⟨c.K, c.mg, p :: c.pv, c.T⟩
section
variable {c : Cz} {ι : List Addr} {μ : Mu} {H : Hp} {p : Addr}
mutual
theorem Rep.enter {s : SS} (hp : s.H p = none) : ∀ {d : D} {v : V}, Rep c s d v → Rep (c.add p) s d v
  | _, _, .non => .non
  | _, _, .bl b => .bl b
  | _, _, .int i => .int i
  | _, _, .str y => .str y
  | _, _, .tup h r => .tup h (Reps.enter hp r)
  | _, _, .lst h nl r => .lst h (fun l => by
      rcases l with l | l
      · exact nl (.inl l)
      · rcases List.mem_cons.mp l with z | z
        · rw [z, hp] at h
          cases h
        · exact nl (.inr z)) (Reps.enter hp r)
  | _, _, .ro h r => .ro h (Reps.enter hp r)
  | _, _, .ob h => .ob h
  | _, _, .fn h => .fn h
theorem Reps.enter {s : SS} (hp : s.H p = none) : ∀ {ds : List D} {vs : List V}, Reps c s ds vs → Reps (c.add p) s ds vs
  | _, _, .nil => .nil
  | _, _, .cons r t => .cons (Rep.enter hp r) (Reps.enter hp t)
end
mutual
theorem Rep.leave {s : SS} : ∀ {d : D} {v : V}, Rep (c.add p) s d v → Rep c s d v
  | _, _, .non => .non
  | _, _, .bl b => .bl b
  | _, _, .int i => .int i
  | _, _, .str y => .str y
  | _, _, .tup h r => .tup h (Reps.leave r)
  | _, _, .lst h nl r => .lst h (fun l => nl (l.imp id fun z => List.mem_cons_of_mem _ z)) (Reps.leave r)
  | _, _, .ro h r => .ro h (Reps.leave r)
  | _, _, .ob h => .ob h
  | _, _, .fn h => .fn h
theorem Reps.leave {s : SS} : ∀ {ds : List D} {vs : List V}, Reps (c.add p) s ds vs → Reps c s ds vs
  | _, _, .nil => .nil
  | _, _, .cons r t => .cons (Rep.leave r) (Reps.leave t)
end
mutual
theorem Rep.put {vs vs' : List V} (hp : H p = some (.lst vs')) : ∀ {d : D} {v : V}, Rep (c.add p) ⟨ι, μ, H⟩ d v → Rep (c.add p) ⟨ι, μ, upd H p (.lst vs)⟩ d v
  | _, _, .non => .non
  | _, _, .bl b => .bl b
  | _, _, .int i => .int i
  | _, _, .str y => .str y
  | _, _, .tup h r => .tup (by
      have ne : ∀ {a : Addr} {o : HO}, H a = some o → (∀ ws, o ≠ .lst ws) → upd H p (.lst vs) a = some o := fun {a o} e n => by
        have ha : a ≠ p := fun z => by
          rw [z, hp] at e
          exact n _ (Option.some.inj e).symm
        rw [upd_ne ha]
        exact e
      rcases h with (h | ⟨o, h⟩) | h
      · exact .inl (.inl (ne h fun _ z => by cases z))
      · exact .inl (.inr ⟨o, ne h fun _ z => by cases z⟩)
      · exact .inr h) (Reps.put hp r)
  | _, _, .lst (a := a) h nl r => .lst (by
      have ha : a ≠ p := fun z => nl (.inr (by rw [z]; exact List.mem_cons_self ..))
      show upd H p _ a = some _
      rw [upd_ne ha]
      exact h) nl (Reps.put hp r)
  | _, _, .ro (a := a) h r => .ro (by
      rcases h with ⟨o, h⟩ | h
      · refine .inl ⟨o, ?_⟩
        have ha : a ≠ p := fun z => by
          have h' : H a = some _ := h
          rw [z, hp] at h'
          cases h'
        show upd H p _ a = some _
        rw [upd_ne ha]
        exact h
      · exact .inr h) (Reps.put hp r)
  | _, _, .ob h => .ob h
  | _, _, .fn h => .fn h
theorem Reps.put {vs vs' : List V} (hp : H p = some (.lst vs')) : ∀ {ds : List D} {ws : List V}, Reps (c.add p) ⟨ι, μ, H⟩ ds ws → Reps (c.add p) ⟨ι, μ, upd H p (.lst vs)⟩ ds ws
  | _, _, .nil => .nil
  | _, _, .cons r t => .cons (Rep.put hp r) (Reps.put hp t)
end
mutual
theorem Rep.up {o : HO} (hp : H p = none) : ∀ {d : D} {v : V}, Rep c ⟨ι, μ, H⟩ d v → Rep c ⟨ι, μ, upd H p o⟩ d v
  | _, _, .non => .non
  | _, _, .bl b => .bl b
  | _, _, .int i => .int i
  | _, _, .str y => .str y
  | _, _, .tup h r => .tup (by
      have ne : ∀ {a : Addr} {u : HO}, H a = some u → upd H p o a = some u := fun {a u} e => by
        rw [upd_ne (ne_of_none e hp)]
        exact e
      rcases h with (h | ⟨u, h⟩) | h
      · exact .inl (.inl (ne h))
      · exact .inl (.inr ⟨u, ne h⟩)
      · exact .inr h) (Reps.up hp r)
  | _, _, .lst (a := a) h nl r => .lst (by
      show upd H p _ a = some _
      rw [upd_ne (ne_of_none h hp)]
      exact h) nl (Reps.up hp r)
  | _, _, .ro (a := a) h r => .ro (by
      rcases h with ⟨u, h⟩ | h
      · refine .inl ⟨u, ?_⟩
        show upd H p _ a = some _
        rw [upd_ne (ne_of_none h hp)]
        exact h
      · exact .inr h) (Reps.up hp r)
  | _, _, .ob h => .ob h
  | _, _, .fn h => .fn h
theorem Reps.up {o : HO} (hp : H p = none) : ∀ {ds : List D} {ws : List V}, Reps c ⟨ι, μ, H⟩ ds ws → Reps c ⟨ι, μ, upd H p o⟩ ds ws
  | _, _, .nil => .nil
  | _, _, .cons r t => .cons (Rep.up hp r) (Reps.up hp t)
end
theorem Ok.enter {vs : List V} (k : Ok c ⟨ι, μ, H⟩) (hp : H p = none) : Ok (c.add p) ⟨ι, μ, upd H p (.lst vs)⟩ := by
  obtain ⟨k2, x2, nl⟩ := new_obj (o := .lst vs) k hp
  refine ⟨k.len, fun n ob h => ?_, fun a h => ?_, k.inj, tabs_new k.tab hp⟩
  · obtain ⟨a, e, m⟩ := k.obj n ob h
    refine ⟨a, e, ?_⟩
    cases ob with
    | lst ds =>
      obtain ⟨ws, e1, r⟩ := m
      have h1 : upd H p (.lst vs) a = some (.lst ws) := by
        rw [upd_ne (ne_of_none e1 hp)]
        exact e1
      exact ⟨ws, h1, Reps.up hp (Reps.enter (s := ⟨ι, μ, H⟩) hp r)⟩
  · rcases List.mem_cons.mp h with z | z
    · subst z
      exact ⟨⟨vs, upd_same⟩, fun l => nl (.inl l)⟩
    · obtain ⟨⟨ws, e⟩, n⟩ := k.pvt a z
      exact ⟨⟨ws, x2.fz a _ e (fun ps z => by cases z) n⟩, n⟩
theorem Rep.in_ {vs : List V} {d : D} {v : V} (hp : H p = none) (r : Rep c ⟨ι, μ, H⟩ d v) : Rep (c.add p) ⟨ι, μ, upd H p (.lst vs)⟩ d v := Rep.up hp (Rep.enter (s := ⟨ι, μ, H⟩) hp r)
theorem Ok.put {vs vs' : List V} (k : Ok (c.add p) ⟨ι, μ, H⟩) (hp : H p = some (.lst vs')) : Ok (c.add p) ⟨ι, μ, upd H p (.lst vs)⟩ := by
  have np : ¬ SS.live ⟨ι, μ, H⟩ p := (k.pvt p (List.mem_cons_self ..)).2
  have ne : ∀ {a : Addr}, SS.live ⟨ι, μ, H⟩ a → a ≠ p := fun {a} l z => np (by rw [← z]; exact l)
  refine ⟨k.len, fun n ob h => ?_, fun a h => ?_, k.inj, tabs_put k.tab hp⟩
  · obtain ⟨a, e, m⟩ := k.obj n ob h
    refine ⟨a, e, ?_⟩
    cases ob with
    | lst ds =>
      obtain ⟨ws, e1, r⟩ := m
      refine ⟨ws, ?_, Reps.put hp r⟩
      show upd H p _ a = some _
      rw [upd_ne (ne ⟨n, _, h, e⟩)]
      exact e1
  · obtain ⟨⟨ws, e⟩, n⟩ := k.pvt a h
    refine ⟨?_, n⟩
    by_cases ha : a = p
    · rw [ha]
      exact ⟨vs, upd_same⟩
    · refine ⟨ws, ?_⟩
      show upd H p _ a = some _
      rw [upd_ne ha]
      exact e
theorem Ok.leave (k : Ok (c.add p) ⟨ι, μ, H⟩) : Ok c ⟨ι, μ, H⟩ := by
  refine ⟨k.len, fun n ob h => ?_, fun a h => k.pvt a (List.mem_cons_of_mem _ h), k.inj, k.tab⟩
  obtain ⟨a, e, m⟩ := k.obj n ob h
  refine ⟨a, e, ?_⟩
  cases ob with
  | lst ds =>
    obtain ⟨ws, e1, r⟩ := m
    exact ⟨ws, e1, Reps.leave r⟩
theorem live_give {a : Addr} {o : MO} (hl : ι.length = μ.length) (h : SS.live ⟨ι ++ [p], μ ++ [some o], H⟩ a) : SS.live ⟨ι, μ, H⟩ a ∨ a = p := by
  obtain ⟨n, u, h1, h2⟩ := h
  have h1' : (μ ++ [some o])[n]? = some (some u) := h1
  have h2' : (ι ++ [p])[n]? = some a := h2
  by_cases hn : n < μ.length
  · rw [List.getElem?_append_left hn] at h1'
    rw [List.getElem?_append_left (by rw [hl]; exact hn)] at h2'
    exact .inl ⟨n, u, h1', h2'⟩
  · rw [List.getElem?_append_right (by rw [hl]; omega)] at h2'
    have := (List.getElem?_eq_some_iff.mp h2').1
    rw [List.length_singleton] at this
    have e0 : n - ι.length = 0 := by omega
    rw [e0] at h2'
    exact .inr (Option.some.inj h2').symm
mutual
theorem Rep.give {o : MO} (hl : ι.length = μ.length) : ∀ {d : D} {v : V}, Rep (c.add p) ⟨ι, μ, H⟩ d v → Rep c ⟨ι ++ [p], μ ++ [some o], H⟩ d v
  | _, _, .non => .non
  | _, _, .bl b => .bl b
  | _, _, .int i => .int i
  | _, _, .str y => .str y
  | _, _, .tup h r => .tup h (Reps.give hl r)
  | _, _, .lst h nl r => .lst h (fun l => by
      rcases l with l | l
      · rcases live_give hl l with q | q
        · exact nl (.inl q)
        · exact nl (.inr (by rw [q]; exact List.mem_cons_self ..))
      · exact nl (.inr (List.mem_cons_of_mem _ l))) (Reps.give hl r)
  | _, _, .ro h r => .ro h (Reps.give hl r)
  | _, _, .ob (n := n) (a := a) h => .ob (by
      have h' : ι[n]? = some a := h
      show (ι ++ [p])[n]? = some a
      rw [List.getElem?_append_left (List.getElem?_eq_some_iff.mp h').1]
      exact h')
  | _, _, .fn h => .fn h
theorem Reps.give {o : MO} (hl : ι.length = μ.length) : ∀ {ds : List D} {ws : List V}, Reps (c.add p) ⟨ι, μ, H⟩ ds ws → Reps c ⟨ι ++ [p], μ ++ [some o], H⟩ ds ws
  | _, _, .nil => .nil
  | _, _, .cons r t => .cons (Rep.give hl r) (Reps.give hl t)
end
theorem Ok.give {ds : List D} {vs : List V} (hpv : p ∉ c.pv) (k : Ok (c.add p) ⟨ι, μ, H⟩) (hp : H p = some (.lst vs)) (r : Reps (c.add p) ⟨ι, μ, H⟩ ds vs) :
    Ok c ⟨ι ++ [p], μ ++ [some (.lst ds)], H⟩ ∧ (∀ s : SS, Aft s ⟨ι, μ, H⟩ → s.H p = none → Aft s ⟨ι ++ [p], μ ++ [some (.lst ds)], H⟩) ∧ Rep c ⟨ι ++ [p], μ ++ [some (.lst ds)], H⟩ (.ob μ.length) (.ref p) := by
  have hl : ι.length = μ.length := k.len
  have np : ¬ SS.live ⟨ι, μ, H⟩ p := (k.pvt p (List.mem_cons_self ..)).2
  have gp : (ι ++ [p])[μ.length]? = some p := by rw [← hl]; simp
  have get1 : ∀ {n : Nat} {o : MO} {a : Addr}, (μ ++ [some (MO.lst ds)])[n]? = some (some o) → (ι ++ [p])[n]? = some a → (n < μ.length ∧ μ[n]? = some (some o) ∧ ι[n]? = some a) ∨ (n = μ.length ∧ o = .lst ds ∧ a = p) := fun {n o a} h h2 => by
    by_cases hn : n < μ.length
    · rw [List.getElem?_append_left hn] at h
      rw [List.getElem?_append_left (by rw [hl]; exact hn)] at h2
      exact .inl ⟨hn, h, h2⟩
    · rw [List.getElem?_append_right (by omega)] at h
      have h0 := (List.getElem?_eq_some_iff.mp h).1
      rw [List.length_singleton] at h0
      have e0 : n = μ.length := by omega
      subst e0
      rw [gp] at h2
      have e1 : μ.length - μ.length = 0 := by omega
      rw [e1] at h
      exact .inr ⟨rfl, by cases h; rfl, (Option.some.inj h2).symm⟩
  refine ⟨⟨by show (ι ++ [p]).length = (μ ++ [some (MO.lst ds)]).length; rw [List.length_append, List.length_append, hl]; rfl, fun n o h => ?_, fun a h => ?_, fun n m o o' a h1 h2 h3 h4 => ?_, k.tab⟩, fun s x hs => ⟨?_, x.fz, fun a l => ?_⟩, .ob gp⟩
  · by_cases hn : n < μ.length
    · have h' : (μ ++ [some (MO.lst ds)])[n]? = some (some o) := h
      rw [List.getElem?_append_left hn] at h'
      obtain ⟨a, e, m⟩ := k.obj n o h'
      refine ⟨a, (List.getElem?_append_left (by rw [hl]; exact hn)).trans e, ?_⟩
      cases o with
      | lst es =>
        obtain ⟨ws, e1, r1⟩ := m
        exact ⟨ws, e1, Reps.give hl r1⟩
    · have hn2 : n = μ.length := by
        have h' := (List.getElem?_eq_some_iff.mp (show (μ ++ [some (MO.lst ds)])[n]? = some (some o) from h)).1
        rw [List.length_append, List.length_singleton] at h'
        omega
      subst hn2
      rcases get1 h gp with ⟨z, _⟩ | ⟨_, z, _⟩
      · exact absurd z (Nat.lt_irrefl _)
      · subst z
        exact ⟨p, gp, vs, hp, Reps.give hl r⟩
  · obtain ⟨e, n⟩ := k.pvt a (List.mem_cons_of_mem _ h)
    refine ⟨e, fun l => ?_⟩
    rcases live_give hl l with q | q
    · exact n q
    · rw [q] at h
      exact hpv h
  · rcases get1 h1 h3 with ⟨a1, a2, a3⟩ | ⟨a1, a2, a3⟩
    · rcases get1 h2 h4 with ⟨b1, b2, b3⟩ | ⟨b1, b2, b3⟩
      · exact k.inj n m o o' a a2 b2 a3 b3
      · subst b3
        exact absurd ⟨n, o, a2, a3⟩ np
    · rcases get1 h2 h4 with ⟨b1, b2, b3⟩ | ⟨b1, b2, b3⟩
      · subst a3
        exact absurd ⟨m, o', b2, b3⟩ np
      · rw [a1, b1]
  · obtain ⟨m, e⟩ := x.pre
    exact ⟨m ++ [p], by rw [← List.append_assoc, ← e]⟩
  · rcases live_give hl l with q | q
    · exact x.lv a q
    · exact .inr fun o z => by
        rw [q, hs] at z
        cases z
/-- what was there before stays while the list is filled -/
theorem Aft.putp {s : SS} {o : HO} (x : Aft s ⟨ι, μ, H⟩) (hp : s.H p = none) : Aft s ⟨ι, μ, upd H p o⟩ := ⟨x.pre, fun a u h t n => by
  show upd H p o a = some u
  rw [upd_ne (ne_of_none h hp)]
  exact x.fz a u h t n, x.lv⟩
/-- tables are written, new things stand -/
theorem Ok.ext {H1 : Hp} (k : Ok c ⟨ι, μ, H⟩) (e : LamX.ExtN H H1) (t : LamX.Tabs c.T H1) : Ok c ⟨ι, μ, H1⟩ ∧ Aft ⟨ι, μ, H⟩ ⟨ι, μ, H1⟩ := by
  have hA : Aft ⟨ι, μ, H⟩ ⟨ι, μ, H1⟩ := ⟨⟨[], by simp⟩, fun a u h n _ => e a u h n, fun a h => .inl h⟩
  refine ⟨⟨k.len, fun n o h => ?_, fun a h => ?_, k.inj, t⟩, hA⟩
  · obtain ⟨a, q, m⟩ := k.obj n o h
    refine ⟨a, q, ?_⟩
    cases o with
    | lst ds =>
      obtain ⟨vs, z, r⟩ := m
      exact ⟨vs, e _ _ z (fun ps z => by cases z), Reps.aft k hA r⟩
  · obtain ⟨⟨vs, z⟩, n⟩ := k.pvt a h
    exact ⟨⟨vs, e _ _ z (fun ps z => by cases z)⟩, n⟩
end
end MV

set_option Elab.async false
set_option linter.all false
set_option maxRecDepth 100000
set_option maxHeartbeats 4000000
/-! MV2: mirrors of expressions (ME), what the layer's readings of them are, the rules for expressions -/
namespace MV
open PySem L2
variable {T : List (Addr × Str)}

inductive Out where
  | ok (d : D) (μ : Mu)
  | ex (x : Str) (a : Option D) (μ : Mu)
inductive OutA where
  | ok (ds : List D) (μ : Mu)
  | ex (x : Str) (a : Option D) (μ : Mu)
abbrev ME := Rho → Mu → Option Out
abbrev MA := Rho → Mu → Option OutA
abbrev MF := List D → Mu → Option Out

def bindO (o : Option Out) (k : D → Mu → Option Out) : Option Out :=
  match o with
  | none => none
  | some (.ok d μ) => k d μ
  | some (.ex x a μ) => some (.ex x a μ)
def bindA (o : Option OutA) (k : List D → Mu → Option Out) : Option Out :=
  match o with
  | none => none
  | some (.ok d μ) => k d μ
  | some (.ex x a μ) => some (.ex x a μ)
def bindOA (o : Option Out) (k : D → Mu → Option OutA) : Option OutA :=
  match o with
  | none => none
  | some (.ok d μ) => k d μ
  | some (.ex x a μ) => some (.ex x a μ)
def bindAA (o : Option OutA) (k : List D → Mu → Option OutA) : Option OutA :=
  match o with
  | none => none
  | some (.ok d μ) => k d μ
  | some (.ex x a μ) => some (.ex x a μ)
def retV (o : Option D) (μ : Mu) : Option Out :=
  match o with
  | some d => some (.ok d μ)
  | none => none

/-- the error of the class x, made with a -/
def ExAt (c : Cz) (s : SS) (x : Str) (a : Option D) (C : Addr) (ed : Option Addr) : Prop :=
  c.mg x = some (.ref C) ∧ match a with
    | none => ed = none
    | some d => ∃ e v, ed = some e ∧ s.H e = some (.xd [(("at" : Str), v)]) ∧ Rep c s d v

def Ret (c : Cz) (s : SS) (o : Option Out) (Q : VK) (E : XK) : Prop :=
  match o with
  | none => False
  | some (.ok d μ) => ∀ (ι : List Addr) (H : Hp) (v : V), Ok c ⟨ι, μ, H⟩ → Aft s ⟨ι, μ, H⟩ → Rep c ⟨ι, μ, H⟩ d v → Q v H
  | some (.ex x a μ) => ∀ (ι : List Addr) (H : Hp) (C : Addr) (ed : Option Addr), Ok c ⟨ι, μ, H⟩ → Aft s ⟨ι, μ, H⟩ → ExAt c ⟨ι, μ, H⟩ x a C ed → E (.ref C) ed H
def RetA (c : Cz) (s : SS) (o : Option OutA) (Q : List V → Hp → Prop) (E : XK) : Prop :=
  match o with
  | none => False
  | some (.ok ds μ) => ∀ (ι : List Addr) (H : Hp) (vs : List V), Ok c ⟨ι, μ, H⟩ → Aft s ⟨ι, μ, H⟩ → Reps c ⟨ι, μ, H⟩ ds vs → Q vs H
  | some (.ex x a μ) => ∀ (ι : List Addr) (H : Hp) (C : Addr) (ed : Option Addr), Ok c ⟨ι, μ, H⟩ → Aft s ⟨ι, μ, H⟩ → ExAt c ⟨ι, μ, H⟩ x a C ed → E (.ref C) ed H

/-- the slots -/
def RR (c : Cz) (s : SS) (ρ : Rho) (σ : L2.St) : Prop := ρ.length = σ.length ∧ ∀ (i : Nat) (d : D), ρ[i]? = some (some d) → ∃ v, σ[i]? = some (some v) ∧ Rep c s d v

section
variable {c : Cz} {s s1 s' : SS} {o : Option Out} {Q Q' : VK} {E E' : XK}
theorem RR.aft {ρ : Rho} {σ : L2.St} (k : Ok c s) (x : Aft s s') (r : RR c s ρ σ) : RR c s' ρ σ := ⟨r.1, fun i d h => by
  obtain ⟨v, e, q⟩ := r.2 i d h
  exact ⟨v, e, Rep.aft k x q⟩⟩
theorem Ret.mono (h : Ret c s o Q E) (hq : ∀ v H, Q v H → Q' v H) : Ret c s o Q' E := by
  match o, h with
  | some (.ok d μ), h => exact fun ι H v a b r => hq _ _ (h ι H v a b r)
  | some (.ex x a μ), h => exact h
theorem Ret.monoE (h : Ret c s o Q E) (hq : ∀ v d H, E v d H → E' v d H) : Ret c s o Q E' := by
  match o, h with
  | some (.ok d μ), h => exact h
  | some (.ex x a μ), h => exact fun ι H C ed k x r => hq _ _ _ (h ι H C ed k x r)
theorem Ret.back (h : Ret c s1 o Q E) (x : Aft s s1) (z : s1 = s → True) : True := trivial
theorem Ret.from (h : Ret c s o Q E) (x : Aft s s1) : Ret c s1 o Q E := by
  match o, h with
  | some (.ok d μ), h => exact fun ι H v a b r => h ι H v a (x.trans b) r
  | some (.ex y a μ), h => exact fun ι H C ed k b r => h ι H C ed k (x.trans b) r
theorem RetA.from {o : Option OutA} {Q : List V → Hp → Prop} (h : RetA c s o Q E) (x : Aft s s1) : RetA c s1 o Q E := by
  match o, h with
  | some (.ok d μ), h => exact fun ι H v a b r => h ι H v a (x.trans b) r
  | some (.ex y a μ), h => exact fun ι H C ed k b r => h ι H C ed k (x.trans b) r
/-- what a step hands on -/
def Hand (c : Cz) (s : SS) (k : D → Mu → Option Out) (Q : VK) (E : XK) (v : V) (H : Hp) : Prop :=
  ∃ (ι : List Addr) (μ : Mu) (d : D), Ok c ⟨ι, μ, H⟩ ∧ Aft s ⟨ι, μ, H⟩ ∧ Rep c ⟨ι, μ, H⟩ d v ∧ Ret c ⟨ι, μ, H⟩ (k d μ) Q E
theorem Ret.bind {k : D → Mu → Option Out} (h : Ret c s (bindO o k) Q E) : Ret c s o (Hand c s k Q E) E := by
  match o, h with
  | some (.ok d μ), h => exact fun ι H v a b r => ⟨ι, μ, d, a, b, r, Ret.from h b⟩
  | some (.ex x a μ), h => exact h
def HandA (c : Cz) (s : SS) (k : List D → Mu → Option Out) (Q : VK) (E : XK) (vs : List V) (H : Hp) : Prop :=
  ∃ (ι : List Addr) (μ : Mu) (ds : List D), Ok c ⟨ι, μ, H⟩ ∧ Aft s ⟨ι, μ, H⟩ ∧ Reps c ⟨ι, μ, H⟩ ds vs ∧ Ret c ⟨ι, μ, H⟩ (k ds μ) Q E
theorem Ret.bindA {oa : Option OutA} {k : List D → Mu → Option Out} (h : Ret c s (bindA oa k) Q E) : RetA c s oa (HandA c s k Q E) E := by
  match oa, h with
  | some (.ok d μ), h => exact fun ι H v a b r => ⟨ι, μ, d, a, b, r, Ret.from h b⟩
  | some (.ex x a μ), h => exact h
theorem RetA.bindO {QA : List V → Hp → Prop} {k : D → Mu → Option OutA} (h : RetA c s (bindOA o k) QA E) :
    Ret c s o (fun v H => ∃ (ι : List Addr) (μ : Mu) (d : D), Ok c ⟨ι, μ, H⟩ ∧ Aft s ⟨ι, μ, H⟩ ∧ Rep c ⟨ι, μ, H⟩ d v ∧ RetA c ⟨ι, μ, H⟩ (k d μ) QA E) E := by
  match o, h with
  | some (.ok d μ), h => exact fun ι H v a b r => ⟨ι, μ, d, a, b, r, RetA.from h b⟩
  | some (.ex x a μ), h => exact h
theorem RetA.bindA {QA : List V → Hp → Prop} {oa : Option OutA} {k : List D → Mu → Option OutA} (h : RetA c s (bindAA oa k) QA E) :
    RetA c s oa (fun vs H => ∃ (ι : List Addr) (μ : Mu) (ds : List D), Ok c ⟨ι, μ, H⟩ ∧ Aft s ⟨ι, μ, H⟩ ∧ Reps c ⟨ι, μ, H⟩ ds vs ∧ RetA c ⟨ι, μ, H⟩ (k ds μ) QA E) E := by
  match oa, h with
  | some (.ok d μ), h => exact fun ι H v a b r => ⟨ι, μ, d, a, b, r, RetA.from h b⟩
  | some (.ex x a μ), h => exact h
theorem Ret.val {d : D} {μ : Mu} {ι : List Addr} {H : Hp} {v : V} (h : Ret c ⟨ι, μ, H⟩ (some (.ok d μ)) Q E) (k : Ok c ⟨ι, μ, H⟩) (r : Rep c ⟨ι, μ, H⟩ d v) : Q v H := h ι H v k (Aft.refl _) r
end

/-! ### readings and rules -/
def tE (c : List Addr → Cz) (W : WX) (m : ME) : TE := fun σ H Q => ∃ (pv : List Addr) (ι : List Addr) (μ : Mu) (ρ : Rho), Ok (c pv) ⟨ι, μ, H⟩ ∧ RR (c pv) ⟨ι, μ, H⟩ ρ σ ∧ Ret (c pv) ⟨ι, μ, H⟩ (m ρ μ) Q (fun cls d H' => W cls d σ H')
def tAs (c : List Addr → Cz) (W : WX) (m : MA) : TA := fun σ H Q => ∃ (pv : List Addr) (ι : List Addr) (μ : Mu) (ρ : Rho), Ok (c pv) ⟨ι, μ, H⟩ ∧ RR (c pv) ⟨ι, μ, H⟩ ρ σ ∧ RetA (c pv) ⟨ι, μ, H⟩ (m ρ μ) Q (fun cls d H' => W cls d σ H')
abbrev cz (T : List (Addr × Str)) (X : Cx) (pv : List Addr) : Cz := ⟨X.K, X.mg, pv, T⟩
abbrev EM (T : List (Addr × Str)) (X : Cx) (W : WX) (e : Expr) (m : ME) : Prop := PE X e (tE (cz T X) W m)
abbrev AM (T : List (Addr × Str)) (X : Cx) (W : WX) (es : List Expr) (m : MA) : Prop := PA X es (tAs (cz T X) W m)
/-- a test: the mirror tells a truth value -/
abbrev TM (T : List (Addr × Str)) (X : Cx) (W : WX) (e : Expr) (m : ME) : Prop := PT X e (tB (tE (cz T X) W m))
abbrev TW (T : List (Addr × Str)) (X : Cx) (W : WX) (e : Expr) (m : ME) : Prop := PW X e (tB (tE (cz T X) W m))

section
variable {X : Cx}
theorem PE.mono {e : Expr} {t t' : TE} (h : PE X e t) (i : ∀ σ H Q, t' σ H Q → t σ H Q) : PE X e t' := ⟨fun pins s σ H Q I q => h.run pins s σ H Q I (i σ H Q q)⟩
theorem PT.mono {e : Expr} {t t' : TT} (h : PT X e t) (i : ∀ σ H Q, t' σ H Q → t σ H Q) : PT X e t' := ⟨fun pins s σ H Q I q => h.run pins s σ H Q I (i σ H Q q)⟩
theorem PW.mono {e : Expr} {t t' : TT} (h : PW X e t) (i : ∀ σ H Q, t' σ H Q → t σ H Q) : PW X e t' := ⟨fun w pins s σ H Q I q => h.run w pins s σ H Q I (i σ H Q q)⟩
theorem PA.mono {es : List Expr} {t t' : TA} (h : PA X es t) (i : ∀ σ H Q, t' σ H Q → t σ H Q) : PA X es t' := ⟨fun p pins s σ H Q I q => h.run p pins s σ H Q I (i σ H Q q)⟩
theorem PS.mono {e : Stmt} {t t' : TS} (h : PS X e t) (i : ∀ D σ H, t' D σ H → t D σ H) : PS X e t' := ⟨fun pins s σ H D I q => h.run pins s σ H D I (i D σ H q)⟩
theorem PSs.mono {e : List Stmt} {t t' : TS} (h : PSs X e t) (i : ∀ D σ H, t' D σ H → t D σ H) : PSs X e t' := ⟨fun pins s σ H D I q => h.run pins s σ H D I (i D σ H q)⟩
end

/-! ### names, constants -/
def mVar (i : Nat) : ME := fun ρ μ => match ρ[i]? with
  | some (some d) => some (.ok d μ)
  | _ => none
def mC (d : D) : ME := fun _ μ => some (.ok d μ)
section
variable {X : Cx} {W : WX}
theorem em_var {i : Nat} {x : Str} {pos : Pos} (hN : X.N[i]? = some x) (hv : Vis X.env.scope x) (hd : (x == ("__debug__" : Str)) = false := by decide) (hcd : (x == ("__classdict__" : Str)) = false := by decide) :
    EM T X W (.Name x pos) (mVar i) := PE.mono (pe_var hN hv hd hcd) fun σ H Q ⟨pv, ι, μ, ρ, k, rr, h⟩ => by
  unfold mVar at h
  match e : ρ[i]?, h with
  | some (some d), h =>
    obtain ⟨v, e1, r⟩ := rr.2 i d e
    exact ⟨v, e1, Ret.val h k r⟩
theorem em_int {i : Int} {j : Nat} {pos : Pos} : EM T X W (.Constant (.int i) j pos) (mC (.int i)) := PE.mono pe_int fun σ H Q ⟨pv, ι, μ, ρ, k, rr, h⟩ => Ret.val h k (.int i)
theorem em_bl {b : Bool} {j : Nat} {pos : Pos} : EM T X W (.Constant (.bool b) j pos) (mC (.bl b)) := PE.mono pe_bl fun σ H Q ⟨pv, ι, μ, ρ, k, rr, h⟩ => Ret.val h k (.bl b)
theorem em_non {j : Nat} {pos : Pos} : EM T X W (.Constant .none j pos) (mC .non) := PE.mono pe_non fun σ H Q ⟨pv, ι, μ, ρ, k, rr, h⟩ => Ret.val h k .non
theorem em_str {x : Str} {j : Nat} {pos : Pos} : EM T X W (.Constant (.str x) j pos) (mC (.str x)) := PE.mono pe_str fun σ H Q ⟨pv, ι, μ, ρ, k, rr, h⟩ => Ret.val h k (.str x)
/-- a module's constant: an int, a text, None, a bool | a def by its name -/
theorem em_glob {x : Str} {d : D} {v : V} {u : Value} {pos : Pos} (hg : Gl X x) (hm : X.mg x = some u) (r : RelV v u) (hr : ∀ pv s, Rep (cz T X pv) s d v) (hd : (x == ("__debug__" : Str)) = false := by decide) : EM T X W (.Name x pos) (mC d) :=
  PE.mono (pe_glob hg hm r hd) fun σ H Q ⟨pv, ι, μ, ρ, k, rr, h⟩ => Ret.val h k (hr _ _)

/-! ### two-place operations -/
def mOp (f : D → D → Mu → Option D) (a b : ME) : ME := fun ρ μ => bindO (a ρ μ) fun x μ1 => bindO (b ρ μ1) fun y μ2 => retV (f x y μ2) μ2
/-- the value's rule keeps what the mirror tells -/
def R2M (T : List (Addr × Str)) (K : PySem.W.Frag) (mg : Str → Option Value) (f : D → D → Mu → Option D) (r : R2) : Prop :=
  ∀ (pv ι : List Addr) (μ : Mu) (H : Hp) (x y d : D) (v w : V) (Q : VK), Ok ⟨K, mg, pv, T⟩ ⟨ι, μ, H⟩ → Rep ⟨K, mg, pv, T⟩ ⟨ι, μ, H⟩ x v → Rep ⟨K, mg, pv, T⟩ ⟨ι, μ, H⟩ y w → f x y μ = some d →
    (∀ H' z, Ok ⟨K, mg, pv, T⟩ ⟨ι, μ, H'⟩ → Aft ⟨ι, μ, H⟩ ⟨ι, μ, H'⟩ → Rep ⟨K, mg, pv, T⟩ ⟨ι, μ, H'⟩ d z → Q z H') → r v w H Q
theorem two {a b : ME} {f : D → D → Mu → Option D} {r : R2} (hr : R2M T X.K X.mg f r) {σ : L2.St} {H : Hp} {Q : VK} (h : tE (cz T X) W (mOp f a b) σ H Q) : tOp r (tE (cz T X) W a) (tE (cz T X) W b) σ H Q := by
  obtain ⟨pv, ι, μ, ρ, k, rr, h⟩ := h
  refine ⟨pv, ι, μ, ρ, k, rr, (Ret.bind h).mono fun v H1 ⟨ι1, μ1, d1, k1, x1, r1, h1⟩ => ⟨pv, ι1, μ1, ρ, k1, rr.aft k x1, (Ret.bind h1).mono fun w H2 ⟨ι2, μ2, d2, k2, x2, r2, h2⟩ => ?_⟩⟩
  match e : f d1 d2 μ2, h2 with
  | some d, h2 =>
    (try dsimp only at h2)
    rw [e] at h2
    exact hr pv ι2 μ2 H2 d1 d2 d v w Q k2 (Rep.aft k1 x2 r1) r2 e fun H' z k' x' r' => h2 ι2 H' z k' x' r'
  | none, h2 =>
    (try dsimp only at h2)
    rw [e] at h2
    exact h2.elim
theorem em_op {op : Operator} {a b : Expr} {ma mb : ME} {f : D → D → Mu → Option D} {r : R2} {pos : Pos} (ho : OpR X (binaryOp op) r) (hr : R2M T X.K X.mg f r) (ha : EM T X W a ma) (hb : EM T X W b mb) : EM T X W (.BinOp a op b pos) (mOp f ma mb) :=
  PE.mono (pe_op ho ha hb) fun _ _ _ h => two hr h
theorem em_cmp {op : CmpOp} {a b : Expr} {ma mb : ME} {f : D → D → Mu → Option D} {r : R2} {pos : Pos} (ho : OpR X (compareOp op) r) (hr : R2M T X.K X.mg f r) (ha : EM T X W a ma) (hb : EM T X W b mb) (hm : behindInMarks op b = false) : EM T X W (.Compare a [op] [b] pos) (mOp f ma mb) :=
  PE.mono (pe_cmpR ho ha hb hm) fun _ _ _ h => two hr h
theorem em_ix {a b : Expr} {ma mb : ME} {f : D → D → Mu → Option D} {r : R2} {pos : Pos} (ho : IxR X r) (hr : R2M T X.K X.mg f r) (ha : EM T X W a ma) (hb : EM T X W b mb) (hs : PlainIx b) : EM T X W (.Subscript a b pos) (mOp f ma mb) :=
  PE.mono (pe_ix ho ha hb hs) fun _ _ _ h => two hr h
/-- one-place -/
def mUn (f : D → Mu → Option D) (a : ME) : ME := fun ρ μ => bindO (a ρ μ) fun x μ1 => retV (f x μ1) μ1
def R1M (T : List (Addr × Str)) (K : PySem.W.Frag) (mg : Str → Option Value) (f : D → Mu → Option D) (r : V → Hp → VK → Prop) : Prop :=
  ∀ (pv ι : List Addr) (μ : Mu) (H : Hp) (x d : D) (v : V) (Q : VK), Ok ⟨K, mg, pv, T⟩ ⟨ι, μ, H⟩ → Rep ⟨K, mg, pv, T⟩ ⟨ι, μ, H⟩ x v → f x μ = some d →
    (∀ H' z, Ok ⟨K, mg, pv, T⟩ ⟨ι, μ, H'⟩ → Aft ⟨ι, μ, H⟩ ⟨ι, μ, H'⟩ → Rep ⟨K, mg, pv, T⟩ ⟨ι, μ, H'⟩ d z → Q z H') → r v H Q
theorem one {a : ME} {f : D → Mu → Option D} {r : V → Hp → VK → Prop} (hr : R1M T X.K X.mg f r) {σ : L2.St} {H : Hp} {Q : VK} (h : tE (cz T X) W (mUn f a) σ H Q) : tUn r (tE (cz T X) W a) σ H Q := by
  obtain ⟨pv, ι, μ, ρ, k, rr, h⟩ := h
  refine ⟨pv, ι, μ, ρ, k, rr, (Ret.bind h).mono fun v H1 ⟨ι1, μ1, d1, k1, x1, r1, h1⟩ => ?_⟩
  match e : f d1 μ1, h1 with
  | some d, h1 =>
    (try dsimp only at h1)
    rw [e] at h1
    exact hr pv ι1 μ1 H1 d1 d v Q k1 r1 e fun H' z k' x' r' => h1 ι1 H' z k' x' r'
  | none, h1 =>
    (try dsimp only at h1)
    rw [e] at h1
    exact h1.elim
theorem em_un {op : UnaryOp} {a : Expr} {ma : ME} {f : D → Mu → Option D} {r : V → Hp → VK → Prop} {pos : Pos} (ho : UnR X (unaryOp op) r) (hr : R1M T X.K X.mg f r) (ha : EM T X W a ma) : EM T X W (.UnaryOp op a pos) (mUn f ma) :=
  PE.mono (pe_un ho ha) fun _ _ _ h => one hr h

/-! ### two comparisons in a chain -/
def mChain (f g : D → D → Mu → Option D) (a b e : ME) : ME := fun ρ μ => bindO (a ρ μ) fun x μ1 => bindO (b ρ μ1) fun y μ2 => match f x y μ2 with
  | some (.bl true) => bindO (e ρ μ2) fun z μ3 => retV (g y z μ3) μ3
  | some (.bl false) => some (.ok (.bl false) μ2)
  | _ => none
theorem chain {a b e : ME} {f g : D → D → Mu → Option D} {r r' : R2} (hr : R2M T X.K X.mg f r) (hr' : R2M T X.K X.mg g r') {σ : L2.St} {H : Hp} {Q : VK} (h : tE (cz T X) W (mChain f g a b e) σ H Q) :
    tChain r r' (tE (cz T X) W a) (tE (cz T X) W b) (tE (cz T X) W e) σ H Q := by
  obtain ⟨pv, ι, μ, ρ, k, rr, h⟩ := h
  refine ⟨pv, ι, μ, ρ, k, rr, (Ret.bind h).mono fun v H1 ⟨ι1, μ1, d1, k1, x1, r1, h1⟩ => ⟨pv, ι1, μ1, ρ, k1, rr.aft k x1, (Ret.bind h1).mono fun w H2 ⟨ι2, μ2, d2, k2, x2, r2, h2⟩ => ?_⟩⟩
  match q : f d1 d2 μ2, h2 with
  | some (.bl true), h2 =>
    (try dsimp only at h2)
    rw [q] at h2
    refine hr pv ι2 μ2 H2 d1 d2 _ v w _ k2 (Rep.aft k1 x2 r1) r2 q fun H' z k' x' r' => ?_
    cases r'
    refine ⟨true, rfl, ?_⟩
    refine ⟨pv, ι2, μ2, ρ, k', (rr.aft k x1).aft k1 (x2.trans x'), (Ret.bind (Ret.from h2 x')).mono fun z H3 ⟨ι3, μ3, d3, k3, x3, r3, h3⟩ => ?_⟩
    match q3 : g d2 d3 μ3, h3 with
    | some d, h3 =>
      (try dsimp only at h3)
      rw [q3] at h3
      exact hr' pv ι3 μ3 H3 d2 d3 d w z Q k3 (Rep.aft k2 (x'.trans x3) r2) r3 q3 fun H' z k' x' r' => h3 ι3 H' z k' x' r'
    | none, h3 =>
      (try dsimp only at h3)
      rw [q3] at h3
      exact h3.elim
  | some (.bl false), h2 =>
    (try dsimp only at h2)
    rw [q] at h2
    refine hr pv ι2 μ2 H2 d1 d2 _ v w _ k2 (Rep.aft k1 x2 r1) r2 q fun H' z k' x' r' => ?_
    cases r'
    exact ⟨false, rfl, h2 ι2 H' (.bl false) k' x' (.bl false)⟩
  | none, h2 =>
    (try dsimp only at h2)
    rw [q] at h2
    exact h2.elim
  | some .non, h2 | some (.int _), h2 | some (.str _), h2 | some (.tup _), h2 | some (.lst _), h2 | some (.ro _), h2 | some (.ob _), h2 | some (.fn _), h2 =>
    (try dsimp only at h2)
    rw [q] at h2
    exact h2.elim
theorem em_chain {op op' : CmpOp} {a b e : Expr} {ma mb me : ME} {f g : D → D → Mu → Option D} {r r' : R2} {pos : Pos} (ho : OpR X (compareOp op) r) (ho' : OpR X (compareOp op') r') (hr : R2M T X.K X.mg f r) (hr' : R2M T X.K X.mg g r')
    (ha : EM T X W a ma) (hb : EM T X W b mb) (he : EM T X W e me) (hm : lastMarks [op, op'] [b, e] = false := by with_unfolding_all rfl) : EM T X W (.Compare a [op, op'] [b, e] pos) (mChain f g ma mb me) :=
  PE.mono (pe_chain ho ho' ha hb he hm) fun _ _ _ h => chain hr hr' h

/-! ### truth -/
def lineS : Nat := 16777216
theorem lineS_ok : lineS = sizeLine := sizeLine_eq.symm
def tru (d : D) (μ : Mu) : Option Bool := match d with
  | .non => some false
  | .bl b => some b
  | .int i => some (i != 0)
  | .str y => if y.length ≤ lineS then some ((y.length : Int) != 0) else none
  | .tup ds => some (!ds.isEmpty)
  | .lst ds => some (!ds.isEmpty)
  | .ro ds => some (!ds.isEmpty)
  | .ob n => match μ[n]? with
    | some (some (.lst ds)) => some (!ds.isEmpty)
    | _ => none
  | .fn _ => none
def mTru (a : ME) : ME := fun ρ μ => bindO (a ρ μ) fun x μ1 => match tru x μ1 with
  | some b => some (.ok (.bl b) μ1)
  | none => none
theorem Reps.isEmpty {c : Cz} {s : SS} {ds : List D} {vs : List V} (r : Reps c s ds vs) : vs.isEmpty = ds.isEmpty := by cases r <;> rfl
theorem tru_ok {c : Cz} {ι : List Addr} {μ : Mu} {H : Hp} {d : D} {v : V} {b : Bool} (k : Ok c ⟨ι, μ, H⟩) (r : Rep c ⟨ι, μ, H⟩ d v) (h : tru d μ = some b) : TruV c.K v H b := by
  cases r with
  | non => exact (Option.some.inj h).symm
  | bl b => exact (Option.some.inj h).symm
  | int i => exact (Option.some.inj h).symm
  | str x =>
    unfold tru at h
    simp only at h
    split at h
    · rename_i q
      exact ⟨by rw [← lineS_ok]; exact q, (Option.some.inj h).symm⟩
    · cases h
  | tup h1 r1 => exact .inr (.inl ⟨_, h1, by rw [r1.isEmpty]; exact (Option.some.inj h).symm⟩)
  | lst h1 nl r1 => exact .inl ⟨_, SqL.of h1, by rw [r1.isEmpty]; exact (Option.some.inj h).symm⟩
  | ro h1 r1 =>
    refine .inl ⟨_, ?_, by rw [r1.isEmpty]; exact (Option.some.inj h).symm⟩
    rcases h1 with ⟨o, h1⟩ | (h1 | h1)
    · exact .inl (.inr ⟨o, h1⟩)
    · rcases h1 with h1 | ⟨o, h1⟩ <;> cases h1
    · exact .inr h1
  | ob h1 =>
    unfold tru at h
    simp only at h
    split at h
    · rename_i ds q
      obtain ⟨a, e1, vs, e2, r2⟩ := k.obj _ _ q
      rw [h1] at e1
      cases e1
      exact .inl ⟨_, SqL.of e2, by rw [r2.isEmpty]; exact (Option.some.inj h).symm⟩
    · cases h
  | fn h1 => cases h
theorem tm_val {e : Expr} {m : ME} (h : EM T X W e m) (he : ∀ whole, isTrue e X.env whole = (do let v ← whole; standAt e.pos; holding [v] (truthy v)) := by intro _; rfl) : TM T X W e m := pt_val h he
theorem tm_tru {e : Expr} {m : ME} (h : EM T X W e m) (he : ∀ whole, isTrue e X.env whole = (do let v ← whole; standAt e.pos; holding [v] (truthy v)) := by intro _; rfl) : TM T X W e (mTru m) :=
  PT.mono (pt_truth h he) fun σ H Q ⟨pv, ι, μ, ρ, k, rr, h⟩ => ⟨pv, ι, μ, ρ, k, rr, (Ret.bind h).mono fun v H1 ⟨ι1, μ1, d1, k1, x1, r1, h1⟩ => by
    match q : tru d1 μ1, h1 with
    | some b, h1 =>
      (try dsimp only at h1)
      rw [q] at h1
      obtain ⟨k, e, z⟩ := h1 ι1 H1 (.bl b) k1 (Aft.refl _) (.bl b)
      cases e
      exact ⟨b, tru_ok k1 r1 q, z⟩
    | none, h1 =>
      (try dsimp only at h1)
      rw [q] at h1
      exact h1.elim⟩

/-! ### and, or, not: of truth values -/
def mAnd (a b : ME) : ME := fun ρ μ => bindO (a ρ μ) fun x μ1 => match x with
  | .bl true => b ρ μ1
  | .bl false => some (.ok (.bl false) μ1)
  | _ => none
def mOr (a b : ME) : ME := fun ρ μ => bindO (a ρ μ) fun x μ1 => match x with
  | .bl false => b ρ μ1
  | .bl true => some (.ok (.bl true) μ1)
  | _ => none
def mNot (a : ME) : ME := fun ρ μ => bindO (a ρ μ) fun x μ1 => match x with
  | .bl b => some (.ok (.bl !b) μ1)
  | _ => none
theorem and_pt {a b : ME} {σ : L2.St} {H : Hp} {Q : Bool → Hp → Prop} (h : tB (tE (cz T X) W (mAnd a b)) σ H Q) : tAnd (tB (tE (cz T X) W a)) (tB (tE (cz T X) W b)) σ H Q := by
  obtain ⟨pv, ι, μ, ρ, k, rr, h⟩ := h
  refine ⟨pv, ι, μ, ρ, k, rr, (Ret.bind h).mono fun v H1 ⟨ι1, μ1, d1, k1, x1, r1, h1⟩ => ?_⟩
  match d1, r1, h1 with
  | .bl true, .bl _, h1 => exact ⟨true, rfl, pv, ι1, μ1, ρ, k1, rr.aft k x1, h1⟩
  | .bl false, .bl _, h1 =>
    obtain ⟨c, e, q⟩ := h1 ι1 H1 (.bl false) k1 (Aft.refl _) (.bl false)
    cases e
    exact ⟨false, rfl, q⟩
theorem or_pt {a b : ME} {σ : L2.St} {H : Hp} {Q : Bool → Hp → Prop} (h : tB (tE (cz T X) W (mOr a b)) σ H Q) : tOr (tB (tE (cz T X) W a)) (tB (tE (cz T X) W b)) σ H Q := by
  obtain ⟨pv, ι, μ, ρ, k, rr, h⟩ := h
  refine ⟨pv, ι, μ, ρ, k, rr, (Ret.bind h).mono fun v H1 ⟨ι1, μ1, d1, k1, x1, r1, h1⟩ => ?_⟩
  match d1, r1, h1 with
  | .bl false, .bl _, h1 => exact ⟨false, rfl, pv, ι1, μ1, ρ, k1, rr.aft k x1, h1⟩
  | .bl true, .bl _, h1 =>
    obtain ⟨c, e, q⟩ := h1 ι1 H1 (.bl true) k1 (Aft.refl _) (.bl true)
    cases e
    exact ⟨true, rfl, q⟩
theorem tw_and1 {a : Expr} {m : ME} {pos : Pos} (h : TM T X W a m) : TW T X W (.BoolOp .And [a] pos) m := pw_and1 h
theorem tw_or1 {a : Expr} {m : ME} {pos : Pos} (h : TM T X W a m) : TW T X W (.BoolOp .Or [a] pos) m := pw_or1 h
theorem tw_and {a b : Expr} {rest : List Expr} {ma mb : ME} {pos : Pos} (ha : TM T X W a ma) (hb : TW T X W (.BoolOp .And (b :: rest) pos) mb) : TW T X W (.BoolOp .And (a :: b :: rest) pos) (mAnd ma mb) := PW.mono (pw_and ha hb) fun _ _ _ h => and_pt h
theorem tw_or {a b : Expr} {rest : List Expr} {ma mb : ME} {pos : Pos} (ha : TM T X W a ma) (hb : TW T X W (.BoolOp .Or (b :: rest) pos) mb) : TW T X W (.BoolOp .Or (a :: b :: rest) pos) (mOr ma mb) := PW.mono (pw_or ha hb) fun _ _ _ h => or_pt h
theorem tm_w {e : Expr} {m : ME} (h : TW T X W e m) : TM T X W e m := PW.pt h
theorem tm_not {a : Expr} {m : ME} {pos : Pos} (h : TM T X W a m) : TM T X W (.UnaryOp .Not a pos) (mNot m) := PT.mono (pt_not h) fun σ H Q ⟨pv, ι, μ, ρ, k, rr, h⟩ => ⟨pv, ι, μ, ρ, k, rr, (Ret.bind h).mono fun v H1 ⟨ι1, μ1, d1, k1, x1, r1, h1⟩ => by
  match d1, r1, h1 with
  | .bl b, .bl _, h1 =>
    obtain ⟨c, e, q⟩ := h1 ι1 H1 (.bl !b) k1 (Aft.refl _) (.bl _)
    cases e
    exact ⟨b, rfl, q⟩⟩
theorem em_one {op : BoolOp} {a : Expr} {m : ME} {pos : Pos} (h : EM T X W a m) : EM T X W (.BoolOp op [a] pos) m := pe_one h
theorem em_and {a b : Expr} {rest : List Expr} {ma mb : ME} {pos : Pos} (ha : EM T X W a ma) (hb : EM T X W (.BoolOp .And (b :: rest) pos) mb) : EM T X W (.BoolOp .And (a :: b :: rest) pos) (mAnd ma mb) :=
  PE.mono (pe_and ha hb) fun σ H Q ⟨pv, ι, μ, ρ, k, rr, h⟩ => ⟨pv, ι, μ, ρ, k, rr, (Ret.bind h).mono fun v H1 ⟨ι1, μ1, d1, k1, x1, r1, h1⟩ => by
    match d1, r1, h1 with
    | .bl true, .bl _, h1 => exact ⟨true, rfl, pv, ι1, μ1, ρ, k1, rr.aft k x1, h1⟩
    | .bl false, .bl _, h1 => exact ⟨false, rfl, h1 ι1 H1 (.bl false) k1 (Aft.refl _) (.bl false)⟩⟩
theorem em_or {a b : Expr} {rest : List Expr} {ma mb : ME} {pos : Pos} (ha : EM T X W a ma) (hb : EM T X W (.BoolOp .Or (b :: rest) pos) mb) : EM T X W (.BoolOp .Or (a :: b :: rest) pos) (mOr ma mb) :=
  PE.mono (pe_or ha hb) fun σ H Q ⟨pv, ι, μ, ρ, k, rr, h⟩ => ⟨pv, ι, μ, ρ, k, rr, (Ret.bind h).mono fun v H1 ⟨ι1, μ1, d1, k1, x1, r1, h1⟩ => by
    match d1, r1, h1 with
    | .bl false, .bl _, h1 => exact ⟨false, rfl, pv, ι1, μ1, ρ, k1, rr.aft k x1, h1⟩
    | .bl true, .bl _, h1 => exact ⟨true, rfl, h1 ι1 H1 (.bl true) k1 (Aft.refl _) (.bl true)⟩⟩
theorem em_not {a : Expr} {m : ME} {pos : Pos} (h : EM T X W a m) : EM T X W (.UnaryOp .Not a pos) (mNot m) :=
  PE.mono (pe_not h) fun σ H Q ⟨pv, ι, μ, ρ, k, rr, h⟩ => ⟨pv, ι, μ, ρ, k, rr, (Ret.bind h).mono fun v H1 ⟨ι1, μ1, d1, k1, x1, r1, h1⟩ => by
    match d1, r1, h1 with
    | .bl b, .bl _, h1 => exact ⟨b, rfl, h1 ι1 H1 (.bl !b) k1 (Aft.refl _) (.bl _)⟩⟩
def mIf (t a b : ME) : ME := fun ρ μ => bindO (t ρ μ) fun x μ1 => match x with
  | .bl true => a ρ μ1
  | .bl false => b ρ μ1
  | _ => none
theorem em_if {t a b : Expr} {mt ma mb : ME} {pos : Pos} (ht : TM T X W t mt) (ha : EM T X W a ma) (hb : EM T X W b mb) : EM T X W (.IfExp t a b pos) (mIf mt ma mb) :=
  PE.mono (pe_ifExp ht ha hb) fun σ H Q ⟨pv, ι, μ, ρ, k, rr, h⟩ => ⟨pv, ι, μ, ρ, k, rr, (Ret.bind h).mono fun v H1 ⟨ι1, μ1, d1, k1, x1, r1, h1⟩ => by
    match d1, r1, h1 with
    | .bl true, .bl _, h1 => exact ⟨true, rfl, pv, ι1, μ1, ρ, k1, rr.aft k x1, h1⟩
    | .bl false, .bl _, h1 => exact ⟨false, rfl, pv, ι1, μ1, ρ, k1, rr.aft k x1, h1⟩⟩

/-! ### arguments, displays -/
def aNil : MA := fun _ μ => some (.ok [] μ)
def aCons (a : ME) (r : MA) : MA := fun ρ μ => bindOA (a ρ μ) fun x μ1 => bindAA (r ρ μ1) fun xs μ2 => some (.ok (x :: xs) μ2)
theorem am_nil : AM T X W [] aNil := PA.mono pa_nil fun σ H Q ⟨pv, ι, μ, ρ, k, rr, h⟩ => h ι H [] k (Aft.refl _) .nil
theorem am_cons {e : Expr} {es : List Expr} {m : ME} {r : MA} (ha : EM T X W e m) (hr : AM T X W es r) (hs : starEach (e :: es) X.env = (false, eval e X.env) :: starEach es X.env := by rfl) : AM T X W (e :: es) (aCons m r) :=
  PA.mono (pa_cons ha hr hs) fun σ H Q ⟨pv, ι, μ, ρ, k, rr, h⟩ => ⟨pv, ι, μ, ρ, k, rr, (RetA.bindO h).mono fun v H1 ⟨ι1, μ1, d1, k1, x1, r1, h1⟩ => ⟨pv, ι1, μ1, ρ, k1, rr.aft k x1, by
    match q : r ρ μ1, h1 with
    | some (.ok ds μ2), h1 =>
      exact fun ι2 H2 vs k2 x2 r2 => h1 ι2 H2 (v :: vs) k2 x2 (.cons (Rep.aft k1 x2 r1) r2)
    | some (.ex y a μ2), h1 =>
      exact h1
    | none, h1 =>
      exact h1⟩⟩
/-- a display's tuple | list -/
def mTup (a : MA) : ME := fun ρ μ => bindA (a ρ μ) fun ds μ1 => if ds.length ≤ lineS then some (.ok (.tup ds) μ1) else none
def mLst (a : MA) : ME := fun ρ μ => bindA (a ρ μ) fun ds μ1 => if ds.length ≤ lineS then some (.ok (.lst ds) μ1) else none
/-- a display's list that will change -/
def mLstM (a : MA) : ME := fun ρ μ => bindA (a ρ μ) fun ds μ1 => if ds.length ≤ lineS then some (.ok (.ob μ1.length) (μ1 ++ [some (.lst ds)])) else none
theorem RetA.mono {c : Cz} {s : SS} {o : Option OutA} {Q Q' : List V → Hp → Prop} {E : XK} (h : RetA c s o Q E) (hq : ∀ v H, Q v H → Q' v H) : RetA c s o Q' E := by
  match o, h with
  | some (.ok d μ), h => exact fun ι H v a b r => hq _ _ (h ι H v a b r)
  | some (.ex x a μ), h => exact h
theorem em_tup {es : List Expr} {m : MA} {j : Nat} {pos : Pos} (h : AM T X W es m) : EM T X W (.Tuple es j pos) (mTup m) :=
  PE.mono (pe_tup h) fun σ H Q ⟨pv, ι, μ, ρ, k, rr, h⟩ => ⟨pv, ι, μ, ρ, k, rr, (Ret.bindA h).mono fun vs H1 ⟨ι1, μ1, ds, k1, x1, r1, h1⟩ => by
    by_cases hl : ds.length ≤ lineS
    · (try dsimp only at h1)
      rw [if_pos hl] at h1
      refine ⟨by rw [← r1.length, ← lineS_ok]; exact hl, fun p hp => ?_⟩
      obtain ⟨k2, x2, _⟩ := new_obj (o := .tup vs) k1 hp
      exact h1 ι1 _ _ k2 x2 (.tup (SqT.of upd_same) (r1.aft k1 x2))
    · (try dsimp only at h1)
      rw [if_neg hl] at h1
      exact h1.elim⟩
theorem em_lst {es : List Expr} {m : MA} {pos : Pos} (h : AM T X W es m) : EM T X W (.List es pos) (mLst m) :=
  PE.mono (pe_lst h) fun σ H Q ⟨pv, ι, μ, ρ, k, rr, h⟩ => ⟨pv, ι, μ, ρ, k, rr, (Ret.bindA h).mono fun vs H1 ⟨ι1, μ1, ds, k1, x1, r1, h1⟩ => by
    by_cases hl : ds.length ≤ lineS
    · (try dsimp only at h1)
      rw [if_pos hl] at h1
      refine ⟨by rw [← r1.length, ← lineS_ok]; exact hl, fun p hp => ?_⟩
      obtain ⟨k2, x2, nl⟩ := new_obj (o := .lst vs) k1 hp
      exact h1 ι1 _ _ k2 x2 (.lst upd_same nl (r1.aft k1 x2))
    · (try dsimp only at h1)
      rw [if_neg hl] at h1
      exact h1.elim⟩
theorem em_lstM {es : List Expr} {m : MA} {pos : Pos} (h : AM T X W es m) : EM T X W (.List es pos) (mLstM m) :=
  PE.mono (pe_lst h) fun σ H Q ⟨pv, ι, μ, ρ, k, rr, h⟩ => ⟨pv, ι, μ, ρ, k, rr, (Ret.bindA h).mono fun vs H1 ⟨ι1, μ1, ds, k1, x1, r1, h1⟩ => by
    by_cases hl : ds.length ≤ lineS
    · (try dsimp only at h1)
      rw [if_pos hl] at h1
      refine ⟨by rw [← r1.length, ← lineS_ok]; exact hl, fun p hp => ?_⟩
      obtain ⟨k2, x2, r2⟩ := new_mut k1 hp r1
      exact h1 _ _ _ k2 x2 r2
    · (try dsimp only at h1)
      rw [if_neg hl] at h1
      exact h1.elim⟩
end
end MV

set_option Elab.async false
set_option linter.all false
set_option maxRecDepth 100000
set_option maxHeartbeats 4000000
/-! MV3: the operations on data -/
namespace MV
open PySem L2
variable {T : List (Addr × Str)}

/-- the items of a list | of a list or a tuple that may be read -/
def asL (d : D) (μ : Mu) : Option (List D) := match d with
  | .lst ds => some ds
  | .ob n => match μ[n]? with
    | some (some (.lst ds)) => some ds
    | _ => none
  | _ => none
def asQ (d : D) (μ : Mu) : Option (List D) := match d with
  | .ro ds => some ds
  | d => asL d μ
section
variable {c : Cz} {ι : List Addr} {μ : Mu} {H : Hp} {d : D} {v : V} {ds : List D}
theorem lst_at (k : Ok c ⟨ι, μ, H⟩) (r : Rep c ⟨ι, μ, H⟩ d v) (h : asL d μ = some ds) : ∃ a vs, v = .ref a ∧ H a = some (.lst vs) ∧ Reps c ⟨ι, μ, H⟩ ds vs := by
  cases r with
  | lst h1 nl r1 =>
    cases h
    exact ⟨_, _, rfl, h1, r1⟩
  | ob h1 =>
    unfold asL at h
    simp only at h
    split at h
    · rename_i es q
      cases h
      obtain ⟨a, e1, vs, e2, r2⟩ := k.obj _ _ q
      rw [h1] at e1
      cases e1
      exact ⟨_, _, rfl, e2, r2⟩
    · cases h
  | _ => cases h
theorem seq_at (k : Ok c ⟨ι, μ, H⟩) (r : Rep c ⟨ι, μ, H⟩ d v) (h : asQ d μ = some ds) : ∃ a vs, v = .ref a ∧ SqL c.K H a vs ∧ Reps c ⟨ι, μ, H⟩ ds vs := by
  cases r with
  | ro h1 r1 =>
    cases h
    refine ⟨_, _, rfl, ?_, r1⟩
    rcases h1 with ⟨o, h1⟩ | (h1 | h1)
    · exact .inl (.inr ⟨o, h1⟩)
    · rcases h1 with h1 | ⟨o, h1⟩ <;> cases h1
    · exact .inr h1
  | lst h1 nl r1 =>
    obtain ⟨a, vs, e, h, r⟩ := lst_at (d := .lst _) k (.lst h1 nl r1) h
    exact ⟨a, vs, e, SqL.of h, r⟩
  | ob h1 =>
    obtain ⟨a, vs, e, h, r⟩ := lst_at (d := .ob _) k (.ob h1) h
    exact ⟨a, vs, e, SqL.of h, r⟩
  | _ => cases h
theorem tup_at (r : Rep c ⟨ι, μ, H⟩ (.tup ds) v) : ∃ a vs, v = .ref a ∧ SqT c.K H a vs ∧ Reps c ⟨ι, μ, H⟩ ds vs := by
  cases r with
  | tup h r => exact ⟨_, _, rfl, h, r⟩
end

/-! ### numbers -/
def smallI (i : Int) : Bool := decide (-(2 ^ 64) < i) && decide (i < 2 ^ 64)
theorem smallI_ok {i : Int} (h : smallI i = true) : -(2 ^ 64) < i ∧ i < 2 ^ 64 := by
  unfold smallI at h
  rw [Bool.and_eq_true, decide_eq_true_eq, decide_eq_true_eq] at h
  exact h
def iSub (x y : D) (_ : Mu) : Option D := match x, y with
  | .int i, .int j => some (.int (i - j))
  | _, _ => none
def iMul (x y : D) (_ : Mu) : Option D := match x, y with
  | .int i, .int j => if smallI j = true then some (.int (i * j)) else if smallI i = true then some (.int (i * j)) else none
  | _, _ => none
def iMod (x y : D) (_ : Mu) : Option D := match x, y with
  | .int i, .int j => if 0 < j then some (.int (i % j)) else none
  | _, _ => none
/-- no divisor and no factor of more than a hundred figures -/
def bigI : Int := 10 ^ 100
def iDiv (x y : D) (_ : Mu) : Option D := match x, y with
  | .int i, .int j => if 0 < j ∧ j < bigI then some (.int (i / j)) else none
  | _, _ => none
def iPow (x y : D) (_ : Mu) : Option D := match x, y with
  | .int i, .int j => if 0 ≤ j ∧ j ≤ 1000000 ∧ i.natAbs < 2 ^ 64 then some (.int (i ^ j.toNat)) else none
  | _, _ => none
def iNeg (x : D) (_ : Mu) : Option D := match x with
  | .int i => some (.int (-i))
  | _ => none
def iCmp (p : Int → Int → Bool) (x y : D) (_ : Mu) : Option D := match x, y with
  | .int i, .int j => some (.bl (p i j))
  | _, _ => none
abbrev iLt := iCmp fun i j => decide (i < j)
abbrev iLe := iCmp fun i j => decide (i ≤ j)
abbrev iGt := iCmp fun i j => decide (j < i)
abbrev iGe := iCmp fun i j => decide (j ≤ i)
section
variable {c : Cz} {K : PySem.W.Frag} {mg : Str → Option Value}
theorem r_sub : R2M T K mg iSub (rI0 fun i j => .int (i - j)) := fun pv ι μ H x y d v w Q k rx ry e q => by
  cases rx <;> cases ry <;> (try cases e)
  exact ⟨_, _, rfl, rfl, q H _ k (Aft.refl _) (.int _)⟩
theorem r_cmp {p : Int → Int → Bool} : R2M T K mg (iCmp p) (rI0 fun i j => .bl (p i j)) := fun pv ι μ H x y d v w Q k rx ry e q => by
  cases rx <;> cases ry <;> (try cases e)
  exact ⟨_, _, rfl, rfl, q H _ k (Aft.refl _) (.bl _)⟩
theorem r_mul : R2M T K mg iMul (rI CMul fun i j => .int (i * j)) := fun pv ι μ H x y d v w Q k rx ry e q => by
  cases rx <;> cases ry <;> (try cases e)
  rename_i i j
  unfold iMul at e
  simp only at e
  split at e
  · rename_i h
    cases e
    exact ⟨_, _, rfl, rfl, .inr (smallI_ok h), q H _ k (Aft.refl _) (.int _)⟩
  · split at e
    · rename_i h
      cases e
      exact ⟨_, _, rfl, rfl, .inl (smallI_ok h), q H _ k (Aft.refl _) (.int _)⟩
    · cases e
theorem r_mod : R2M T K mg iMod (rI (fun _ j => 0 < j) fun i j => .int (i % j)) := fun pv ι μ H x y d v w Q k rx ry e q => by
  cases rx <;> cases ry <;> (try cases e)
  unfold iMod at e
  simp only at e
  split at e
  · rename_i h
    cases e
    exact ⟨_, _, rfl, rfl, h, q H _ k (Aft.refl _) (.int _)⟩
  · cases e
theorem bigI_log {j : Int} (h : 0 < j ∧ j < bigI) : 0 < j ∧ j.natAbs.log2 < 9000 := by
  refine ⟨h.1, ?_⟩
  have h2 : j.natAbs < 2 ^ 9000 := by
    have e : (bigI : Int) ≤ ((2 ^ 9000 : Nat) : Int) := by decide +kernel
    have := h.2
    have h3 := h.1
    omega
  exact (Nat.log2_lt (by have := h.1; omega)).mpr h2
theorem r_div : R2M T K mg iDiv (rI CDivW fun i j => .int (i / j)) := fun pv ι μ H x y d v w Q k rx ry e q => by
  cases rx <;> cases ry <;> (try cases e)
  unfold iDiv at e
  simp only at e
  split at e
  · rename_i h
    cases e
    exact ⟨_, _, rfl, rfl, bigI_log h, q H _ k (Aft.refl _) (.int _)⟩
  · cases e
theorem r_pow : R2M T K mg iPow (rI CPow fun i j => .int (i ^ j.toNat)) := fun pv ι μ H x y d v w Q k rx ry e q => by
  cases rx <;> cases ry <;> (try cases e)
  unfold iPow at e
  simp only at e
  split at e
  · rename_i h
    cases e
    exact ⟨_, _, rfl, rfl, h, q H _ k (Aft.refl _) (.int _)⟩
  · cases e
theorem r_neg : R1M T K mg iNeg (rU fun i => .int (-i)) := fun pv ι μ H x d v Q k rx e q => by
  cases rx <;> (try cases e)
  exact ⟨_, rfl, q H _ k (Aft.refl _) (.int _)⟩

/-! ### a + b -/
def dAdd (x y : D) (μ : Mu) : Option D := match x, y with
  | .int i, .int j => some (.int (i + j))
  | .str a, .str b => if a.length + b.length ≤ lineS then some (.str (a ++ b)) else none
  | .tup ds, .tup es => if ds.length + es.length ≤ lineS then some (.tup (ds ++ es)) else none
  | x, y => match asL x μ, asL y μ with
    | some ds, some es => if ds.length + es.length ≤ lineS then some (.lst (ds ++ es)) else none
    | _, _ => none
def rAddD (K : PySem.W.Frag) : R2 := fun x y H Q => rI0 (fun i j => .int (i + j)) x y H Q ∨ (fun x y H Q => ∃ i j, x = .str i ∧ y = .str j ∧ i.length + j.length ≤ sizeLine ∧ Q (.str (i ++ j)) H) x y H Q ∨ rCatA K x y H Q ∨ rCat x y H Q
theorem op_addD {X : Cx} : OpR X (binaryOp .Add) (rAddD X.K) := op_add.or (op_add_str.or (op_catA.or op_cat))
theorem cat_lists {ι : List Addr} {μ : Mu} {H : Hp} {x y : D} {v w : V} {Q : VK} {ds es : List D} (k : Ok c ⟨ι, μ, H⟩) (rx : Rep c ⟨ι, μ, H⟩ x v) (ry : Rep c ⟨ι, μ, H⟩ y w) (h1 : asL x μ = some ds) (h2 : asL y μ = some es) (hl : ds.length + es.length ≤ lineS)
    (q : ∀ p vs, H p = none → Reps c ⟨ι, μ, H⟩ (ds ++ es) vs → Q (.ref p) (upd H p (.lst vs))) : rCat v w H Q := by
  obtain ⟨a, vs, rfl, e1, r1⟩ := lst_at k rx h1
  obtain ⟨b, ws, rfl, e2, r2⟩ := lst_at k ry h2
  exact ⟨a, b, vs, ws, rfl, rfl, e1, e2, by rw [← r1.length, ← r2.length, ← lineS_ok]; exact hl, fun p hp => q p _ hp (r1.append r2)⟩
theorem r_add : R2M T K mg dAdd (rAddD K) := fun pv ι μ H x y d v w Q k rx ry e q => by
  have gen : (∃ ds es, asL x μ = some ds ∧ asL y μ = some es ∧ ds.length + es.length ≤ lineS ∧ d = .lst (ds ++ es)) → rAddD K v w H Q := fun ⟨ds, es, h1, h2, hl, e⟩ => by
    subst e
    refine .inr (.inr (.inr (cat_lists k rx ry h1 h2 hl fun p vs hp r => ?_)))
    obtain ⟨k2, x2, nl⟩ := new_obj (o := .lst vs) k hp
    exact q _ _ k2 x2 (.lst upd_same nl (r.aft k x2))
  have gen2 : (match asL x μ, asL y μ with
    | some ds, some es => if ds.length + es.length ≤ lineS then some (D.lst (ds ++ es)) else none
    | _, _ => none) = some d → rAddD K v w H Q := fun e => by
    split at e
    · rename_i ds es h1 h2
      split at e
      · rename_i hl
        cases e
        exact gen ⟨ds, es, h1, h2, hl, rfl⟩
      · cases e
    · cases e
  unfold dAdd at e
  split at e
  · cases rx
    cases ry
    cases e
    exact .inl ⟨_, _, rfl, rfl, q H _ k (Aft.refl _) (.int _)⟩
  · cases rx
    cases ry
    split at e
    · rename_i h
      cases e
      exact .inr (.inl ⟨_, _, rfl, rfl, by rw [← lineS_ok]; exact h, q H _ k (Aft.refl _) (.str _)⟩)
    · cases e
  · obtain ⟨a, vs, rfl, h1, r1⟩ := tup_at rx
    obtain ⟨b, ws, rfl, h2, r2⟩ := tup_at ry
    split at e
    · rename_i ds es h
      cases e
      refine .inr (.inr (.inl ⟨a, b, vs, ws, rfl, rfl, h1, h2, by rw [← r1.length, ← r2.length, ← lineS_ok]; exact h, fun z => ?_, fun z1 z2 => ?_, fun z1 z2 p hp => ?_⟩))
      · subst z
        cases r1
        exact q H _ k (Aft.refl _) (.tup h2 r2)
      · subst z2
        cases r2
        rw [List.append_nil] at q
        exact q H _ k (Aft.refl _) (.tup h1 r1)
      · obtain ⟨k2, x2, nl⟩ := new_obj (o := .tup (vs ++ ws)) k hp
        exact q _ _ k2 x2 (.tup (SqT.of upd_same) ((r1.append r2).aft k x2))
    · cases e
  · exact gen2 e

/-! ### a == b -/
mutual
def pyD : D → Option PyData
  | .non => some .none
  | .bl b => some (.bool b)
  | .int i => some (.int i)
  | .str x => some (.str x)
  | .tup ds => (pyDs ds).map .tuple
  | .lst ds => (pyDs ds).map .list
  | .ro _ => none
  | .ob _ => none
  | .fn _ => none
def pyDs : List D → Option (List PyData)
  | [] => some []
  | d :: ds => match pyD d, pyDs ds with
    | some p, some ps => some (p :: ps)
    | _, _ => none
end
def pyT (d : D) (μ : Mu) : Option PyData := match d with
  | .ob n => match μ[n]? with
    | some (some (.lst ds)) => (pyDs ds).map .list
    | _ => none
  | d => pyD d
mutual
theorem pyD_ok {s : SS} : ∀ (d : D) (v : V) (p : PyData), Rep c s d v → pyD d = some p → Dp c.K s.H v p
  | .non, _, _, r, h => by cases r; cases h; exact .non
  | .bl b, _, _, r, h => by cases r; cases h; exact .bl b
  | .int i, _, _, r, h => by cases r; cases h; exact .int i
  | .str x, _, _, r, h => by cases r; cases h; exact .str x
  | .tup ds, _, p, r, h => by
    cases r with
    | tup h1 r1 =>
      simp only [pyD] at h
      cases e : pyDs ds with
      | none => rw [e] at h; cases h
      | some ps =>
        rw [e] at h
        cases h
        exact .tup h1 (pyDs_ok ds _ ps r1 e)
  | .lst ds, _, p, r, h => by
    cases r with
    | lst h1 nl r1 =>
      simp only [pyD] at h
      cases e : pyDs ds with
      | none => rw [e] at h; cases h
      | some ps =>
        rw [e] at h
        cases h
        exact .lst (SqL.of h1) (pyDs_ok ds _ ps r1 e)
  | .ro _, _, _, r, h => by simp [pyD] at h
  | .ob _, _, _, r, h => by simp [pyD] at h
  | .fn _, _, _, r, h => by simp [pyD] at h
theorem pyDs_ok {s : SS} : ∀ (ds : List D) (vs : List V) (ps : List PyData), Reps c s ds vs → pyDs ds = some ps → DpAll c.K s.H vs ps
  | [], _, _, r, h => by cases r; cases h; exact .nil
  | d :: ds, _, ps, r, h => by
    cases r with
    | cons r1 r2 =>
      simp only [pyDs] at h
      cases e1 : pyD d with
      | none => rw [e1] at h; cases h
      | some p =>
        cases e2 : pyDs ds with
        | none => rw [e1, e2] at h; cases h
        | some ps2 =>
          rw [e1, e2] at h
          cases h
          exact .cons (pyD_ok d _ p r1 e1) (pyDs_ok ds _ ps2 r2 e2)
end
theorem pyT_ok {ι : List Addr} {μ : Mu} {H : Hp} {d : D} {v : V} {p : PyData} (k : Ok c ⟨ι, μ, H⟩) (r : Rep c ⟨ι, μ, H⟩ d v) (h : pyT d μ = some p) : Dp c.K H v p := by
  unfold pyT at h
  split at h
  · rename_i n
    split at h
    · rename_i ds q
      cases e : pyDs ds with
      | none => rw [e] at h; cases h
      | some ps =>
        rw [e] at h
        cases h
        obtain ⟨a, vs, rfl, e1, r1⟩ := lst_at (ds := ds) k r (by unfold asL; simp only; rw [q])
        exact .lst (SqL.of e1) (pyDs_ok (s := ⟨ι, μ, H⟩) ds vs ps r1 e)
    · cases h
  · exact pyD_ok _ _ _ r h
def eqM (x y : D) (μ : Mu) : Option Bool := match pyT x μ, pyT y μ with
  | some p, some q => if SeqAt.shaped p = true then if SeqAt.shaped q = true then some (PyData.eqv p q) else none else none
  | _, _ => none
def dEq (x y : D) (μ : Mu) : Option D := (eqM x y μ).map .bl
def dNe (x y : D) (μ : Mu) : Option D := (eqM x y μ).map fun b => .bl !b
theorem eqM_ok {ι : List Addr} {μ : Mu} {H : Hp} {x y : D} {v w : V} {b : Bool} (k : Ok c ⟨ι, μ, H⟩) (rx : Rep c ⟨ι, μ, H⟩ x v) (ry : Rep c ⟨ι, μ, H⟩ y w) (h : eqM x y μ = some b) :
    ∃ p q, Dp c.K H v p ∧ Dp c.K H w q ∧ SeqAt.shaped p = true ∧ SeqAt.shaped q = true ∧ PyData.eqv p q = b := by
  unfold eqM at h
  split at h
  · rename_i p q h1 h2
    split at h
    · split at h
      · cases h
        exact ⟨p, q, pyT_ok k rx h1, pyT_ok k ry h2, by assumption, by assumption, rfl⟩
      · cases h
    · cases h
  · cases h
theorem r_eq : R2M T K mg dEq (rEqD K) := fun pv ι μ H x y d v w Q k rx ry e q => by
  unfold dEq at e
  cases h : eqM x y μ with
  | none => rw [h] at e; cases e
  | some b =>
    rw [h] at e
    cases e
    obtain ⟨p1, p2, a1, a2, a3, a4, a5⟩ := eqM_ok k rx ry h
    subst a5
    exact ⟨p1, p2, a1, a2, a3, a4, q H _ k (Aft.refl _) (.bl _)⟩
theorem r_ne : R2M T K mg dNe (rNeD K) := fun pv ι μ H x y d v w Q k rx ry e q => by
  unfold dNe at e
  cases h : eqM x y μ with
  | none => rw [h] at e; cases e
  | some b =>
    rw [h] at e
    cases e
    obtain ⟨p1, p2, a1, a2, a3, a4, a5⟩ := eqM_ok k rx ry h
    subst a5
    exact ⟨p1, p2, a1, a2, a3, a4, q H _ k (Aft.refl _) (.bl _)⟩

/-! ### is -/
def dIsN (x y : D) (_ : Mu) : Option D := match y with
  | .non => some (.bl (match x with | .non => true | _ => false))
  | _ => none
def dNotN (x y : D) (_ : Mu) : Option D := match y with
  | .non => some (.bl (match x with | .non => false | _ => true))
  | _ => none
theorem r_isN : R2M T K mg dIsN (fun x y H Q => y = .non ∧ Q (.bl (decide (x = .non))) H) := fun pv ι μ H x y d v w Q k rx ry e q => by
  cases ry <;> (try cases e)
  refine ⟨rfl, ?_⟩
  cases rx <;> exact q H _ k (Aft.refl _) (.bl _)
theorem r_notN : R2M T K mg dNotN (fun x y H Q => y = .non ∧ Q (.bl (!decide (x = .non))) H) := fun pv ι μ H x y d v w Q k rx ry e q => by
  cases ry <;> (try cases e)
  refine ⟨rfl, ?_⟩
  cases rx <;> exact q H _ k (Aft.refl _) (.bl _)

/-! ### x in xs -/
def flatD : D → Bool
  | .non => true
  | .bl _ => true
  | .int _ => true
  | .str _ => true
  | _ => false
def eqF : D → D → Bool
  | .non, .non => true
  | .bl a, .bl b => a == b
  | .bl a, .int b => (if a then 1 else 0) == b
  | .int a, .bl b => a == (if b then 1 else 0)
  | .int a, .int b => a == b
  | .str a, .str b => a == b
  | _, _ => false
def inF (x : D) (ds : List D) : Bool := ds.any fun y => eqF y x
theorem flat_ok {s : SS} {d : D} {v : V} (r : Rep c s d v) (h : flatD d = true) : flatV v = true := by
  cases r <;> first | rfl | cases h
theorem flats_ok {s : SS} : ∀ {ds : List D} {vs : List V}, Reps c s ds vs → ds.all flatD = true → vs.all flatV = true
  | _, _, .nil, _ => rfl
  | _, _, .cons r t, h => by
    rw [List.all_cons, Bool.and_eq_true] at h ⊢
    exact ⟨flat_ok r h.1, flats_ok t h.2⟩
theorem eqF_ok {s : SS} {d e : D} {v w : V} (r : Rep c s d v) (r' : Rep c s e w) (h : flatD d = true) (h' : flatD e = true) : eqV v w = eqF d e := by
  cases r <;> cases r' <;> first | rfl | (cases h; done) | (cases h'; done)
theorem inF_ok {s : SS} {x : D} {v : V} (r : Rep c s x v) (hx : flatD x = true) : ∀ {ds : List D} {vs : List V}, Reps c s ds vs → ds.all flatD = true → inV v vs = inF x ds
  | _, _, .nil, _ => rfl
  | _, _, .cons r1 t, h => by
    rw [List.all_cons, Bool.and_eq_true] at h
    have ih := inF_ok r hx t h.2
    unfold inV inF at ih ⊢
    rw [List.any_cons, List.any_cons, ih, eqF_ok r1 r h.1 hx]
def sign1 (x : Str) : Option Nat := match x.cps.toList with
  | [c] => some c
  | _ => none
theorem sign1_ok {x : Str} {n : Nat} (h : sign1 x = some n) : x = ⟨#[n]⟩ := by
  unfold sign1 at h
  split at h
  · rename_i m e
    cases h
    obtain ⟨a⟩ := x
    have e' : a = #[n] := by
      have := congrArg List.toArray e
      simpa using this
    rw [e']
  · cases h
def inM (x y : D) (μ : Mu) : Option Bool := match x, y with
  | .str a, .str b => match sign1 a with
    | some n => some (decide (n ∈ b.cps.toList))
    | none => some (!(Builtin.Str.occurrences b a 0 b.length 1).isEmpty)
  | x, .tup ds => if flatD x = true then if ds.all flatD = true then some (inF x ds) else none else none
  | x, y => match asQ y μ with
    | some ds => if flatD x = true then if ds.all flatD = true then some (inF x ds) else none else none
    | none => none
def dIn (x y : D) (μ : Mu) : Option D := (inM x y μ).map .bl
def dNotIn (x y : D) (μ : Mu) : Option D := (inM x y μ).map fun b => .bl !b
def rInD (K : PySem.W.Frag) : R2 := fun x y H Q => rIn K false x y H Q ∨ (fun x y H Q => ∃ (c : Nat) (z : Str), x = .str ⟨#[c]⟩ ∧ y = .str z ∧ Q (.bl (decide (c ∈ z.cps.toList))) H) x y H Q ∨
  (fun x y H Q => ∃ i j, x = .str i ∧ y = .str j ∧ Q (.bl (!(Builtin.Str.occurrences j i 0 j.length 1).isEmpty)) H) x y H Q
def rNotInD (K : PySem.W.Frag) : R2 := fun x y H Q => rIn K true x y H Q ∨ (fun x y H Q => ∃ (c : Nat) (z : Str), x = .str ⟨#[c]⟩ ∧ y = .str z ∧ Q (.bl (!decide (c ∈ z.cps.toList))) H) x y H Q ∨
  (fun x y H Q => ∃ i j, x = .str i ∧ y = .str j ∧ Q (.bl (!(!(Builtin.Str.occurrences j i 0 j.length 1).isEmpty))) H) x y H Q
theorem op_inD {X : Cx} : OpR X (compareOp .In) (rInD X.K) := op_in_seq.or (op_in_sign.or op_in_str)
theorem op_notInD {X : Cx} : OpR X (compareOp .NotIn) (rNotInD X.K) := op_notIn_seq.or (op_notIn_sign.or op_notin_str)
theorem in_cases {ι : List Addr} {μ : Mu} {H : Hp} {x y : D} {v w : V} {b : Bool} (k : Ok c ⟨ι, μ, H⟩) (rx : Rep c ⟨ι, μ, H⟩ x v) (ry : Rep c ⟨ι, μ, H⟩ y w) (e : inM x y μ = some b) :
    (∃ p vs, w = .ref p ∧ (SqL c.K H p vs ∨ SqT c.K H p vs) ∧ flatV v = true ∧ vs.all flatV = true ∧ inV v vs = b) ∨ (∃ (n : Nat) (z : Str), v = .str ⟨#[n]⟩ ∧ w = .str z ∧ decide (n ∈ z.cps.toList) = b) ∨
      (∃ i j, v = .str i ∧ w = .str j ∧ (!(Builtin.Str.occurrences j i 0 j.length 1).isEmpty) = b) := by
  unfold inM at e
  split at e
  · cases rx
    cases ry
    split at e
    · rename_i n h
      have := sign1_ok h
      subst this
      cases e
      exact .inr (.inl ⟨n, _, rfl, rfl, rfl⟩)
    · cases e
      exact .inr (.inr ⟨_, _, rfl, rfl, rfl⟩)
  · obtain ⟨a, vs, rfl, h1, r1⟩ := tup_at ry
    split at e
    · split at e
      · rename_i hf ha
        cases e
        exact .inl ⟨a, vs, rfl, .inr h1, flat_ok rx hf, flats_ok r1 ha, inF_ok rx hf r1 ha⟩
      · cases e
    · cases e
  · split at e
    · rename_i ds h
      obtain ⟨a, vs, rfl, h1, r1⟩ := seq_at k ry h
      split at e
      · split at e
        · rename_i hf ha
          cases e
          exact .inl ⟨a, vs, rfl, .inl h1, flat_ok rx hf, flats_ok r1 ha, inF_ok rx hf r1 ha⟩
        · cases e
      · cases e
    · cases e
theorem r_in : R2M T K mg dIn (rInD K) := fun pv ι μ H x y d v w Q k rx ry e q => by
  unfold dIn at e
  cases h : inM x y μ with
  | none => rw [h] at e; cases e
  | some b =>
    rw [h] at e
    cases e
    have q' := q H _ k (Aft.refl _) (.bl b)
    rcases in_cases k rx ry h with ⟨p, vs, rfl, h1, h2, h3, rfl⟩ | ⟨n, z, rfl, rfl, rfl⟩ | ⟨i, j, rfl, rfl, rfl⟩
    · exact .inl ⟨p, vs, rfl, h1, h2, h3, q'⟩
    · exact .inr (.inl ⟨n, z, rfl, rfl, q'⟩)
    · exact .inr (.inr ⟨i, j, rfl, rfl, q'⟩)
theorem r_notIn : R2M T K mg dNotIn (rNotInD K) := fun pv ι μ H x y d v w Q k rx ry e q => by
  unfold dNotIn at e
  cases h : inM x y μ with
  | none => rw [h] at e; cases e
  | some b =>
    rw [h] at e
    cases e
    have q' := q H _ k (Aft.refl _) (.bl !b)
    rcases in_cases k rx ry h with ⟨p, vs, rfl, h1, h2, h3, rfl⟩ | ⟨n, z, rfl, rfl, rfl⟩ | ⟨i, j, rfl, rfl, rfl⟩
    · exact .inl ⟨p, vs, rfl, h1, h2, h3, q'⟩
    · exact .inr (.inl ⟨n, z, rfl, rfl, q'⟩)
    · exact .inr (.inr ⟨i, j, rfl, rfl, q'⟩)

/-! ### xs[i] -/
theorem atI_reps {s : SS} {ds : List D} {vs : List V} {i : Int} {d : D} (r : Reps c s ds vs) (h : atI ds i = some d) : ∃ v, atI vs i = some v ∧ Rep c s d v := by
  unfold atI at h ⊢
  rw [← r.length]
  cases e : ixN ds.length i with
  | none => rw [e] at h; cases h
  | some j =>
    rw [e] at h
    exact r.get h
def dIx (x y : D) (μ : Mu) : Option D := match x, y with
  | .tup ds, .int i => atI ds i
  | .str z, .int i => if z.length ≤ lineS then (atI z.cps.toList i).map fun n => .str ⟨#[n]⟩ else none
  | x, .int i => match asQ x μ with
    | some ds => atI ds i
    | none => none
  | _, _ => none
theorem r_ix : R2M T K mg dIx (rIx K) := fun pv ι μ H x y d v w Q k rx ry e q => by
  unfold dIx at e
  split at e
  · obtain ⟨a, vs, rfl, h1, r1⟩ := tup_at rx
    cases ry
    obtain ⟨z, e1, r2⟩ := atI_reps r1 e
    exact .inr (.inl ⟨a, vs, _, z, rfl, rfl, h1, e1, q H _ k (Aft.refl _) r2⟩)
  · rename_i zz ii
    cases rx
    cases ry
    split at e
    · rename_i hz
      cases e1 : atI zz.cps.toList ii with
      | none => rw [e1] at e; cases e
      | some n =>
        rw [e1] at e
        cases e
        exact .inr (.inr ⟨_, _, n, rfl, rfl, by rw [← lineS_ok]; exact hz, e1, q H _ k (Aft.refl _) (.str _)⟩)
    · cases e
  · cases ry
    split at e
    · rename_i ds h
      obtain ⟨a, vs, rfl, h1, r1⟩ := seq_at k rx h
      obtain ⟨z, e1, r2⟩ := atI_reps r1 e
      exact .inl ⟨a, vs, _, z, rfl, rfl, h1, e1, q H _ k (Aft.refl _) r2⟩
    · cases e
  · cases e
end
end MV

set_option Elab.async false
set_option linter.all false
set_option maxRecDepth 100000
set_option maxHeartbeats 4000000
/-! MV4: built-ins called, methods, slices; what is walked; comprehensions -/
namespace MV
open PySem L2
variable {T : List (Addr × Str)}

/-! ### built-ins by name -/
def mCall (f : List D → Mu → Option D) (a : MA) : ME := fun ρ μ => bindA (a ρ μ) fun ds μ1 => retV (f ds μ1) μ1
def RCM (T : List (Addr × Str)) (K : PySem.W.Frag) (mg : Str → Option Value) (f : List D → Mu → Option D) (r : List V → Hp → VK → Prop) : Prop :=
  ∀ (pv ι : List Addr) (μ : Mu) (H : Hp) (ds : List D) (d : D) (vs : List V) (Q : VK), Ok ⟨K, mg, pv, T⟩ ⟨ι, μ, H⟩ → Reps ⟨K, mg, pv, T⟩ ⟨ι, μ, H⟩ ds vs → f ds μ = some d →
    (∀ H' z, Ok ⟨K, mg, pv, T⟩ ⟨ι, μ, H'⟩ → Aft ⟨ι, μ, H⟩ ⟨ι, μ, H'⟩ → Rep ⟨K, mg, pv, T⟩ ⟨ι, μ, H'⟩ d z → Q z H') → r vs H Q
section
variable {X : Cx} {W : WX}
theorem calls {f : List D → Mu → Option D} {r : List V → Hp → VK → Prop} {a : MA} (hr : RCM T X.K X.mg f r) {σ : L2.St} {H : Hp} {Q : VK} (h : tE (cz T X) W (mCall f a) σ H Q) : tCB r (tAs (cz T X) W a) σ H Q := by
  obtain ⟨pv, ι, μ, ρ, k, rr, h⟩ := h
  refine ⟨pv, ι, μ, ρ, k, rr, (Ret.bindA h).mono fun vs H1 ⟨ι1, μ1, ds, k1, x1, r1, h1⟩ => ?_⟩
  match e : f ds μ1, h1 with
  | some d, h1 =>
    (try dsimp only at h1)
    rw [e] at h1
    exact hr pv ι1 μ1 H1 ds d vs Q k1 r1 e fun H' z k' x' r' => h1 ι1 H' z k' x' r'
  | none, h1 =>
    (try dsimp only at h1)
    rw [e] at h1
    exact h1.elim
theorem em_callB {id : String} {x : Str} {p pos : Pos} {e : Expr} {es : List Expr} {m : MA} {f : List D → Mu → Option D} {r : List V → Hp → VK → Prop} (hc : CallR X (.builtin id) r) (hr : RCM T X.K X.mg f r) (hg : Gl X x) (hm : X.mg x = none) (hv : bootBuiltins x = some (.builtin id))
    (ha : AM T X W (e :: es) m) (hn : x ≠ "__name__" := by decide) (hdb : (x == ("__debug__" : Str)) = false := by decide)
    (he : starEach (e :: es) X.env = (false, eval e X.env) :: starEach es X.env := by rfl) (hpl : (backTo pos (starEach es X.env)).any (·.1) = false := by rfl) : EM T X W (.Call (.Name x p) (e :: es) [] pos) (mCall f m) :=
  PE.mono (pe_callB hc hg hm hv ha hn hdb he hpl) fun _ _ _ h => calls hr h
theorem em_callTy {TT : String} {x : Str} {p pos : Pos} {e : Expr} {es : List Expr} {m : MA} {f : List D → Mu → Option D} {r : List V → Hp → VK → Prop} (hc : CallR X (.type TT) r) (hr : RCM T X.K X.mg f r) (hg : Gl X x) (hm : X.mg x = none) (hv : bootBuiltins x = some (.type TT))
    (ha : AM T X W (e :: es) m) (hn : x ≠ "__name__" := by decide) (hdb : (x == ("__debug__" : Str)) = false := by decide)
    (he : starEach (e :: es) X.env = (false, eval e X.env) :: starEach es X.env := by rfl) (hpl : (backTo pos (starEach es X.env)).any (·.1) = false := by rfl) : EM T X W (.Call (.Name x p) (e :: es) [] pos) (mCall f m) :=
  PE.mono (pe_callTy hc hg hm hv ha hn hdb he hpl) fun _ _ _ h => calls hr h
end

def fLen (ds : List D) (μ : Mu) : Option D := match ds with
  | [.str z] => if z.length ≤ lineS then some (.int z.length) else none
  | [.tup xs] => some (.int xs.length)
  | [d] => match asQ d μ with
    | some xs => some (.int xs.length)
    | none => none
  | _ => none
def fInt (ds : List D) (_ : Mu) : Option D := match ds with
  | [.int i] => some (.int i)
  | [.bl b] => some (.int (if b then 1 else 0))
  | [.str a] => if a.length ≤ 640 then (PySem.intText? a).map .int else none
  | _ => none
def fAbs (ds : List D) (_ : Mu) : Option D := match ds with
  | [.int i] => some (.int (if i < 0 then -i else i))
  | _ => none
def fStr (ds : List D) (_ : Mu) : Option D := match ds with
  | [.int i] => if i.natAbs.log2 < 1920 then some (.str (toString i)) else none
  | _ => none
def fOrd (ds : List D) (_ : Mu) : Option D := match ds with
  | [.str x] => if x.length = 1 then some (.int (x.cps.getD 0 0 : Nat)) else none
  | _ => none
def fMax2 (ds : List D) (_ : Mu) : Option D := match ds with
  | [.int i, .int j] => some (.int (if j > i then j else i))
  | _ => none
def fMin2 (ds : List D) (_ : Mu) : Option D := match ds with
  | [.int i, .int j] => some (.int (if j < i then j else i))
  | _ => none
/-- a list's items as a new tuple; a tuple is itself -/
def fTuple (ds : List D) (μ : Mu) : Option D := match ds with
  | [.tup xs] => some (.tup xs)
  | [d] => match asQ d μ with
    | some xs => some (.tup xs)
    | none => none
  | _ => none
def fList (ds : List D) (μ : Mu) : Option D := match ds with
  | [.tup xs] => some (.lst xs)
  | [d] => match asQ d μ with
    | some xs => some (.lst xs)
    | none => none
  | _ => none
def blsD : List D → Option (List Bool)
  | [] => some []
  | .bl b :: r => (blsD r).map (b :: ·)
  | _ => none
def intsD : List D → Option (List Int)
  | [] => some []
  | .int i :: r => (intsD r).map (i :: ·)
  | _ => none
def strsD : List D → Option (List Str)
  | [] => some []
  | .str i :: r => (strsD r).map (i :: ·)
  | _ => none
def overB (g : List Bool → D) (ds : List D) (μ : Mu) : Option D := match ds with
  | [d] => match asQ d μ with
    | some xs => match blsD xs with
      | some bs => some (g bs)
      | none => none
    | none => none
  | _ => none
def overI (g : List Int → Option D) (ds : List D) (μ : Mu) : Option D := match ds with
  | [d] => match asQ d μ with
    | some xs => match intsD xs with
      | some ns => g ns
      | none => none
    | none => none
  | _ => none
abbrev fAll := overB fun bs => .bl (bs.all id)
abbrev fAny := overB fun bs => .bl (bs.any id)
abbrev fSum := overI fun ns => some (.int ns.sum)
/-- the greatest, the least of some intsD -/
def greatest : List Int → Option Int
  | [] => none
  | n :: r => some (r.foldl (fun a b => if a < b then b else a) n)
def least : List Int → Option Int
  | [] => none
  | n :: r => some (r.foldl (fun a b => if b < a then b else a) n)
abbrev fMax := overI fun ns => (greatest ns).map .int
abbrev fMin := overI fun ns => (least ns).map .int
theorem greatest_foldl : ∀ (r : List Int) (n : Int), (r.foldl (fun a b => if a < b then b else a) n ∈ n :: r) ∧ ∀ y ∈ n :: r, y ≤ r.foldl (fun a b => if a < b then b else a) n
  | [], n => ⟨List.mem_cons_self .., fun y hy => by
    rw [List.mem_singleton] at hy
    exact Int.le_of_eq hy⟩
  | m :: r, n => by
    obtain ⟨h1, h2⟩ := greatest_foldl r (if n < m then m else n)
    refine ⟨?_, fun y hy => ?_⟩
    · rcases List.mem_cons.mp h1 with h | h
      · rw [List.foldl_cons, h]
        split
        · exact List.mem_cons_of_mem _ (List.mem_cons_self ..)
        · exact List.mem_cons_self ..
      · exact List.mem_cons_of_mem _ (List.mem_cons_of_mem _ h)
    · have h0 := h2 (if n < m then m else n) (List.mem_cons_self ..)
      rw [List.foldl_cons]
      rcases List.mem_cons.mp hy with h | h
      · subst h
        split at h0 <;> rename_i q
        · rw [if_pos q]; omega
        · rw [if_neg q]; omega
      · rcases List.mem_cons.mp h with h | h
        · subst h
          split at h0 <;> rename_i q
          · rw [if_pos q]; omega
          · rw [if_neg q]; omega
        · exact h2 y (List.mem_cons_of_mem _ h)
theorem least_foldl : ∀ (r : List Int) (n : Int), (r.foldl (fun a b => if b < a then b else a) n ∈ n :: r) ∧ ∀ y ∈ n :: r, r.foldl (fun a b => if b < a then b else a) n ≤ y
  | [], n => ⟨List.mem_cons_self .., fun y hy => by
    rw [List.mem_singleton] at hy
    exact Int.le_of_eq hy.symm⟩
  | m :: r, n => by
    obtain ⟨h1, h2⟩ := least_foldl r (if m < n then m else n)
    refine ⟨?_, fun y hy => ?_⟩
    · rcases List.mem_cons.mp h1 with h | h
      · rw [List.foldl_cons, h]
        split
        · exact List.mem_cons_of_mem _ (List.mem_cons_self ..)
        · exact List.mem_cons_self ..
      · exact List.mem_cons_of_mem _ (List.mem_cons_of_mem _ h)
    · have h0 := h2 (if m < n then m else n) (List.mem_cons_self ..)
      rw [List.foldl_cons]
      rcases List.mem_cons.mp hy with h | h
      · subst h
        split at h0 <;> rename_i q
        · rw [if_pos q]; omega
        · rw [if_neg q]; omega
      · rcases List.mem_cons.mp h with h | h
        · subst h
          split at h0 <;> rename_i q
          · rw [if_pos q]; omega
          · rw [if_neg q]; omega
        · exact h2 y (List.mem_cons_of_mem _ h)
section
variable {c : Cz} {K : PySem.W.Frag} {mg : Str → Option Value}
theorem bls_ok {s : SS} : ∀ {ds : List D} {vs : List V} {bs : List Bool}, Reps c s ds vs → blsD ds = some bs → vs = bs.map V.bl
  | _, _, _, .nil, h => by cases h; rfl
  | d :: ds, _, _, .cons r t, h => by
    cases r <;> try (cases h; done)
    simp only [blsD] at h
    cases e : blsD ds with
    | none => rw [e] at h; cases h
    | some bs =>
      rw [e] at h
      cases h
      rw [bls_ok t e]
      rfl
theorem ints_ok {s : SS} : ∀ {ds : List D} {vs : List V} {bs : List Int}, Reps c s ds vs → intsD ds = some bs → vs = bs.map V.int
  | _, _, _, .nil, h => by cases h; rfl
  | d :: ds, _, _, .cons r t, h => by
    cases r <;> try (cases h; done)
    simp only [intsD] at h
    cases e : intsD ds with
    | none => rw [e] at h; cases h
    | some bs =>
      rw [e] at h
      cases h
      rw [ints_ok t e]
      rfl
theorem strs_ok {s : SS} : ∀ {ds : List D} {vs : List V} {bs : List Str}, Reps c s ds vs → strsD ds = some bs → vs = bs.map V.str
  | _, _, _, .nil, h => by cases h; rfl
  | d :: ds, _, _, .cons r t, h => by
    cases r <;> try (cases h; done)
    simp only [strsD] at h
    cases e : strsD ds with
    | none => rw [e] at h; cases h
    | some bs =>
      rw [e] at h
      cases h
      rw [strs_ok t e]
      rfl
theorem reps1 {s : SS} {d : D} {vs : List V} (r : Reps c s [d] vs) : ∃ v, vs = [v] ∧ Rep c s d v := by
  cases r with
  | cons r t =>
    cases t
    exact ⟨_, rfl, r⟩
theorem reps2 {s : SS} {d e : D} {vs : List V} (r : Reps c s [d, e] vs) : ∃ v w, vs = [v, w] ∧ Rep c s d v ∧ Rep c s e w := by
  cases r with
  | cons r t =>
    obtain ⟨w, rfl, r2⟩ := reps1 t
    exact ⟨_, w, rfl, r, r2⟩
theorem r_len : RCM T K mg fLen (fun xs H Q => ∃ x n, xs = [x] ∧ LenV K x H n ∧ Q (.int n) H) := fun pv ι μ H ds d vs Q k r e q => by
  unfold fLen at e
  split at e
  · obtain ⟨v, rfl, r0⟩ := reps1 r
    cases r0
    split at e
    · rename_i h
      cases e
      exact ⟨_, _, rfl, ⟨by rw [← lineS_ok]; exact h, rfl⟩, q H _ k (Aft.refl _) (.int _)⟩
    · cases e
  · obtain ⟨v, rfl, r0⟩ := reps1 r
    obtain ⟨a, vs, rfl, h1, r1⟩ := tup_at r0
    cases e
    exact ⟨_, vs.length, rfl, .inr ⟨vs, h1, rfl⟩, q H _ k (Aft.refl _) (by rw [← r1.length]; exact .int _)⟩
  · obtain ⟨v, rfl, r0⟩ := reps1 r
    split at e
    · rename_i xs h
      obtain ⟨a, vs, rfl, h1, r1⟩ := seq_at k r0 h
      cases e
      exact ⟨_, vs.length, rfl, .inl ⟨vs, h1, rfl⟩, q H _ k (Aft.refl _) (by rw [← r1.length]; exact .int _)⟩
    · cases e
  · cases e
theorem r_int : RCM T K mg fInt (fun xs H Q => ((∃ i, xs = [.int i] ∧ Q (.int i) H) ∨ ∃ k, xs = [.bl k] ∧ Q (.int (if k then 1 else 0)) H) ∨ ∃ a n, xs = [.str a] ∧ PySem.intText? a = some n ∧ a.length ≤ 640 ∧ Q (.int n) H) := fun pv ι μ H ds d vs Q k r e q => by
  unfold fInt at e
  split at e
  · obtain ⟨v, rfl, r0⟩ := reps1 r
    cases r0
    cases e
    exact .inl (.inl ⟨_, rfl, q H _ k (Aft.refl _) (.int _)⟩)
  · obtain ⟨v, rfl, r0⟩ := reps1 r
    cases r0
    cases e
    exact .inl (.inr ⟨_, rfl, q H _ k (Aft.refl _) (.int _)⟩)
  · rename_i a
    obtain ⟨v, rfl, r0⟩ := reps1 r
    cases r0
    split at e
    · rename_i hl
      cases h : PySem.intText? a with
      | none => rw [h] at e; cases e
      | some n =>
        rw [h] at e
        cases e
        exact .inr ⟨a, n, rfl, h, hl, q H _ k (Aft.refl _) (.int _)⟩
    · cases e
  · cases e
theorem r_abs : RCM T K mg fAbs (fun xs H Q => ∃ i, xs = [.int i] ∧ Q (.int (if i < 0 then -i else i)) H) := fun pv ι μ H ds d vs Q k r e q => by
  unfold fAbs at e
  split at e
  · obtain ⟨v, rfl, r0⟩ := reps1 r
    cases r0
    cases e
    exact ⟨_, rfl, q H _ k (Aft.refl _) (.int _)⟩
  · cases e
theorem r_str : RCM T K mg fStr (fun xs H Q => ∃ i, xs = [.int i] ∧ i.natAbs.log2 < 1920 ∧ Q (.str (toString i)) H) := fun pv ι μ H ds d vs Q k r e q => by
  unfold fStr at e
  split at e
  · obtain ⟨v, rfl, r0⟩ := reps1 r
    cases r0
    split at e
    · rename_i h
      cases e
      exact ⟨_, rfl, h, q H _ k (Aft.refl _) (.str _)⟩
    · cases e
  · cases e
theorem r_ord : RCM T K mg fOrd (fun xs H Q => ∃ x, xs = [.str x] ∧ x.length = 1 ∧ Q (.int (x.cps.getD 0 0 : Nat)) H) := fun pv ι μ H ds d vs Q k r e q => by
  unfold fOrd at e
  split at e
  · obtain ⟨v, rfl, r0⟩ := reps1 r
    cases r0
    split at e
    · rename_i h
      cases e
      exact ⟨_, rfl, h, q H _ k (Aft.refl _) (.int _)⟩
    · cases e
  · cases e
theorem r_max2 : RCM T K mg fMax2 (fun xs H Q => ∃ i j, xs = [.int i, .int j] ∧ Q (.int (if j > i then j else i)) H) := fun pv ι μ H ds d vs Q k r e q => by
  unfold fMax2 at e
  split at e
  · obtain ⟨v, w, rfl, r0, r2⟩ := reps2 r
    cases r0
    cases r2
    cases e
    exact ⟨_, _, rfl, q H _ k (Aft.refl _) (.int _)⟩
  · cases e
theorem r_min2 : RCM T K mg fMin2 (fun xs H Q => ∃ i j, xs = [.int i, .int j] ∧ Q (.int (if j < i then j else i)) H) := fun pv ι μ H ds d vs Q k r e q => by
  unfold fMin2 at e
  split at e
  · obtain ⟨v, w, rfl, r0, r2⟩ := reps2 r
    cases r0
    cases r2
    cases e
    exact ⟨_, _, rfl, q H _ k (Aft.refl _) (.int _)⟩
  · cases e
theorem r_tuple : RCM T K mg fTuple (fun xs H Q => ∃ p ys, xs = [.ref p] ∧ ((SqL K H p ys ∧ ∀ l, H l = none → Q (.ref l) (upd H l (.tup ys))) ∨ (SqT K H p ys ∧ Q (.ref p) H))) := fun pv ι μ H ds d vs Q k r e q => by
  unfold fTuple at e
  split at e
  · obtain ⟨v, rfl, r0⟩ := reps1 r
    obtain ⟨a, vs, rfl, h1, r1⟩ := tup_at r0
    cases e
    exact ⟨a, vs, rfl, .inr ⟨h1, q H _ k (Aft.refl _) r0⟩⟩
  · obtain ⟨v, rfl, r0⟩ := reps1 r
    split at e
    · rename_i xs h
      obtain ⟨a, vs, rfl, h1, r1⟩ := seq_at k r0 h
      cases e
      refine ⟨a, vs, rfl, .inl ⟨h1, fun p hp => ?_⟩⟩
      obtain ⟨k2, x2, nl⟩ := new_obj (o := .tup vs) k hp
      exact q _ _ k2 x2 (.tup (SqT.of upd_same) (r1.aft k x2))
    · cases e
  · cases e
theorem fList_cases {pv ι : List Addr} {μ : Mu} {H : Hp} {ds : List D} {d : D} {vs : List V} (k : Ok ⟨K, mg, pv, T⟩ ⟨ι, μ, H⟩) (r : Reps ⟨K, mg, pv, T⟩ ⟨ι, μ, H⟩ ds vs) (e : fList ds μ = some d) :
    ∃ p ys xs, vs = [.ref p] ∧ (SqL K H p ys ∨ SqT K H p ys) ∧ d = .lst xs ∧ Reps ⟨K, mg, pv, T⟩ ⟨ι, μ, H⟩ xs ys := by
  unfold fList at e
  split at e
  · obtain ⟨v, rfl, r0⟩ := reps1 r
    obtain ⟨a, vs, rfl, h1, r1⟩ := tup_at r0
    cases e
    exact ⟨a, vs, _, rfl, .inr h1, rfl, r1⟩
  · obtain ⟨v, rfl, r0⟩ := reps1 r
    split at e
    · rename_i xs h
      obtain ⟨a, vs, rfl, h1, r1⟩ := seq_at k r0 h
      cases e
      exact ⟨a, vs, _, rfl, .inl h1, rfl, r1⟩
    · cases e
  · cases e
theorem r_list : RCM T K mg fList (fun xs H Q => ∃ p ys, xs = [.ref p] ∧ (SqL K H p ys ∨ SqT K H p ys) ∧ ∀ l, H l = none → Q (.ref l) (upd H l (.lst ys))) := fun pv ι μ H ds d vs Q k r e q => by
  obtain ⟨p, ys, xs, rfl, h1, rfl, r1⟩ := fList_cases k r e
  refine ⟨p, ys, rfl, h1, fun p hp => ?_⟩
  obtain ⟨k2, x2, nl⟩ := new_obj (o := .lst ys) k hp
  exact q _ _ k2 x2 (.lst upd_same nl (r1.aft k x2))
theorem overB_cases {pv ι : List Addr} {μ : Mu} {H : Hp} {ds : List D} {d : D} {vs : List V} {g : List Bool → D} (k : Ok ⟨K, mg, pv, T⟩ ⟨ι, μ, H⟩) (r : Reps ⟨K, mg, pv, T⟩ ⟨ι, μ, H⟩ ds vs) (e : overB g ds μ = some d) :
    ∃ a bs, vs = [.ref a] ∧ SqL K H a (bs.map V.bl) ∧ d = g bs := by
  unfold overB at e
  split at e
  · obtain ⟨v, rfl, r0⟩ := reps1 r
    split at e
    · rename_i xs h
      obtain ⟨a, vs, rfl, h1, r1⟩ := seq_at k r0 h
      split at e
      · rename_i bs hb
        cases e
        have e2 := bls_ok r1 hb
        subst e2
        exact ⟨a, bs, rfl, h1, rfl⟩
      · cases e
    · cases e
  · cases e
theorem overI_cases {pv ι : List Addr} {μ : Mu} {H : Hp} {ds : List D} {d : D} {vs : List V} {g : List Int → Option D} (k : Ok ⟨K, mg, pv, T⟩ ⟨ι, μ, H⟩) (r : Reps ⟨K, mg, pv, T⟩ ⟨ι, μ, H⟩ ds vs) (e : overI g ds μ = some d) :
    ∃ a bs, vs = [.ref a] ∧ SqL K H a (bs.map V.int) ∧ g bs = some d := by
  unfold overI at e
  split at e
  · obtain ⟨v, rfl, r0⟩ := reps1 r
    split at e
    · rename_i xs h
      obtain ⟨a, vs, rfl, h1, r1⟩ := seq_at k r0 h
      split at e
      · rename_i bs hb
        have e2 := ints_ok r1 hb
        subst e2
        exact ⟨a, bs, rfl, h1, e⟩
      · cases e
    · cases e
  · cases e
theorem r_all : RCM T K mg fAll (rAll K) := fun pv ι μ H ds d vs Q k r e q => by
  obtain ⟨a, bs, rfl, h1, rfl⟩ := overB_cases k r e
  exact ⟨a, bs, rfl, h1, q H _ k (Aft.refl _) (.bl _)⟩
theorem r_any : RCM T K mg fAny (rAny K) := fun pv ι μ H ds d vs Q k r e q => by
  obtain ⟨a, bs, rfl, h1, rfl⟩ := overB_cases k r e
  exact ⟨a, bs, rfl, h1, q H _ k (Aft.refl _) (.bl _)⟩
theorem r_sum : RCM T K mg fSum (rSum K) := fun pv ι μ H ds d vs Q k r e q => by
  obtain ⟨a, bs, rfl, h1, e⟩ := overI_cases k r e
  cases e
  exact ⟨a, bs, rfl, h1, q H _ k (Aft.refl _) (.int _)⟩
theorem r_max : RCM T K mg fMax (rMax K) := fun pv ι μ H ds d vs Q k r e q => by
  obtain ⟨a, bs, rfl, h1, e⟩ := overI_cases k r e
  cases bs with
  | nil => cases e
  | cons n r =>
    cases e
    obtain ⟨g1, g2⟩ := greatest_foldl r n
    refine ⟨a, n :: r, rfl, h1, by rw [List.length_cons]; omega, fun m hm hy => ?_⟩
    have : m = r.foldl (fun a b => if a < b then b else a) n := Int.le_antisymm (g2 m hm) (hy _ g1)
    rw [this]
    exact q H _ k (Aft.refl _) (.int _)
theorem r_min : RCM T K mg fMin (rMin K) := fun pv ι μ H ds d vs Q k r e q => by
  obtain ⟨a, bs, rfl, h1, e⟩ := overI_cases k r e
  cases bs with
  | nil => cases e
  | cons n r =>
    cases e
    obtain ⟨g1, g2⟩ := least_foldl r n
    refine ⟨a, n :: r, rfl, h1, by rw [List.length_cons]; omega, fun m hm hy => ?_⟩
    have : m = r.foldl (fun a b => if b < a then b else a) n := Int.le_antisymm (hy _ g1) (g2 m hm)
    rw [this]
    exact q H _ k (Aft.refl _) (.int _)
end
end MV

set_option Elab.async false
set_option linter.all false
set_option maxRecDepth 100000
set_option maxHeartbeats 4000000
/-! MV5: targets, what is walked, comprehensions -/
namespace MV
open PySem L2
variable {T : List (Addr × Str)}

/-! ### targets -/
structure MG where
  slots : List Nat
  put : D → Rho → Option Rho
structure MGs where
  slots : List Nat
  put : List D → Rho → Option Rho
def Off (sl : List Nat) (σ σ' : L2.St) : Prop := σ'.length = σ.length ∧ ∀ i, i ∉ sl → σ'[i]? = σ[i]?
theorem Off.refl (sl : List Nat) (σ : L2.St) : Off sl σ σ := ⟨rfl, fun _ _ => rfl⟩
theorem Off.trans {s1 s2 : List Nat} {a b c : L2.St} (x : Off s1 a b) (y : Off s2 b c) : Off (s1 ++ s2) a c := ⟨y.1.trans x.1, fun i h => by
  rw [List.mem_append, not_or] at h
  exact (y.2 i h.2).trans (x.2 i h.1)⟩
def tG (c : List Addr → Cz) (g : MG) : TG := fun v σ H Q => ∃ (pv ι : List Addr) (μ : Mu) (ρ ρ' : Rho) (d : D), Ok (c pv) ⟨ι, μ, H⟩ ∧ RR (c pv) ⟨ι, μ, H⟩ ρ σ ∧ Rep (c pv) ⟨ι, μ, H⟩ d v ∧ g.put d ρ = some ρ' ∧
  ∀ σ', RR (c pv) ⟨ι, μ, H⟩ ρ' σ' → Off g.slots σ σ' → Q σ' H
def tGs (c : List Addr → Cz) (g : MGs) : TGs := fun vs σ H Q => ∃ (pv ι : List Addr) (μ : Mu) (ρ ρ' : Rho) (ds : List D), Ok (c pv) ⟨ι, μ, H⟩ ∧ RR (c pv) ⟨ι, μ, H⟩ ρ σ ∧ Reps (c pv) ⟨ι, μ, H⟩ ds vs ∧ g.put ds ρ = some ρ' ∧
  ∀ σ', RR (c pv) ⟨ι, μ, H⟩ ρ' σ' → Off g.slots σ σ' → Q σ' H
abbrev GM (T : List (Addr × Str)) (X : Cx) (e : Expr) (g : MG) : Prop := PG X e (tG (cz T X) g)
abbrev GsM (T : List (Addr × Str)) (X : Cx) (es : List Expr) (g : MGs) : Prop := PGs X es (tGs (cz T X) g)
theorem PG.mono {X : Cx} {e : Expr} {t t' : TG} (h : PG X e t) (i : ∀ v σ H Q, t' v σ H Q → t v σ H Q) : PG X e t' := ⟨fun pins s σ H v u Q I r q => h.run pins s σ H v u Q I r (i v σ H Q q)⟩
theorem PGs.mono {X : Cx} {e : List Expr} {t t' : TGs} (h : PGs X e t) (i : ∀ v σ H Q, t' v σ H Q → t v σ H Q) : PGs X e t' := ⟨fun pins s σ H v u Q I r q => h.run pins s σ H v u Q I r (i v σ H Q q)⟩
theorem PG.or {X : Cx} {e : Expr} {t t' : TG} (h : PG X e t) (h' : PG X e t') : PG X e (fun v σ H Q => t v σ H Q ∨ t' v σ H Q) := ⟨fun pins s σ H v u Q I r q => q.elim (h.run pins s σ H v u Q I r) (h'.run pins s σ H v u Q I r)⟩
theorem RR.set {c : Cz} {s : SS} {ρ : Rho} {σ : L2.St} {i : Nat} {d : D} {v : V} (r : RR c s ρ σ) (q : Rep c s d v) : RR c s (ρ.set i (some d)) (σ.set i (some v)) := by
  refine ⟨by rw [List.length_set, List.length_set]; exact r.1, fun j e h => ?_⟩
  by_cases hj : i = j
  · subst hj
    have hl : i < ρ.length := by
      have := (List.getElem?_eq_some_iff.mp h).1
      rwa [List.length_set] at this
    rw [List.getElem?_set_self hl] at h
    cases h
    exact ⟨v, by rw [List.getElem?_set_self (by rw [← r.1]; exact hl)], q⟩
  · rw [List.getElem?_set_ne hj] at h ⊢
    exact r.2 j e h
def gN (i : Nat) : MG := ⟨[i], fun d ρ => some (ρ.set i (some d))⟩
def gsNil : MGs := ⟨[], fun ds ρ => match ds with | [] => some ρ | _ => none⟩
def gsCons (g : MG) (r : MGs) : MGs := ⟨g.slots ++ r.slots, fun ds ρ => match ds with
  | d :: ds => match g.put d ρ with
    | some ρ1 => r.put ds ρ1
    | none => none
  | [] => none⟩
/-- the items of a tuple, or of a list, one by one -/
def gT (n : Nat) (g : MGs) : MG := ⟨g.slots, fun d ρ => match d with
  | .tup ds => if ds.length = n then g.put ds ρ else none
  | _ => none⟩
section
variable {X : Cx}
theorem gm_name {i : Nat} {x : Str} {pos : Pos} (hN : X.N.Nodup) (hi : X.N[i]? = some x) (hx : Loc X.env.scope x) (hf : X.fn x = true ∨ X.env.scope.names.lookup x = some .local := by first | exact .inl rfl | exact .inr rfl | assumption) : GM T X (.Name x pos) (gN i) :=
  PG.mono (pg_name hN hi hx hf) fun v σ H Q ⟨pv, ι, μ, ρ, ρ', d, k, rr, r, e, q⟩ => by
    cases e
    exact q _ (rr.set r) ⟨by rw [List.length_set], fun j hj => by
      rw [List.getElem?_set_ne]
      intro z
      exact hj (by rw [z]; exact List.mem_cons_self ..)⟩
theorem gsm_nil : GsM T X [] gsNil := PGs.mono pgs_nil fun vs σ H Q ⟨pv, ι, μ, ρ, ρ', ds, k, rr, r, e, q⟩ => by
  cases r with
  | nil =>
    cases e
    exact ⟨rfl, q σ rr (Off.refl _ _)⟩
  | cons r t => cases e
theorem gsm_cons {e : Expr} {es : List Expr} {g : MG} {r : MGs} (h1 : GM T X e g) (h2 : GsM T X es r) (hs : (assignEach (e :: es) X.env).map (·.2) = assign e X.env :: (assignEach es X.env).map (·.2) := by rfl) : GsM T X (e :: es) (gsCons g r) :=
  PGs.mono (pgs_cons h1 h2 hs) fun vs σ H Q ⟨pv, ι, μ, ρ, ρ', ds, k, rr, rs, e, q⟩ => by
    cases rs with
    | nil => cases e
    | @cons d ds v vs r1 t =>
      simp only [gsCons] at e
      cases e1 : g.put d ρ with
      | none => rw [e1] at e; cases e
      | some ρ1 =>
        rw [e1] at e
        exact ⟨v, vs, rfl, pv, ι, μ, ρ, ρ1, d, k, rr, r1, e1, fun σ1 rr1 o1 => ⟨pv, ι, μ, ρ1, ρ', ds, k, rr1, t, e, fun σ2 rr2 o2 => q σ2 rr2 (o1.trans o2)⟩⟩
theorem gm_tup {es : List Expr} {j : Nat} {pos : Pos} {g : MGs} {n : Nat} (hc : X.calm = true) (h : GsM T X es g) (hn : (assignEach es X.env).length = n := by rfl) (hst : (assignEach es X.env).findIdx? (·.1) = none := by rfl) : GM T X (.Tuple es j pos) (gT n g) :=
  PG.mono (pg_tup hc h hn hst) fun v σ H Q ⟨pv, ι, μ, ρ, ρ', d, k, rr, r, e, q⟩ => by
    simp only [gT] at e
    split at e
    · obtain ⟨a, vs, rfl, h1, r1⟩ := tup_at r
      split at e
      · rename_i hl
        exact ⟨a, vs, rfl, h1, by rw [← r1.length]; exact hl, pv, ι, μ, ρ, ρ', _, k, rr, r1, e, q⟩
      · cases e
    · cases e
end

/-! ### what is walked -/
/-- the lists whose items are handed out -/
abbrev Cm (c : Cz) (s : SS) (cm : List (List D × List V)) : Prop := ∀ q ∈ cm, Reps c s q.1 q.2
structure IterOk (T : List (Addr × Str)) (K : PySem.W.Frag) (mg : Str → Option Value) (s0 : SS) (J : It) (ds : List D) (cm : List (List D × List V)) : Prop where
  go : ∀ (i : Nat) (s : SS), Aft s0 s → i < ds.length → J.go i s.H
  stop : ∀ (s : SS), Aft s0 s → J.stop ds.length s.H
  yld : ∀ (pv : List Addr) (i : Nat) (ι : List Addr) (μ : Mu) (H H' : Hp) (x : V) (d : D), Ok ⟨K, mg, pv, T⟩ ⟨ι, μ, H⟩ → Aft s0 ⟨ι, μ, H⟩ → Cm ⟨K, mg, pv, T⟩ ⟨ι, μ, H⟩ cm → ds[i]? = some d → J.yld i H x H' →
    Ok ⟨K, mg, pv, T⟩ ⟨ι, μ, H'⟩ ∧ Aft ⟨ι, μ, H⟩ ⟨ι, μ, H'⟩ ∧ Rep ⟨K, mg, pv, T⟩ ⟨ι, μ, H'⟩ d x
def RetI (c : Cz) (s : SS) (o : Option OutA) (R : It → Hp → Prop) (E : XK) : Prop :=
  match o with
  | none => False
  | some (.ok ds μ) => ∀ (ι : List Addr) (H : Hp) (J : It) (cm : List (List D × List V)), Ok c ⟨ι, μ, H⟩ → Aft s ⟨ι, μ, H⟩ → Cm c ⟨ι, μ, H⟩ cm → IterOk c.T c.K c.mg ⟨ι, μ, H⟩ J ds cm → R J H
  | some (.ex x a μ) => ∀ (ι : List Addr) (H : Hp) (C : Addr) (ed : Option Addr), Ok c ⟨ι, μ, H⟩ → Aft s ⟨ι, μ, H⟩ → ExAt c ⟨ι, μ, H⟩ x a C ed → E (.ref C) ed H
def tIt (c : List Addr → Cz) (W : WX) (m : MA) : TI := fun σ H R => ∃ (pv ι : List Addr) (μ : Mu) (ρ : Rho), Ok (c pv) ⟨ι, μ, H⟩ ∧ RR (c pv) ⟨ι, μ, H⟩ ρ σ ∧ RetI (c pv) ⟨ι, μ, H⟩ (m ρ μ) R (fun cls d H' => W cls d σ H')
abbrev IM (T : List (Addr × Str)) (X : Cx) (W : WX) (tg e : Expr) (m : MA) : Prop := PI X tg e (tIt (cz T X) W m)
theorem PI.mono {X : Cx} {tg e : Expr} {t t' : TI} (h : PI X tg e t) (i : ∀ σ H R, t' σ H R → t σ H R) : PI X tg e t' := ⟨fun pins s σ H R I q => h.run pins s σ H R I (i σ H R q)⟩
theorem PI.or {X : Cx} {tg e : Expr} {t t' : TI} (h : PI X tg e t) (h' : PI X tg e t') : PI X tg e (fun σ H R => t σ H R ∨ t' σ H R) := ⟨fun pins s σ H R I q => q.elim (h.run pins s σ H R I) (h'.run pins s σ H R I)⟩
def itemsOf (d : D) : Option (List D) := match d with
  | .lst ds => some ds
  | .ro ds => some ds
  | .tup ds => some ds
  | .str z => some (z.cps.toList.map fun n => .str ⟨#[n]⟩)
  | _ => none
def iSeq (m : ME) : MA := fun ρ μ => bindOA (m ρ μ) fun d μ1 => match itemsOf d with
  | some ds => some (.ok ds μ1)
  | none => none
section
variable {c : Cz} {ι : List Addr} {μ : Mu} {H : Hp} {K : PySem.W.Frag} {mg : Str → Option Value}
/-- a list that stands still, read at any later state -/
def Still (K : PySem.W.Frag) (s0 : SS) (a : Addr) (vs : List V) : Prop := ∀ s, Aft s0 s → SqL K s.H a vs
theorem still_lst {s0 : SS} {a : Addr} {vs : List V} (h : s0.H a = some (.lst vs)) (nl : ¬ s0.live a) : Still K s0 a vs := fun s x => SqL.of (x.fz a _ h (fun ps z => by cases z) nl)
theorem still_ro {c : Cz} {s0 : SS} (k : Ok c s0) {a : Addr} {vs : List V} (h : (∃ o, s0.H a = some (.frz o (.lst vs))) ∨ SqL K (fun _ => none) a vs) : Still K s0 a vs := fun s x => by
  rcases h with ⟨o, h⟩ | (h | h)
  · refine .inl (.inr ⟨o, x.fz a _ h (fun ps z => by cases z) fun l => ?_⟩)
    obtain ⟨ws, q⟩ := k.live_lst l
    rw [h] at q
    cases q
  · rcases h with h | ⟨o, h⟩ <;> cases h
  · exact .inr h
def asFz (d : D) : Option (List D) := match d with
  | .lst ds => some ds
  | .ro ds => some ds
  | _ => none
theorem fz_at {d : D} {v : V} {ds : List D} (k : Ok c ⟨ι, μ, H⟩) (r : Rep c ⟨ι, μ, H⟩ d v) (h : asFz d = some ds) : ∃ a vs, v = .ref a ∧ SqL c.K H a vs ∧ Still c.K ⟨ι, μ, H⟩ a vs ∧ Reps c ⟨ι, μ, H⟩ ds vs := by
  cases r with
  | lst h1 nl r1 =>
    cases h
    exact ⟨_, _, rfl, SqL.of h1, still_lst h1 fun l => nl (.inl l), r1⟩
  | ro h1 r1 =>
    cases h
    have st := still_ro k h1
    exact ⟨_, _, rfl, st _ (Aft.refl _), st, r1⟩
  | _ => cases h
theorem iter_list {a : Addr} {ds : List D} {vs : List V} (st : Still K ⟨ι, μ, H⟩ a vs) (hl : ds.length = vs.length) : IterOk T K mg ⟨ι, μ, H⟩ (Itl K a) ds [(ds, vs)] where
  go := fun i s x hi => ⟨vs, vs[i]'(by rw [← hl]; exact hi), st s x, by simp [← hl, hi]⟩
  stop := fun s x => ⟨vs, st s x, Nat.le_of_eq hl.symm⟩
  yld := fun pv i ι' μ' H1 H2 x d k af cm e y => by
    obtain ⟨rfl, y⟩ := y
    refine ⟨k, Aft.refl _, ?_⟩
    obtain ⟨v, e1, r⟩ := (cm _ (List.mem_cons_self ..)).get e
    have := y vs (st _ af)
    rw [e1] at this
    cases this
    exact r
theorem iter_tup {s0 : SS} {a : Addr} {ds : List D} {vs : List V} (k0 : Ok c s0) (st : SqT c.K s0.H a vs) (hl : ds.length = vs.length) : IterOk c.T c.K mg s0 (Itt c.K a) ds [(ds, vs)] where
  go := fun i s x hi => ⟨vs, vs[i]'(by rw [← hl]; exact hi), rd_tup_aft k0 x st, by simp [← hl, hi]⟩
  stop := fun s x => ⟨vs, rd_tup_aft k0 x st, Nat.le_of_eq hl.symm⟩
  yld := fun pv i ι' μ' H1 H2 x d k af cm e y => by
    obtain ⟨rfl, y⟩ := y
    refine ⟨k, Aft.refl _, ?_⟩
    obtain ⟨v, e1, r⟩ := (cm _ (List.mem_cons_self ..)).get e
    have := y vs (rd_tup_aft k0 af st)
    rw [e1] at this
    cases this
    exact r
theorem iter_str {s0 : SS} {z : Str} : IterOk T K mg s0 (Its z) (z.cps.toList.map fun n => D.str ⟨#[n]⟩) [] where
  go := fun i s x hi => by
    rw [List.length_map, Array.length_toList] at hi
    exact hi
  stop := fun s x => by
    show z.cps.size ≤ _
    rw [List.length_map, Array.length_toList]
    exact Nat.le_refl _
  yld := fun pv i ι' μ' H1 H2 x d k af cm e y => by
    obtain ⟨rfl, n, e1, rfl⟩ := y
    refine ⟨k, Aft.refl _, ?_⟩
    rw [List.getElem?_map, Array.getElem?_toList, e1] at e
    cases e
    exact .str _
theorem iter_range {s0 : SS} {lo : Int} {n : Nat} : IterOk T K mg s0 (Itr lo n) ((List.range n).map fun i => D.int (lo + (i : Nat))) [] where
  go := fun i s x hi => by
    rw [List.length_map, List.length_range] at hi
    exact hi
  stop := fun s x => by
    show n ≤ _
    rw [List.length_map, List.length_range]
    exact Nat.le_refl _
  yld := fun pv i ι' μ' H1 H2 x d k af cm e y => by
    obtain ⟨rfl, rfl⟩ := y
    refine ⟨k, Aft.refl _, ?_⟩
    rw [List.getElem?_map] at e
    cases e1 : (List.range n)[i]? with
    | none => rw [e1] at e; cases e
    | some j =>
      rw [e1] at e
      cases e
      obtain ⟨hi, e2⟩ := List.getElem?_eq_some_iff.mp e1
      rw [List.getElem_range] at e2
      subst e2
      exact .int _
end
section
variable {X : Cx} {W : WX} {tg : Expr}
theorem im_seq {l : Expr} {m : ME} (hl : EM T X W l m) : IM T X W tg l (iSeq m) :=
  PI.mono (PI.or (pi_list hl) (PI.or (pi_tup hl) (pi_str hl))) fun σ H R ⟨pv, ι, μ, ρ, k, rr, h⟩ => by
    unfold iSeq at h
    match e : m ρ μ, h with
    | none, h => exact h.elim
    | some (.ex x a μ1), h =>
      refine .inl ⟨pv, ι, μ, ρ, k, rr, ?_⟩
      rw [e]
      exact h
    | some (.ok d μ1), h =>
      (try simp only [e, bindOA] at h)
      match d, h with
      | .lst ds, h =>
        refine .inl ⟨pv, ι, μ, ρ, k, rr, ?_⟩
        rw [e]
        intro ι1 H1 v k1 x1 r1
        obtain ⟨a, vs, rfl, q, st, rs⟩ := fz_at k1 r1 rfl
        exact ⟨a, rfl, ⟨vs, q⟩, h ι1 H1 _ _ k1 x1 (fun z hz => by cases List.mem_singleton.mp hz; exact rs) (iter_list st rs.length)⟩
      | .ro ds, h =>
        refine .inl ⟨pv, ι, μ, ρ, k, rr, ?_⟩
        rw [e]
        intro ι1 H1 v k1 x1 r1
        obtain ⟨a, vs, rfl, q, st, rs⟩ := fz_at k1 r1 rfl
        exact ⟨a, rfl, ⟨vs, q⟩, h ι1 H1 _ _ k1 x1 (fun z hz => by cases List.mem_singleton.mp hz; exact rs) (iter_list st rs.length)⟩
      | .tup ds, h =>
        refine .inr (.inl ⟨pv, ι, μ, ρ, k, rr, ?_⟩)
        rw [e]
        intro ι1 H1 v k1 x1 r1
        obtain ⟨a, vs, rfl, q, rs⟩ := tup_at r1
        exact ⟨a, rfl, ⟨vs, q⟩, h ι1 H1 _ _ k1 x1 (fun z hz => by cases List.mem_singleton.mp hz; exact rs) (iter_tup k1 q rs.length)⟩
      | .str z, h =>
        refine .inr (.inr ⟨pv, ι, μ, ρ, k, rr, ?_⟩)
        rw [e]
        intro ι1 H1 v k1 x1 r1
        cases r1
        exact ⟨z, rfl, h ι1 H1 _ [] k1 x1 (fun q hq => by cases hq) iter_str⟩
      | .non, h | .bl _, h | .int _, h | .ob _, h | .fn _, h => exact h.elim

/-- range(n), range(a, b) -/
def small62 (i : Int) : Bool := decide (-(2 ^ 62) ≤ i) && decide (i < 2 ^ 62)
theorem small62_ok {i : Int} (h : small62 i = true) : -(2 ^ 62) ≤ i ∧ i < 2 ^ 62 := by
  unfold small62 at h
  rw [Bool.and_eq_true, decide_eq_true_eq, decide_eq_true_eq] at h
  exact h
def rangeD (lo : Int) (n : Nat) : List D := (List.range n).map fun i => D.int (lo + (i : Nat))
def iRange1 (a : MA) : MA := fun ρ μ => bindAA (a ρ μ) fun ds μ1 => match ds with
  | [.int n] => if small62 n = true then some (.ok (rangeD 0 n.toNat) μ1) else none
  | _ => none
def iRange2 (a : MA) : MA := fun ρ μ => bindAA (a ρ μ) fun ds μ1 => match ds with
  | [.int lo, .int hi] => if small62 lo = true then if small62 hi = true then some (.ok (rangeD lo (hi - lo).toNat) μ1) else none else none
  | _ => none
theorem RetA.of_I {c : Cz} {s : SS} {oa : Option OutA} {k : List D → Mu → Option OutA} {R : It → Hp → Prop} {E : XK} (h : RetI c s (bindAA oa k) R E) :
    RetA c s oa (fun vs H => ∃ (ι : List Addr) (μ : Mu) (ds : List D), Ok c ⟨ι, μ, H⟩ ∧ Aft s ⟨ι, μ, H⟩ ∧ Reps c ⟨ι, μ, H⟩ ds vs ∧ RetI c ⟨ι, μ, H⟩ (k ds μ) R E) E := by
  match oa, h with
  | some (.ok ds μ), h =>
    intro ι H vs a b r
    refine ⟨ι, μ, ds, a, b, r, ?_⟩
    have h' : RetI c s (k ds μ) R E := h
    match k ds μ, h' with
    | some (.ok es μ2), h' => exact fun ι H J cm a' b' => h' ι H J cm a' (b.trans b')
    | some (.ex x a μ2), h' => exact fun ι H C ed a' b' => h' ι H C ed a' (b.trans b')
  | some (.ex x a μ), h => exact h
theorem im_range1 {a : Expr} {m : MA} {p pos : Pos} (hg : Gl X "range") (hm : X.mg "range" = none) (ha : AM T X W [a] m) (hs : starEach [a] X.env = [(false, eval a X.env)] := by rfl) : IM T X W tg (.Call (.Name "range" p) [a] [] pos) (iRange1 m) :=
  PI.mono (pi_range1 hg hm ha hs) fun σ H R ⟨pv, ι, μ, ρ, k, rr, h⟩ => ⟨pv, ι, μ, ρ, k, rr, (RetA.of_I h).mono fun vs H1 ⟨ι1, μ1, ds, k1, x1, r1, h1⟩ => by
    (try dsimp only at h1)
    split at h1
    · rename_i n
      obtain ⟨v, rfl, r0⟩ := reps1 r1
      cases r0
      split at h1
      · rename_i hn
        obtain ⟨b1, b2⟩ := small62_ok hn
        exact ⟨n, rfl, b1, b2, h1 ι1 H1 _ [] k1 (Aft.refl _) (fun q hq => by cases hq) iter_range⟩
      · exact h1.elim
    · exact h1.elim⟩
theorem im_range2 {a b : Expr} {m : MA} {p pos : Pos} (hg : Gl X "range") (hm : X.mg "range" = none) (ha : AM T X W [a, b] m) (hs : starEach [a, b] X.env = [(false, eval a X.env), (false, eval b X.env)] := by rfl) (hs2 : starEach [b] X.env = [(false, eval b X.env)] := by rfl) :
    IM T X W tg (.Call (.Name "range" p) [a, b] [] pos) (iRange2 m) :=
  PI.mono (pi_range2 hg hm ha hs hs2) fun σ H R ⟨pv, ι, μ, ρ, k, rr, h⟩ => ⟨pv, ι, μ, ρ, k, rr, (RetA.of_I h).mono fun vs H1 ⟨ι1, μ1, ds, k1, x1, r1, h1⟩ => by
    (try dsimp only at h1)
    split at h1
    · rename_i lo hi
      obtain ⟨v, w, rfl, r0, r2⟩ := reps2 r1
      cases r0
      cases r2
      split at h1
      · rename_i hn
        split at h1
        · rename_i hn2
          obtain ⟨b1, b2⟩ := small62_ok hn
          obtain ⟨b3, b4⟩ := small62_ok hn2
          exact ⟨lo, hi, rfl, ⟨b1, b2, b3, b4⟩, h1 ι1 H1 _ [] k1 (Aft.refl _) (fun q hq => by cases hq) iter_range⟩
        · exact h1.elim
      · exact h1.elim
    · exact h1.elim⟩
end

/-! ### comprehensions -/
def wipeR (ρ : Rho) : List Nat → Rho
  | [] => ρ
  | v :: vs => (wipeR ρ vs).set v none
theorem wipeR_length (ρ : Rho) : ∀ vs : List Nat, (wipeR ρ vs).length = ρ.length
  | [] => rfl
  | v :: vs => by unfold wipeR; rw [List.length_set, wipeR_length ρ vs]
theorem RR.wipe {c : Cz} {s : SS} {ρ : Rho} {σ : L2.St} (r : RR c s ρ σ) : ∀ vs : List Nat, RR c s (wipeR ρ vs) (L2.wipe σ vs)
  | [] => r
  | v :: vs => by
    have ih := RR.wipe r vs
    unfold wipeR L2.wipe
    refine ⟨by rw [List.length_set, List.length_set]; exact ih.1, fun j e h => ?_⟩
    by_cases hj : v = j
    · subst hj
      have hl : v < (wipeR ρ vs).length := by
        have := (List.getElem?_eq_some_iff.mp h).1
        rwa [List.length_set] at this
      rw [List.getElem?_set_self hl] at h
      cases h
    · rw [List.getElem?_set_ne hj] at h ⊢
      exact ih.2 j e h
theorem wipe_get {σ : L2.St} {i : Nat} : ∀ {vs : List Nat}, i ∈ vs → i < σ.length → (L2.wipe σ vs)[i]? = some none
  | v :: vs, h, hl => by
    unfold L2.wipe
    by_cases hj : v = i
    · subst hj
      rw [List.getElem?_set_self (by rw [wipe_length]; exact hl)]
    · rw [List.getElem?_set_ne hj]
      exact wipe_get ((List.mem_cons.mp h).resolve_left fun z => hj z.symm) hl
theorem wipe_off {σ σ' : L2.St} {sl vs : List Nat} (o : Off sl (L2.wipe σ vs) σ') (hs : ∀ i ∈ sl, i ∈ vs) : L2.wipe σ' vs = L2.wipe σ vs := by
  apply List.ext_getElem?
  intro i
  have hl : σ'.length = σ.length := o.1.trans (wipe_length σ vs)
  by_cases hi : i ∈ vs
  · by_cases hb : i < σ.length
    · rw [wipe_get hi (by rw [hl]; exact hb), wipe_get hi hb]
    · rw [List.getElem?_eq_none (by rw [wipe_length, hl]; omega), List.getElem?_eq_none (by rw [wipe_length]; omega)]
  · rw [wipe_out hi]
    exact o.2 i fun z => hi (hs i z)
/-- the turns of a comprehension -/
def lcLoop (g : MG) (mt me : ME) (ρ : Rho) : List D → Mu → Option (List D × Mu)
  | [], μ => some ([], μ)
  | d :: ds, μ => match g.put d ρ with
    | none => none
    | some ρ2 => match mt ρ2 μ with
      | some (.ok (.bl true) μ1) => match me ρ2 μ1 with
        | some (.ok y μ2) => match lcLoop g mt me ρ ds μ2 with
          | some (ys, μ3) => some (y :: ys, μ3)
          | none => none
        | _ => none
      | some (.ok (.bl false) μ1) => lcLoop g mt me ρ ds μ1
      | _ => none
def mLc (own : List Nat) (mi : MA) (g : MG) (mt me : ME) : ME := fun ρ μ => bindA (mi ρ μ) fun ds μ1 => if ds.length ≤ lineS then match lcLoop g mt me (wipeR ρ own) ds μ1 with
  | some (ys, μ2) => some (.ok (.lst ys) μ2)
  | none => none
  else none
/-- the list made stays one that changes -/
def mLcM (own : List Nat) (mi : MA) (g : MG) (mt me : ME) : ME := fun ρ μ => bindA (mi ρ μ) fun ds μ1 => if ds.length ≤ lineS then match lcLoop g mt me (wipeR ρ own) ds μ1 with
  | some (ys, μ2) => some (.ok (.ob μ2.length) (μ2 ++ [some (.lst ys)]))
  | none => none
  else none
def W0 : WX := fun _ _ _ _ => False
theorem RetI.bindA {c : Cz} {s : SS} {oa : Option OutA} {k : List D → Mu → Option Out} {Q : VK} {E : XK} {R : It → Hp → Prop} (h : Ret c s (MV.bindA oa k) Q E)
    (hr : ∀ (ι : List Addr) (μ : Mu) (H : Hp) (J : It) (cm : List (List D × List V)) (ds : List D), oa = some (.ok ds μ) → Ok c ⟨ι, μ, H⟩ → Aft s ⟨ι, μ, H⟩ → Cm c ⟨ι, μ, H⟩ cm → IterOk c.T c.K c.mg ⟨ι, μ, H⟩ J ds cm → Ret c ⟨ι, μ, H⟩ (k ds μ) Q E → R J H) : RetI c s oa R E := by
  match oa, h with
  | some (.ok ds μ), h => exact fun ι H J cm a b m i => hr ι μ H J cm ds rfl a b m i (Ret.from h b)
  | some (.ex x a μ), h => exact h
/-- the state while a comprehension runs -/
structure Lc (c : Cz) (s1 : SS) (Da : Addr) (cm : List (List D × List V)) (ι : List Addr) (μ : Mu) (H : Hp) (acc : List D) : Prop where
  k : Ok (c.add Da) ⟨ι, μ, H⟩
  af : Aft s1 ⟨ι, μ, H⟩
  at_ : ∃ vs, H Da = some (.lst vs) ∧ Reps (c.add Da) ⟨ι, μ, H⟩ acc vs
  cm_ : Cm (c.add Da) ⟨ι, μ, H⟩ cm
theorem RR.in_ {c : Cz} {ι : List Addr} {μ : Mu} {H : Hp} {p : Addr} {vs : List V} {ρ : Rho} {σ : L2.St} (hp : H p = none) (r : RR c ⟨ι, μ, H⟩ ρ σ) : RR (c.add p) ⟨ι, μ, upd H p (.lst vs)⟩ ρ σ := ⟨r.1, fun i d e => by
  obtain ⟨v, e1, q⟩ := r.2 i d e
  exact ⟨v, e1, Rep.in_ hp q⟩⟩
theorem RR.put {c : Cz} {ι : List Addr} {μ : Mu} {H : Hp} {p : Addr} {vs vs' : List V} {ρ : Rho} {σ : L2.St} (hp : H p = some (.lst vs')) (r : RR (c.add p) ⟨ι, μ, H⟩ ρ σ) : RR (c.add p) ⟨ι, μ, upd H p (.lst vs)⟩ ρ σ := ⟨r.1, fun i d e => by
  obtain ⟨v, e1, q⟩ := r.2 i d e
  exact ⟨v, e1, Rep.put hp q⟩⟩
section
variable {X : Cx} {W : WX}
theorem lc_sim {own : List Nat} {mi : MA} {g : MG} {mt me : ME} {σ : L2.St} {H : Hp} {Q : VK} (hsub : ∀ i ∈ g.slots, i ∈ own) (fin : ME)
    (hf : fin = mLc own mi g mt me ∨ fin = mLcM own mi g mt me) (h : tE (cz T X) W fin σ H Q) :
    tLc (tIt (cz T X) W mi) (tG (cz T X) g) (tB (tE (cz T X) W0 mt)) (tE (cz T X) W0 me) own σ H Q := by
  obtain ⟨pv, ι, μ, ρ, k, rr, h⟩ := h
  -- what is wanted at the end, from the list that was made
  have h0 : ∃ kk : List D → Mu → Option Out, fin ρ μ = bindA (mi ρ μ) kk ∧ ∀ (ι1 : List Addr) (μ1 : Mu) (H1 : Hp) (ds : List D), Ret (cz T X pv) ⟨ι1, μ1, H1⟩ (kk ds μ1) Q (fun cls d H' => W cls d σ H') →
      ds.length ≤ lineS ∧ ∃ ys μ2, lcLoop g mt me (wipeR ρ own) ds μ1 = some (ys, μ2) ∧
        ∀ (ι' : List Addr) (H' : Hp) (Da : Addr) (vs : List V), Ok ((cz T X pv).add Da) ⟨ι', μ2, H'⟩ → Aft ⟨ι1, μ1, H1⟩ ⟨ι', μ2, H'⟩ → Da ∉ pv → H1 Da = none → H' Da = some (.lst vs) → Reps ((cz T X pv).add Da) ⟨ι', μ2, H'⟩ ys vs → Q (.ref Da) H' := by
    rcases hf with e | e
    · subst e
      refine ⟨_, rfl, fun ι1 μ1 H1 ds h1 => ?_⟩
      (try dsimp only at h1)
      split at h1
      · rename_i hl
        refine ⟨hl, ?_⟩
        split at h1
        · rename_i ys μ2 e
          refine ⟨ys, μ2, e, fun ι' H' Da vs k2 x2 np _ hD r => ?_⟩
          have k3 := Ok.leave k2
          exact h1 ι' H' (.ref Da) k3 x2 (.lst hD (fun l => by
            rcases l with l | l
            · exact (k2.pvt Da (List.mem_cons_self ..)).2 l
            · exact np l) (Reps.leave r))
        · exact h1.elim
      · exact h1.elim
    · subst e
      refine ⟨_, rfl, fun ι1 μ1 H1 ds h1 => ?_⟩
      (try dsimp only at h1)
      split at h1
      · rename_i hl
        refine ⟨hl, ?_⟩
        split at h1
        · rename_i ys μ2 e
          refine ⟨ys, μ2, e, fun ι' H' Da vs k2 x2 np hD0 hD r => ?_⟩
          obtain ⟨k3, x3, r3⟩ := Ok.give np k2 hD r
          exact h1 _ H' (.ref Da) k3 (x3 _ x2 hD0) r3
        · exact h1.elim
      · exact h1.elim
  obtain ⟨kk, ef, h0⟩ := h0
  rw [ef] at h
  refine ⟨pv, ι, μ, ρ, k, rr, RetI.bindA h fun ι1 μ1 H1 J cm ds e1 k1 x1 c1 it1 h1 => ?_⟩
  obtain ⟨hl, ys, μ2, el, fin1⟩ := h0 ι1 μ1 H1 ds h1
  intro Da hD
  have rr1 := (rr.aft k x1).wipe own
  have np : Da ∉ pv := fun z => by
    obtain ⟨⟨vs, e⟩, _⟩ := k1.pvt Da z
    rw [show (⟨ι1, μ1, H1⟩ : SS).H Da = H1 Da from rfl, hD] at e
    cases e
  have rrAt : ∀ {ι2 : List Addr} {μ2 : Mu} {H2 : Hp} {acc : List D}, Lc (cz T X pv) ⟨ι1, μ1, H1⟩ Da cm ι2 μ2 H2 acc → True := fun _ => trivial
  refine ⟨fun i m H2 => i + m = ds.length ∧ ∃ (ι2 : List Addr) (μ' : Mu) (acc zs : List D), Lc (cz T X pv) ⟨ι1, μ1, H1⟩ Da cm ι2 μ' H2 acc ∧ RR ((cz T X pv).add Da) ⟨ι2, μ', H2⟩ (wipeR ρ own) (L2.wipe σ own) ∧ acc.length ≤ i ∧
      lcLoop g mt me (wipeR ρ own) (ds.drop i) μ' = some (zs, μ2) ∧ ys = acc ++ zs,
    ⟨ds.length, by omega, ι1, μ1, [], ys, ⟨Ok.enter k1 hD, (Aft.refl _).putp hD, ⟨[], upd_same, .nil⟩, fun q hq => Reps.up hD (Reps.enter (s := ⟨ι1, μ1, H1⟩) hD (c1 q hq))⟩, RR.in_ hD rr1, Nat.le_refl _, el, rfl⟩, fun i m H2 hw => ?_⟩
  obtain ⟨him, ι2, μ', acc, zs, L, rr2, hacc, hloop, hys⟩ := hw
  obtain ⟨vacc, hDa, racc⟩ := L.at_
  by_cases hi : i < ds.length
  · refine .inr ⟨it1.go i ⟨ι2, μ', H2⟩ L.af hi, fun H' => ∃ (ι3 : List Addr) (μ3 : Mu) (acc3 zs3 : List D), Lc (cz T X pv) ⟨ι1, μ1, H1⟩ Da cm ι3 μ3 H' acc3 ∧ RR ((cz T X pv).add Da) ⟨ι3, μ3, H'⟩ (wipeR ρ own) (L2.wipe σ own) ∧ acc3.length ≤ i + 1 ∧
        lcLoop g mt me (wipeR ρ own) (ds.drop (i + 1)) μ3 = some (zs3, μ2) ∧ ys = acc3 ++ zs3, fun H' hN => ⟨m - 1, by omega, by omega, hN⟩, fun x H' hy => ?_⟩
    have ed : ds[i]? = some ds[i] := List.getElem?_eq_getElem hi
    obtain ⟨k3, x3, rx⟩ := it1.yld (Da :: pv) i ι2 μ' H2 H' x ds[i] L.k L.af L.cm_ ed hy
    have rr3 := rr2.aft L.k x3
    rw [List.drop_eq_getElem_cons hi] at hloop
    simp only [lcLoop] at hloop
    cases eg : g.put ds[i] (wipeR ρ own) with
    | none => rw [eg] at hloop; cases hloop
    | some ρ2 =>
      rw [eg] at hloop
      simp only at hloop
      refine ⟨Da :: pv, ι2, μ', wipeR ρ own, ρ2, ds[i], k3, rr3, rx, eg, fun σ2 rr4 off => ⟨wipe_off off hsub, ?_⟩⟩
      -- the test
      have nx : ∀ {sM sN : SS} {o : HO}, True := fun {_ _ _} => trivial
      match et : mt ρ2 μ', hloop with
      | some (.ok (.bl true) μa), hloop =>
        refine ⟨Da :: pv, ι2, μ', ρ2, k3, rr4, ?_⟩
        rw [et]
        intro ι4 H4 v4 k4 x4 r4
        cases r4
        refine ⟨true, rfl, ?_⟩
        (try simp only [et] at hloop)
        match ee : me ρ2 μa, hloop with
        | some (.ok y μb), hloop =>
          show tE (cz T X) W0 me σ2 H4 _
          refine ⟨Da :: pv, ι4, μa, ρ2, k4, rr4.aft k3 x4, ?_⟩
          rw [ee]
          intro ι5 H5 v5 k5 x5 r5
          (try simp only [ee] at hloop)
          match e5 : lcLoop g mt me (wipeR ρ own) (ds.drop (i + 1)) μb, hloop with
          | some (zs5, μc), hloop =>
            (try simp only [e5] at hloop)
            cases hloop
            have x35 := (x3.trans x4).trans x5
            have hD5 : H5 Da = some (.lst vacc) := x35.fz Da _ hDa (fun ps z => by cases z) (L.k.pvt Da (List.mem_cons_self ..)).2
            have racc5 := racc.aft L.k x35
            refine ⟨vacc, hD5, ?_, ι5, μb, acc ++ [y], zs5, ⟨Ok.put k5 hD5, (L.af.trans x35).putp hD, ⟨_, upd_same, Reps.put hD5 (racc5.append (.cons r5 .nil))⟩, fun q hq => Reps.put hD5 ((L.cm_ q hq).aft L.k x35)⟩, RR.put hD5 (rr2.aft L.k x35), ?_, e5, ?_⟩
            · rw [← racc.length, ← lineS_ok]
              omega
            · rw [List.length_append, List.length_singleton]
              omega
            · rw [hys, List.append_assoc]
              rfl
          | none, hloop =>
            (try simp only [e5] at hloop)
            cases hloop
        | some (.ex _ _ _), hloop | none, hloop =>
          (try simp only [ee] at hloop)
          cases hloop
      | some (.ok (.bl false) μa), hloop =>
        refine ⟨Da :: pv, ι2, μ', ρ2, k3, rr4, ?_⟩
        rw [et]
        intro ι4 H4 v4 k4 x4 r4
        cases r4
        refine ⟨false, rfl, ?_⟩
        (try simp only [et] at hloop)
        have x34 := x3.trans x4
        have hD5 : H4 Da = some (.lst vacc) := x34.fz Da _ hDa (fun ps z => by cases z) (L.k.pvt Da (List.mem_cons_self ..)).2
        exact ⟨ι4, μa, acc, zs, ⟨k4, L.af.trans x34, ⟨vacc, hD5, racc.aft L.k x34⟩, fun q hq => (L.cm_ q hq).aft L.k x34⟩, rr2.aft L.k x34, by omega, hloop, hys⟩
      | none, hloop | some (.ex _ _ _), hloop | some (.ok .non _), hloop | some (.ok (.int _) _), hloop | some (.ok (.str _) _), hloop | some (.ok (.tup _) _), hloop | some (.ok (.lst _) _), hloop | some (.ok (.ro _) _), hloop | some (.ok (.ob _) _), hloop | some (.ok (.fn _) _), hloop =>
        (try simp only [et] at hloop)
        cases hloop
  · have ei : i = ds.length := by omega
    subst ei
    refine .inl ⟨it1.stop ⟨ι2, μ', H2⟩ L.af, ?_⟩
    rw [List.drop_length] at hloop
    simp only [lcLoop] at hloop
    cases hloop
    rw [List.append_nil] at hys
    subst hys
    exact fin1 ι2 H2 Da vacc L.k L.af np hD hDa racc
end
end MV

set_option Elab.async false
set_option linter.all false
set_option maxRecDepth 100000
set_option maxHeartbeats 4000000
/-! MV6: comprehensions as rules; methods; slices; own functions called -/
namespace MV
open PySem L2
variable {T : List (Addr × Str)}

section
variable {X : Cx} {W : WX}
abbrev mYes : ME := mC (.bl true)
theorem ptm_nil : PTs X [] (tB (tE (cz T X) W0 mYes)) := ⟨fun pins s σ H Q I h => pts_nil.run pins s σ H Q I (by
  obtain ⟨pv, ι, μ, ρ, k, rr, h⟩ := h
  obtain ⟨b, e, q⟩ := Ret.val h k (.bl true)
  cases e
  exact q)⟩
theorem ptm_one {c : Expr} {m : ME} (h : TM T X W0 c m) : PTs X [c] (tB (tE (cz T X) W0 m)) := pts_one h
theorem em_lc {elt tg iter : Expr} {ifs : List Expr} {scope : Scope} {own : List (Str × Nat)} {pos : Pos} {mi : MA} {g : MG} {mt me : ME} (hc : X.calm = true) (hN : X.N.Nodup) (hi : IM T X W tg iter mi) (ok : BlkOk X.N X.env.scope scope own)
    (hsub : ∀ i ∈ g.slots, i ∈ own.map (·.2))
    (hg : ∀ (s : Shared) (H : Hp) (C : Addr) (cl : List (Str × Addr)) (fp : List Addr), GM T (X.blk s H scope (compEnvC scope cl C X.env) fp) tg g)
    (ht : ∀ (s : Shared) (H : Hp) (C : Addr) (cl : List (Str × Addr)) (fp : List Addr), PTs (X.blk s H scope (compEnvC scope cl C X.env) fp) ifs (tB (tE (cz T X) W0 mt)))
    (he : ∀ (s : Shared) (H : Hp) (C : Addr) (cl : List (Str × Addr)) (fp : List Addr), EM T (X.blk s H scope (compEnvC scope cl C X.env) fp) W0 elt me)
    (hs : ∀ x, foldedSetIterable iter X.env x = pure x := by intro _; rfl) : EM T X W (.ListComp elt [⟨tg, iter, ifs, 0⟩] scope pos) (mLc (own.map (·.2)) mi g mt me) :=
  PE.mono (pe_lc hc hN hi ok hg ht he hs) fun σ H Q h => lc_sim hsub _ (.inl rfl) h
theorem em_lcM {elt tg iter : Expr} {ifs : List Expr} {scope : Scope} {own : List (Str × Nat)} {pos : Pos} {mi : MA} {g : MG} {mt me : ME} (hc : X.calm = true) (hN : X.N.Nodup) (hi : IM T X W tg iter mi) (ok : BlkOk X.N X.env.scope scope own)
    (hsub : ∀ i ∈ g.slots, i ∈ own.map (·.2))
    (hg : ∀ (s : Shared) (H : Hp) (C : Addr) (cl : List (Str × Addr)) (fp : List Addr), GM T (X.blk s H scope (compEnvC scope cl C X.env) fp) tg g)
    (ht : ∀ (s : Shared) (H : Hp) (C : Addr) (cl : List (Str × Addr)) (fp : List Addr), PTs (X.blk s H scope (compEnvC scope cl C X.env) fp) ifs (tB (tE (cz T X) W0 mt)))
    (he : ∀ (s : Shared) (H : Hp) (C : Addr) (cl : List (Str × Addr)) (fp : List Addr), EM T (X.blk s H scope (compEnvC scope cl C X.env) fp) W0 elt me)
    (hs : ∀ x, foldedSetIterable iter X.env x = pure x := by intro _; rfl) : EM T X W (.ListComp elt [⟨tg, iter, ifs, 0⟩] scope pos) (mLcM (own.map (·.2)) mi g mt me) :=
  PE.mono (pe_lc hc hN hi ok hg ht he hs) fun σ H Q h => lc_sim hsub _ (.inr rfl) h
end

/-! ### methods of built-in values -/
inductive Ty2 where
  | str | list
def Ty2.name : Ty2 → String
  | .str => "str"
  | .list => "list"
def tyD (TT : Ty2) (d : D) (μ : Mu) : Bool := match TT, d with
  | .str, .str _ => true
  | .list, d => (asQ d μ).isSome
  | _, _ => false
theorem tyD_ok {c : Cz} {ι : List Addr} {μ : Mu} {H : Hp} {TT : Ty2} {d : D} {v : V} (k : Ok c ⟨ι, μ, H⟩) (r : Rep c ⟨ι, μ, H⟩ d v) (h : tyD TT d μ = true) : tyV c.K TT.name v H := by
  unfold tyD at h
  split at h
  · cases r
    rfl
  · cases e : asQ d μ with
    | none => rw [e] at h; cases h
    | some ds =>
      obtain ⟨a, vs, rfl, h1, r1⟩ := seq_at k r e
      exact .inl ⟨rfl, vs, h1⟩
  · cases h
def mMeth (TT : Ty2) (f : D → List D → Mu → Option (D × Mu)) (o : ME) (a : MA) : ME := fun ρ μ => bindO (o ρ μ) fun x μ1 => if tyD TT x μ1 = true then bindA (a ρ μ1) fun xs μ2 => match f x xs μ2 with
  | some (d, μ3) => some (.ok d μ3)
  | none => none
  else none
def RMM (T : List (Addr × Str)) (K : PySem.W.Frag) (mg : Str → Option Value) (f : D → List D → Mu → Option (D × Mu)) (r : V → List V → Hp → VK → Prop) : Prop :=
  ∀ (pv ι : List Addr) (μ μ' : Mu) (H : Hp) (x d : D) (xs : List D) (v : V) (vs : List V) (Q : VK), Ok ⟨K, mg, pv, T⟩ ⟨ι, μ, H⟩ → Rep ⟨K, mg, pv, T⟩ ⟨ι, μ, H⟩ x v → Reps ⟨K, mg, pv, T⟩ ⟨ι, μ, H⟩ xs vs → f x xs μ = some (d, μ') →
    (∀ ι' H' z, Ok ⟨K, mg, pv, T⟩ ⟨ι', μ', H'⟩ → Aft ⟨ι, μ, H⟩ ⟨ι', μ', H'⟩ → Rep ⟨K, mg, pv, T⟩ ⟨ι', μ', H'⟩ d z → Q z H') → r v vs H Q
section
variable {X : Cx} {W : WX}
theorem meth_sim {TT : Ty2} {f : D → List D → Mu → Option (D × Mu)} {r : V → List V → Hp → VK → Prop} {o : ME} {a : MA} (hr : RMM T X.K X.mg f r) {σ : L2.St} {H : Hp} {Q : VK} (h : tE (cz T X) W (mMeth TT f o a) σ H Q) :
    tBM X.K TT.name r (tE (cz T X) W o) (tAs (cz T X) W a) σ H Q := by
  obtain ⟨pv, ι, μ, ρ, k, rr, h⟩ := h
  refine ⟨pv, ι, μ, ρ, k, rr, (Ret.bind h).mono fun v H1 ⟨ι1, μ1, x, k1, x1, r1, h1⟩ => ?_⟩
  (try dsimp only at h1)
  split at h1
  · rename_i ht
    refine ⟨tyD_ok k1 r1 ht, pv, ι1, μ1, ρ, k1, rr.aft k x1, (Ret.bindA h1).mono fun vs H2 ⟨ι2, μ2, xs, k2, x2, r2, h2⟩ => ?_⟩
    match e : f x xs μ2, h2 with
    | some (d, μ3), h2 =>
      (try dsimp only at h2)
      rw [e] at h2
      exact hr pv ι2 μ2 μ3 H2 x d xs v vs Q k2 (r1.aft k1 x2) r2 e fun ι' H' z k' x' r' => h2 ι' H' z k' x' r'
    | none, h2 =>
      (try dsimp only at h2)
      rw [e] at h2
      exact h2.elim
  · exact h1.elim
theorem em_bm {TT : Ty2} {o e : Expr} {es : List Expr} {name : Str} {apos cpos : Pos} {id : String} {r : V → List V → Hp → VK → Prop} {f : D → List D → Mu → Option (D × Mu)} {mo : ME} {ma : MA} (pa : PlainAttrs TT.name) (slot : Slot TT.name name id) (hty : typeOf (.builtin id) = pure (.type "method_descriptor"))
    (hm : MtR X id r) (hr : RMM T X.K X.mg f r) (ho : EM T X W o mo) (ha : AM T X W (e :: es) ma)
    (hbase : attributeBase o name X.env (eval o X.env) = eval o X.env := by rfl)
    (hfew : ((backTo cpos (starEach (e :: es) X.env)).all (fun x => !x.1) && (backToKw cpos (keywordEach [] X.env)).all (fun x => x.1.isSome)
      && decide ((e :: es).length + ([] : List Keyword).length + (if ([] : List Keyword).isEmpty then 0 else 1) < 30)) = true := by rfl)
    (hline : (apos.endLine == cpos.line) = true := by rfl) (hs : starEach (e :: es) X.env = (false, eval e X.env) :: starEach es X.env := by rfl) (hplain : (backTo cpos (starEach es X.env)).any (·.1) = false := by rfl) :
    EM T X W (.Call (.Attribute o name apos) (e :: es) [] cpos) (mMeth TT f mo ma) :=
  PE.mono (pe_bm pa slot hty hm ho ha hbase hfew hline hs hplain) fun _ _ _ h => meth_sim hr h
theorem em_bm0 {TT : Ty2} {o : Expr} {name : Str} {apos cpos : Pos} {id : String} {r : V → List V → Hp → VK → Prop} {f : D → List D → Mu → Option (D × Mu)} {mo : ME} (pa : PlainAttrs TT.name) (slot : Slot TT.name name id) (hty : typeOf (.builtin id) = pure (.type "method_descriptor"))
    (hm : MtR X id r) (hr : RMM T X.K X.mg f r) (ho : EM T X W o mo)
    (hbase : attributeBase o name X.env (eval o X.env) = eval o X.env := by rfl) (hline : (apos.endLine == cpos.line) = true := by rfl) : EM T X W (.Call (.Attribute o name apos) [] [] cpos) (mMeth TT f mo aNil) :=
  PE.mono (pe_bm0 pa slot hty hm ho hbase hline) fun σ H Q h => by
    have h2 : tBM X.K TT.name r (tE (cz T X) W mo) (tAs (cz T X) W aNil) σ H Q := meth_sim hr h
    obtain ⟨pv, ι, μ, ρ, k, rr, h⟩ := h
    refine ⟨pv, ι, μ, ρ, k, rr, (Ret.bind h).mono fun v H1 ⟨ι1, μ1, x, k1, x1, r1, h1⟩ => ?_⟩
    (try dsimp only at h1)
    split at h1
    · rename_i ht
      refine ⟨tyD_ok k1 r1 ht, ?_⟩
      match e : f x [] μ1, h1 with
      | some (d, μ3), h1 =>
        (try simp only [aNil, bindA, e] at h1)
        exact hr pv ι1 μ1 μ3 H1 x d [] v [] Q k1 r1 .nil e fun ι' H' z k' x' r' => h1 ι' H' z k' x' r'
      | none, h1 =>
        (try simp only [aNil, bindA, e] at h1)
        exact h1.elim
    · exact h1.elim
end
/-- the place of a list that changes -/
def obL (d : D) (μ : Mu) : Option (Nat × List D) := match d with
  | .ob n => match μ[n]? with
    | some (some (.lst ds)) => some (n, ds)
    | _ => none
  | _ => none
def fAppend (x : D) (xs : List D) (μ : Mu) : Option (D × Mu) := match xs with
  | [y] => match obL x μ with
    | some (n, ds) => if ds.length < lineS then some (.non, μ.set n (some (.lst (ds ++ [y])))) else none
    | none => none
  | _ => none
def fPop (x : D) (xs : List D) (μ : Mu) : Option (D × Mu) := match xs with
  | [] => match obL x μ with
    | some (n, ds) => match ds[ds.length - 1]? with
      | some y => some (y, μ.set n (some (.lst ds.dropLast)))
      | none => none
    | none => none
  | _ => none
def fExtend (x : D) (xs : List D) (μ : Mu) : Option (D × Mu) := match xs with
  | [y] => match obL x μ, asL y μ with
    | some (n, ds), some es => if ds.length + es.length ≤ lineS then some (.non, μ.set n (some (.lst (ds ++ es)))) else none
    | _, _ => none
  | _ => none
section
variable {c : Cz} {K : PySem.W.Frag} {mg : Str → Option Value}
theorem obL_ok {ι : List Addr} {μ : Mu} {H : Hp} {d : D} {v : V} {n : Nat} {ds : List D} (k : Ok c ⟨ι, μ, H⟩) (r : Rep c ⟨ι, μ, H⟩ d v) (h : obL d μ = some (n, ds)) :
    ∃ a vs, v = .ref a ∧ H a = some (.lst vs) ∧ Reps c ⟨ι, μ, H⟩ ds vs ∧ μ[n]? = some (some (.lst ds)) ∧ ι[n]? = some a := by
  unfold obL at h
  split at h
  · cases r with
    | ob h1 =>
      split at h
      · rename_i es q
        cases h
        obtain ⟨a, e1, vs, e2, r2⟩ := k.obj _ _ q
        rw [h1] at e1
        cases e1
        exact ⟨_, _, rfl, e2, r2, q, h1⟩
      · cases h
  · cases h
theorem r_append : RMM T K mg fAppend rAppend := fun pv ι μ μ' H x d xs v vs Q k rx rs e q => by
  unfold fAppend at e
  split at e
  · rename_i y
    obtain ⟨w, rfl, r1⟩ := reps1 rs
    split at e
    · rename_i n ds h
      obtain ⟨a, vs, rfl, h1, r2, h3, h4⟩ := obL_ok k rx h
      split at e
      · rename_i hl
        cases e
        obtain ⟨k2, x2⟩ := put_mut k h3 h4 (r2.append (.cons r1 .nil))
        exact ⟨a, vs, w, rfl, rfl, h1, by rw [← r2.length, ← lineS_ok]; exact hl, q _ _ _ k2 x2 .non⟩
      · cases e
    · cases e
  · cases e
theorem r_pop : RMM T K mg fPop rPop := fun pv ι μ μ' H x d xs v vs Q k rx rs e q => by
  unfold fPop at e
  split at e
  · cases rs
    split at e
    · rename_i n ds h
      obtain ⟨a, vs, rfl, h1, r2, h3, h4⟩ := obL_ok k rx h
      split at e
      · rename_i y hy
        cases e
        obtain ⟨w, e1, rw_⟩ := r2.get hy
        obtain ⟨k2, x2⟩ := put_mut k h3 h4 r2.dropLast
        exact ⟨a, vs, w, rfl, rfl, h1, by rw [← r2.length]; exact e1, q _ _ _ k2 x2 (rw_.aft k x2)⟩
      · cases e
    · cases e
  · cases e
theorem r_extend : RMM T K mg fExtend rExtend := fun pv ι μ μ' H x d xs v vs Q k rx rs e q => by
  unfold fExtend at e
  split at e
  · rename_i y
    obtain ⟨w, rfl, r1⟩ := reps1 rs
    split at e
    · rename_i n ds es h hy
      obtain ⟨a, vs, rfl, h1, r2, h3, h4⟩ := obL_ok k rx h
      obtain ⟨b, ws, rfl, h5, r5⟩ := lst_at k r1 hy
      split at e
      · rename_i hl
        cases e
        obtain ⟨k2, x2⟩ := put_mut k h3 h4 (r2.append r5)
        exact ⟨a, b, vs, ws, rfl, rfl, h1, h5, by rw [← r2.length, ← r5.length, ← lineS_ok]; exact hl, q _ _ _ k2 x2 .non⟩
      · cases e
    · cases e
  · cases e
end

/-! ### slices -/
def dSl (x : D) (lo hi : Option Int) (μ : Mu) : Option D := match x with
  | .str z => if z.length ≤ lineS then some (.str (cutS z lo hi)) else none
  | .tup ds => some (.tup ((ds.drop (HT.sIx ds.length 0 lo)).take (HT.sIx ds.length ds.length hi - HT.sIx ds.length 0 lo)))
  | x => match asQ x μ with
    | some ds => some (.lst ((ds.drop (HT.sIx ds.length 0 lo)).take (HT.sIx ds.length ds.length hi - HT.sIx ds.length 0 lo)))
    | none => none
/-- a bound: a number, or none -/
def partOf (d : D) : Option (Option Int) := match d with
  | .int i => some (some i)
  | .non => some none
  | _ => none
def mPart (a : ME) : ME := fun ρ μ => bindO (a ρ μ) fun d μ1 => match d with
  | .int i => some (.ok (.int i) μ1)
  | _ => none
def mSl (x lo hi : ME) : ME := fun ρ μ => bindO (x ρ μ) fun d μ1 => bindO (lo ρ μ1) fun l μ2 => match partOf l with
  | none => none
  | some l => bindO (hi ρ μ2) fun h μ3 => match partOf h with
    | none => none
    | some h => retV (dSl d l h μ3) μ3
section
variable {X : Cx} {W : WX}
def tO (c : List Addr → Cz) (W : WX) (m : ME) : TO := fun σ H Q => tE c W m σ H fun v H' => ∃ o, (v = .non ∧ o = none ∨ ∃ i, v = .int i ∧ o = some i) ∧ Q o H'
abbrev OM (T : List (Addr × Str)) (X : Cx) (W : WX) (e : Option Expr) (m : ME) : Prop := PO X e (tO (cz T X) W m)
theorem PO.mono {e : Option Expr} {t t' : TO} (h : PO X e t) (i : ∀ σ H Q, t' σ H Q → t σ H Q) : PO X e t' := ⟨fun pins s σ H Q I q => h.run pins s σ H Q I (i σ H Q q)⟩
theorem om_none : OM T X W none (mC .non) := PO.mono po_none fun σ H Q ⟨pv, ι, μ, ρ, k, rr, h⟩ => by
  obtain ⟨o, e, q⟩ := Ret.val h k .non
  rcases e with ⟨_, rfl⟩ | ⟨i, e, _⟩
  · exact q
  · cases e
theorem om_some {e : Expr} {m : ME} (he : EM T X W e m) : OM T X W (some e) (mPart m) := PO.mono (po_some he) fun σ H Q ⟨pv, ι, μ, ρ, k, rr, h⟩ => ⟨pv, ι, μ, ρ, k, rr, (Ret.bind h).mono fun v H1 ⟨ι1, μ1, x, k1, x1, r1, h1⟩ => by
  match x, r1, h1 with
  | .int i, .int _, h1 =>
    obtain ⟨o, e, q⟩ := h1 ι1 H1 (.int i) k1 (Aft.refl _) (.int i)
    rcases e with ⟨e, _⟩ | ⟨j, e, rfl⟩
    · cases e
    · cases e
      exact ⟨i, rfl, q⟩⟩
theorem sl_all : SlR X (fun x lo hi H Q => L2.rSlS x lo hi H Q ∨ rSlA X.K x lo hi H Q ∨ rSlL X.K x lo hi H Q) := SlR.or sl_str (SlR.or sl_tupA sl_list)
theorem part_ok {c : Cz} {s : SS} {d : D} {v : V} {o : Option Int} (r : Rep c s d v) (h : partOf d = some o) : v = .non ∧ o = none ∨ ∃ i, v = .int i ∧ o = some i := by
  cases r <;> first | (cases h; done) | skip
  · cases h
    exact .inl ⟨rfl, rfl⟩
  · cases h
    exact .inr ⟨_, rfl, rfl⟩
theorem part_inj {v : V} {o o' : Option Int} (h : v = .non ∧ o = none ∨ ∃ i, v = .int i ∧ o = some i) (h' : v = .non ∧ o' = none ∨ ∃ i, v = .int i ∧ o' = some i) : o = o' := by
  rcases h with ⟨rfl, rfl⟩ | ⟨i, rfl, rfl⟩
  · rcases h' with ⟨_, rfl⟩ | ⟨i, e, _⟩
    · rfl
    · cases e
  · rcases h' with ⟨e, _⟩ | ⟨j, e, rfl⟩
    · cases e
    · cases e
      rfl
theorem cut_reps {c : Cz} {s : SS} {ds : List D} {vs : List V} (lo hi : Option Int) (r : Reps c s ds vs) : Reps c s ((ds.drop (HT.sIx ds.length 0 lo)).take (HT.sIx ds.length ds.length hi - HT.sIx ds.length 0 lo)) (cutV vs lo hi) := by
  unfold cutV
  rw [← r.length]
  exact Reps.take _ (Reps.drop _ r)
theorem cut_whole {ds : List D} {n : Nat} {lo hi : Option Int} (hn : ds.length = n) (z : HT.sIx n 0 lo = 0 ∧ HT.sIx n n hi = n) : (ds.drop (HT.sIx ds.length 0 lo)).take (HT.sIx ds.length ds.length hi - HT.sIx ds.length 0 lo) = ds := by
  rw [hn, z.1, z.2, Nat.sub_zero, List.drop_zero, ← hn, List.take_length]
theorem em_slice {e : Expr} {lo hi : Option Expr} {mx ml mh : ME} {p2 pos : Pos} (he : EM T X W e mx) (hl : OM T X W lo ml) (hh : OM T X W hi mh) : EM T X W (.Subscript e (.Slice lo hi none p2) pos) (mSl mx ml mh) :=
  PE.mono (pe_slice sl_all he hl hh) fun σ H Q ⟨pv, ι, μ, ρ, k, rr, h⟩ => ⟨pv, ι, μ, ρ, k, rr, (Ret.bind h).mono fun v H1 ⟨ι1, μ1, x, k1, x1, r1, h1⟩ =>
    ⟨pv, ι1, μ1, ρ, k1, rr.aft k x1, (Ret.bind h1).mono fun vl H2 ⟨ι2, μ2, l, k2, x2, r2, h2⟩ => by
      (try dsimp only at h2)
      cases el : partOf l with
      | none =>
        rw [el] at h2
        exact h2.elim
      | some lo =>
        rw [el] at h2
        (try dsimp only at h2)
        refine ⟨lo, part_ok r2 el, pv, ι2, μ2, ρ, k2, (rr.aft k x1).aft k1 x2, (Ret.bind h2).mono fun vh H3 ⟨ι3, μ3, hd, k3, x3, r3, h3⟩ => ?_⟩
        (try dsimp only at h3)
        cases eh : partOf hd with
        | none =>
          rw [eh] at h3
          exact h3.elim
        | some hi =>
          rw [eh] at h3
          refine ⟨hi, part_ok r3 eh, ?_⟩
          simp only at h3
          cases ed : dSl x lo hi μ3 with
          | none =>
            rw [ed] at h3
            exact h3.elim
          | some d =>
            rw [ed] at h3
            have r1' := (r1.aft k1 x2).aft k2 x3
            unfold dSl at ed
            split at ed
            · cases r1'
              split at ed
              · rename_i hz
                cases ed
                exact .inl ⟨_, rfl, by rw [← lineS_ok]; exact hz, h3 ι3 H3 _ k3 (Aft.refl _) (.str _)⟩
              · cases ed
            · obtain ⟨a, vs, rfl, q, rs⟩ := tup_at r1'
              cases ed
              have rc := cut_reps lo hi rs
              refine .inr (.inl ⟨a, vs, rfl, q, fun z => ?_, fun z p hp => ?_⟩)
              · refine h3 ι3 H3 _ k3 (Aft.refl _) ?_
                rw [cut_whole rs.length z]
                exact .tup q rs
              · obtain ⟨k4, x4, nl⟩ := new_obj (o := .tup (cutV vs lo hi)) k3 hp
                exact h3 ι3 _ _ k4 x4 (.tup (SqT.of upd_same) (rc.aft k3 x4))
            · split at ed
              · rename_i ds e1
                obtain ⟨a, vs, rfl, q, rs⟩ := seq_at k3 r1' e1
                cases ed
                refine .inr (.inr ⟨a, vs, rfl, q, fun p hp => ?_⟩)
                obtain ⟨k4, x4, nl⟩ := new_obj (o := .lst (cutV vs lo hi)) k3 hp
                exact h3 ι3 _ _ k4 x4 (.lst upd_same nl ((cut_reps lo hi rs).aft k3 x4))
              · cases ed⟩⟩
end
end MV

set_option Elab.async false
set_option linter.all false
set_option maxRecDepth 100000
set_option maxHeartbeats 4000000
/-! MV7: statements; own functions -/
namespace MV
open PySem L2
variable {T : List (Addr × Str)}

inductive Fl where
  | nx (ρ : Rho) (μ : Mu)
  | rt (d : D) (μ : Mu)
  | bk (ρ : Rho) (μ : Mu)
  | ct (ρ : Rho) (μ : Mu)
  | ex (x : Str) (a : Option D) (ρ : Rho) (μ : Mu)
abbrev MS := Rho → Mu → Option Fl
def RetS (c : Cz) (s : SS) (o : Option Fl) (Dn : Ends) (W : WX) : Prop :=
  match o with
  | none => False
  | some (.nx ρ μ) => ∀ (ι : List Addr) (H : Hp) (σ : L2.St), Ok c ⟨ι, μ, H⟩ → Aft s ⟨ι, μ, H⟩ → RR c ⟨ι, μ, H⟩ ρ σ → Dn.nx σ H
  | some (.rt d μ) => ∀ (ι : List Addr) (H : Hp) (v : V), Ok c ⟨ι, μ, H⟩ → Aft s ⟨ι, μ, H⟩ → Rep c ⟨ι, μ, H⟩ d v → Dn.rt v H
  | some (.bk ρ μ) => ∀ (ι : List Addr) (H : Hp) (σ : L2.St), Ok c ⟨ι, μ, H⟩ → Aft s ⟨ι, μ, H⟩ → RR c ⟨ι, μ, H⟩ ρ σ → Dn.bk σ H
  | some (.ct ρ μ) => ∀ (ι : List Addr) (H : Hp) (σ : L2.St), Ok c ⟨ι, μ, H⟩ → Aft s ⟨ι, μ, H⟩ → RR c ⟨ι, μ, H⟩ ρ σ → Dn.ct σ H
  | some (.ex x a ρ μ) => ∀ (ι : List Addr) (H : Hp) (σ : L2.St) (C : Addr) (ed : Option Addr), Ok c ⟨ι, μ, H⟩ → Aft s ⟨ι, μ, H⟩ → RR c ⟨ι, μ, H⟩ ρ σ → ExAt c ⟨ι, μ, H⟩ x a C ed → W (.ref C) ed σ H
theorem RetS.from {c : Cz} {s s1 : SS} {o : Option Fl} {Dn : Ends} {W : WX} (h : RetS c s o Dn W) (x : Aft s s1) : RetS c s1 o Dn W := by
  match o, h with
  | some (.nx ρ μ), h => exact fun ι H σ a b r => h ι H σ a (x.trans b) r
  | some (.rt d μ), h => exact fun ι H σ a b r => h ι H σ a (x.trans b) r
  | some (.bk ρ μ), h => exact fun ι H σ a b r => h ι H σ a (x.trans b) r
  | some (.ct ρ μ), h => exact fun ι H σ a b r => h ι H σ a (x.trans b) r
  | some (.ex y e ρ μ), h => exact fun ι H σ C ed a b r => h ι H σ C ed a (x.trans b) r
def tS (c : List Addr → Cz) (W : WX) (m : MS) : TS := fun Dn σ H => ∃ (pv ι : List Addr) (μ : Mu) (ρ : Rho), Ok (c pv) ⟨ι, μ, H⟩ ∧ RR (c pv) ⟨ι, μ, H⟩ ρ σ ∧ RetS (c pv) ⟨ι, μ, H⟩ (m ρ μ) Dn W
abbrev SM (T : List (Addr × Str)) (X : Cx) (W : WX) (st : Stmt) (m : MS) : Prop := PS X st (tS (cz T X) W m)
abbrev BM (T : List (Addr × Str)) (X : Cx) (W : WX) (st : List Stmt) (m : MS) : Prop := PSs X st (tS (cz T X) W m)
/-- what a statement does of an expression's outcome -/
def bindS (o : Option Out) (ρ : Rho) (k : D → Mu → Option Fl) : Option Fl :=
  match o with
  | none => none
  | some (.ok d μ) => k d μ
  | some (.ex x a μ) => some (.ex x a ρ μ)
section
variable {c : Cz} {s : SS} {o : Option Out} {ρ : Rho} {k : D → Mu → Option Fl} {Dn : Ends} {W : WX} {σ : L2.St}
theorem RetS.bind (ko : Ok c s) (rr : RR c s ρ σ) (h : RetS c s (bindS o ρ k) Dn W) :
    Ret c s o (fun v H => ∃ (ι : List Addr) (μ : Mu) (d : D), Ok c ⟨ι, μ, H⟩ ∧ Aft s ⟨ι, μ, H⟩ ∧ Rep c ⟨ι, μ, H⟩ d v ∧ RetS c ⟨ι, μ, H⟩ (k d μ) Dn W) (fun cls d H => W cls d σ H) := by
  match o, h with
  | some (.ok d μ), h => exact fun ι H v a b r => ⟨ι, μ, d, a, b, r, RetS.from h b⟩
  | some (.ex x a μ), h => exact fun ι H C ed k b e => h ι H σ C ed k b (rr.aft ko b) e
end

def sNext : MS := fun ρ μ => some (.nx ρ μ)
def sBreak : MS := fun ρ μ => some (.bk ρ μ)
def sCont : MS := fun ρ μ => some (.ct ρ μ)
def sSeq (a b : MS) : MS := fun ρ μ => match a ρ μ with
  | some (.nx ρ1 μ1) => b ρ1 μ1
  | r => r
def sDrop (m : ME) : MS := fun ρ μ => bindS (m ρ μ) ρ fun _ μ1 => some (.nx ρ μ1)
def sRet (m : ME) : MS := fun ρ μ => bindS (m ρ μ) ρ fun d μ1 => some (.rt d μ1)
def sRetN : MS := fun _ μ => some (.rt .non μ)
def sAsg (m : ME) (g : MG) : MS := fun ρ μ => bindS (m ρ μ) ρ fun d μ1 => match g.put d ρ with
  | some ρ1 => some (.nx ρ1 μ1)
  | none => none
def sIf (t : ME) (a b : MS) : MS := fun ρ μ => bindS (t ρ μ) ρ fun d μ1 => match d with
  | .bl true => a ρ μ1
  | .bl false => b ρ μ1
  | _ => none
section
variable {X : Cx} {W : WX}
theorem sm_pass {pos : Pos} : SM T X W (.Pass pos) sNext := PS.mono ps_pass fun Dn σ H ⟨pv, ι, μ, ρ, k, rr, h⟩ => h ι H σ k (Aft.refl _) rr
theorem sm_break {pos : Pos} : SM T X W (.Break pos) sBreak := PS.mono ps_break fun Dn σ H ⟨pv, ι, μ, ρ, k, rr, h⟩ => h ι H σ k (Aft.refl _) rr
theorem sm_continue {pos : Pos} : SM T X W (.Continue pos) sCont := PS.mono ps_continue fun Dn σ H ⟨pv, ι, μ, ρ, k, rr, h⟩ => h ι H σ k (Aft.refl _) rr
theorem bm_nil : BM T X W [] sNext := PSs.mono pss_nil fun Dn σ H ⟨pv, ι, μ, ρ, k, rr, h⟩ => h ι H σ k (Aft.refl _) rr
theorem bm_one {st : Stmt} {m : MS} (h : SM T X W st m) : BM T X W [st] m := pss_one h
theorem bm_cons {st : Stmt} {rest : List Stmt} {a b : MS} (h1 : SM T X W st a) (h2 : BM T X W rest b) : BM T X W (st :: rest) (sSeq a b) := PSs.mono (pss_cons h1 h2) fun Dn σ H ⟨pv, ι, μ, ρ, k, rr, h⟩ => by
  refine ⟨pv, ι, μ, ρ, k, rr, ?_⟩
  unfold sSeq at h
  match e : a ρ μ, h with
  | some (.nx ρ1 μ1), h => exact fun ι1 H1 σ1 k1 x1 r1 => ⟨pv, ι1, μ1, ρ1, k1, r1, RetS.from h x1⟩
  | some (.rt d μ1), h => exact h
  | some (.bk ρ1 μ1), h => exact h
  | some (.ct ρ1 μ1), h => exact h
  | some (.ex x y ρ1 μ1), h => exact h
  | none, h => exact h
theorem sm_expr {e : Expr} {m : ME} {pos : Pos} (he : EM T X W e m) (hs : swapsWith e none pos.line X.env = pure false := by rfl) : SM T X W (.Expr e pos) (sDrop m) := PS.mono (ps_expr he hs) fun Dn σ H ⟨pv, ι, μ, ρ, k, rr, h⟩ =>
  ⟨pv, ι, μ, ρ, k, rr, (RetS.bind k rr h).mono fun v H1 ⟨ι1, μ1, d, k1, x1, r1, h1⟩ => h1 ι1 H1 σ k1 (Aft.refl _) (rr.aft k x1)⟩
theorem sm_ret {e : Expr} {m : ME} {pos : Pos} (he : EM T X W e m) : SM T X W (.Return (some e) pos) (sRet m) := PS.mono (ps_ret he) fun Dn σ H ⟨pv, ι, μ, ρ, k, rr, h⟩ =>
  ⟨pv, ι, μ, ρ, k, rr, (RetS.bind k rr h).mono fun v H1 ⟨ι1, μ1, d, k1, x1, r1, h1⟩ => h1 ι1 H1 v k1 (Aft.refl _) r1⟩
theorem sm_retN {pos : Pos} : SM T X W (.Return none pos) sRetN := PS.mono ps_retN fun Dn σ H ⟨pv, ι, μ, ρ, k, rr, h⟩ => h ι H .non k (Aft.refl _) .non
theorem asg_sim {m : ME} {g : MG} {te : TE} {Dn : Ends} {σ : L2.St} {H : Hp} (i : ∀ Q, tE (cz T X) W m σ H Q → te σ H Q) (h : tS (cz T X) W (sAsg m g) Dn σ H) : tAsg te (tG (cz T X) g) Dn σ H := by
  obtain ⟨pv, ι, μ, ρ, k, rr, h⟩ := h
  refine i _ ⟨pv, ι, μ, ρ, k, rr, (RetS.bind k rr h).mono fun v H1 ⟨ι1, μ1, d, k1, x1, r1, h1⟩ => ?_⟩
  (try dsimp only at h1)
  cases e : g.put d ρ with
  | none =>
    rw [e] at h1
    exact h1.elim
  | some ρ1 =>
    rw [e] at h1
    exact ⟨pv, ι1, μ1, ρ, ρ1, d, k1, rr.aft k x1, r1, e, fun σ' rr' _ => h1 ι1 H1 σ' k1 (Aft.refl _) rr'⟩
theorem sm_asg {tg e : Expr} {m : ME} {g : MG} {pos : Pos} (he : EM T X W e m) (hg : GM T X tg g) (hs : swapsWithSole [tg] e pos.line X.env = pure false := by rfl) (hw : swappedStores [tg] e X.env = pure none := by rfl) (h1 : (assignEach [tg] X.env).map (·.2) = [assign tg X.env] := by rfl) : SM T X W (.Assign [tg] e pos) (sAsg m g) :=
  PS.mono (ps_asg he hg hs hw h1) fun Dn σ H h => asg_sim (fun _ q => q) h
theorem sm_setLc {i : Nat} {y : Str} {py : Pos} {elt tg iter : Expr} {ifs : List Expr} {scope : Scope} {own : List (Str × Nat)} {pos spos : Pos} {mi : MA} {g : MG} {mt me : ME} (hc : X.calm = true) (hN : X.N.Nodup) (hy : X.N[i]? = some y) (hyl : X.env.scope.names.lookup y = some .local)
    (hsw : swapsWith (.ListComp elt [⟨tg, iter, ifs, 0⟩] scope pos) (some (.Name y py)) spos.line X.env = pure true) (hi : IM T X W tg iter mi) (ok : BlkOk X.N X.env.scope scope own)
    (hsub : ∀ i ∈ g.slots, i ∈ own.map (·.2))
    (hg : ∀ (s : Shared) (H : Hp) (C : Addr) (cl : List (Str × Addr)) (fp : List Addr), GM T (X.blk s H scope (compEnvC scope cl C X.env) fp) tg g)
    (ht : ∀ (s : Shared) (H : Hp) (C : Addr) (cl : List (Str × Addr)) (fp : List Addr), PTs (X.blk s H scope (compEnvC scope cl C X.env) fp) ifs (tB (tE (cz T X) W0 mt)))
    (he : ∀ (s : Shared) (H : Hp) (C : Addr) (cl : List (Str × Addr)) (fp : List Addr), EM T (X.blk s H scope (compEnvC scope cl C X.env) fp) W0 elt me) (fin : ME) (hf : fin = mLc (own.map (·.2)) mi g mt me ∨ fin = mLcM (own.map (·.2)) mi g mt me)
    (hs : ∀ x, foldedSetIterable iter X.env x = pure x := by intro _; rfl) : SM T X W (.Assign [.Name y py] (.ListComp elt [⟨tg, iter, ifs, 0⟩] scope pos) spos) (sAsg fin (gN i)) :=
  PS.mono (ps_setLc hc hN hy hyl hsw hi ok hg ht he hs) fun Dn σ H h => by
    have h2 := asg_sim (X := X) (te := tLc (tIt (cz T X) W mi) (tG (cz T X) g) (tB (tE (cz T X) W0 mt)) (tE (cz T X) W0 me) (own.map (·.2))) (fun Q q => lc_sim hsub fin hf q) h
    -- the target is a plain name
    obtain ⟨pv, ι, μ, ρ, k, rr, h⟩ := h
    refine lc_sim hsub fin hf ⟨pv, ι, μ, ρ, k, rr, (RetS.bind k rr h).mono fun v H1 ⟨ι1, μ1, d, k1, x1, r1, h1⟩ => ?_⟩
    exact h1 ι1 H1 (σ.set i (some v)) k1 (Aft.refl _) ((rr.aft k x1).set r1)
theorem sm_if {t : Expr} {a b : List Stmt} {mt : ME} {ma mb : MS} {pos : Pos} (ht : TM T X W t mt) (ha : BM T X W a ma) (hb : BM T X W b mb) : SM T X W (.If t a b pos) (sIf mt ma mb) := PS.mono (ps_if ht ha hb) fun Dn σ H ⟨pv, ι, μ, ρ, k, rr, h⟩ =>
  ⟨pv, ι, μ, ρ, k, rr, (RetS.bind k rr h).mono fun v H1 ⟨ι1, μ1, d1, k1, x1, r1, h1⟩ => by
    match d1, r1, h1 with
    | .bl true, .bl _, h1 => exact ⟨true, rfl, pv, ι1, μ1, ρ, k1, rr.aft k x1, h1⟩
    | .bl false, .bl _, h1 => exact ⟨false, rfl, pv, ι1, μ1, ρ, k1, rr.aft k x1, h1⟩⟩

/-! ### a op= e on a name -/
def sAug (i : Nat) (f : D → D → Mu → Option D) (m : ME) : MS := fun ρ μ => match ρ[i]? with
  | some (some x) => bindS (m ρ μ) ρ fun y μ1 => match f x y μ1 with
    | some d => some (.nx (ρ.set i (some d)) μ1)
    | none => none
  | _ => none
theorem sm_aug {i : Nat} {x : Str} {e : Expr} {op : Operator} {r : R2} {f : D → D → Mu → Option D} {m : ME} {pos' pos : Pos} (hN : X.N.Nodup) (hi : X.N[i]? = some x) (hx : Loc X.env.scope x) (he : EM T X W e m) (ho : OpR X (inplaceOp op) r) (hr : R2M T X.K X.mg f r)
    (hf : X.fn x = true ∨ X.env.scope.names.lookup x = some .local := by first | exact .inl rfl | exact .inr rfl | assumption) : SM T X W (.AugAssign (.Name x pos') op e pos) (sAug i f m) :=
  PS.mono (ps_aug hN hi hx he (fun pins s σ H x y v u Q I rx ry h => ho pins s σ H x y v u Q I rx ry h) hf) fun Dn σ H ⟨pv, ι, μ, ρ, k, rr, h⟩ => by
    unfold sAug at h
    match e : ρ[i]?, h with
    | some (some d0), h =>
      obtain ⟨v0, e0, r0⟩ := rr.2 i d0 e
      refine ⟨v0, e0, pv, ι, μ, ρ, k, rr, (RetS.bind k rr h).mono fun v H1 ⟨ι1, μ1, d1, k1, x1, r1, h1⟩ => ?_⟩
      (try dsimp only at h1)
      cases ef : f d0 d1 μ1 with
      | none =>
        rw [ef] at h1
        exact h1.elim
      | some d2 =>
        rw [ef] at h1
        exact hr pv ι1 μ1 H1 d0 d1 d2 v0 v _ k1 (r0.aft k x1) r1 ef fun H' z k' x' r' => h1 ι1 H' _ k' x' (((rr.aft k x1).aft k1 x').set r')

/-! ### x[i] = e, x a list that changes -/
def sPut (e o i : ME) : MS := fun ρ μ => bindS (e ρ μ) ρ fun v μ1 => bindS (o ρ μ1) ρ fun x μ2 => bindS (i ρ μ2) ρ fun j μ3 => match j with
  | .int j => match obL x μ3 with
    | some (n, ds) => match ixN ds.length j with
      | some q => some (.nx ρ (μ3.set n (some (.lst (ds.set q v)))))
      | none => none
    | none => none
  | _ => none
theorem sm_put {e o i : Expr} {me mo mi : ME} {p pos : Pos} (he : EM T X W e me) (ho : EM T X W o mo) (hi : EM T X W i mi)
    (ha : ∀ v, assign (.Subscript o i p) X.env v = (do
      let ov ← holding [v] (eval o X.env)
      let iv ← holding [v, ov] (eval i X.env)
      standAt p
      holding [v, ov, iv] (setItem ov iv v)
      release [v, ov, iv] []) := by intro _; rfl)
    (hs : swapsWithSole [.Subscript o i p] e pos.line X.env = pure false := by rfl) (hw : swappedStores [.Subscript o i p] e X.env = pure none := by rfl) : SM T X W (.Assign [.Subscript o i p] e pos) (sPut me mo mi) :=
  PS.mono (ps_asg he (pg_sub ho hi set_list ha) hs hw) fun Dn σ H ⟨pv, ι, μ, ρ, k, rr, h⟩ =>
    ⟨pv, ι, μ, ρ, k, rr, (RetS.bind k rr h).mono fun v H1 ⟨ι1, μ1, d1, k1, x1, r1, h1⟩ =>
      ⟨pv, ι1, μ1, ρ, k1, rr.aft k x1, (RetS.bind k1 (rr.aft k x1) h1).mono fun v2 H2 ⟨ι2, μ2, d2, k2, x2, r2, h2⟩ =>
        ⟨pv, ι2, μ2, ρ, k2, (rr.aft k x1).aft k1 x2, (RetS.bind k2 ((rr.aft k x1).aft k1 x2) h2).mono fun v3 H3 ⟨ι3, μ3, d3, k3, x3, r3, h3⟩ => by
          (try dsimp only at h3)
          split at h3
          · rename_i j
            cases r3
            split at h3
            · rename_i n ds h
              obtain ⟨a, vs, rfl, e1, rs, e3, e4⟩ := obL_ok k3 (r2.aft k2 x3) h
              split at h3
              · rename_i q eq
                have r1' := ((r1.aft k1 x2).aft k2 x3)
                obtain ⟨k4, x4⟩ := put_mut k3 e3 e4 (Reps.set r1' q rs)
                refine ⟨a, vs, j, q, rfl, rfl, e1, by rw [← rs.length]; exact eq, ?_⟩
                exact h3 ι3 _ σ k4 x4 ((((rr.aft k x1).aft k1 x2).aft k2 x3).aft k3 x4)
              · exact h3.elim
            · exact h3.elim
          · exact h3.elim⟩⟩⟩

/-! ### for -/
def forLoop (g : MG) (body : MS) : List D → Rho → Mu → Option Fl
  | [], ρ, μ => some (.nx ρ μ)
  | d :: ds, ρ, μ => match g.put d ρ with
    | none => none
    | some ρ1 => match body ρ1 μ with
      | some (.nx ρ2 μ2) => forLoop g body ds ρ2 μ2
      | some (.ct ρ2 μ2) => forLoop g body ds ρ2 μ2
      | some (.bk ρ2 μ2) => some (.nx ρ2 μ2)
      | r => r
def sFor (mi : MA) (g : MG) (body : MS) : MS := fun ρ μ => match mi ρ μ with
  | none => none
  | some (.ok ds μ1) => forLoop g body ds ρ μ1
  | some (.ex x a μ1) => some (.ex x a ρ μ1)
theorem sm_for {tg iter : Expr} {body : List Stmt} {mi : MA} {g : MG} {mb : MS} {pos : Pos} (hp : PassesOwn (model X.prog X.w) X.A X.env X.xe) (hc : X.calm = true) (hi : IM T X W tg iter mi) (hg : GM T X tg g) (hb : BM T X W body mb)
    (hs : ∀ x, foldedSetIterable iter X.env x = pure x := by intro _; rfl) : SM T X W (.For tg iter body [] pos) (sFor mi g mb) :=
  PS.mono (ps_for hp hc hi hg hb hs) fun Dn σ H ⟨pv, ι, μ, ρ, k, rr, h⟩ => by
    refine ⟨pv, ι, μ, ρ, k, rr, ?_⟩
    unfold sFor at h
    match e : mi ρ μ, h with
    | none, h => exact h.elim
    | some (.ex x a μ1), h => exact fun ι1 H1 C ed k1 x1 e1 => h ι1 H1 σ C ed k1 x1 (rr.aft k x1) e1
    | some (.ok ds μ1), h =>
      intro ι1 H1 J cm k1 x1 c1 it1
      have h' := RetS.from h x1
      clear h
      (try dsimp only at h')
      refine ⟨fun i m σ' H' => i + m = ds.length ∧ ∃ (ι2 : List Addr) (μ2 : Mu) (ρ2 : Rho), Ok (cz T X pv) ⟨ι2, μ2, H'⟩ ∧ Aft ⟨ι1, μ1, H1⟩ ⟨ι2, μ2, H'⟩ ∧ RR (cz T X pv) ⟨ι2, μ2, H'⟩ ρ2 σ' ∧ RetS (cz T X pv) ⟨ι2, μ2, H'⟩ (forLoop g mb (ds.drop i) ρ2 μ2) Dn W,
        ⟨ds.length, by omega, ι1, μ1, ρ, k1, Aft.refl _, rr.aft k x1, h'⟩, fun i m σ' H' hw => ?_⟩
      obtain ⟨him, ι2, μ2, ρ2, k2, x2, rr2, h2⟩ := hw
      by_cases hi : i < ds.length
      · refine .inr ⟨it1.go i ⟨ι2, μ2, H'⟩ x2 hi, fun σ3 H3 => ∃ (ι3 : List Addr) (μ3 : Mu) (ρ3 : Rho), Ok (cz T X pv) ⟨ι3, μ3, H3⟩ ∧ Aft ⟨ι1, μ1, H1⟩ ⟨ι3, μ3, H3⟩ ∧ RR (cz T X pv) ⟨ι3, μ3, H3⟩ ρ3 σ3 ∧ RetS (cz T X pv) ⟨ι3, μ3, H3⟩ (forLoop g mb (ds.drop (i + 1)) ρ3 μ3) Dn W,
          fun σ3 H3 hN => ⟨m - 1, by omega, by omega, hN⟩, fun x H3 hy => ?_⟩
        have ed : ds[i]? = some ds[i] := List.getElem?_eq_getElem hi
        obtain ⟨k3, x3, rx⟩ := it1.yld pv i ι2 μ2 H' H3 x ds[i] k2 x2 (fun q hq => (c1 q hq).aft k1 x2) ed hy
        rw [List.drop_eq_getElem_cons hi] at h2
        simp only [forLoop] at h2
        cases eg : g.put ds[i] ρ2 with
        | none =>
          rw [eg] at h2
          exact h2.elim
        | some ρ3 =>
          rw [eg] at h2
          refine ⟨pv, ι2, μ2, ρ2, ρ3, ds[i], k3, rr2.aft k2 x3, rx, eg, fun σ4 rr4 _ => ⟨pv, ι2, μ2, ρ3, k3, rr4, ?_⟩⟩
          have h3 := RetS.from h2 x3
          (try dsimp only at h3)
          match eb : mb ρ3 μ2, h3 with
          | some (.nx ρ5 μ5), h3 => exact fun ι5 H5 σ5 k5 x5 rr5 => ⟨ι5, μ5, ρ5, k5, (x2.trans x3).trans x5, rr5, RetS.from h3 x5⟩
          | some (.ct ρ5 μ5), h3 => exact fun ι5 H5 σ5 k5 x5 rr5 => ⟨ι5, μ5, ρ5, k5, (x2.trans x3).trans x5, rr5, RetS.from h3 x5⟩
          | some (.bk ρ5 μ5), h3 => exact h3
          | some (.rt d μ5), h3 => exact h3
          | some (.ex y z ρ5 μ5), h3 => exact h3
          | none, h3 => exact h3
      · have ei : i = ds.length := by omega
        subst ei
        rw [List.drop_length] at h2
        exact .inl ⟨it1.stop ⟨ι2, μ2, H'⟩ x2, h2 ι2 H' σ' k2 (Aft.refl _) rr2⟩

/-! ### while -/
def sWhile (t : ME) (b : MS) (ρ : Rho) (μ : Mu) : Option Fl :=
  match t ρ μ with
  | some (.ok (.bl true) μ1) => match b ρ μ1 with
    | some (.nx ρ2 μ2) => sWhile t b ρ2 μ2
    | some (.ct ρ2 μ2) => sWhile t b ρ2 μ2
    | some (.bk ρ2 μ2) => some (.nx ρ2 μ2)
    | r => r
  | some (.ok (.bl false) μ1) => some (.nx ρ μ1)
  | some (.ex x a μ1) => some (.ex x a ρ μ1)
  | _ => none
partial_fixpoint
/-- in so many turns -/
def whileN (t : ME) (b : MS) : Nat → Rho → Mu → Option Fl
  | 0, _, _ => none
  | n + 1, ρ, μ => match t ρ μ with
    | some (.ok (.bl true) μ1) => match b ρ μ1 with
      | some (.nx ρ2 μ2) => whileN t b n ρ2 μ2
      | some (.ct ρ2 μ2) => whileN t b n ρ2 μ2
      | some (.bk ρ2 μ2) => some (.nx ρ2 μ2)
      | r => r
    | some (.ok (.bl false) μ1) => some (.nx ρ μ1)
    | some (.ex x a μ1) => some (.ex x a ρ μ1)
    | _ => none
theorem while_turns (t : ME) (b : MS) : ∀ (ρ : Rho) (μ : Mu) (r : Fl), sWhile t b ρ μ = some r → ∃ n, whileN t b n ρ μ = some r := by
  refine sWhile.partial_correctness t b (fun ρ μ r => ∃ n, whileN t b n ρ μ = some r) fun f ih ρ μ r h => ?_
  match et : t ρ μ, h with
  | some (.ok (.bl true) μ1), h =>
    (try simp only [et] at h)
    match eb : b ρ μ1, h with
    | some (.nx ρ2 μ2), h =>
      obtain ⟨n, e⟩ := ih ρ2 μ2 r h
      exact ⟨n + 1, by simp only [whileN, et, eb]; exact e⟩
    | some (.ct ρ2 μ2), h =>
      obtain ⟨n, e⟩ := ih ρ2 μ2 r h
      exact ⟨n + 1, by simp only [whileN, et, eb]; exact e⟩
    | some (.bk ρ2 μ2), h => exact ⟨1, by simp only [whileN, et, eb]; exact h⟩
    | some (.rt d μ2), h => exact ⟨1, by simp only [whileN, et, eb]; exact h⟩
    | some (.ex x a ρ2 μ2), h => exact ⟨1, by simp only [whileN, et, eb]; exact h⟩
    | none, h => cases h
  | some (.ok (.bl false) μ1), h => exact ⟨1, by simp only [whileN, et]; exact h⟩
  | some (.ex x a μ1), h => exact ⟨1, by simp only [whileN, et]; exact h⟩
  | none, h | some (.ok .non _), h | some (.ok (.int _) _), h | some (.ok (.str _) _), h | some (.ok (.tup _) _), h | some (.ok (.lst _) _), h | some (.ok (.ro _) _), h | some (.ok (.ob _) _), h | some (.ok (.fn _) _), h => cases h
theorem sm_while {t : Expr} {body : List Stmt} {mt : ME} {mb : MS} {pos : Pos} (hp : PassesOwn (model X.prog X.w) X.A X.env X.xe) (ht : TM T X W t mt) (hb : BM T X W body mb) : SM T X W (.While t body [] pos) (sWhile mt mb) :=
  PS.mono (ps_while hp ht hb) fun Dn σ H ⟨pv, ι, μ, ρ, k, rr, h⟩ => by
    match e : sWhile mt mb ρ μ, h with
    | none, h => exact h.elim
    | some r, h =>
      obtain ⟨n, en⟩ := while_turns mt mb ρ μ r e
      refine ⟨fun m σ' H' => ∃ (ι2 : List Addr) (μ2 : Mu) (ρ2 : Rho), Ok (cz T X pv) ⟨ι2, μ2, H'⟩ ∧ Aft ⟨ι, μ, H⟩ ⟨ι2, μ2, H'⟩ ∧ RR (cz T X pv) ⟨ι2, μ2, H'⟩ ρ2 σ' ∧ whileN mt mb m ρ2 μ2 = some r, ⟨n, ι, μ, ρ, k, Aft.refl _, rr, en⟩, fun m σ' H' hw => ?_⟩
      obtain ⟨ι2, μ2, ρ2, k2, x2, rr2, hN⟩ := hw
      have hr := RetS.from h x2
      match m, hN with
      | m + 1, hN =>
        simp only [whileN] at hN
        refine ⟨pv, ι2, μ2, ρ2, k2, rr2, ?_⟩
        match et : mt ρ2 μ2, hN with
        | some (.ok (.bl true) μa), hN =>
          (try simp only [et] at hN)
          intro ι3 H3 v k3 x3 r3
          cases r3
          refine ⟨true, rfl, fun σ4 H4 => ∃ (ι4 : List Addr) (μ4 : Mu) (ρ4 : Rho), Ok (cz T X pv) ⟨ι4, μ4, H4⟩ ∧ Aft ⟨ι, μ, H⟩ ⟨ι4, μ4, H4⟩ ∧ RR (cz T X pv) ⟨ι4, μ4, H4⟩ ρ4 σ4 ∧ whileN mt mb m ρ4 μ4 = some r, fun σ4 H4 hn => ⟨m, Nat.lt_succ_self m, hn⟩, pv, ι3, μa, ρ2, k3, rr2.aft k2 x3, ?_⟩
          have hr3 := RetS.from hr x3
          match eb : mb ρ2 μa, hN with
          | some (.nx ρ5 μ5), hN =>
            (try simp only [eb] at hN)
            exact fun ι5 H5 σ5 k5 x5 rr5 => ⟨ι5, μ5, ρ5, k5, (x2.trans x3).trans x5, rr5, hN⟩
          | some (.ct ρ5 μ5), hN =>
            (try simp only [eb] at hN)
            exact fun ι5 H5 σ5 k5 x5 rr5 => ⟨ι5, μ5, ρ5, k5, (x2.trans x3).trans x5, rr5, hN⟩
          | some (.bk ρ5 μ5), hN =>
            (try simp only [eb] at hN)
            cases hN
            exact hr3
          | some (.rt d μ5), hN =>
            (try simp only [eb] at hN)
            cases hN
            exact hr3
          | some (.ex y z ρ5 μ5), hN =>
            (try simp only [eb] at hN)
            cases hN
            exact hr3
          | none, hN => cases hN
        | some (.ok (.bl false) μa), hN =>
          (try simp only [et] at hN)
          cases hN
          intro ι3 H3 v k3 x3 r3
          cases r3
          exact ⟨false, rfl, hr ι3 H3 σ' k3 x3 (rr2.aft k2 x3)⟩
        | some (.ex x a μa), hN =>
          (try simp only [et] at hN)
          cases hN
          exact fun ι3 H3 C ed k3 x3 e3 => hr ι3 H3 σ' C ed k3 x3 (rr2.aft k2 x3) e3
        | none, hN | some (.ok .non _), hN | some (.ok (.int _) _), hN | some (.ok (.str _) _), hN | some (.ok (.tup _) _), hN | some (.ok (.lst _) _), hN | some (.ok (.ro _) _), hN | some (.ok (.ob _) _), hN | some (.ok (.fn _) _), hN => cases hN

/-! ### a list that changed changes no more: nothing is done, the mirror alone tells it -/
def frz (i : Nat) (ρ : Rho) (μ : Mu) : Option (Rho × Mu) := match ρ[i]? with
  | some (some (.ob n)) => match μ[n]? with
    | some (some (.lst ds)) => some (ρ.set i (some (.lst ds)), μ.set n none)
    | _ => none
  | _ => none
def sFrz (i : Nat) (b : MS) : MS := fun ρ μ => match frz i ρ μ with
  | some (ρ1, μ1) => b ρ1 μ1
  | none => none
theorem set_same {α : Type} {l : List α} {i : Nat} {x : α} (e : l[i]? = some x) : l.set i x = l := by
  apply List.ext_getElem?
  intro j
  by_cases hj : i = j
  · subst hj
    rw [List.getElem?_set_self (List.getElem?_eq_some_iff.mp e).1, e]
  · rw [List.getElem?_set_ne hj]
theorem frz_ok {c : Cz} {ι : List Addr} {μ μ1 : Mu} {H : Hp} {ρ ρ1 : Rho} {σ : L2.St} {i : Nat} (k : Ok c ⟨ι, μ, H⟩) (rr : RR c ⟨ι, μ, H⟩ ρ σ) (h : frz i ρ μ = some (ρ1, μ1)) : Ok c ⟨ι, μ1, H⟩ ∧ Aft ⟨ι, μ, H⟩ ⟨ι, μ1, H⟩ ∧ RR c ⟨ι, μ1, H⟩ ρ1 σ := by
  unfold frz at h
  split at h
  · rename_i n e
    split at h
    · rename_i ds e2
      cases h
      obtain ⟨v, ev, r⟩ := rr.2 i _ e
      cases r with
      | ob ha =>
        obtain ⟨k2, x2, r2⟩ := freeze_mut k e2 ha
        refine ⟨k2, x2, ?_⟩
        have q := (rr.aft k x2).set (i := i) r2
        rw [set_same ev] at q
        exact q
    · cases h
  · cases h
theorem bm_frz {i : Nat} {sts : List Stmt} {b : MS} (h : BM T X W sts b) : BM T X W sts (sFrz i b) := PSs.mono h fun Dn σ H ⟨pv, ι, μ, ρ, k, rr, q⟩ => by
  unfold sFrz at q
  match e : frz i ρ μ, q with
  | some (ρ1, μ1), q =>
    obtain ⟨k2, x2, rr2⟩ := frz_ok k rr e
    (try simp only [e] at q)
    exact ⟨pv, ι, μ1, ρ1, k2, rr2, RetS.from q x2⟩
  | none, q =>
    (try simp only [e] at q)
    exact q.elim
end

/-! ### own functions -/
def mFn (n : Nat) (body : MS) : MF := fun ds μ => match body (ds.map some ++ List.replicate (n - ds.length) none) μ with
  | some (.nx _ μ1) => some (.ok .non μ1)
  | some (.rt d μ1) => some (.ok d μ1)
  | some (.ex x a _ μ1) => some (.ex x a μ1)
  | _ => none
def spM (T : List (Addr × Str)) (K : PySem.W.Frag) (mg : Str → Option Value) (n : Nat) (F : MF) : Sp := fun vs H Q E => vs.length = n ∧ ∃ (pv ι : List Addr) (μ : Mu) (ds : List D), Ok ⟨K, mg, pv, T⟩ ⟨ι, μ, H⟩ ∧ Reps ⟨K, mg, pv, T⟩ ⟨ι, μ, H⟩ ds vs ∧ Ret ⟨K, mg, pv, T⟩ ⟨ι, μ, H⟩ (F ds μ) Q E
theorem RR.start {c : Cz} {s : SS} {ds : List D} {vs : List V} (r : Reps c s ds vs) (N : List Str) : RR c s (ds.map some ++ List.replicate (N.length - ds.length) none) (L2.start N vs) := by
  unfold L2.start
  refine ⟨by rw [List.length_append, List.length_append, List.length_map, List.length_map, List.length_replicate, List.length_replicate, r.length], fun i d h => ?_⟩
  by_cases hi : i < ds.length
  · rw [List.getElem?_append_left (by rw [List.length_map]; exact hi), List.getElem?_map] at h
    cases e : ds[i]? with
    | none => rw [e] at h; cases h
    | some d' =>
      rw [e] at h
      cases h
      obtain ⟨v, e1, q⟩ := r.get e
      refine ⟨v, ?_, q⟩
      rw [List.getElem?_append_left (by rw [List.length_map, ← r.length]; exact hi), List.getElem?_map, e1]
      rfl
  · rw [List.getElem?_append_right (by rw [List.length_map]; omega), List.getElem?_replicate] at h
    split at h <;> cases h
/-- what stands around a body -/
structure Cok (X : Cx) (W : WX) (k : Nat) : Prop where
  calm : X.calm = true
  room : Room k X.A
  tk : Takes X W
  po : PassesOwn (model X.prog X.w) X.A X.env X.xe
  stk : X.stack = X.env :: X.outer
  frm : X.env.frame = some X.env.locals
/-- f keeps the promise that its mirror tells, at level k -/
abbrev FM (T : List (Addr × Str)) (P : Program) (w : World) (K : PySem.W.Frag) (mg : Str → Option Value) (base : Heap) (k : Nat) (f : Addr) (fd : FuncData) (ps : List Str) (F : MF) : Prop := FnOk P w K mg base (L2.CX P w) k f fd ps (spM T K mg ps.length F)
section
variable {P : Program} {w : World} {K : PySem.W.Frag} {mg : Str → Option Value} {base : Heap}
theorem body_ok {N ps : List Str} {st : List Stmt} {m : MS} {X : Cx} {E : XK} {vs : List V} {H : Hp} {Q : VK} (hK : X.K = K) (hm : X.mg = mg) (h : BM T X (fun cls d _ H => E cls d H) st m) (hs : spM T K mg ps.length (mFn N.length m) vs H Q E) :
    ∃ t, PSs X st t ∧ t { nx := fun _ H' => Q .non H', rt := Q } (L2.start N vs) H := by
  subst hK hm
  refine ⟨_, h, ?_⟩
  obtain ⟨hl, pv, ι, μ, ds, k, r, q⟩ := hs
  refine ⟨pv, ι, μ, _, k, RR.start r N, ?_⟩
  unfold mFn at q
  match e : m (ds.map some ++ List.replicate (N.length - ds.length) none) μ, q with
  | some (.nx ρ1 μ1), q => exact fun ι1 H1 σ1 k1 x1 r1 => q ι1 H1 .non k1 x1 .non
  | some (.rt d μ1), q => exact q
  | some (.ex x a ρ1 μ1), q => exact fun ι1 H1 σ1 C ed k1 x1 _ e1 => q ι1 H1 C ed k1 x1 e1
  | some (.bk _ _), q => exact q.elim
  | some (.ct _ _), q => exact q.elim
  | none, q => exact q.elim
/-- a def without defaults -/
theorem fm_of {x qual : Str} {st : Stmt} {f : Addr} {fd : FuncData} {N ps : List Str} {k : Nat} {m : MS} (F : Fun K x qual st f fd) (S : FnScope N ps (defScope st))
    (h : ∀ (X : Cx) (W : WX), X.prog = P → X.w = w → X.K = K → X.mg = mg → X.base = base → X.N = N → X.env.scope = defScope st → (∀ y, X.fn y = true) → Cok X W k → BM T X W (defBody st) m) : FM T P w K mg base (k + 1) f fd ps (mFn N.length m) := by
  refine F.okX S (fun vs H Q E h => h.1) fun cdv A outer s H vs Q E hr hs => ?_
  exact body_ok rfl rfl (h _ _ rfl rfl rfl rfl rfl rfl rfl (fun _ => rfl) ⟨rfl, hr, takes_of rfl rfl rfl rfl, passes_of rfl, rfl, rfl⟩) hs
end

/-! ### calls of own functions -/
def mApp (n : Nat) (F : MF) (dv : List D) (a : MA) : ME := fun ρ μ => bindA (a ρ μ) fun ds μ1 => if (ds ++ dv).length = n then F (ds ++ dv) μ1 else none
section
variable {X : Cx} {W : WX}
theorem app_sim {F : MF} {dv : List D} {dvs : List V} {n : Nat} {a : MA} (hd : ∀ pv s, Reps (cz T X pv) s dv dvs) {σ : L2.St} {H : Hp} {Q : VK} (h : tE (cz T X) W (mApp n F dv a) σ H Q) :
    tCallSD (spM T X.K X.mg n F) dvs (WE W) (tAs (cz T X) W a) σ H Q := by
  obtain ⟨pv, ι, μ, ρ, k, rr, h⟩ := h
  refine ⟨pv, ι, μ, ρ, k, rr, (Ret.bindA h).mono fun vs H1 ⟨ι1, μ1, ds, k1, x1, r1, h1⟩ => ?_⟩
  (try dsimp only at h1)
  split at h1
  · rename_i hn
    have r2 := r1.append (hd pv _)
    exact ⟨by rw [← r2.length, hn], pv, ι1, μ1, ds ++ dv, k1, r2, h1⟩
  · exact h1.elim
theorem em_app {k : Nat} {f : Addr} {fd : FuncData} {ps : List Str} {F : MF} {dv : List D} {dvs : List V} {dls : List Value} {x : Str} {p pos : Pos} {e : Expr} {es : List Expr} {m : MA} (FO : FM T X.prog X.w X.K X.mg X.base k f fd ps F) (hr : Room k X.A) (tk : Takes X W)
    (hg : Gl X x) (hm : X.mg x = some (.ref f)) (hk : PySem.W.keepIn X.K (.ref f) = true) (hb : Binds X.K fd ps dls) (hv : Vals dvs dls) (hd : ∀ pv s, Reps (cz T X pv) s dv dvs) (ha : AM T X W (e :: es) m)
    (hdb : (x == ("__debug__" : Str)) = false := by decide) (he : starEach (e :: es) X.env = (false, eval e X.env) :: starEach es X.env := by rfl) (hpl : (backTo pos (starEach es X.env)).any (·.1) = false := by rfl) :
    EM T X W (.Call (.Name x p) (e :: es) [] pos) (mApp ps.length F dv m) :=
  PE.mono (pe_callSD FO hr hg hm hk hb hv (fun σ => passAt tk σ) ha hdb he hpl) fun _ _ _ h => app_sim hd h
/-- f() -/
theorem em_app0 {k : Nat} {f : Addr} {fd : FuncData} {F : MF} {x : Str} {p pos : Pos} {ps : List Str} {dv : List D} {dvs : List V} {dls : List Value} (FO : FM T X.prog X.w X.K X.mg X.base k f fd ps F) (hr : Room k X.A) (hx : Passes (L2.CX X.prog X.w) X E0)
    (hg : Gl X x) (hm : X.mg x = some (.ref f)) (hk : PySem.W.keepIn X.K (.ref f) = true) (hb : Binds X.K fd ps dls) (hv : Vals dvs dls) (hd : ∀ pv s, Reps (cz T X pv) s dv dvs)
    (hdb : (x == ("__debug__" : Str)) = false := by decide) : EM T X W0 (.Call (.Name x p) [] [] pos) (mApp ps.length F dv aNil) :=
  PE.mono (pe_call0 (p := p) (pos := pos) FO hr hg hm hk hb hv hx hdb) fun σ H Q h => by
    obtain ⟨pv, ι, μ, ρ, k, rr, h⟩ := h
    (try simp only [mApp, aNil, bindA, List.nil_append] at h)
    show spM T X.K X.mg ps.length F ([] ++ dvs) H Q E0
    split at h
    · rename_i hn
      have r2 := hd pv ⟨ι, μ, H⟩
      exact ⟨by rw [List.nil_append, ← r2.length, hn], pv, ι, μ, dv, k, r2, h⟩
    · exact h.elim
theorem em_W {W' : WX} {e : Expr} {m : ME} (h : EM T X W0 e m) (ne : ∀ ρ μ x a μ1, m ρ μ ≠ some (.ex x a μ1)) : EM T X W' e m := PE.mono h fun σ H Q ⟨pv, ι, μ, ρ, k, rr, h⟩ => ⟨pv, ι, μ, ρ, k, rr, by
  match e : m ρ μ, h with
  | some (.ok d μ1), h => exact h
  | some (.ex x a μ1), h => exact absurd e (ne _ _ _ _ _)⟩
end
end MV

set_option Elab.async false
set_option linter.all false
set_option maxRecDepth 100000
set_option maxHeartbeats 4000000
/-! MV8: errors of the package: X(at), whose __init__ says super().__init__(at) and keeps at -/
namespace PySem
namespace ATX
open PySem.W PySem.Calls PyProof.Rows PySem.HandSPX
/-! ### the text of __init__(self, at) -/
def iA (p1 p2 : Pos) : Arguments := { posonlyargs := [], args := [{ arg := "self", annotation := none, pos := p1 }, { arg := "at", annotation := none, pos := p2 }], vararg := none, kwonlyargs := [], kw_defaults := [], kwarg := none, defaults := [] }
def iB (a1 a2 a3 a4 a5 a6 q1 q2 q3 q4 : Pos) : List Stmt :=
  [.Expr (.Call (.Attribute (.Call (.Name "super" a1) [] [] a2) "__init__" a3) [.Name "at" a4] [] a5) a6, .Assign [.Attribute (.Name "self" q1) "at" q2] (.Name "at" q3) q4]
def iS : Scope := { kind := .function, names := [(Str.ofString "self", .local), (Str.ofString "at", .local), (Str.ofString "__class__", .free), (Str.ofString "super", .globalImplicit)], isGenerator := false, isCoroutine := false, more := [] }
/-- what the written part says of the class x, at C, and of its __init__, at fI -/
structure AtTxt (P : Program) (K : Frag) (mg : Str → Option Value) (x : Str) (C fI : Addr) : Prop where
  gC : mg x = some (.ref C)
  nsup : mg "super" = none
  cls : ∃ nm q N bs bm sn sub ab col dd k0 k1 k2 k3 k5, K.lookup C = some (excClassObj nm q C N bs bm true sn sub ab col dd k0 k1 k2 k3 k5 "ValueError.__new__") ∧ refsVE bm = true ∧ alongIn K "__init__" bm = some (some (.builtin "ValueError.__init__"))
  sa : findIn K (.ref C) "__setattr__" = some (some (.builtin "object.__setattr__"))
  ga : findIn K (.ref C) "__getattribute__" = some (some (.builtin "BaseException.__getattribute__"))
  gg : findIn K (.ref C) "__getattr__" = some none
  noA : findIn K (.ref C) "at" = some none
  iC : findIn K (.ref C) "__init__" = some (some (.ref fI))
  tI : typeIn K (.ref fI) = some (.type "function")
  kC : keepIn K (.ref C) = true
  exC : subIn K (.ref C) (.type "BaseException") = some true
  veC : subIn K (.ref C) (.type "ValueError") = some true
  tyC : typeIn K (.ref C) = some (.type "type")
  hdC : hasDictIn K C = true
  self : mroIn K C (.ref C) = some true
  stat : nsIn K cStatics "thirdparty.any" = some none
  fn : ∃ (q : Str) (oc : Value) (od : Option Addr) (doc pm : Value) (an : Option Addr) (ct : Value) (osl : Array (Option Value)) (cc cda : Addr) (p1 p2 a1 a2 a3 a4 a5 a6 q1 q2 q3 q4 : Pos) (ccl cl : Value) (cdd cld : Option Addr) (ccs csl : Array (Option Value)) (vs : Array Value) (file : Str) (tf : Tok),
    K.lookup fI = some ⟨oc, od, .func (ksFn "__init__" q (iA p1 p2) (iB a1 a2 a3 a4 a5 a6 q1 q2 q3 q4) iS .none .none doc pm an (.ref cda) ct cc), osl⟩ ∧ codeIn K (.ref cda) q = true ∧
      K.lookup cda = some ⟨ccl, cdd, .fields vs, ccs⟩ ∧ vs[2]? = some (.str file tf) ∧ ((P.main.file : Str) == file) = true ∧ (P.main.scope.names.lookup ("super" : Str)).isSome = false ∧ K.lookup cc = some ⟨cl, cld, .cell (some (.ref C)), csl⟩ ∧
      (a3.endLine == a5.line) = true
/-- the module's names and the built-in ones, where one is -/
structure Look2 (h : Heap) (mg : Str → Option Value) : Prop where
  glob : h.Ns mainGlobals mg
  blt : ∃ mb, h.Ns builtinsNs mb ∧ ∀ x : Str, x ≠ "__name__" → mb x = bootBuiltins x
theorem Look2.keeps {h h' : Heap} {mg : Str → Option Value} (l : Look2 h mg) (k : ∀ b o, h.get? b = some o → h'.get? b = some o) : Look2 h' mg := ⟨l.glob.keeps k, let ⟨mb, a, b⟩ := l.blt; ⟨mb, a.keeps k, b⟩⟩
/-- an error as it is made, its arguments and its cause told by nobody -/
structure AtEnd (h h' : Heap) (x C dx t1 : Addr) (v : Value) : Prop where
  keep : ∀ b o, b ≠ x → h.get? b = some o → h'.get? b = some o
  obj : h'.get? x = some { cls := .ref C, dict := some dx, data := .fields #[.ref t1, .none, .none, .none, .bool false, .none] }
  big : h.objs.size ≤ dx
  dne : dx ≠ x
  ns : h'.Ns1 dx (fun y => if y = "at" then some v else none)
section
variable {prog : Program} {w : World} {A : Around} {E : Value → Shared → Prop} {R : Result → Shared → Prop} {s : Shared} {K : Frag} {mg : Str → Option Value} {x : Str} {C fI : Addr}
/-- the call of the built-in __init__ bound to the error -/
theorem bound_init {h : Heap} {g : Array GenState} {d : Drawn} {tk : Nat} {os : OsState} {nm q : Str} {N : Addr} {bs bm : List Value} {hdct : Bool} {sn : List Str} {sub : List Value} {ab : Bool} {col : Option Bool} {dd : Option Addr} {k0 k1 k2 k3 k5 : Option Value}
    {u e t0 : Addr} {args : List Value} {Q : Value → Shared → Prop} (hC : h.get? C = some (excClassObj nm q C N bs bm hdct sn sub ab col dd k0 k1 k2 k3 k5 "ValueError.__new__")) (he : h.get? e = some (excO C t0)) (hu : h.get? u = some (kxs_mw "ValueError.__init__" e)) (hz : args.length ≤ sizeLine)
    (fin : ∀ h' t1, (∀ b o, b ≠ e → h.get? b = some o → h'.get? b = some o) → h'.get? e = some (excO C t1) → Q .none ⟨h', g, d, tk, os⟩) : wpAny (model prog w) A (call (.ref u) args) Q E ⟨h, g, d, tk, os⟩ := by
  refine wpAny_call (codeAny_of_tree ?_)
  show wpAny _ A.in1 (callAny (.ref u) ⟨args, []⟩) _ _ _
  simp only [callAny]
  refine wpAny_bind (wpAny_load hu ?_)
  have y1 : (Value.type "method-wrapper" == Value.type "method" || Value.type "method-wrapper" == Value.type "builtin_function_or_method" || Value.type "method-wrapper" == Value.type "method-wrapper") = true := by decide
  simp only [kxs_mw, y1, if_true]
  refine KFB.if_so (by decide) ?_
  refine wpAny_bind (check_bound_init F.excBase_ValueError.toExcCallFacts hC he rfl ?_)
  refine wpAny_bind (wpAny_pure (wpAny_pure ?_))
  refine ⟨plainId_quiet F.excBase_ValueError.init.plain _, codeAny_builtin F.excBase_ValueError.initEntry ?_⟩
  refine exc_init_tree (cls := .ref C) (t0 := t0) (dv := none) (c2 := .none) (c3 := .none) (b4 := .bool false) he hz fun h' kk e' _ => ?_
  exact fin h' h.objs.size kk e'
/-- a name of __init__'s own -/
theorem own_arg {M : Model} {s : Shared} {q : Str} {L a cc : Addr} {cd : Value} {m : Str → Option Value} {y : Str} {p : Pos} {v : Value} {Q : Value → Shared → Prop} {A : Around} {E : Value → Shared → Prop} (n : s.heap.Ns L m) (e : m y = some v) (h : Q v s)
    (k : (ksEnv q iS L a cd cc).kindOf y = some .local := by rfl) (nd : (y == ("__debug__" : Str)) = false := by decide) : wpAny M A (eval (.Name y p) (ksEnv q iS L a cd cc)) Q E s :=
  wpAny_Name (wpAny_loadName_local rfl k n e h) nd
/-- what the built-in __init__ leaves, behind it -/
theorem at_init {x0 : Str} (T : AtTxt prog K mg x0 C fI) {o t0 : Addr} {v : Value} {h : Heap} {g : Array GenState} {d : Drawn} {tk : Nat} {os : OsState} (X : K.In h) (hlim : h.NoLimit) (look : Look2 h mg) (ho : h.get? o = some (excO C t0)) (hnK : K.lookup o = none) (hroom : A.depth < recursionLimit)
    (hq : ∀ h' tk' dx t1, AtEnd h h' o C dx t1 v → R (.ok (.ret .none)) ⟨h', g, d, tk', os⟩) :
    codeAny (model prog w) A (.call (.ref fI) ⟨[.ref o, v], []⟩) R ⟨h, g, d, tk, os⟩ := by
  obtain ⟨q, oc, od, doc, pm, an, ct, osl, cc, cda, p1, p2, a1, a2, a3, a4, a5, a6, q1, q2, q3, q4, ccl, cl, cdd, cld, ccs, csl, vs, file, tf, hf, hcd, hcode, hvs, hfile, htop, hcell, hline⟩ := T.fn
  obtain ⟨nm, qq, N, bs, bm, sn, sub, ab, col, dd, k0, k1, k2, k3, k5, hC, hbm, halong⟩ := T.cls
  have hcl : clsIn K C = some { name := nm, bases := bs, mro := .ref C :: bm, ns := N, qualname := qq, hasDict := true, slotNames := sn, subclasses := sub, abstract := ab, collection := col, hasDel := false } := by unfold clsIn; rw [hC] <;> rfl
  have hdrop : ((Value.ref C :: bm).dropWhile (· != .ref C)).drop 1 = bm := by
    have e : (Value.ref C != Value.ref C) = false := by simp
    simp [List.dropWhile, e]
  refine ks_codeAny_call_defAt (fd := ksFn "__init__" q (iA p1 p2) (iB a1 a2 a3 a4 a5 a6 q1 q2 q3 q4) iS .none .none doc pm an (.ref cda) ct cc) (body := iB a1 a2 a3 a4 a5 a6 q1 q2 q3 q4) (binds := [("self", .ref o), ("at", v)]) hroom (X _ _ hf) rfl hlim (codeRec_of X hcd) rfl
    (BindsTo.of_eq (by first | rfl | with_unfolding_all rfl)) (show ∀ x ∈ iS.names, x.2 ≠ .cell from by decide +kernel) (fun y hy => ?_) (fun h₁ hns hk₁ => ?_) rfl rfl rfl
  · rcases List.mem_cons.mp hy with e | hy
    · rw [e]
      rfl
    · rcases List.mem_cons.mp hy with e | hy
      · rw [e]
        rfl
      · cases hy
  have X1 : K.In h₁ := X.keeps hk₁
  have L1 := look.keeps hk₁
  have ho1 := hk₁ _ _ ho
  have lt1 : h.objs.size < h₁.objs.size := hns.lt
  have neL : o ≠ h.objs.size := Nat.ne_of_lt (Heap.lt_size ho)
  show _root_.PySem.wpAt (model prog w) (A.deeper (ksEnv q iS h.objs.size fI (.ref cda) cc)) (.func (iB a1 a2 a3 a4 a5 a6 q1 q2 q3 q4) (ksEnv q iS h.objs.size fI (.ref cda) cc)) (execs (iB a1 a2 a3 a4 a5 a6 q1 q2 q3 q4) (ksEnv q iS h.objs.size fI (.ref cda) cc)) _ _ _
  have he : eval (.Call (.Attribute (.Call (.Name "super" a1) [] [] a2) "__init__" a3) [.Name "at" a4] [] a5) (ksEnv q iS h.objs.size fI (.ref cda) cc) = (do
      let ov ← attributeBase (.Call (.Name "super" a1) [] [] a2) "__init__" (ksEnv q iS h.objs.size fI (.ref cda) cc) (eval (.Call (.Name "super" a1) [] [] a2) (ksEnv q iS h.objs.size fI (.ref cda) cc))
      standAt a3.atName
      let (f, first) ← holding [ov] (getMethod ov "__init__" (do return (← importBound (.Call (.Name "super" a1) [] [] a2) (ksEnv q iS h.objs.size fI (.ref cda) cc)).getD true))
      callWith a5 f first (backTo a5 (starEach [.Name "at" a4] (ksEnv q iS h.objs.size fI (.ref cda) cc))) []) := by
    have hpos : methodCallPos true (.Call (.Name "super" a1) [] [] a2) (ksEnv q iS h.objs.size fI (.ref cda) cc) a3 a5 = pure a5 := by
      unfold methodCallPos
      simp [hline]
    rw [arm_eval_Call]
    unfold methodCall
    rw [show methodCallForm (([.Name "at" a4] : List Expr).length + ([] : List Keyword).length) (backTo a5 (starEach [.Name "at" a4] (ksEnv q iS h.objs.size fI (.ref cda) cc))) (backToKw a5 (keywordEach [] (ksEnv q iS h.objs.size fI (.ref cda) cc))) = true from rfl]
    rw [hpos]
    rfl
  refine ks_wpAt_execs_cons (ks_wpAt_Expr_any (ks_wpAt_MethodCall ?_ he) rfl rfl)
  obtain ⟨mb, hb, hbb⟩ := L1.blt
  refine ks_wpAt_super_base (env := ksEnv q iS h.objs.size fI (.ref cda) cc) rfl rfl (by decide) rfl (X1 _ _ hf) rfl rfl rfl (X1 _ _ hcode) rfl hvs hfile htop ?_
  refine ks_loadName_global rfl rfl (loadGlobal_builtin (env := ksEnv q iS h.objs.size fI (.ref cda) cc) L1.glob T.nsup hb ((hbb _ (by decide +kernel)).trans (by first | rfl | kernel_rfl)) ⟨rfl, ?_⟩)
  refine wpAny_loadName_free (c := cc) (v := .ref C) rfl rfl rfl ⟨_, X1 _ _ hcell, rfl⟩ ?_
  refine wpAny_loadName_local (m := fun y => ([("self", .ref o), ("at", v)] : List (Str × Value)).reverse.lookup y) (v := .ref o) rfl rfl hns (by first | rfl | with_unfolding_all rfl | kernel_rfl) ?_
  refine ks_wpAny_isType_cls (X1 _ _ hC) rfl ⟨rfl, ?_⟩
  refine ks_wpAny_call_super (X1 _ _ hC) rfl ho1 rfl (fun c e => by cases e) (looks_mroIn X1 T.self) (fun h2 hso k2 => ?_)
  -- the method of the base
  have X2 : K.In h2 := X1.keeps k2
  have I2 : InstAt h2 o (excO C t0) C none := ⟨k2 _ _ ho1, rfl, rfl, trivial⟩
  refine kxs_getMethod kxs_ValueError hso (looks_opaque X2 T.stat) (l₀ := .ref C :: bm) (fun A Q E s k q => wpAny_bind ((looks_clsIn X2 hcl) A _ E s k (wpAny_pure q))) hdrop X2 halong (I2.type.andThen (looks_subIn X2 T.veC)) (ks_ne X2 I2 hcl) (by decide) ?_
  have hv : (fun y => ([("self", .ref o), ("at", v)] : List (Str × Value)).reverse.lookup y) "at" = some v := by first | rfl | with_unfolding_all rfl | kernel_rfl
  have hself : (fun y => ([("self", .ref o), ("at", v)] : List (Str × Value)).reverse.lookup y) "self" = some (.ref o) := by first | rfl | with_unfolding_all rfl | kernel_rfl
  have k3 : ∀ b u, h₁.get? b = some u → (h2.push (kxs_mw "ValueError.__init__" o)).get? b = some u := fun b u e => Heap.get?_push_of_some _ (k2 b u e)
  have hns3 := Heap.Ns.keeps hns k3
  refine kxs_callWith (i := "ValueError.__init__") (x := o) rfl (evalArgs_plain (spliced_cons (own_arg (q := q) (L := h.objs.size) (a := fI) (cd := .ref cda) (cc := cc) hns3 hv (spliced_nil ⟨Heap.get?_push_size _ rfl, ?_⟩))))
  have X3 : K.In (h2.push (kxs_mw "ValueError.__init__" o)) := X1.keeps k3
  refine bound_init (X3 _ _ hC) (k3 _ _ ho1) (Heap.get?_push_size _ rfl) (by rw [sizeLine_eq]; exact (by decide : 1 ≤ 16777216)) (fun h4 t1 k4 ho4 => ?_)
  have k14 : ∀ b u, b ≠ o → h₁.get? b = some u → h4.get? b = some u := fun b u n e => k4 b u n (k3 b u e)
  have noK : ∀ b u, K.lookup b = some u → b ≠ o := fun b u e z => by
    rw [z, hnK] at e
    cases e
  have X4 : K.In h4 := fun b u e => k14 b u (noK b u e) (X1 _ _ e)
  have hns4 := Heap.Ns.at hns (fun u e => k14 _ u neL.symm e)
  refine ks_wpAt_execs_cons (ks_wpAt_Assign_Attr (wpAt_of_wpAny ?_) (by first | rfl | with_unfolding_all rfl))
  refine own_arg (q := q) (L := h.objs.size) (a := fI) (cd := .ref cda) (cc := cc) hns4 hv (own_arg (q := q) (L := h.objs.size) (a := fI) (cd := .ref cda) (cc := cc) hns4 hself ?_)
  refine set_plain X4 (ox := excO C t1) (od := none) ⟨ho4, rfl, rfl, trivial⟩ T.sa ?_
  refine exc_osa X4 ho4 hcl (show refsVE (.ref C :: bm) = true from hbm) rfl T.noA (fun h5 tk5 dx k5 dn dne ho5 hn5 => ?_)
  refine wpAt_of_wpAny (wpAny_execs_nil (hq h5 tk5 dx t1 ⟨fun b u hb e => k5 b u hb (k14 b u hb (hk₁ b u e)), ho5, ?_, dne, hn5⟩))
  have z4 : h.objs.size < h4.objs.size := hns4.lt
  exact Nat.le_of_lt (Nat.lt_of_lt_of_le z4 dn)
end
end ATX
end PySem

set_option Elab.async false
set_option linter.all false
set_option maxRecDepth 100000
set_option maxHeartbeats 4000000
/-! MV9: X(at) made and raised -/
namespace PySem
namespace ATX
open PySem.W PySem.Calls PyProof.Rows PySem.HandSPX
/-- behind X(v): the error at e, its own dict at dx -/
structure AtMade (h h' : Heap) (e C dx : Addr) (v : Value) : Prop where
  old : ∀ b o, h.get? b = some o → h'.get? b = some o
  big : h.objs.size ≤ e
  err : ∃ oe fv, h'.get? e = some oe ∧ oe.cls = .ref C ∧ oe.dict = some dx ∧ oe.data = .fields fv ∧ fv[1]? = some .none
  dbig : h.objs.size ≤ dx
  dne : dx ≠ e
  ns : h'.Ns1 dx (fun y => if y = "at" then some v else none)
section
variable {prog : Program} {w : World} {A : Around} {R : Result → Shared → Prop} {K : Frag} {mg : Str → Option Value} {C fI : Addr}
theorem at_made {x0 : Str} (T : AtTxt prog K mg x0 C fI) {v : Value} {h : Heap} {g : Array GenState} {d : Drawn} {tk : Nat} {os : OsState} (X : K.In h) (hlim : h.NoLimit) (look : Look2 h mg) (hroom : A.depth + 1 < recursionLimit)
    (hq : ∀ h' tk' e dx, AtMade h h' e C dx v → R (.ok (.ret (.ref e))) ⟨h', g, d, tk', os⟩) : codeAny (model prog w) A (.call (.ref C) ⟨[v], []⟩) R ⟨h, g, d, tk, os⟩ := by
  obtain ⟨nm, qq, N, bs, bm, sn, sub, ab, col, dd, k0, k1, k2, k3, k5, hC, hbm, _⟩ := T.cls
  have one : [v].length ≤ sizeLine := by
    rw [sizeLine_eq]
    exact (by decide : 1 ≤ 16777216)
  have up : ∀ b o, h.get? b = some o → ((h.push (kdv_tup [v])).push (excO C h.objs.size)).get? b = some o := fun b o e => Heap.get?_push_of_some _ (Heap.get?_push_of_some _ e)
  have at1 : ((h.push (kdv_tup [v])).push (excO C h.objs.size)).get? (h.objs.size + 1) = some (excO C h.objs.size) := by heap_get
  have noK : K.lookup (h.objs.size + 1) = none := by
    cases e : K.lookup (h.objs.size + 1) with
    | none => rfl
    | some o => exact absurd (show (h.objs.size + 1 : Nat) < h.objs.size from Heap.lt_size (X _ _ e)) (by omega)
  refine call_own F.excBase_ValueError (fun X => refsVE_contains X bm hbm) (X _ _ hC) (looks_findIn X T.iC) (fun self => bind_fn X self T.tI) one ?_
  refine at_init (h := (h.push (kdv_tup [v])).push (excO C h.objs.size)) T (X.keeps up) (hlim.keeps up) (look.keeps up) at1 noK ?_ fun h' tk' dx t1 M => ?_
  · exact hroom
  · have sz : h.objs.size + 1 + 1 ≤ dx := by
      have q := M.big
      simpa only [Heap.size_push] using q
    exact ⟨rfl, hq h' tk' (h.objs.size + 1) dx ⟨fun b o e => M.keep b o (Nat.ne_of_lt (Nat.lt_succ_of_lt (Heap.lt_size e))) (up b o e), Nat.le_succ _, ⟨_, _, M.obj, rfl, rfl, rfl, rfl⟩, Nat.le_trans (Nat.le_trans (Nat.le_succ _) (Nat.le_succ _)) sz, M.dne, M.ns⟩⟩
end
end ATX
end PySem
namespace MV
open PySem L2
variable {T : List (Addr × Str)}
def tMkAt (C : Addr) (ta : TA) : L2.St → Hp → XK → Prop := fun σ H Q => ta σ H fun vs H1 => ∃ v, vs = [v] ∧ ∀ d, H1 d = none → Q (.ref C) (some d) (upd H1 d (.xd [(("at" : Str), v)]))
theorem rel_at {v : V} {u : Value} (r : RelV v u) (f : Str) : RelO (List.lookup f [(("at" : Str), v)]) (if f = "at" then some u else none) := by
  by_cases e : f = "at"
  · rw [e, if_pos rfl]
    have : List.lookup ("at" : Str) [(("at" : Str), v)] = some v := by simp [List.lookup]
    rw [this]
    exact r
  · have b : (f == ("at" : Str)) = false := by simpa using e
    have : List.lookup f [(("at" : Str), v)] = none := by simp [List.lookup, b]
    rw [this, if_neg e]
    trivial
section
variable {X : Cx} {W : WX} {C fI : Addr}
theorem pmk_at {x : Str} {a : Expr} {ta : TA} {p pos : Pos} {k : Nat} (F : ATX.AtTxt X.prog X.K X.mg x C fI) (hr : Room k X.A) (ha : PA X [a] ta) (hg : Gl X x) (hdb : (x == ("__debug__" : Str)) = false := by decide)
    (he : starEach (a :: []) X.env = (false, eval a X.env) :: starEach [] X.env := by rfl) (hpl : (backTo pos (starEach [] X.env)).any (·.1) = false := by rfl) :
    PMk X (.Call (.Name x p) [a] [] pos) (tMkAt C ta) := by
  intro pins s σ H Q I h
  refine wpAny_Call_Name_kw (ld_glob I hg F.gC ?_ hdb)
  refine PySem.W.callWith_K (h₀ := X.base) I.ok.mod.kin F.kC (thn (ha.run pos pins s σ H _ I h) fun us s1 hh => ?_) he hpl
  obtain ⟨vs, H1, J, rel, v, ev, wish⟩ := hh
  subst ev
  refine ⟨J.kIn, ?_⟩
  cases rel with
  | cons rv rn =>
    rename_i u us'
    cases rn
    have nolim := J.nolimit
    have look : ATX.Look2 s1.heap X.mg := ⟨J.mod.glob.keeps J.bk, let ⟨mb, a, b⟩ := J.mod.blt; ⟨mb, a.keeps J.bk, b⟩⟩
    have kin := J.kIn
    obtain ⟨hp, g, dr, tk, os⟩ := s1
    refine wpAny_call (ATX.at_made F kin nolim look (by have := hr.dp; omega) fun h' tk' e d M => ?_)
    obtain ⟨oe, fv, e1, e2, e3, e4, e5⟩ := M.err
    -- the heap without the error itself
    obtain ⟨G, in_, out⟩ := restrict h' fun b => decide (b ≠ e)
    have same : ∀ b, b ≠ e → G.get? b = h'.get? b := fun b n => in_ b (decide_eq_true n)
    have gone : G.get? e = none := out e (by simp)
    have kept : ∀ b o, hp.get? b = some o → G.get? b = some o := fun b o q => (same b (Nat.ne_of_lt (Nat.lt_of_lt_of_le (Heap.lt_size q) M.big))).trans (M.old b o q)
    have dOk : ObjOk X.prog X.w (upd H1 d (.xd [(("at" : Str), v)])) G d (.xd [(("at" : Str), v)]) := ⟨_, M.ns.at (fun o q => (same d M.dne).trans q), fun f => rel_at rv f⟩
    have J2 : Inv X pins σ (upd H1 d (.xd [(("at" : Str), v)])) ⟨G, g, dr, tk', os⟩ := J.laid (t' := tk') kept M.dbig dOk
    have fresh : ∀ b, hp.objs.size ≤ b → H1 b = none := fun b q => J.hok.fresh q
    refine ⟨e, oe, fv, ⟨G, g, dr, tk', os⟩, _, .ref C, some d, rfl, J2, fun b o q => ?_, gone, e1, ⟨e2, e3⟩, e4, e5, ?_, rfl, J.bare, raises_own F.exC F.tyC, wish d (fresh d M.dbig)⟩
    · have q' : G.get? b = some o := q
      by_cases n : b = e
      · rw [n, gone] at q'
        cases q'
      · rw [← same b n]
        exact q'
    · rw [upd_ne (Ne.symm M.dne)]
      exact fresh e M.big
def sRaise (x : Str) (m : ME) : MS := fun ρ μ => bindS (m ρ μ) ρ fun d μ1 => some (.ex x (some d) ρ μ1)
theorem sm_raise {x : Str} {a : Expr} {m : ME} {p pos pos2 : Pos} {k : Nat} (hc : X.calm = true) (F : ATX.AtTxt X.prog X.K X.mg x C fI) (hr : Room k X.A) (tk : Takes X W) (ha : EM T X W a m) (hg : Gl X x) (hdb : (x == ("__debug__" : Str)) = false := by decide)
    (he : starEach (a :: []) X.env = (false, eval a X.env) :: starEach [] X.env := by rfl) (hpl : (backTo pos (starEach [] X.env)).any (·.1) = false := by rfl) :
    SM T X W (.Raise (some (.Call (.Name x p) [a] [] pos)) none pos2) (sRaise x m) :=
  PS.mono (ps_raise hc tk (pmk_at F hr (am_cons ha am_nil he) hg hdb he hpl)) fun Dn σ H ⟨pv, ι, μ, ρ, k, rr, h⟩ => by
    refine ⟨pv, ι, μ, ρ, k, rr, ?_⟩
    unfold sRaise at h
    unfold aCons aNil
    match e : m ρ μ, h with
    | some (.ok d μ1), h =>
      intro ι1 H1 vs k1 x1 r1
      cases r1 with
      | cons r rn =>
        cases rn
        refine ⟨_, rfl, fun dx hd => ?_⟩
        obtain ⟨k2, x2, _⟩ := new_obj (o := .xd [(("at" : Str), _)]) k1 hd
        exact h ι1 _ σ C (some dx) k2 (x1.trans x2) (rr.aft k (x1.trans x2)) ⟨F.gC, dx, _, rfl, upd_same, Rep.aft k1 x2 r⟩
    | some (.ex y a μ1), h => exact fun ι1 H1 C1 ed k1 x1 e1 => h ι1 H1 σ C1 ed k1 x1 (rr.aft k x1) e1
end
end MV

set_option Elab.async false
set_option linter.all false
set_option maxRecDepth 100000
set_option maxHeartbeats 4000000
/-! MV10: try with several clauses that name the error; x(lambda: e), where x tells what e tells or which error -/
namespace MV
open PySem PySem.Spec PyProof.Rows L2
/-- one clause: its class, what its suite wishes -/
abbrev Clause := Value × (Addr → Value → Option Addr → TS)
/-- the ends of a suite whose name (slot i) goes behind it -/
abbrev endsGone (i : Nat) (D : Ends) : Ends := { nx := fun z G => D.nx (z.set i none) G, bk := fun z G => D.bk (z.set i none) G, ct := fun z G => D.ct (z.set i none) G, rt := D.rt }
def wNamed (K : PySem.W.Frag) (i : Nat) (Wo : WX) (D : Ends) : List Clause → WX
  | [] => Wo
  | cl :: more => fun cls d z G => ∃ b, PySem.W.exmOne K cls cl.1 = some b ∧ (b = true → ∀ a, G a = none → cl.2 a cls d (endsGone i D) (z.set i (some (.ref a))) G) ∧ (b = false → wNamed K i Wo D more cls d z G)
inductive Clauses (X : Cx) (n : Str) : List ExceptHandler → List Clause → Prop
  | none : Clauses X n [] []
  | more {x : Str} {cl : Clause} {st : Stmt} {sts : List Stmt} {p1 p2 : Pos} {hds : List ExceptHandler} {cls' : List Clause} (nm : Names X x cl.1)
      (suite : ∀ (a : Addr) (oe : Obj) (cls : Value) (d : Option Addr) (pn : List (Addr × Obj)), Zc cls d oe → (∃ fv, oe.data = .fields fv) → PSs (X.suite a ((a, oe) :: pn)) (st :: sts) (cl.2 a cls d)) (rest : Clauses X n hds cls') :
      Clauses X n (.ExceptHandler (some (.Name x p1)) (some n) (st :: sts) p2 :: hds) (cl :: cls')
section
variable {X : Cx} {n : Str} {i : Nat} {Wo : WX} {pins : List (Addr × Obj)} {σ : L2.St} {H : Hp} {D : Ends}
/-- an error in flight, noted at the frame: the clauses are asked one after the other -/
theorem clauses_run {a : Addr} {B : Heap} {sI s' : Shared} {h3 : Heap} {cls : Value} {d : Option Addr} (ok : X.Ok) (hs : X.stack = X.env :: X.outer) (hf : X.env.frame = some X.env.locals) (nd : X.N.Nodup) (at_ : X.N[i]? = some n) (lc : X.env.kindOf n = some .local) (tk : Takes X Wo)
    (J : Inv X pins σ H sI) (nb : ∀ b o, sI.heap.get? b = some o → b ∉ frs X.stack → B.get? b = some o) (up : sI.heap.UpToSlots h3) (na : H a = none) (os : s'.os = sI.os) (ag : AllBare s'.gens) (fl : HandSPX.FlyingZ B (X.env :: X.outer) a (Zc cls d) h3) :
    ∀ {hds : List ExceptHandler} {cs : List Clause}, Clauses X n hds cs → wNamed X.K i Wo D cs cls d σ H → wpAny (model X.prog X.w) X.A (handleBy (.ref a) X.env hds) (SP X pins D) X.xe { s' with heap := h3 } := by
  have frm : X.A.frames = some (X.env :: X.outer) := hs ▸ ok.frames
  have J3 : Inv X pins σ H { s' with heap := h3 } := J.landed nb fl.1 up os ag
  obtain ⟨o3, f3, get3, zc3, dat3⟩ := fl.there
  have apart : a ∉ frs (X.env :: X.outer) := fun m => by
    obtain ⟨_, o, e, no⟩ := fl.2.2.1.mem m
    rw [get3] at e
    cases e
    exact no _ dat3
  have offL : a ≠ X.env.locals := fun z => apart (List.mem_filterMap.mpr ⟨X.env, List.mem_cons_self, by rw [z, hf]⟩)
  have offF : a ∉ X.fs := fun m => by
    obtain ⟨v, w1, w2⟩ := List.mem_filterMap.mp m
    exact apart (List.mem_filterMap.mpr ⟨v, List.mem_cons_of_mem _ w1, w2⟩)
  have S3 := J3.suite get3 dat3 na offL offF
  intro hds cs hc
  induction hc with
  | none =>
    intro wish
    refine wpAny_handleBy_nil ?_
    obtain ⟨_, _, _, oe, fv, t, _, _, e1, _, e2, e3, _⟩ := id fl
    unfold PySem.passOn
    refine wpAny_bind (wpAny_field e1 e2 e3 ?_)
    have notNone : ¬ ((Value.ref t == Value.none) = true) := by simp
    rw [if_neg notNone]
    have leave : wpAny (model X.prog X.w) X.A (setFlight (.ref a) X.env.frame) (fun _ z => wpAny (model X.prog X.w) X.A (throw (.ref a) : Sem Flow) (SP X pins D) X.xe z) X.xe { s' with heap := h3 } := by
      rw [hf]
      exact HandSPX.setFlight_upZ fl fun h5 held up5 => wpAny_throw (tk _ _ ⟨a, B, sI, pins, σ, H, cls, d, rfl, J, nb, up.trans up5, .inr (.inr (hs ▸ held)), na, os, ag, wish⟩)
    first
      | exact wpAny_bind (wpAny_pure (wpAny_bind leave))
      | exact wpAny_bind leave
  | @more x cl st sts p1 p2 hds2 cs2 nm suite rest ih =>
    intro wish
    obtain ⟨b, mat, yes, no⟩ := wish
    refine wpAny_handleBy_cons (codeAny_handlers_test ?_) (by intro q; cases q)
    have ofCls : PySem.W.Looks (model X.prog X.w) h3 (typeOf (.ref a)) cls := fun A Q E s k q => wpAny_typeOf_ref (k _ _ get3) (by rw [zc3.1]; exact q)
    have look := PySem.W.exm_one (M := model X.prog X.w) J3.kIn ofCls mat
    have named : ∀ {Q E : Value → Shared → Prop}, Q cl.1 { s' with heap := h3 } → wpAny (model X.prog X.w) (X.A.mark (some (.ref a))) (eval (.Name x p1) X.env) Q E { s' with heap := h3 } := fun {Q E} q => by
      obtain ⟨g1, g2, g3⟩ := nm
      rcases g3 with g3 | ⟨g3, g4, g5⟩
      · exact ld_glob (X := X.suite a ((a, o3) :: (X.pn ++ pins))) S3 g1 g3 q g2
      · exact ld_blt (X := X.suite a ((a, o3) :: (X.pn ++ pins))) S3 g1 g3 g4 q g5 g2
    refine named (look.here ?_)
    cases b with
    | false =>
      show wpAny _ X.A (handleBy (.ref a) X.env hds2) _ _ _
      exact ih (no rfl)
    | true =>
      refine codeAny_handlers_suite_as (HandSPX.lands_againZ fl fun h4 fl4 up4 => ?_)
      have J4 : Inv X pins σ H { s' with heap := h4 } := J.landed nb fl4.1 (up.trans up4) os ag
      obtain ⟨o4, f4, get4, zc4, dat4⟩ := fl4.there
      refine store_ok (X := X.suite a ((a, o4) :: (X.pn ++ pins))) (v := .ref a) (J4.suite get4 dat4 na offL offF) nd at_ (.inl lc) rfl (fun s5 S5 => ?_) (.inr lc)
      refine wpAny_mono ((suite a o4 cls d (X.pn ++ pins) zc4 ⟨_, dat4⟩).run [] s5 _ H _ S5 (yes rfl a na)) (fun f s6 hsp => ?_) (fun _ _ z => False.elim z)
      have gone : ∀ {z : L2.St} {G : Hp} {Q : Shared → Prop}, Inv (X.suite a ((a, o4) :: (X.pn ++ pins))) [] z G s6 → (∀ s7, Inv X pins (z.set i none) G s7 → Q s7) → wpAny (model X.prog X.w) X.A (do bindName X.env n .none; unbindBehindTheSuite X.env n p2) (fun _ s7 => Q s7) X.xe s6 :=
        fun {z G Q} S6 q => gone_ok (S6.unsuite ok) nd at_ lc q
      cases f with
      | ret u =>
        obtain ⟨v6, z6, G6, S6, r6, q6⟩ := hsp
        exact gone S6 fun s7 J7 => ⟨_, _, _, J7, r6, q6⟩
      | next =>
        obtain ⟨z6, G6, S6, q6⟩ := hsp
        exact gone S6 fun s7 J7 => ⟨_, _, J7, q6⟩
      | brk =>
        obtain ⟨z6, G6, S6, q6⟩ := hsp
        exact gone S6 fun s7 J7 => ⟨_, _, J7, q6⟩
      | cont =>
        obtain ⟨z6, G6, S6, q6⟩ := hsp
        exact gone S6 fun s7 J7 => ⟨_, _, J7, q6⟩
/-- try: body, except x1 as n: .., except x2 as n: .. -/
theorem ps_named {body : List Stmt} {h0 : ExceptHandler} {hds : List ExceptHandler} {cs : List Clause} {tb : WX → TS} {pos : Pos} (hs : X.stack = X.env :: X.outer) (hf : X.env.frame = some X.env.locals) (nd : X.N.Nodup) (at_ : X.N[i]? = some n) (lc : X.env.kindOf n = some .local) (tk : Takes X Wo)
    (hb : ∀ (W : WX) (pn : List (Addr × Obj)) (xe : Value → Shared → Prop), Takes (X.tr pn xe) W → PassesOwn (model X.prog X.w) X.A X.env xe → PSs (X.tr pn xe) body (tb W)) (hh : Clauses X n (h0 :: hds) cs) :
    PS X (.Try body (h0 :: hds) [] [] pos) (fun D σ H => tb (wNamed X.K i Wo D cs) D σ H) := by
  refine ⟨fun pins s σ H D I h => wpAny_Try_except ?_⟩
  have ok := I.ok
  have frm : X.A.frames = some (X.env :: X.outer) := hs ▸ ok.frames
  have bodyRuns := (hb (wNamed X.K i Wo D cs) (X.pn ++ pins) (fun e t1 => wpAny (model X.prog X.w) X.A (noteFrame e X.env) (fun _ t2 => wpAny (model X.prog X.w) X.A (setFlight e none) (fun _ t3 => wpAny (model X.prog X.w) X.A (handleBy e X.env (h0 :: hds)) (SP X pins D) X.xe t3) X.xe t2) X.xe t1)
    (fun u s' xx => by
      obtain ⟨a, B, sI, pins', z, G, cls, d, ea, J', nb, up, sky, na, os, ag, wish⟩ := xx
      subst ea
      have sky' : Sky B (X.env :: X.outer) a (Zc cls d) X.env.locals s'.heap := hs ▸ sky
      show wpAny (model X.prog X.w) X.A (noteFrame (.ref a) X.env) _ _ _
      exact Sky.land Zc.steady frm hf sky' fun h3 fl3 up3 => clauses_run ok hs hf nd at_ lc tk (J'.ofTry ok) nb (up.trans up3) na os ag fl3 hh wish) PassesOwn.looking).run [] s σ H D (I.toTry _) h
  refine wpAny_mono bodyRuns (fun f s1 hsp => ?_) fun _ _ q => q
  cases f with
  | ret u =>
    obtain ⟨v, z, G, J, r, q⟩ := hsp
    exact ⟨v, z, G, J.ofTry ok, r, q⟩
  | next =>
    obtain ⟨z, G, J, q⟩ := hsp
    exact wpAny_execs_nil ⟨z, G, J.ofTry ok, q⟩
  | brk =>
    obtain ⟨z, G, J, q⟩ := hsp
    exact ⟨z, G, J.ofTry ok, q⟩
  | cont =>
    obtain ⟨z, G, J, q⟩ := hsp
    exact ⟨z, G, J.ofTry ok, q⟩
end
/-! ### wrong.at -/
/-- a class of errors whose at is read off the own dict -/
structure AtCls (K : PySem.W.Frag) (C : Addr) : Prop where
  flds : XfC K C
  noAt : PySem.W.findIn K (.ref C) "at" = some none
def tAtOf (K : PySem.W.Frag) (a : Addr) (cls : Value) (d : Option Addr) (te : TE) : TE := fun σ H Q => ∃ C, cls = .ref C ∧ AtCls K C ∧ tXf a cls d C "at" te σ H Q
theorem pe_atOf {X : Cx} {a : Addr} {oe : Obj} {cls : Value} {d : Option Addr} {pn : List (Addr × Obj)} {e : Expr} {te : TE} {pos : Pos} (hz : Zc cls d oe) (hf : ∃ fv, oe.data = .fields fv) (he : PE (X.suite a ((a, oe) :: pn)) e te)
    (hb : attributeBase e "at" X.env (eval e X.env) = eval e X.env := by rfl) : PE (X.suite a ((a, oe) :: pn)) (.Attribute e "at" pos) (tAtOf X.K a cls d te) :=
  ⟨fun pins s σ H Q I ⟨_, _, A, h⟩ => (pe_xf A.flds A.noAt hz hf he hb).run pins s σ H Q I h⟩
end MV
namespace MV
open PySem PySem.Spec PyProof.Rows L2
variable {T : List (Addr × Str)}
/-! ### x(lambda: e): the def x answers ("told", what e tells), or (w, at), w the word of the error's clause -/
/-- the clauses: except x as n: return (w, n.at) -/
inductive Words (Nm : Str → Value → Prop) (n : Str) : List ExceptHandler → List (Value × Str) → Prop
  | none : Words Nm n [] []
  | more {x : Str} {c : Value} {w : Str} {j j2 : Nat} {p1 p2 q1 q2 q3 q4 q5 : Pos} {hds : List ExceptHandler} {l : List (Value × Str)} (nm : Nm x c) (rest : Words Nm n hds l) :
      Words Nm n (.ExceptHandler (some (.Name x p1)) (some n) [.Return (some (.Tuple [.Constant (.str w) j q1, .Attribute (.Name n q2) "at" q3] j2 q4)) q5] p2 :: hds) ((c, w) :: l)
def suiteOf (K : PySem.W.Frag) (i : Nat) (w : Str) : Addr → Value → Option Addr → TS := fun a cls d => tRet (tTup (tCons (tC (.str w)) (tCons (tAtOf K a cls d (tVar i)) tNil)))
theorem clauses_of {X : Cx} {Nm : Str → Value → Prop} {n : Str} {i : Nat} (nm : ∀ x c, Nm x c → Names X x c) (at_ : X.N[i]? = some n) (vis : Vis X.env.scope n) (b1 : (n == ("__debug__" : Str)) = false) (b2 : (n == ("__classdict__" : Str)) = false) :
    ∀ {hds : List ExceptHandler} {l : List (Value × Str)}, Words Nm n hds l → Clauses X n hds (l.map fun p => (p.1, suiteOf X.K i p.2)) := by
  intro hds l h
  induction h with
  | none => exact .none
  | more m rest ih => exact .more (cl := (_, suiteOf X.K i _)) (nm _ _ m) (fun a oe cls d pn hz hf => pss_one (ps_ret (pe_tup (pa_cons pe_str (pa_cons (pe_atOf hz hf (pe_var at_ vis b1 b2)) pa_nil))))) ih
/-- what is wished of an error of e's -/
def hkW (K : PySem.W.Frag) (Q : VK) : List (Value × Str) → XK
  | [] => fun _ _ _ => False
  | (c, w) :: l => fun cls d H => ∃ b, PySem.W.exmOne K cls c = some b ∧
      (b = true → ∃ (C dd : Addr) (v : V), cls = .ref C ∧ AtCls K C ∧ d = some dd ∧ H dd = some (.xd [(("at" : Str), v)]) ∧ ∀ p, H p = none → Q (.ref p) (upd H p (.tup [.str w, v]))) ∧ (b = false → hkW K Q l cls d H)
def TTh (K : PySem.W.Frag) (told : Str) (l : List (Value × Str)) : (XK → Hp → VK → Prop) → Hp → VK → Prop := fun tl H Q => tl (hkW K Q l) H fun v H' => ([.str told, v] : List V).length ≤ sizeLine ∧ ∀ p, H' p = none → Q (.ref p) (upd H' p (.tup [.str told, v]))
theorem two_line : (2 : Nat) ≤ sizeLine := by
  rw [sizeLine_eq]
  exact (by decide : 2 ≤ 16777216)
theorem hk_named {K : PySem.W.Frag} {i : Nat} {D : Ends} {cls : Value} {d : Option Addr} {z : L2.St} {G : Hp} (hi : i < z.length) : ∀ {l : List (Value × Str)}, hkW K D.rt l cls d G → wNamed K i (fun _ _ _ _ => False) D (l.map fun p => (p.1, suiteOf K i p.2)) cls d z G
  | [], h => h
  | (c, w) :: l, ⟨b, e, yes, no⟩ => by
    refine ⟨b, e, fun hb a ha => ?_, fun hb => hk_named hi (no hb)⟩
    obtain ⟨C, dd, v, e1, A, e2, e3, q⟩ := yes hb
    refine ⟨C, e1, A, .ref a, ?_, rfl, e1, dd, [(("at" : Str), v)], v, e2, e3, by simp [List.lookup], two_line, q⟩
    rw [List.getElem?_set_self hi]
theorem heard_gives {X : Cx} {Ng : List Str} {x a n q told : Str} {sg : Scope} {g : Addr} {cdg : Value} {i j j2 : Nat} {p1 p2 p3 p8 q1 q2 : Pos} {Nm : Str → Value → Prop} {h0 : ExceptHandler} {hds : List ExceptHandler} {l : List (Value × Str)}
    (nm : ∀ y c, Nm y c → sg.names.lookup y = some .globalImplicit ∧ (y == ("__debug__" : Str)) = false ∧ X.mg y = some c) (hw : Words Nm n (h0 :: hds) l) (nd : Ng.Nodup) (at_ : Ng[i]? = some n) (lc : sg.names.lookup n = some .local) (b1 : (n == ("__debug__" : Str)) = false) (b2 : (n == ("__classdict__" : Str)) = false)
    (hp : ∀ f : Addr, (L2.start Ng [V.ref f])[0]? = some (some (V.ref f))) :
    LamX.GivesTo X Ng x sg g cdg [.Try [.Return (some (.Tuple [.Constant (.str told) j q1, .Call (.Name a p1) [] [] p2] j2 q2)) p3] (h0 :: hds) [] [] p8] a q (TTh X.K told l) := by
  intro f c' s H Q tl act hc h
  have hi : i < (L2.start Ng [V.ref f]).length := by
    have h1 : i < Ng.length := (List.getElem?_eq_some_iff.mp at_).1
    have h2 : 0 < Ng.length := Nat.lt_of_le_of_lt (Nat.zero_le i) h1
    unfold L2.start
    rw [List.length_append, List.length_map, List.length_replicate, List.length_singleton]
    omega
  refine ⟨_, pss_one (ps_named (X := (cxOf C8.CX0 X.prog X.w X.K X.mg X.base Ng x sg g cdg X.A X.stack s H C8.E0).nox) (n := n) (i := i) (Wo := fun _ _ _ _ => False)
      (tb := fun W D σ H => ∃ Ech : XK, (∀ cls d σ' H', Ech cls d H' → σ'.length = Ng.length → W cls d σ' H') ∧ σ[0]? = some (some (.ref f)) ∧ H c' = some (LamX.CodeO c' q) ∧ tl Ech H fun v H' => ([.str told, v] : List V).length ≤ sizeLine ∧ ∀ p, H' p = none → D.rt (.ref p) (upd H' p (.tup [.str told, v])))
      rfl rfl nd at_ lc LamX.takes0 (fun W pn xe tk _ => ?_) (clauses_of (Nm := Nm) (fun y c m => ?_) at_ (.inl lc) b1 b2 hw)), ?_⟩
  · refine ⟨fun pins s' σ H' D I h' => ?_⟩
    obtain ⟨Ech, hW, h1, h2, h3⟩ := h'
    have hcall := act (fun cls d σ' H' => σ'.length = Ng.length → W cls d σ' H') pn xe Ech p1 p2 (fun u s' xx => tk u s' (by
      obtain ⟨a0, B, sI, pins0, σ0, H0, cls0, d0, e1, J, nb, up, sky, na, os, ag, w⟩ := xx
      exact ⟨a0, B, sI, pins0, σ0, H0, cls0, d0, e1, J, nb, up, sky, na, os, ag, w J.len⟩)) (fun cls d σ' H' e hlen => hW cls d σ' H' e hlen)
    exact (pss_one (ps_ret (pos := p3) (pe_tup (x1 := j2) (pos := q2) (pa_cons (pe_str (j := j) (pos := q1)) (pa_cons hcall pa_nil))))).run pins s' σ H' D I ⟨h1, h2, by
      exact h3⟩
  · obtain ⟨g1, g2, g3⟩ := nm y c m
    exact ⟨g1, g2, .inl g3⟩
  · refine ⟨hkW X.K Q l, fun cls d σ' H' e hl => hk_named (by rw [hl]; exact (List.getElem?_eq_some_iff.mp at_).1) e, hp f, hc, h⟩
end MV

set_option Elab.async false
set_option linter.all false
set_option maxRecDepth 100000
set_option maxHeartbeats 4000000
/-! MV11: mirror of x(lambda: e) -/
namespace MV
open PySem PySem.Spec PyProof.Rows L2
variable {T : List (Addr × Str)}
/-- es: the errors that may come; sb x y: x is a y; hs: the clauses -/
structure HOkay (K : PySem.W.Frag) (mg : Str → Option Value) (ad : Str → Addr) (es : List Str) (sb : Str → Str → Bool) (hs : List (Str × Str)) : Prop where
  cls : ∀ x ∈ es, mg x = some (.ref (ad x)) ∧ AtCls K (ad x)
  sub : ∀ x ∈ es, ∀ h ∈ hs, PySem.W.exmOne K (.ref (ad x)) (.ref (ad h.1)) = some (sb x h.1)
def mHeard (told : Str) (es : List Str) (sb : Str → Str → Bool) (hs : List (Str × Str)) (m : ME) : ME := fun ρ μ => match m ρ μ with
  | some (.ok d μ1) => some (.ok (.tup [.str told, d]) μ1)
  | some (.ex x (some d) μ1) => if x ∈ es then match hs.find? (fun h => sb x h.1) with
    | some h => some (.ok (.tup [.str h.2, d]) μ1)
    | none => none
    else none
  | _ => none
abbrev clsOf (ad : Str → Addr) (hs : List (Str × Str)) : List (Value × Str) := hs.map fun p => (.ref (ad p.1), p.2)
section
variable {K : PySem.W.Frag} {mg : Str → Option Value} {ad : Str → Addr} {es : List Str} {sb : Str → Str → Bool}
theorem hk_of {Q : VK} {x : Str} {dd : Addr} {v : V} {G : Hp} {w : Str × Str} (hA : AtCls K (ad x)) (hd : G dd = some (.xd [(("at" : Str), v)])) :
    ∀ {hs : List (Str × Str)}, (∀ h ∈ hs, PySem.W.exmOne K (.ref (ad x)) (.ref (ad h.1)) = some (sb x h.1)) → hs.find? (fun h => sb x h.1) = some w → (∀ p, G p = none → Q (.ref p) (upd G p (.tup [.str w.2, v]))) → hkW K Q (clsOf ad hs) (.ref (ad x)) (some dd) G
  | [], _, e, _ => by cases e
  | h :: hs, su, e, q => by
    refine ⟨sb x h.1, su h (List.mem_cons_self ..), fun hb => ⟨ad x, dd, v, rfl, hA, rfl, hd, ?_⟩, fun hb => ?_⟩
    · rw [List.find?_cons, hb] at e
      cases e
      exact q
    · rw [List.find?_cons, hb] at e
      exact hk_of hA hd (fun y hy => su y (List.mem_cons_of_mem _ hy)) e q
end
section
variable {X : Cx} {W : WX}
theorem heard_sim {ad : Str → Addr} {es : List Str} {sb : Str → Str → Bool} {hs : List (Str × Str)} {told : Str} {m : ME} (ho : HOkay X.K X.mg ad es sb hs) {σ : L2.St} {H : Hp} {Q : VK} (h : tE (cz T X) W (mHeard told es sb hs m) σ H Q) :
    LamX.tLam T (TTh X.K told (clsOf ad hs)) (fun E => tE (cz T X) (fun cls d _ H => E cls d H) m) σ H Q := by
  obtain ⟨pv, ι, μ, ρ, k, rr, h⟩ := h
  refine ⟨k.tab, fun H1 e t => ?_⟩
  obtain ⟨k1, x1⟩ := k.ext e t
  refine ⟨pv, ι, μ, ρ, k1, rr.aft k x1, ?_⟩
  unfold mHeard at h
  have h1 := Ret.from h x1
  match e1 : m ρ μ, h1 with
  | some (.ok d μ1), h1 =>
    (try simp only [e1] at h1)
    intro ι2 H2 v k2 x2 r2
    refine ⟨two_line, fun p hp => ?_⟩
    obtain ⟨k3, x3, _⟩ := new_obj (o := .tup [.str told, v]) k2 hp
    exact h1 ι2 _ _ k3 (x2.trans x3) (.tup (SqT.of upd_same) (.cons (.str told) (.cons (Rep.aft k2 x3 r2) .nil)))
  | some (.ex x (some d) μ1), h1 =>
    (try simp only [e1] at h1)
    split at h1
    · rename_i hx
      split at h1
      · rename_i w hw
        intro ι2 H2 C ed k2 x2 e2
        obtain ⟨gC, dd, v, q1, q2, r2⟩ := e2
        obtain ⟨g1, g2⟩ := ho.cls x hx
        have eC : C = ad x := by
          rw [show (cz T X pv).mg x = X.mg x from rfl, g1] at gC
          cases gC
          rfl
        subst eC
        subst q1
        refine hk_of g2 q2 (ho.sub x hx) hw fun p hp => ?_
        obtain ⟨k3, x3, _⟩ := new_obj (o := .tup [.str w.2, v]) k2 hp
        exact h1 ι2 _ _ k3 (x2.trans x3) (.tup (SqT.of upd_same) (.cons (.str w.2) (.cons (Rep.aft k2 x3 r2) .nil)))
      · exact h1.elim
    · exact h1.elim
  | some (.ex x none μ1), h1 =>
    (try simp only [e1] at h1)
    exact h1.elim
  | none, h1 =>
    (try simp only [e1] at h1)
    exact h1.elim
/-- what the def x (at g) is: one parameter a, called within a try; the clauses -/
structure HDef (K : PySem.W.Frag) (mg : Str → Option Value) (ad : Str → Addr) (x : Str) (st : Stmt) (g : Addr) (fd : FuncData) (told : Str) (hs : List (Str × Str)) : Prop where
  fn : Fun K x x st g fd
  gm : mg x = some (.ref g)
  bd : L2.Binds K fd [("work" : Str)] []
  body : ∃ (Nm : Str → Value → Prop) (h0 : ExceptHandler) (hds : List ExceptHandler) (j j2 : Nat) (p1 p2 p3 p8 q1 q2 : Pos),
    (∀ y c, Nm y c → (defScope st).names.lookup y = some .globalImplicit ∧ (y == ("__debug__" : Str)) = false ∧ mg y = some c) ∧ Words Nm "wrong" (h0 :: hds) (clsOf ad hs) ∧
    defBody st = [.Try [.Return (some (.Tuple [.Constant (.str told) j q1, .Call (.Name "work" p1) [] [] p2] j2 q2)) p3] (h0 :: hds) [] [] p8]
  sc : FnScope [("work" : Str), "wrong"] [("work" : Str)] (defScope st)
  lw : (defScope st).names.lookup ("wrong" : Str) = some .local
  va : Vis (defScope st) "work"
/-- a lambda's place: the code object of the def around, its table -/
structure LamAt (T : List (Addr × Str)) (base : Heap) (mg : Str → Option Value) (code : Value) (q : Str) (c P : Addr) : Prop where
  tb : LamX.TabB base mg c P
  cd : code = .ref c
  mem : (P, q ++ "<lambda>") ∈ T
  one : ∀ p ∈ T, p.1 = P → p.2 = q ++ "<lambda>"
theorem em_heard {ad : Str → Addr} {x : Str} {st : Stmt} {g c P : Addr} {fd : FuncData} {told : Str} {es : List Str} {sb : Str → Str → Bool} {hs : List (Str × Str)} {m : ME} {params : Arguments} {body : Expr} {scope : Scope} {k : Nat} {p lpos pos : Pos} (hd : HDef X.K X.mg ad x st g fd told hs) (ho : HOkay X.K X.mg ad es sb hs) (la : LamAt T X.base X.mg X.env.code X.env.qual c P)
    (hg : Gl X x) (hr : Room (k + 2) X.A) (L : LamX.LamS X.env.scope scope) (hdef : defaultsOf params X.env = ([], []))
    (hbind : ∀ (q : Str) (cl : List (Str × Addr)) (pm cv ctv : Value), bindArgs (PySem.W.kla_fn "<lambda>" q params body scope cl pm cv ctv) ⟨[], []⟩ = pure [])
    (hbody : ∀ (A : Around) (outer : List Env) (s : Shared) (H : Hp) (E : XK) (f c' : Addr), Room k (A.deeper (LamX.lamEnv X scope s.heap.objs.size f c')) → EM T (LamX.lamCx X A outer s H E scope f c') (fun cls d _ H => E cls d H) body m)
    (hdb : (x == ("__debug__" : Str)) = false := by decide) : EM T X W (.Call (.Name x p) [.Lambda params body scope lpos] [] pos) (mHeard told es sb hs m) := by
  obtain ⟨oc, od, kV, doc, pm, an, cdv, ct, osl, ef, lk, hcd⟩ := hd.fn.ex
  subst ef
  obtain ⟨Nm, h0, hds, j, j2, p1, p2, p3, p8, q1, q2, nm, words, eb⟩ := hd.body
  refine PE.mono (LamX.pe_lamcall (T := T) (TT := TTh X.K told (clsOf ad hs)) (t := fun E => tE (cz T X) (fun cls d _ H => E cls d H) m) hg hd.gm hd.fn.kp lk hcd hd.bd hd.sc rfl hd.va ?_ la.tb la.cd la.mem la.one hr L hdef hbind hbody hdb) fun σ H Q h => heard_sim ho h
  rw [eb]
  exact heard_gives nm words (by decide) (i := 1) rfl hd.lw (by decide) (by decide) (fun f => rfl)
end
end MV

set_option Elab.async false
set_option linter.all false
set_option maxRecDepth 100000
set_option maxHeartbeats 4000000
/-! MV12: what the top leaves: defs, error classes with their __init__, tables; the end of a law -/
namespace MV
open PySem PySem.Spec PyProof.Rows L2
open PySem.W (Frag)
/-! ### error classes -/
/-- the class at C, over ValueError -/
def exClsB (K : Frag) (C : Addr) : Bool := match K.lookup C with
  | some ⟨.type t, _, .cls cd, sl⟩ => (match cd.mro, sl.toList with
    | .ref C' :: bm, [_, _, _, _, some (.builtin n), _] => decide (t = "type") && (decide (C' = C) && (decide (n = "ValueError.__new__") && (!cd.hasDel && (cd.hasDict && (HandSPX.refsVE bm && decide (PySem.W.alongIn K "__init__" bm = some (some (.builtin "ValueError.__init__"))))))))
    | _, _ => false)
  | _ => false
theorem exClsB_ok {K : Frag} {C : Addr} (h : exClsB K C = true) : ∃ nm q N bs bm sn sub ab col dd k0 k1 k2 k3 k5, K.lookup C = some (excClassObj nm q C N bs bm true sn sub ab col dd k0 k1 k2 k3 k5 "ValueError.__new__") ∧ HandSPX.refsVE bm = true ∧ PySem.W.alongIn K "__init__" bm = some (some (.builtin "ValueError.__init__")) := by
  unfold exClsB at h
  split at h
  · rename_i t dd cd sl e
    split at h
    · rename_i C' bm k0 k1 k2 k3 n k5 e1 e2
      simp only [Bool.and_eq_true, decide_eq_true_eq, Bool.not_eq_true'] at h
      obtain ⟨h1, h2, h3, h4, h5, h6, h7⟩ := h
      obtain ⟨nm, bs, mro, ns, qn, hd, sn, sb, ab, col, del⟩ := cd
      dsimp only at e1 h4 h5
      subst h1 h2 h3 h4 h5 e1
      have esl : sl = #[k0, k1, k2, k3, some (.builtin "ValueError.__new__"), k5] := by
        have : sl.toList.toArray = _ := congrArg List.toArray e2
        simpa using this
      subst esl
      exact ⟨nm, qn, ns, bs, bm, sn, sb, ab, col, dd, k0, k1, k2, k3, k5, e, h6, h7⟩
    · cases h
  · cases h
def cellB (K : Frag) (c C : Addr) : Bool := match K.lookup c with
  | some ⟨_, _, .cell (some (.ref D)), _⟩ => decide (D = C)
  | _ => false
def codeB (P : Program) (K : Frag) (c : Addr) : Bool := match K.lookup c with
  | some ⟨_, _, .fields vs, _⟩ => (match (vs[2]? : Option Value) with
    | some (.str file _) => (P.main.file : Str) == file
    | _ => false)
  | _ => false
def initB (P : Program) (K : Frag) (C f : Addr) : Bool := match K.lookup f with
  | some ⟨_, _, .func fd, _⟩ => (match fd.closure, fd.code, fd.defaults, fd.kwdefaults with
    | [(n, cc)], .ref cda, .none, .none => decide (n = "__class__") && (cellB K cc C && (codeB P K cda && PySem.W.codeIn K (.ref cda) fd.qualname))
    | _, _, _, _ => false)
  | _ => false
abbrev InW : Type := Option (Str × Str × Arguments × FuncBody × Scope × Addr × Addr)
def inW (K : Frag) (x : Str) : InW := match K.lookup (He.ma K (He.ga K x) "__init__") with
  | some ⟨_, _, .func fd, _⟩ => some (fd.name, fd.qualname, fd.params, fd.body, fd.scope, fd.globals, fd.builtins)
  | _ => none
/-- a class statement with an __init__ of its own: name, __init__'s parameters, body, scope -/
structure InD where
  x : Str
  qual : Str
  params : Arguments
  body : List Stmt
  scope : Scope
def InD.val (d : InD) : InW := some ("__init__", d.qual, d.params, .stmts d.body, d.scope, mainGlobals, builtinsNs)
def errB (P : Program) (K : Frag) (x : Str) : Bool :=
  exClsB K (He.ga K x) && (initB P K (He.ga K x) (He.ma K (He.ga K x) "__init__") && (
    decide (PySem.W.findIn K (.ref (He.ga K x)) "__setattr__" = some (some (.builtin "object.__setattr__"))) && (
    decide (PySem.W.findIn K (.ref (He.ga K x)) "__getattribute__" = some (some (.builtin "BaseException.__getattribute__"))) && (
    decide (PySem.W.findIn K (.ref (He.ga K x)) "__getattr__" = some none) && (
    decide (PySem.W.findIn K (.ref (He.ga K x)) "at" = some none) && (
    decide (PySem.W.findIn K (.ref (He.ga K x)) "__init__" = some (some (.ref (He.ma K (He.ga K x) "__init__")))) && (
    decide (PySem.W.typeIn K (.ref (He.ma K (He.ga K x) "__init__")) = some (.type "function")) && (
    PySem.W.keepIn K (.ref (He.ga K x)) && (
    decide (PySem.W.subIn K (.ref (He.ga K x)) (.type "BaseException") = some true) && (
    decide (PySem.W.subIn K (.ref (He.ga K x)) (.type "ValueError") = some true) && (
    decide (PySem.W.typeIn K (.ref (He.ga K x)) = some (.type "type")) && (
    PySem.W.hasDictIn K (He.ga K x) && (
    decide (PySem.W.mroIn K (He.ga K x) (.ref (He.ga K x)) = some true) && decide (PySem.W.nsIn K PySem.cStatics "thirdparty.any" = some none))))))))))))))
theorem at_txt {P : Program} {K : Frag} {mg : Str → Option Value} {d : InD} {p1 p2 a1 a2 a3 a4 a5 a6 q1 q2 q3 q4 : Pos} (hx : mg d.x = some (.ref (He.ga K d.x))) (hs : mg "super" = none) (e : inW K d.x = d.val) (h : errB P K d.x = true) (ep : d.params = ATX.iA p1 p2) (eb : d.body = ATX.iB a1 a2 a3 a4 a5 a6 q1 q2 q3 q4) (es : d.scope = ATX.iS)
    (el : (a3.endLine == a5.line) = true) (top : (P.main.scope.names.lookup ("super" : Str)).isSome = false) : ATX.AtTxt P K mg d.x (He.ga K d.x) (He.ma K (He.ga K d.x) "__init__") := by
  unfold errB at h
  simp only [Bool.and_eq_true, decide_eq_true_eq] at h
  obtain ⟨h1, h2, h3, h4, h5, h6, h7, h8, h9, h10, h11, h12, h13, h14, h15⟩ := h
  refine ⟨hx, hs, exClsB_ok h1, h3, h4, h5, h6, h7, h8, h9, h10, h11, h12, h13, h14, h15, ?_⟩
  unfold initB at h2
  unfold inW at e
  split at h2
  · rename_i oc od fd osl lk
    rw [lk] at e
    split at h2
    · rename_i n cc cda ec ecd e8 e9
      obtain ⟨n1, n2, n3, n4, n5, n6, n7, n8, n9, n10, n11, n12, n13, n14, n15⟩ := fd
      dsimp only at ec ecd e8 e9
      have e2 : (some (n1, n2, n3, n4, n5, n6, n15) : InW) = some (("__init__" : Str), d.qual, d.params, FuncBody.stmts d.body, d.scope, mainGlobals, builtinsNs) := e
      simp only [Option.some.injEq, Prod.mk.injEq] at e2
      obtain ⟨z1, z2, z3, z4, z5, z6, z7⟩ := e2
      simp only [Bool.and_eq_true, decide_eq_true_eq] at h2
      obtain ⟨w1, w2, w3, w4⟩ := h2
      unfold cellB at w2
      split at w2
      · rename_i cl cld D csl lc
        unfold codeB at w3
        split at w3
        · rename_i ccl cdd vs ccs lcd
          split at w3
          · rename_i file tf ev
            have wD : D = He.ga K d.x := of_decide_eq_true w2
            subst wD
            rw [w1] at ec
            subst z1 z3 z4 z5 z6 z7 ec ecd e8 e9
            rw [ep, eb, es] at lk
            exact ⟨n2, oc, od, _, _, _, _, osl, cc, cda, p1, p2, a1, a2, a3, a4, a5, a6, q1, q2, q3, q4, ccl, cl, cdd, cld, ccs, csl, vs, file, tf, lk, w4, lcd, ev, w3, top, lc, el⟩
          · cases w3
        · cases w3
      · cases w2
    · cases h2
  · cases h2
theorem at_cls {P : Program} {K : Frag} {x : Str} (h : errB P K x = true) : AtCls K (He.ga K x) := by
  unfold errB at h
  simp only [Bool.and_eq_true, decide_eq_true_eq] at h
  obtain ⟨h1, h2, h3, h4, h5, h6, h7, h8, h9, h10, h11, h12, h13, h14, h15⟩ := h
  exact ⟨⟨h4, h5, h10, h13⟩, h6⟩
end MV
namespace MV
open PySem PySem.Spec PyProof.Rows L2
open PySem.W (Frag)
/-! ### the look at the heap behind the top -/
def apartB : List Addr → Bool
  | [] => true
  | a :: r => !(r.contains a) && apartB r
theorem apart_inj {α : Type} {f : α → Addr} : ∀ {l : List α}, apartB (l.map f) = true → ∀ a ∈ l, ∀ b ∈ l, f a = f b → a = b
  | [], _, _, h, _, _, _ => by cases h
  | x :: l, h, a, ha, b, hb, e => by
    simp only [List.map_cons, apartB, Bool.and_eq_true, Bool.not_eq_true', List.contains_eq_mem, decide_eq_false_iff_not, List.mem_map, not_exists, not_and] at h
    obtain ⟨h1, h2⟩ := h
    rcases List.mem_cons.mp ha with ea | ha' <;> rcases List.mem_cons.mp hb with eb | hb'
    · rw [ea, eb]
    · exact absurd (by rw [← ea, e]) (h1 b hb')
    · exact absurd (by rw [← eb, ← e]) (h1 a ha')
    · exact apart_inj h2 a ha' b hb' e
/-- the part of the heap that is looked at -/
def frM (n : Nat) (g : Addr → Option Obj) : Frag := He.frT g (PySem.cStatics :: He.asD g n)
structure SaysM (P : Program) (fa : List He.Fa) (fn : List He.DefD) (ins : List InD) (tf : List He.Defn) (ex : Frag → Bool) (h : Heap) (K : Frag) : Prop where
  d : He.SaysD fa fn K
  ini : ins.map (fun i => inW K i.x) = ins.map InD.val
  err : ∀ i ∈ ins, errB P K i.x = true
  hd : ∀ p ∈ tf, PySem.W.codeHdIn K (He.cT K p).1 (He.cT K p).2 = true
  out : ∀ p ∈ tf, K.lookup (He.cT K p).2 = none
  empty : ∀ p ∈ tf, h.get? (He.cT K p).2 = some { cls := .none, data := .fields #[] }
  apart : apartB (tf.map fun p => (He.cT K p).2) = true
  more : ex K = true
abbrev AlM : Type := He.AlD × (List InW × Bool)
def obsM (P : Program) (n : Nat) (fa : List He.Fa) (fn : List He.DefD) (ins : List InD) (tf : List He.Defn) (ex : Frag → Bool) (g : Addr → Option Obj) : AlM :=
  (He.obsD fa fn (frM n g), (ins.map (fun i => inW (frM n g) i.x), (ins.all fun i => errB P (frM n g) i.x) && (He.tabsB g tf (frM n g) && (apartB (tf.map fun p => (He.cT (frM n g) p).2) && ex (frM n g)))))
def valM (fn : List He.DefD) (ins : List InD) : AlM := (He.valD fn, (ins.map InD.val, true))
theorem saysM_of {P : Program} {n : Nat} {fa : List He.Fa} {fn : List He.DefD} {ins : List InD} {tf : List He.Defn} {ex : Frag → Bool} {h : Heap} (e : obsM P n fa fn ins tf ex h.get? = valM fn ins) : SaysM P fa fn ins tf ex h (frM n h.get?) := by
  have e1 : He.obsD fa fn (frM n h.get?) = He.valD fn := congrArg (fun z : AlM => z.1) e
  have e2 : ins.map (fun i => inW (frM n h.get?) i.x) = ins.map InD.val := congrArg (fun z : AlM => z.2.1) e
  have e3 : ((ins.all fun i => errB P (frM n h.get?) i.x) && (He.tabsB h.get? tf (frM n h.get?) && (apartB (tf.map fun p => (He.cT (frM n h.get?) p).2) && ex (frM n h.get?)))) = true := congrArg (fun z : AlM => z.2.2) e
  simp only [Bool.and_eq_true] at e3
  obtain ⟨f1, f2, f3, f4⟩ := e3
  have each : ∀ p ∈ tf, PySem.W.codeHdIn (frM n h.get?) (He.cT (frM n h.get?) p).1 (He.cT (frM n h.get?) p).2 = true ∧ ∃ o, h.get? (He.cT (frM n h.get?) p).2 = some o ∧ He.emptyTab o = true := fun p hp => by
    have z := List.all_eq_true.mp f2 p hp
    simp only [Bool.and_eq_true] at z
    obtain ⟨z1, z2⟩ := z
    refine ⟨z1, ?_⟩
    split at z2
    · rename_i o eo
      exact ⟨o, eo, z2⟩
    · cases z2
  refine ⟨e1, e2, fun i hi => List.all_eq_true.mp f1 i hi, fun p hp => (each p hp).1, fun p hp => ?_, fun p hp => ?_, f3, f4⟩
  · obtain ⟨_, o, a, b⟩ := each p hp
    exact He.frT_none a b
  · obtain ⟨_, o, a, b⟩ := each p hp
    rw [a, He.emptyTab_eq b]
def hookM (P : Program) (n : Nat) (fa : List He.Fa) (fn : List He.DefD) (ins : List InD) (tf : List He.Defn) (ex : Frag → Bool) : PySem.W.Hook where
  α := AlM
  obs := fun s => obsM P n fa fn ins tf ex s.heap.get?
  val := fun _ => valM fn ins
  says := fun _ h => ∃ K : Frag, K.In h ∧ SaysM P fa fn ins tf ex h K
  of := fun _ _ e => ⟨_, He.frT_in, saysM_of e⟩
  keeps := fun _ _ _ ⟨K, hK, c⟩ k => ⟨K, PySem.W.Frag.In.keeps hK k, ⟨c.d, c.ini, c.err, c.hd, c.out, fun p hp => k _ _ (c.empty p hp), c.apart, c.more⟩⟩
theorem obsM_eq {P : Program} {n : Nat} {fa : List He.Fa} {fn : List He.DefD} {ins : List InD} {tf : List He.Defn} {ex : Frag → Bool} {g : Addr → Option Obj} {s : Shared} (h : ∀ a, g a = s.heap.get? a) : obsM P n fa fn ins tf ex g = (hookM P n fa fn ins tf ex).obs s := by
  have e : g = s.heap.get? := funext h
  subst e
  rfl
section
variable {P : Program} {fa : List He.Fa} {fn : List He.DefD} {ins : List InD} {tf : List He.Defn} {ex : Frag → Bool} {h : Heap} {K : Frag}
theorem SaysM.in_ (c : SaysM P fa fn ins tf ex h K) (i : Nat) {d : InD} (e : ins[i]? = some d := by rfl) : inW K d.x = d.val ∧ errB P K d.x = true := by
  have z : (ins.map fun i => inW K i.x)[i]? = (ins.map InD.val)[i]? := by rw [c.ini]
  rw [List.getElem?_map, List.getElem?_map, e] at z
  exact ⟨Option.some.inj z, c.err d (List.mem_of_getElem? e)⟩
end
/-- the name that a lambda's code object bears in the def x -/
def lamName (x : Str) : Str := (x ++ ".<locals>.") ++ "<lambda>"
/-- the tables: each with its name -/
def tabs (K : Frag) (tf : List He.Defn) : List (Addr × Str) := tf.map fun p => ((He.cT K p).2, lamName p.1)
theorem lam_at {P : Program} {fa : List He.Fa} {fn : List He.DefD} {ins : List InD} {tf : List He.Defn} {ex : Frag → Bool} {h base : Heap} {K : Frag} {mg : Str → Option Value} {code : Value} {x : Str} (c : SaysM P fa fn ins tf ex h K) (tb : ∀ p ∈ tf.map (He.cT K), LamX.TabB base mg p.1 p.2) (hx : (x, none) ∈ tf) (hc : code = .ref (He.codeOf K (x, none))) :
    LamAt (tabs K tf) base mg code (x ++ ".<locals>.") (He.codeOf K (x, none)) (He.cT K (x, none)).2 := by
  refine ⟨tb (He.cT K (x, none)) (List.mem_map_of_mem hx), hc, List.mem_map.mpr ⟨_, hx, rfl⟩, fun p hp e => ?_⟩
  obtain ⟨q, hq, eq⟩ := List.mem_map.mp hp
  subst eq
  have z := apart_inj c.apart q hq (x, none) hx e
  subst z
  rfl
end MV
namespace MV
open PySem PySem.Spec PyProof.Rows L2
open PySem.W (Frag)
/-! ### the end of a law -/
theorem reps_ints {c : Cz} {s : SS} : ∀ ns : List Int, Reps c s (ns.map D.int) (ns.map V.int)
  | [] => .nil
  | n :: r => .cons (.int n) (reps_ints r)
theorem lawAt_of {l : PySem.W.OpenLaw} {w : World} {K : Frag} {mg : Str → Option Value} {f : Addr} {fd : FuncData} {h : Heap} {k n : Nat} {x : Str} {F : MF} {P : Program} {fa : List He.Fa} {fn : List He.DefD} {ins : List InD} {tf : List He.Defn} {ex : Frag → Bool} (KX : K.In h) (c : SaysM P fa fn ins tf ex h K)
    (hb : ∀ (s : Shared) (u : Value), BindsTo s fd ⟨[u], []⟩ [(x, u)])
    (hF : ∀ base : Heap, K.In base → base.Ns mainGlobals mg → (∀ p ∈ tf.map (He.cT K), LamX.TabB base mg p.1 p.2) → FM (tabs K tf) l.prog w K mg base k f fd [x] F)
    (yes : ∀ ns : List Int, ns.length ≤ n → (∀ z ∈ ns, Builtin.Int.intBits z ≤ 1048576) → ∀ d : D, d = .lst (ns.map .int) ∨ d = .ro (ns.map .int) → ∃ μ, F [d] [] = some (.ok (.bl true) μ)) :
    LamX.LawAtS l w K (L2.CX l.prog w) k n x mg f h := by
  refine ⟨fd, tf.map (He.cT K), spM (tabs K tf) K mg 1 F, fun p hp => ?_, fun p hp => ?_, fun p hp => ?_, hb, fun H a ns hn hz hT hS => ?_, hF⟩
  · obtain ⟨q, hq, e⟩ := List.mem_map.mp hp
    subst e
    exact c.empty q hq
  · obtain ⟨q, hq, e⟩ := List.mem_map.mp hp
    subst e
    exact c.out q hq
  · obtain ⟨q, hq, e⟩ := List.mem_map.mp hp
    subst e
    exact PySem.W.codeHd_of_K KX (c.hd q hq)
  · have ok : Ok ⟨K, mg, [], tabs K tf⟩ ⟨[], [], H⟩ := ⟨rfl, fun n o e => by simp at e, fun a ha => by simp at ha, fun n m o o' a e => by simp at e, fun p hp => by
      obtain ⟨q, hq, e⟩ := List.mem_map.mp hp
      subst e
      exact LamX.TabS.nil (hT (He.cT K q) (List.mem_map_of_mem hq))⟩
    have nl : ¬ (SS.live ⟨[], [], H⟩ a ∨ a ∈ ([] : List Addr)) := fun z => by
      rcases z with ⟨n, o, e, _⟩ | z
      · simp at e
      · simp at z
    have go : ∀ d : D, (d = .lst (ns.map .int) ∨ d = .ro (ns.map .int)) → Rep ⟨K, mg, [], tabs K tf⟩ ⟨[], [], H⟩ d (.ref a) → spM (tabs K tf) K mg 1 F [.ref a] H (fun v _ => v = .bl true) fun _ _ _ => False := fun d hd r => by
      obtain ⟨μ, e⟩ := yes ns hn hz d hd
      refine ⟨rfl, [], [], [], [d], ok, .cons r .nil, ?_⟩
      rw [e]
      intro ι H' v _ _ rv
      cases rv
      rfl
    rcases hS with (hS | ⟨o, hS⟩) | hS
    · exact go _ (.inl rfl) (.lst hS nl (reps_ints ns))
    · exact go _ (.inr rfl) (.ro (.inl ⟨o, hS⟩) (reps_ints ns))
    · exact go _ (.inr rfl) (.ro (.inr (.inr hS)) (reps_ints ns))
theorem noneOut {P : Program} {w : World} {H : Hp} {s : Shared} {e : Value} {s' : Shared} (h : L2.CX P w [] H s (fun _ _ _ => False) e s') : False := by
  obtain ⟨_, _, _, _, _, _, _, _, _, _, _, _, z⟩ := h
  exact z
end MV

set_option Elab.async false
set_option linter.all false
set_option maxRecDepth 100000
set_option maxHeartbeats 4000000
/-! MV13: is of literals, isinstance, calls by keyword, defs held by names, defaults, parallel stores -/
namespace MV
open PySem PySem.Spec PyProof.Rows L2
variable {T : List (Addr × Str)}

/-! ### is True, is False -/
def rIsL : R2 := fun x y H Q => ∃ b : Bool, y = .bl b ∧ (∀ n, x ≠ .ty n) ∧ Q (.bl (decide (x = .bl b))) H
section
variable {X : Cx}
theorem op_isL : OpR X (compareOp .Is) rIsL := by
  intro pins s σ H x y v u Q I rx ry h
  obtain ⟨b, rfl, nt, q⟩ := h
  cases (show u = Value.bool b from ry)
  have other : ∀ v : Value, plainIs v (.bool b) = true → v ≠ .bool b → x ≠ .bl b → wpAny (model X.prog X.w) X.A (compareOp .Is v (.bool b)) (EP X pins σ Q) X.xe s := fun v p n nx => wpAny_is_other p n ⟨.bl false, H, I, rfl, by simpa [nx] using q⟩
  cases x with
  | non =>
    cases (show v = Value.none from rx)
    exact other _ rfl (fun z => by cases z) (fun z => by cases z)
  | bl a =>
    cases (show v = Value.bool a from rx)
    by_cases e : a = b
    · subst e
      exact wpAny_is_self rfl ⟨.bl true, H, I, rfl, by simpa using q⟩
    · exact other _ rfl (fun z => e (Value.bool.inj z)) (fun z => e (V.bl.inj z))
  | int i =>
    obtain ⟨t, rfl⟩ := rx
    exact other _ rfl (fun z => by cases z) (fun z => by cases z)
  | str i =>
    obtain ⟨t, rfl⟩ := rx
    exact other _ rfl (fun z => by cases z) (fun z => by cases z)
  | byt i =>
    obtain ⟨t, rfl⟩ := rx
    exact other _ rfl (fun z => by cases z) (fun z => by cases z)
  | flt i =>
    obtain ⟨t, rfl⟩ := rx
    exact other _ rfl (fun z => by cases z) (fun z => by cases z)
  | ref a =>
    cases (show v = Value.ref a from rx)
    exact other _ rfl (fun z => by cases z) (fun z => by cases z)
  | ty n => exact absurd rfl (nt n)
end
def isBl (x : D) (b : Bool) : Bool := match x with
  | .bl a => a == b
  | _ => false
def dIsL (x y : D) (_ : Mu) : Option D := match y with
  | .bl b => some (.bl (isBl x b))
  | _ => none
theorem isBl_eq {c : Cz} {s : SS} {x : D} {v : V} {b : Bool} (r : Rep c s x v) : decide (v = V.bl b) = isBl x b := by
  cases r with
  | bl a =>
    show decide (V.bl a = V.bl b) = (a == b)
    by_cases z : a = b
    · subst z
      simp
    · have z1 : (a == b) = false := by simpa using z
      rw [z1]
      exact decide_eq_false fun h => z (V.bl.inj h)
  | _ => exact decide_eq_false fun h => by cases h
section
variable {K : PySem.W.Frag} {mg : Str → Option Value}
theorem r_isL : R2M T K mg dIsL rIsL := fun pv ι μ H x y d v w Q k rx ry e q => by
  cases ry with
  | bl b =>
    have e := Option.some.inj e
    subst e
    refine ⟨b, rfl, (fun n z => by subst z; cases rx), q H _ k (Aft.refl _) ?_⟩
    rw [isBl_eq rx]
    exact .bl _
  | _ => cases e
end

/-! ### isinstance -/
/-- the kinds that are asked for -/
inductive Kd where
  | non | bl | int | str | tup | lst | dct
  deriving DecidableEq
def Kd.name : Kd → String
  | .non => "NoneType"
  | .bl => "bool"
  | .int => "int"
  | .str => "str"
  | .tup => "tuple"
  | .lst => "list"
  | .dct => "dict"
def isA (a b : Kd) : Bool := a == b || (a == .bl && b == .int)
theorem kit_isA (K : PySem.W.Frag) (a b : Kd) (hb : b ≠ .non) : PySem.W.kitOne K (.type a.name) (.type b.name) = some (isA a b) := kit_ty (by
  cases a <;> cases b <;> first | exact absurd rfl hb | decide +kernel)
def kdOf (d : D) (μ : Mu) : Option Kd := match d with
  | .non => some .non
  | .bl _ => some .bl
  | .int _ => some .int
  | .str _ => some .str
  | .tup _ => some .tup
  | .lst _ => some .lst
  | .ro _ => some .lst
  | .ob n => match μ[n]? with
    | some (some (.lst _)) => some .lst
    | _ => none
  | .fn _ => none
theorem sqL_ty {K : PySem.W.Frag} {H : Hp} {a : Addr} {vs : List V} (h : SqL K H a vs) : TyX K H (.ref a) (.type "list") := by
  rcases h with (h | ⟨o, h⟩) | h
  · exact .base (.lst h)
  · exact .base (.frz h)
  · obtain ⟨o, its, n, lk, c, _⟩ := h
    exact .kList lk c
theorem sqT_ty {K : PySem.W.Frag} {H : Hp} {a : Addr} {vs : List V} (h : SqT K H a vs) : TyX K H (.ref a) (.type "tuple") := by
  rcases h with (h | ⟨o, h⟩) | h
  · exact .base (.tup h)
  · exact .fTuple h
  · obtain ⟨o, its, n, lk, c, _⟩ := h
    exact .kTuple lk c
theorem kd_ok {c : Cz} {ι : List Addr} {μ : Mu} {H : Hp} {d : D} {v : V} {q : Kd} (k : Ok c ⟨ι, μ, H⟩) (r : Rep c ⟨ι, μ, H⟩ d v) (h : kdOf d μ = some q) : TyX c.K H v (.type q.name) := by
  cases r with
  | non => cases h; exact .base .non
  | bl b => cases h; exact .base (.bl b)
  | int i => cases h; exact .base (.int i)
  | str x => cases h; exact .base (.str x)
  | tup h1 r1 => cases h; exact sqT_ty h1
  | lst h1 nl r1 => cases h; exact sqL_ty (SqL.of h1)
  | ro h1 r1 =>
    cases h
    rcases h1 with ⟨o, h1⟩ | h1
    · exact .base (.frz h1)
    · rcases h1 with (h1 | ⟨o, h1⟩) | h1
      · cases h1
      · cases h1
      · exact sqL_ty (H := H) (.inr h1)
  | ob h1 =>
    unfold kdOf at h
    simp only at h
    split at h
    · rename_i ds e
      cases h
      obtain ⟨a, e1, vs, e2, _⟩ := k.obj _ _ e
      rw [show (⟨ι, μ, H⟩ : SS).ι[_]? = _ from h1] at e1
      cases e1
      exact .base (.lst e2)
    · cases h
  | fn h1 => cases h
def mIsi (ks : List Kd) (m : ME) : ME := fun ρ μ => bindO (m ρ μ) fun d μ1 => match kdOf d μ1 with
  | some q => some (.ok (.bl (ks.any fun k => isA q k)) μ1)
  | none => none
theorem kit_any {K : PySem.W.Frag} {a : Kd} : ∀ {ks : List Kd}, (∀ k ∈ ks, k ≠ .non) → PySem.W.kitAny K (.type a.name) (ks.map fun k => Value.type k.name) = some (ks.any fun k => isA a k)
  | [], _ => rfl
  | k :: ks, h => by
    rw [List.any_cons]
    refine kitAny_cons (kit_isA K a k (h k (List.mem_cons_self ..))) (fun hb => ?_) (fun hb => ?_)
    · rw [hb, Bool.false_or]
      exact kit_any fun y hy => h y (List.mem_cons_of_mem _ hy)
    · rw [hb, Bool.true_or]
section
variable {X : Cx} {W : WX}
theorem boot_isi : bootBuiltins "isinstance" = some (.builtin "isinstance") := by first | rfl | kernel_rfl
theorem em_isi {q : Kd} {e : Expr} {m : ME} {tn : Str} {p p2 pos : Pos} (he : EM T X W e m) (hq : q ≠ .non) (ht : bootBuiltins tn = some (.type q.name)) (hg : Gl X "isinstance") (hm : X.mg "isinstance" = none) (hg2 : Gl X tn) (hm2 : X.mg tn = none) (hn : tn ≠ "__name__" := by decide) (hd : (tn == ("__debug__" : Str)) = false := by decide)
    (hs : starEach [e, .Name tn p2] X.env = (false, eval e X.env) :: starEach [.Name tn p2] X.env := by rfl) (hs2 : starEach [.Name tn p2] X.env = (false, eval (.Name tn p2) X.env) :: starEach [] X.env := by rfl) (hpl : (backTo pos (starEach [.Name tn p2] X.env)).any (·.1) = false := by rfl) :
    EM T X W (.Call (.Name "isinstance" p) [e, .Name tn p2] [] pos) (mIsi [q] m) :=
  PE.mono (pe_callB call_isi hg hm boot_isi (pa_cons he (pa_cons (pe_bltn (v := .ty q.name) hg2 hm2 ht rfl hn hd) pa_nil hs2) hs) (by decide) (by decide) hs hpl) fun σ H Q ⟨pv, ι, μ, ρ, k, rr, h⟩ =>
    ⟨pv, ι, μ, ρ, k, rr, (Ret.bind h).mono fun v H1 ⟨ι1, μ1, d, k1, x1, r1, h1⟩ => by
      (try dsimp only at h1)
      split at h1
      · rename_i a ea
        refine ⟨v, .ty q.name, .type a.name, .type q.name, _, rfl, .ty _, kd_ok k1 r1 ea, kit_isA X.K a q hq, ?_⟩
        have := h1 ι1 H1 _ k1 (Aft.refl _) (.bl _)
        simpa using this
      · exact h1.elim⟩
/-- names of built-in types -/
inductive TyNames (X : Cx) : List Expr → List Kd → Prop
  | nil : TyNames X [] []
  | cons {tn : Str} {p : Pos} {q : Kd} {es : List Expr} {ks : List Kd} (hq : q ≠ .non) (ht : bootBuiltins tn = some (.type q.name)) (hg : Gl X tn) (hm : X.mg tn = none) (hn : tn ≠ "__name__") (hd : (tn == ("__debug__" : Str)) = false)
      (hs : starEach (.Name tn p :: es) X.env = (false, eval (.Name tn p) X.env) :: starEach es X.env) (r : TyNames X es ks) : TyNames X (.Name tn p :: es) (q :: ks)
theorem TyNames.non {es : List Expr} {ks : List Kd} (h : TyNames X es ks) : ∀ k ∈ ks, k ≠ .non := by
  induction h with
  | nil => intro k hk; cases hk
  | cons hq ht hg hm hn hd hs r ih =>
    intro k hk
    rcases List.mem_cons.mp hk with e | e
    · rw [e]
      exact hq
    · exact ih k e
theorem TyNames.pa {es : List Expr} {ks : List Kd} (h : TyNames X es ks) : PA X es (fun _ H Q => Q (ks.map fun k => V.ty k.name) H) := by
  induction h with
  | nil => exact pa_nil
  | cons hq ht hg hm hn hd hs r ih => exact pa_cons (pe_bltn (v := .ty _) hg hm ht rfl hn hd) ih hs
theorem clsv_names : ∀ ks : List Kd, Paired ClsV (ks.map fun k => V.ty k.name) (ks.map fun k => Value.type k.name)
  | [] => .nil
  | k :: ks => .cons (.ty _) (clsv_names ks)
theorem em_isiT {ks : List Kd} {e : Expr} {es : List Expr} {m : ME} {j : Nat} {p p2 pos : Pos} (he : EM T X W e m) (ht : TyNames X es ks) (hl : ks.length ≤ lineS) (hg : Gl X "isinstance") (hm : X.mg "isinstance" = none)
    (hs : starEach [e, .Tuple es j p2] X.env = (false, eval e X.env) :: starEach [.Tuple es j p2] X.env := by rfl) (hs2 : starEach [.Tuple es j p2] X.env = (false, eval (.Tuple es j p2) X.env) :: starEach [] X.env := by rfl) (hpl : (backTo pos (starEach [.Tuple es j p2] X.env)).any (·.1) = false := by rfl) :
    EM T X W (.Call (.Name "isinstance" p) [e, .Tuple es j p2] [] pos) (mIsi ks m) :=
  PE.mono (pe_callB call_isiT hg hm boot_isi (pa_cons he (pa_cons (pe_tup ht.pa) pa_nil hs2) hs) (by decide) (by decide) hs hpl) fun σ H Q ⟨pv, ι, μ, ρ, k, rr, h⟩ =>
    ⟨pv, ι, μ, ρ, k, rr, (Ret.bind h).mono fun v H1 ⟨ι1, μ1, d, k1, x1, r1, h1⟩ => by
      (try dsimp only at h1)
      split at h1
      · rename_i a ea
        refine ⟨by rw [List.length_map, ← lineS_ok]; exact hl, fun p hp => ?_⟩
        obtain ⟨k2, x2, _⟩ := new_obj (o := .tup (ks.map fun k => V.ty k.name)) k1 hp
        exact ⟨v, p, ks.map fun k => V.ty k.name, .type a.name, ks.map fun k => Value.type k.name, _, rfl, upd_same, clsv_names ks, kd_ok k2 (Rep.aft k1 x2 r1) ea, kit_any ht.non, h1 ι1 _ _ k2 x2 (.bl _)⟩
      · exact h1.elim⟩
end
end MV

set_option Elab.async false
set_option linter.all false
set_option maxRecDepth 100000
set_option maxHeartbeats 4000000
/-! MV14: calls without arguments, by keyword, of a def that a slot holds; parallel stores; xs[::-1]; list(range(..)); zip; defs with defaults -/
namespace MV
open PySem PySem.Spec PyProof.Rows L2
variable {T : List (Addr × Str)}

section
variable {X : Cx} {W : WX}
/-! ### f() -/
theorem em_appZ {k : Nat} {f : Addr} {fd : FuncData} {F : MF} {x : Str} {p pos : Pos} {ps : List Str} {dv : List D} {dvs : List V} {dls : List Value} (FO : FM T X.prog X.w X.K X.mg X.base k f fd ps F) (hr : Room k X.A) (tk : Takes X W)
    (hg : Gl X x) (hm : X.mg x = some (.ref f)) (hk : PySem.W.keepIn X.K (.ref f) = true) (hb : Binds X.K fd ps dls) (hv : Vals dvs dls) (hd : ∀ pv s, Reps (cz T X pv) s dv dvs)
    (hdb : (x == ("__debug__" : Str)) = false := by decide) : EM T X W (.Call (.Name x p) [] [] pos) (mApp ps.length F dv aNil) := by
  refine ⟨fun pins s σ H Q I h => wpAny_Call_Name_kw (ld_glob I hg hm (PySem.W.callWith_K0 I.kIn hk ?_) hdb)⟩
  obtain ⟨pv, ι, μ, ρ, ko, rr, h⟩ := h
  (try simp only [mApp, aNil, bindA, List.nil_append] at h)
  split at h
  · rename_i hn
    have r2 := hd pv ⟨ι, μ, H⟩
    exact run_fnSD (us := []) (vs := []) (E := WE W) FO hr hb hv (passAt tk σ) I .nil ⟨by rw [List.nil_append, ← r2.length, hn], pv, ι, μ, dv, ko, r2, h⟩
  · exact h.elim
/-! ### f(e, .., k = e', ..) in the parameters' order -/
abbrev KM (T : List (Addr × Str)) (X : Cx) (W : WX) (kws : List Keyword) (m : MA) : Prop := PK X kws (tAs (cz T X) W m)
theorem PK.mono {kws : List Keyword} {t t' : TA} (h : PK X kws t) (i : ∀ σ H Q, t' σ H Q → t σ H Q) : PK X kws t' := ⟨fun pos pins s σ H Q I q => h.run pos pins s σ H Q I (i σ H Q q)⟩
theorem km_nil : KM T X W [] aNil := PK.mono pk_nil fun σ H Q ⟨pv, ι, μ, ρ, k, rr, h⟩ => h ι H [] k (Aft.refl _) .nil
theorem cons_sim {a : ME} {r : MA} {σ : L2.St} {H : Hp} {Q : List V → Hp → Prop} (h : tAs (cz T X) W (aCons a r) σ H Q) : tCons (tE (cz T X) W a) (tAs (cz T X) W r) σ H Q := by
  obtain ⟨pv, ι, μ, ρ, k, rr, h⟩ := h
  refine ⟨pv, ι, μ, ρ, k, rr, (RetA.bindO h).mono fun v H1 ⟨ι1, μ1, d, k1, x1, r1, h1⟩ => ⟨pv, ι1, μ1, ρ, k1, rr.aft k x1, (RetA.bindA h1).mono fun vs H2 ⟨ι2, μ2, ds, k2, x2, r2, h2⟩ => ?_⟩⟩
  exact h2 ι2 H2 (v :: vs) k2 (Aft.refl _) (.cons (Rep.aft k1 x2 r1) r2)
theorem km_cons {nm : Option Str} {e : Expr} {kpos : Pos} {kws : List Keyword} {a : ME} {r : MA} (ha : EM T X W e a) (hr : KM T X W kws r) : KM T X W (⟨nm, e, kpos⟩ :: kws) (aCons a r) := PK.mono (pk_cons ha hr) fun _ _ _ h => cons_sim h
/-- n1 values, then the values of the keywords ks, then dls -/
def KB (K : PySem.W.Frag) (fd : FuncData) (ps ks : List Str) (n1 : Nat) (dls : List Value) : Prop := ∀ (s : Shared) (us ws : List Value), K.In s.heap → us.length = n1 → ws.length = ks.length → BindsTo s fd ⟨us, ks.zip ws⟩ (ps.zip (us ++ ws ++ dls))
def mAppK (n n1 n2 : Nat) (F : MF) (dv : List D) (a m : MA) : ME := fun ρ μ => bindA (a ρ μ) fun xs μ1 => bindA (m ρ μ1) fun ys μ2 => if xs.length = n1 ∧ ys.length = n2 ∧ (xs ++ ys ++ dv).length = n then F (xs ++ ys ++ dv) μ2 else none
theorem em_appK {k n1 : Nat} {f : Addr} {fd : FuncData} {ps ks : List Str} {F : MF} {dv : List D} {dvs : List V} {dls : List Value} {x : Str} {p pos : Pos} {e : Expr} {es : List Expr} {kws : List Keyword} {a m : MA} (FO : FM T X.prog X.w X.K X.mg X.base k f fd ps F) (hr : Room k X.A) (tk : Takes X W)
    (hg : Gl X x) (hm : X.mg x = some (.ref f)) (hk : PySem.W.keepIn X.K (.ref f) = true) (hb : KB X.K fd ps ks n1 dls) (hv : Vals dvs dls) (hd : ∀ pv s, Reps (cz T X pv) s dv dvs)
    (ha : AM T X W (e :: es) a) (hkw : KM T X W kws m) (hall : (backToKw pos (keywordEach kws X.env)).all (·.1.isSome) = true := by rfl) (hks : (backToKw pos (keywordEach kws X.env)).filterMap (·.1) = ks := by rfl)
    (hdb : (x == ("__debug__" : Str)) = false := by decide) (he : starEach (e :: es) X.env = (false, eval e X.env) :: starEach es X.env := by rfl)
    (hpl : ((backTo pos (starEach (e :: es) X.env)).any (·.1) || (backToKw pos (keywordEach kws X.env)).any (·.1.isNone)) = false := by rfl) :
    EM T X W (.Call (.Name x p) (e :: es) kws pos) (mAppK ps.length n1 ks.length F dv a m) := by
  refine ⟨fun pins s σ H Q I h => ?_⟩
  obtain ⟨pv, ι, μ, ρ, ko, rr, h⟩ := h
  refine wpAny_Call_Name_kw (ld_glob I hg hm ?_ hdb)
  have h' := Ret.bindA h
  refine PySem.W.callWith_KW (h₀ := X.base) I.ok.mod.kin hk hall (thn (ha.run pos pins s σ H (fun vs H1 => tAs (cz T X) W m σ H1 fun zs H2 => vs.length = n1 ∧ zs.length = ks.length ∧ spM T X.K X.mg ps.length F (vs ++ zs ++ dvs) H2 Q (WE W σ)) I ⟨pv, ι, μ, ρ, ko, rr, ?_⟩) fun us s1 ⟨vs, H1, I1, r, q⟩ => ?_) hpl he
  · refine h'.mono fun vs H1 ⟨ι1, μ1, ds, k1, x1, r1, h1⟩ => ⟨pv, ι1, μ1, ρ, k1, rr.aft ko x1, (Ret.bindA h1).mono fun zs H2 ⟨ι2, μ2, es', k2, x2, r2, h2⟩ => ?_⟩
    (try dsimp only at h2)
    split at h2
    · rename_i hn
      obtain ⟨l1, l2, l3⟩ := hn
      have r1' := Reps.aft k1 x2 r1
      have r4 := (r1'.append r2).append (hd pv _)
      exact ⟨by rw [← r1.length, l1], by rw [← r2.length, l2], by rw [← r4.length, l3], pv, ι2, μ2, ds ++ es' ++ dv, k2, r4, h2⟩
    · exact h2.elim
  · refine thn (hkw.run pos pins s1 σ H1 _ I1 q) fun ws s2 ⟨zs, H2, I2, rz, q2⟩ => ⟨I2.kIn, ?_⟩
    obtain ⟨l1, l2, q2⟩ := q2
    rw [hks]
    have bt := hb s2 us ws I2.kIn (by rw [← r.length, l1]) (by rw [← rz.length, l2])
    refine wpAny_call (codeAny_mono (FO.run X.A X.stack s2 H2 ⟨us, ks.zip ws⟩ (us ++ ws ++ dls) (vs ++ zs ++ dvs) Q (WE W σ) hr I2.env0 bt ((r.append rz).append hv) q2) fun r s' hq => ?_)
    cases r with
    | error e => exact passAt tk σ pins H2 s2 e s' I2 hq
    | ok fl =>
      cases fl with
      | ret u => exact I2.after hq
      | next => exact False.elim hq
      | brk => exact False.elim hq
      | cont => exact False.elim hq
theorem em_appK0 {k : Nat} {f : Addr} {fd : FuncData} {ps ks : List Str} {F : MF} {dv : List D} {dvs : List V} {dls : List Value} {x : Str} {p pos : Pos} {kws : List Keyword} {m : MA} (FO : FM T X.prog X.w X.K X.mg X.base k f fd ps F) (hr : Room k X.A) (tk : Takes X W)
    (hg : Gl X x) (hm : X.mg x = some (.ref f)) (hk : PySem.W.keepIn X.K (.ref f) = true) (hb : KB X.K fd ps ks 0 dls) (hv : Vals dvs dls) (hd : ∀ pv s, Reps (cz T X pv) s dv dvs)
    (hkw : KM T X W kws m) (hall : (backToKw pos (keywordEach kws X.env)).all (·.1.isSome) = true := by rfl) (hks : (backToKw pos (keywordEach kws X.env)).filterMap (·.1) = ks := by rfl)
    (hdb : (x == ("__debug__" : Str)) = false := by decide) (hpl : ((backTo pos (starEach [] X.env)).any (·.1) || (backToKw pos (keywordEach kws X.env)).any (·.1.isNone)) = false := by rfl) :
    EM T X W (.Call (.Name x p) [] kws pos) (mAppK ps.length 0 ks.length F dv aNil m) := by
  refine ⟨fun pins s σ H Q I h => ?_⟩
  obtain ⟨pv, ι, μ, ρ, ko, rr, h⟩ := h
  refine wpAny_Call_Name_kw (ld_glob I hg hm ?_ hdb)
  refine PySem.W.callWith_KW0 (h₀ := X.base) I.ok.mod.kin hk hall (thn (hkw.run pos pins s σ H (fun zs H2 => zs.length = ks.length ∧ spM T X.K X.mg ps.length F (zs ++ dvs) H2 Q (WE W σ)) I ⟨pv, ι, μ, ρ, ko, rr, ?_⟩) fun ws s2 ⟨zs, H2, I2, rz, q2⟩ => ⟨I2.kIn, ?_⟩) hpl
  · have h1 : Ret (cz T X pv) ⟨ι, μ, H⟩ (bindA (m ρ μ) fun ys μ2 => if ([] : List D).length = 0 ∧ ys.length = ks.length ∧ (([] : List D) ++ ys ++ dv).length = ps.length then F (([] : List D) ++ ys ++ dv) μ2 else none) Q (fun cls d H' => W cls d σ H') := h
    refine (Ret.bindA h1).mono fun zs H2 ⟨ι2, μ2, ds, k2, x2, r2, h2⟩ => ?_
    (try dsimp only at h2)
    split at h2
    · rename_i hn
      obtain ⟨_, l2, l3⟩ := hn
      have r4 := r2.append (hd pv _)
      exact ⟨by rw [← r2.length, l2], by rw [← r4.length]; exact l3, pv, ι2, μ2, ds ++ dv, k2, r4, h2⟩
    · exact h2.elim
  · obtain ⟨l2, q2⟩ := q2
    rw [hks]
    have bt := hb s2 [] ws I2.kIn rfl (by rw [← rz.length, l2])
    refine wpAny_call (codeAny_mono (FO.run X.A X.stack s2 H2 ⟨[], ks.zip ws⟩ ([] ++ ws ++ dls) (zs ++ dvs) Q (WE W σ) hr I2.env0 bt (rz.append hv) q2) fun r s' hq => ?_)
    cases r with
    | error e => exact passAt tk σ pins H2 s2 e s' I2 hq
    | ok fl =>
      cases fl with
      | ret u => exact I2.after hq
      | next => exact False.elim hq
      | brk => exact False.elim hq
      | cont => exact False.elim hq
/-! ### a def that a slot holds is called -/
/-- what may be held: names, each with the number of its parameters and its mirror -/
structure Holds1 (T : List (Addr × Str)) (X : Cx) (k : Nat) (x : Str) (n : Nat) (F : MF) : Prop where
  ex : ∃ (f : Addr) (fd : FuncData) (ps : List Str), X.mg x = some (.ref f) ∧ PySem.W.keepIn X.K (.ref f) = true ∧ Binds X.K fd ps [] ∧ ps.length = n ∧ FM T X.prog X.w X.K X.mg X.base k f fd ps F
def mAppV (tb : Str → Option (Nat × MF)) (i : Nat) (a : MA) : ME := fun ρ μ => match ρ[i]? with
  | some (some (.fn y)) => match tb y with
    | some (n, F) => mApp n F [] a ρ μ
    | none => none
  | _ => none
theorem em_appV {k i : Nat} {tb : Str → Option (Nat × MF)} {x : Str} {p pos : Pos} {e : Expr} {es : List Expr} {m : MA} (ht : ∀ y n F, tb y = some (n, F) → Holds1 T X k y n F) (hr : Room k X.A) (tk : Takes X W) (hN : X.N[i]? = some x) (hv : Vis X.env.scope x) (ha : AM T X W (e :: es) m)
    (hdb : (x == ("__debug__" : Str)) = false := by decide) (hcd : (x == ("__classdict__" : Str)) = false := by decide) (he : starEach (e :: es) X.env = (false, eval e X.env) :: starEach es X.env := by rfl) (hpl : (backTo pos (starEach es X.env)).any (·.1) = false := by rfl) :
    EM T X W (.Call (.Name x p) (e :: es) [] pos) (mAppV tb i m) := by
  refine ⟨fun pins s σ H Q I h => ?_⟩
  obtain ⟨pv, ι, μ, ρ, ko, rr, h⟩ := h
  unfold mAppV at h
  split at h
  · rename_i y ey
    split at h
    · rename_i n F et
      obtain ⟨f, fd, ps, gm, kp, bd, ln, FO⟩ := (ht y n F et).ex
      obtain ⟨v, e1, r⟩ := rr.2 i _ ey
      cases r with
      | fn hm =>
        have ea : (cz T X pv).mg y = X.mg y := rfl
        rw [ea, gm] at hm
        cases hm
        subst ln
        refine wpAny_Call_Name_kw (thn ((pe_var (pos := p) hN hv hdb hcd).run pins s σ H (fun v H1 => v = .ref f ∧ H1 = H) I ⟨.ref f, e1, rfl, rfl⟩) fun u s1 ⟨v, H1, I1, r1, q1⟩ => ?_)
        obtain ⟨ev, eH⟩ := q1
        subst ev eH
        cases r1
        have h2 := app_sim (X := X) (W := W) (dvs := []) (fun pv s => .nil) (σ := σ) (H := H1) (Q := Q) ⟨pv, ι, μ, ρ, ko, rr, h⟩
        refine PySem.W.callWith_K (h₀ := X.base) I1.ok.mod.kin kp (thn (ha.run pos pins s1 σ _ _ I1 h2) fun us s2 ⟨vs, H2, I2, r2, q⟩ => ⟨I2.kIn, ?_⟩) he hpl
        exact run_fnSD FO hr bd .nil (passAt tk σ) I2 r2 q
    · exact h.elim
  · exact h.elim
/-! ### a, b = x, y with plain local names -/
def sPar (i j : Nat) (a b : ME) : MS := fun ρ μ => match aCons a (aCons b aNil) ρ μ with
  | some (.ok [x, y] μ1) => some (.nx ((ρ.set i (some x)).set j (some y)) μ1)
  | some (.ex x e μ1) => some (.ex x e ρ μ1)
  | _ => none
theorem sm_par {i j : Nat} {x y : Str} {a b : Expr} {ma mb : ME} {px py pt pos : Pos} {kt k2 pt2} (hc : X.calm = true) (hN : X.N.Nodup) (hi : X.N[i]? = some x) (hj : X.N[j]? = some y) (hij : i ≠ j) (hx : X.env.scope.names.lookup x = some .local) (hy : X.env.scope.names.lookup y = some .local)
    (ha : EM T X W a ma) (hb : EM T X W b mb) (hw : swappedStores [.Tuple [.Name x px, .Name y py] kt pt] (.Tuple [a, b] k2 pt2) X.env = pure (some [x, y]))
    (h1 : starEach [a, b] X.env = (false, eval a X.env) :: starEach [b] X.env := by rfl) (h2 : starEach [b] X.env = (false, eval b X.env) :: starEach [] X.env := by rfl) (hs : swapsWithSole [.Tuple [.Name x px, .Name y py] kt pt] (.Tuple [a, b] k2 pt2) pos.line X.env = pure false := by rfl) :
    SM T X W (.Assign [.Tuple [.Name x px, .Name y py] kt pt] (.Tuple [a, b] k2 pt2) pos) (sPar i j ma mb) :=
  PS.mono (ps_par hc hN hi hj hij hx hy (am_cons ha (am_cons hb am_nil h2) h1) hw hs) fun Dn σ H ⟨pv, ι, μ, ρ, k, rr, h⟩ => by
    refine ⟨pv, ι, μ, ρ, k, rr, ?_⟩
    unfold sPar at h
    match e : aCons ma (aCons mb aNil) ρ μ, h with
    | some (.ok [u, w] μ1), h =>
      intro ι1 H1 vs k1 x1 r1
      cases r1 with
      | cons ru r2 =>
        cases r2 with
        | cons rw r3 =>
          cases r3
          exact ⟨_, _, rfl, h ι1 H1 _ k1 x1 (((rr.aft k x1).set ru).set rw)⟩
    | some (.ex y a μ1), h => exact fun ι1 H1 C1 ed k1 x1 e1 => h ι1 H1 σ C1 ed k1 x1 (rr.aft k x1) e1
    | some (.ok [] _), h | some (.ok [_] _), h | some (.ok (_ :: _ :: _ :: _) _), h | none, h => exact h.elim
def sPar3 (i j l : Nat) (a b c : ME) : MS := fun ρ μ => match aCons a (aCons b (aCons c aNil)) ρ μ with
  | some (.ok [x, y, z] μ1) => some (.nx (((ρ.set i (some x)).set j (some y)).set l (some z)) μ1)
  | some (.ex x e μ1) => some (.ex x e ρ μ1)
  | _ => none
theorem sm_par3 {i j l : Nat} {x y z : Str} {a b c : Expr} {ma mb mc : ME} {px py pz pt pos : Pos} {kt k2 pt2} (hc : X.calm = true) (hN : X.N.Nodup) (hi : X.N[i]? = some x) (hj : X.N[j]? = some y) (hl : X.N[l]? = some z) (hij : i ≠ j) (hil : i ≠ l) (hjl : j ≠ l)
    (hx : X.env.scope.names.lookup x = some .local) (hy : X.env.scope.names.lookup y = some .local) (hz : X.env.scope.names.lookup z = some .local) (ha : EM T X W a ma) (hb : EM T X W b mb) (hcc : EM T X W c mc)
    (hw : swappedStores [.Tuple [.Name x px, .Name y py, .Name z pz] kt pt] (.Tuple [a, b, c] k2 pt2) X.env = pure (some [x, y, z]))
    (h1 : starEach [a, b, c] X.env = (false, eval a X.env) :: starEach [b, c] X.env := by rfl) (h2 : starEach [b, c] X.env = (false, eval b X.env) :: starEach [c] X.env := by rfl) (h3 : starEach [c] X.env = (false, eval c X.env) :: starEach [] X.env := by rfl)
    (hs : swapsWithSole [.Tuple [.Name x px, .Name y py, .Name z pz] kt pt] (.Tuple [a, b, c] k2 pt2) pos.line X.env = pure false := by rfl) :
    SM T X W (.Assign [.Tuple [.Name x px, .Name y py, .Name z pz] kt pt] (.Tuple [a, b, c] k2 pt2) pos) (sPar3 i j l ma mb mc) :=
  PS.mono (ps_par3 hc hN hi hj hl hij hil hjl hx hy hz (am_cons ha (am_cons hb (am_cons hcc am_nil h3) h2) h1) hw hs) fun Dn σ H ⟨pv, ι, μ, ρ, k, rr, h⟩ => by
    refine ⟨pv, ι, μ, ρ, k, rr, ?_⟩
    unfold sPar3 at h
    match e : aCons ma (aCons mb (aCons mc aNil)) ρ μ, h with
    | some (.ok [u, w, q] μ1), h =>
      intro ι1 H1 vs k1 x1 r1
      cases r1 with
      | cons ru r2 =>
        cases r2 with
        | cons rw r3 =>
          cases r3 with
          | cons rq r4 =>
            cases r4
            exact ⟨_, _, _, rfl, h ι1 H1 _ k1 x1 ((((rr.aft k x1).set ru).set rw).set rq)⟩
    | some (.ex y a μ1), h => exact fun ι1 H1 C1 ed k1 x1 e1 => h ι1 H1 σ C1 ed k1 x1 (rr.aft k x1) e1
    | some (.ok [] _), h | some (.ok [_] _), h | some (.ok [_, _] _), h | some (.ok (_ :: _ :: _ :: _ :: _) _), h | none, h => exact h.elim
end
end MV

set_option Elab.async false
set_option linter.all false
set_option maxRecDepth 100000
set_option maxHeartbeats 4000000
/-! MV15: xs[::-1], list(range(..)), zip; a def's promise; recursion -/
namespace MV
open PySem PySem.Spec PyProof.Rows L2
variable {T : List (Addr × Str)}
section
variable {X : Cx} {W : WX}
/-! ### xs[::-1] -/
def mRev (m : ME) : ME := fun ρ μ => bindO (m ρ μ) fun d μ1 => match asQ d μ1 with
  | some ds => some (.ok (.lst ds.reverse) μ1)
  | none => none
def mRevM (m : ME) : ME := fun ρ μ => bindO (m ρ μ) fun d μ1 => match asQ d μ1 with
  | some ds => some (.ok (.ob μ1.length) (μ1 ++ [some (.lst ds.reverse)]))
  | none => none
theorem em_rev {e : Expr} {m : ME} {k : Nat} {p1 p2 p3 pos : Pos} (he : EM T X W e m) : EM T X W (.Subscript e (.Slice none none (some (.UnaryOp .USub (.Constant (.int 1) k p1) p2)) p3) pos) (mRev m) :=
  PE.mono (pe_revL he) fun σ H Q ⟨pv, ι, μ, ρ, k, rr, h⟩ => ⟨pv, ι, μ, ρ, k, rr, (Ret.bind h).mono fun v H1 ⟨ι1, μ1, d, k1, x1, r1, h1⟩ => by
    (try dsimp only at h1)
    split at h1
    · rename_i ds e
      obtain ⟨a, vs, ea, sq, rs⟩ := seq_at k1 r1 e
      refine ⟨a, vs, ea, sq, fun p hp => ?_⟩
      obtain ⟨k2, x2, nl⟩ := new_obj (o := .lst vs.reverse) k1 hp
      exact h1 ι1 _ _ k2 x2 (.lst upd_same nl (Reps.reverse (rs.aft k1 x2)))
    · exact h1.elim⟩
theorem em_revM {e : Expr} {m : ME} {k : Nat} {p1 p2 p3 pos : Pos} (he : EM T X W e m) : EM T X W (.Subscript e (.Slice none none (some (.UnaryOp .USub (.Constant (.int 1) k p1) p2)) p3) pos) (mRevM m) :=
  PE.mono (pe_revL he) fun σ H Q ⟨pv, ι, μ, ρ, k, rr, h⟩ => ⟨pv, ι, μ, ρ, k, rr, (Ret.bind h).mono fun v H1 ⟨ι1, μ1, d, k1, x1, r1, h1⟩ => by
    (try dsimp only at h1)
    split at h1
    · rename_i ds e
      obtain ⟨a, vs, ea, sq, rs⟩ := seq_at k1 r1 e
      refine ⟨a, vs, ea, sq, fun p hp => ?_⟩
      obtain ⟨k2, x2, r2⟩ := new_mut k1 hp (Reps.reverse rs)
      exact h1 _ _ _ k2 x2 r2
    · exact h1.elim⟩
/-! ### list(range(a)), list(range(a, b)), tuple(range(..)) -/
def rgD (a b : Int) : List D := (List.range (b - a).toNat).map fun i => D.int (a + (i : Nat))
def rgFit (a b : Int) : Bool := decide (-(2 ^ 62) ≤ a) && (decide (a < 2 ^ 62) && (decide (-(2 ^ 62) ≤ b) && (decide (b < 2 ^ 62) && decide ((b - a).toNat ≤ 2 ^ 24))))
theorem rgFit_ok {a b : Int} (h : rgFit a b = true) : RgOk a b := by
  unfold rgFit at h
  simp only [Bool.and_eq_true, decide_eq_true_eq] at h
  exact h
theorem reps_rg {c : Cz} {s : SS} (a b : Int) : Reps c s (rgD a b) (rgV a b) := by
  unfold rgD rgV
  generalize List.range (b - a).toNat = l
  induction l with
  | nil => exact .nil
  | cons x l ih => exact .cons (.int _) ih
theorem rg1_sim {m : ME} {k : Int → Int → Mu → Option Out} {σ : L2.St} {H : Hp} {Q : VK} {R : Int → Int → Hp → Prop} (h : tE (cz T X) W (fun ρ μ => bindO (m ρ μ) fun d μ1 => match d with
    | .int n => k 0 n μ1
    | _ => none) σ H Q) (hr : ∀ (pv ι : List Addr) (μ : Mu) (H1 : Hp) (n : Int), Ok (cz T X pv) ⟨ι, μ, H1⟩ → Ret (cz T X pv) ⟨ι, μ, H1⟩ (k 0 n μ) Q (fun cls d H' => W cls d σ H') → R 0 n H1) : tRg1 (tE (cz T X) W m) σ H R := by
  obtain ⟨pv, ι, μ, ρ, ko, rr, h⟩ := h
  refine ⟨pv, ι, μ, ρ, ko, rr, (Ret.bind h).mono fun v H1 ⟨ι1, μ1, d, k1, x1, r1, h1⟩ => ?_⟩
  match d, r1, h1 with
  | .int n, .int _, h1 => exact ⟨n, rfl, hr pv ι1 μ1 H1 n k1 h1⟩
theorem rg2_sim {a b : ME} {k : Int → Int → Mu → Option Out} {σ : L2.St} {H : Hp} {Q : VK} {R : Int → Int → Hp → Prop} (h : tE (cz T X) W (fun ρ μ => bindO (a ρ μ) fun d μ1 => bindO (b ρ μ1) fun e μ2 => match d, e with
    | .int i, .int j => k i j μ2
    | _, _ => none) σ H Q) (hr : ∀ (pv ι : List Addr) (μ : Mu) (H1 : Hp) (i j : Int), Ok (cz T X pv) ⟨ι, μ, H1⟩ → Ret (cz T X pv) ⟨ι, μ, H1⟩ (k i j μ) Q (fun cls d H' => W cls d σ H') → R i j H1) : tRg2 (tE (cz T X) W a) (tE (cz T X) W b) σ H R := by
  obtain ⟨pv, ι, μ, ρ, ko, rr, h⟩ := h
  refine ⟨pv, ι, μ, ρ, ko, rr, (Ret.bind h).mono fun v H1 ⟨ι1, μ1, d, k1, x1, r1, h1⟩ => ⟨pv, ι1, μ1, ρ, k1, rr.aft ko x1, (Ret.bind h1).mono fun w H2 ⟨ι2, μ2, e, k2, x2, r2, h2⟩ => ?_⟩⟩
  match d, r1, e, r2, h2 with
  | .int i, .int _, .int j, .int _, h2 => exact ⟨i, j, rfl, rfl, hr pv ι2 μ2 H2 i j k2 h2⟩
def kLst (i j : Int) (μ : Mu) : Option Out := if rgFit i j = true then some (.ok (.lst (rgD i j)) μ) else none
def kLstM (i j : Int) (μ : Mu) : Option Out := if rgFit i j = true then some (.ok (.ob μ.length) (μ ++ [some (.lst (rgD i j))])) else none
def kTup (i j : Int) (μ : Mu) : Option Out := if rgFit i j = true then some (.ok (.tup (rgD i j)) μ) else none
def mRange1 (k : Int → Int → Mu → Option Out) (m : ME) : ME := fun ρ μ => bindO (m ρ μ) fun d μ1 => match d with
  | .int n => k 0 n μ1
  | _ => none
def mRange2 (k : Int → Int → Mu → Option Out) (a b : ME) : ME := fun ρ μ => bindO (a ρ μ) fun d μ1 => bindO (b ρ μ1) fun e μ2 => match d, e with
  | .int i, .int j => k i j μ2
  | _, _ => none
theorem lst_end {pv ι : List Addr} {μ : Mu} {H : Hp} {i j : Int} {Q : VK} {E : XK} (k : Ok (cz T X pv) ⟨ι, μ, H⟩) (h : Ret (cz T X pv) ⟨ι, μ, H⟩ (kLst i j μ) Q E) : RgOk i j ∧ ∀ q, H q = none → Q (.ref q) (upd H q (.lst (rgV i j))) := by
  unfold kLst at h
  split at h
  · rename_i hf
    refine ⟨rgFit_ok hf, fun p hp => ?_⟩
    obtain ⟨k2, x2, nl⟩ := new_obj (o := .lst (rgV i j)) k hp
    exact h ι _ _ k2 x2 (.lst upd_same nl (reps_rg i j))
  · exact h.elim
theorem lstM_end {pv ι : List Addr} {μ : Mu} {H : Hp} {i j : Int} {Q : VK} {E : XK} (k : Ok (cz T X pv) ⟨ι, μ, H⟩) (h : Ret (cz T X pv) ⟨ι, μ, H⟩ (kLstM i j μ) Q E) : RgOk i j ∧ ∀ q, H q = none → Q (.ref q) (upd H q (.lst (rgV i j))) := by
  unfold kLstM at h
  split at h
  · rename_i hf
    refine ⟨rgFit_ok hf, fun p hp => ?_⟩
    obtain ⟨k2, x2, r2⟩ := new_mut k hp (reps_rg i j)
    exact h _ _ _ k2 x2 r2
  · exact h.elim
theorem tup_end {pv ι : List Addr} {μ : Mu} {H : Hp} {i j : Int} {Q : VK} {E : XK} (k : Ok (cz T X pv) ⟨ι, μ, H⟩) (h : Ret (cz T X pv) ⟨ι, μ, H⟩ (kTup i j μ) Q E) : RgOk i j ∧ ∀ q, H q = none → Q (.ref q) (upd H q (.tup (rgV i j))) := by
  unfold kTup at h
  split at h
  · rename_i hf
    refine ⟨rgFit_ok hf, fun p hp => ?_⟩
    obtain ⟨k2, x2, _⟩ := new_obj (o := .tup (rgV i j)) k hp
    exact h ι _ _ k2 x2 (.tup (SqT.of upd_same) (reps_rg i j))
  · exact h.elim
theorem em_lstRg1 {a : Expr} {m : ME} {p p2 pos pos2 : Pos} (hc : X.calm = true) (hg : Gl X "list") (hm : X.mg "list" = none) (hg2 : Gl X "range") (hm2 : X.mg "range" = none) (ha : EM T X W a m) (kk : Int → Int → Mu → Option Out) (hk : kk = kLst ∨ kk = kLstM)
    (na : starEach [a] X.env = (false, eval a X.env) :: starEach [] X.env := by rfl) (nb : starEach [.Call (.Name "range" p2) [a] [] pos2] X.env = (false, eval (.Call (.Name "range" p2) [a] [] pos2) X.env) :: starEach [] X.env := by rfl) :
    EM T X W (.Call (.Name "list" p) [.Call (.Name "range" p2) [a] [] pos2] [] pos) (mRange1 kk m) :=
  PE.mono (pe_listRg hc hg hm (prg_1 hg2 hm2 ha na) nb) fun σ H Q h => rg1_sim h fun pv ι μ H1 n k1 h1 => by
    rcases hk with e | e <;> subst e
    · exact lst_end k1 h1
    · exact lstM_end k1 h1
theorem em_lstRg2 {a b : Expr} {ma mb : ME} {p p2 pos pos2 : Pos} (hc : X.calm = true) (hg : Gl X "list") (hm : X.mg "list" = none) (hg2 : Gl X "range") (hm2 : X.mg "range" = none) (ha : EM T X W a ma) (hb : EM T X W b mb) (kk : Int → Int → Mu → Option Out) (hk : kk = kLst ∨ kk = kLstM)
    (na : starEach [a, b] X.env = (false, eval a X.env) :: starEach [b] X.env := by rfl) (nc : starEach [b] X.env = (false, eval b X.env) :: starEach [] X.env := by rfl) (hp : (backTo pos2 (starEach [b] X.env)).any (·.1) = false := by rfl)
    (nb : starEach [.Call (.Name "range" p2) [a, b] [] pos2] X.env = (false, eval (.Call (.Name "range" p2) [a, b] [] pos2) X.env) :: starEach [] X.env := by rfl) :
    EM T X W (.Call (.Name "list" p) [.Call (.Name "range" p2) [a, b] [] pos2] [] pos) (mRange2 kk ma mb) :=
  PE.mono (pe_listRg hc hg hm (prg_2 hg2 hm2 ha hb na nc hp) nb) fun σ H Q h => rg2_sim h fun pv ι μ H1 i j k1 h1 => by
    rcases hk with e | e <;> subst e
    · exact lst_end k1 h1
    · exact lstM_end k1 h1
theorem em_tupRg1 {a : Expr} {m : ME} {p p2 pos pos2 : Pos} (hc : X.calm = true) (hg : Gl X "tuple") (hm : X.mg "tuple" = none) (hg2 : Gl X "range") (hm2 : X.mg "range" = none) (ha : EM T X W a m)
    (na : starEach [a] X.env = (false, eval a X.env) :: starEach [] X.env := by rfl) (nb : starEach [.Call (.Name "range" p2) [a] [] pos2] X.env = (false, eval (.Call (.Name "range" p2) [a] [] pos2) X.env) :: starEach [] X.env := by rfl) :
    EM T X W (.Call (.Name "tuple" p) [.Call (.Name "range" p2) [a] [] pos2] [] pos) (mRange1 kTup m) :=
  PE.mono (pe_tupRg hc hg hm (prg_1 hg2 hm2 ha na) nb) fun σ H Q h => rg1_sim h fun pv ι μ H1 n k1 h1 => tup_end k1 h1
theorem em_tupRg2 {a b : Expr} {ma mb : ME} {p p2 pos pos2 : Pos} (hc : X.calm = true) (hg : Gl X "tuple") (hm : X.mg "tuple" = none) (hg2 : Gl X "range") (hm2 : X.mg "range" = none) (ha : EM T X W a ma) (hb : EM T X W b mb)
    (na : starEach [a, b] X.env = (false, eval a X.env) :: starEach [b] X.env := by rfl) (nc : starEach [b] X.env = (false, eval b X.env) :: starEach [] X.env := by rfl) (hp : (backTo pos2 (starEach [b] X.env)).any (·.1) = false := by rfl)
    (nb : starEach [.Call (.Name "range" p2) [a, b] [] pos2] X.env = (false, eval (.Call (.Name "range" p2) [a, b] [] pos2) X.env) :: starEach [] X.env := by rfl) :
    EM T X W (.Call (.Name "tuple" p) [.Call (.Name "range" p2) [a, b] [] pos2] [] pos) (mRange2 kTup ma mb) :=
  PE.mono (pe_tupRg hc hg hm (prg_2 hg2 hm2 ha hb na nc hp) nb) fun σ H Q h => rg2_sim h fun pv ι μ H1 i j k1 h1 => tup_end k1 h1
end
end MV

set_option Elab.async false
set_option linter.all false
set_option maxRecDepth 100000
set_option maxHeartbeats 4000000
/-! MV16: zip; a def's promise, with defaults, called within itself -/
namespace MV
open PySem PySem.Spec PyProof.Rows L2
variable {T : List (Addr × Str)}
/-! ### zip of two lists, of two tuples -/
def pairs (xs ys : List D) : List D := List.zipWith (fun x y => D.tup [x, y]) xs ys
def iZip (a : MA) : MA := fun ρ μ => bindAA (a ρ μ) fun ds μ1 => match ds with
  | [.tup xs, .tup ys] => some (.ok (pairs xs ys) μ1)
  | [x, y] => match asFz x, asFz y with
    | some xs, some ys => some (.ok (pairs xs ys) μ1)
    | _, _ => none
  | _ => none
section
variable {c : Cz} {K : PySem.W.Frag} {mg : Str → Option Value}
theorem pairs_get {xs ys : List D} {i : Nat} {d : D} (h : (pairs xs ys)[i]? = some d) : ∃ x y, xs[i]? = some x ∧ ys[i]? = some y ∧ d = .tup [x, y] := by
  unfold pairs at h
  rw [List.getElem?_zipWith] at h
  cases ex : xs[i]? with
  | none =>
    rw [ex] at h
    cases h
  | some x =>
    cases ey : ys[i]? with
    | none =>
      rw [ex, ey] at h
      cases h
    | some y =>
      rw [ex, ey] at h
      exact ⟨x, y, rfl, rfl, (Option.some.inj h).symm⟩
theorem yld_pair {s0 : SS} {pv ι : List Addr} {μ : Mu} {H H' : Hp} {v : V} {x y : D} {u w : V} {A : Addr} (k : Ok ⟨K, mg, pv, T⟩ ⟨ι, μ, H⟩) (hn : H A = none) (eH : H' = upd H A (.tup [u, w])) (ev : v = .ref A) (rx : Rep ⟨K, mg, pv, T⟩ ⟨ι, μ, H⟩ x u) (ry : Rep ⟨K, mg, pv, T⟩ ⟨ι, μ, H⟩ y w) :
    Ok ⟨K, mg, pv, T⟩ ⟨ι, μ, H'⟩ ∧ Aft ⟨ι, μ, H⟩ ⟨ι, μ, H'⟩ ∧ Rep ⟨K, mg, pv, T⟩ ⟨ι, μ, H'⟩ (.tup [x, y]) v := by
  subst eH ev
  obtain ⟨k2, x2, _⟩ := new_obj (o := .tup [u, w]) k hn
  exact ⟨k2, x2, .tup (SqT.of upd_same) (.cons (Rep.aft k x2 rx) (.cons (Rep.aft k x2 ry) .nil))⟩
theorem iter_zipL {s0 : SS} {a b : Addr} {xs ys : List D} {vs ws : List V} (sa : Still K s0 a vs) (sb : Still K s0 b ws) (ha : xs.length = vs.length) (hb : ys.length = ws.length) : IterOk T K mg s0 (Itz K a b) (pairs xs ys) [(xs, vs), (ys, ws)] where
  go := fun i s x hi => by
    unfold pairs at hi
    rw [List.length_zipWith] at hi
    have h1 : i < vs.length := by omega
    have h2 : i < ws.length := by omega
    exact ⟨vs, ws, vs[i], ws[i], sa s x, sb s x, List.getElem?_eq_getElem h1, List.getElem?_eq_getElem h2⟩
  stop := fun s x => by
    refine ⟨vs, ws, sa s x, sb s x, ?_⟩
    unfold pairs
    rw [List.length_zipWith]
    omega
  yld := fun pv i ι μ H H' x d k af cm e y => by
    obtain ⟨A, u, w, ev, hn, eH, e1, e2⟩ := y
    obtain ⟨p, q, ep, eq, ed⟩ := pairs_get e
    subst ed
    obtain ⟨u', z1, r1⟩ := (cm (xs, vs) (List.mem_cons_self ..)).get ep
    obtain ⟨w', z2, r2⟩ := (cm (ys, ws) (List.mem_cons_of_mem _ (List.mem_cons_self ..))).get eq
    have y1 := e1 vs (sa _ af)
    have y2 := e2 ws (sb _ af)
    rw [z1] at y1
    rw [z2] at y2
    cases y1
    cases y2
    exact yld_pair (s0 := s0) k hn eH ev r1 r2
theorem iter_zipT {s0 : SS} {a b : Addr} {xs ys : List D} {vs ws : List V} (k0 : Ok c s0) (sa : SqT c.K s0.H a vs) (sb : SqT c.K s0.H b ws) (ha : xs.length = vs.length) (hb : ys.length = ws.length) : IterOk c.T c.K mg s0 (RZ.ItzT c.K a b) (pairs xs ys) [(xs, vs), (ys, ws)] where
  go := fun i s x hi => by
    unfold pairs at hi
    rw [List.length_zipWith] at hi
    have h1 : i < vs.length := by omega
    have h2 : i < ws.length := by omega
    exact ⟨vs, ws, vs[i], ws[i], rd_tup_aft k0 x sa, rd_tup_aft k0 x sb, List.getElem?_eq_getElem h1, List.getElem?_eq_getElem h2⟩
  stop := fun s x => by
    refine ⟨vs, ws, rd_tup_aft k0 x sa, rd_tup_aft k0 x sb, ?_⟩
    unfold pairs
    rw [List.length_zipWith]
    omega
  yld := fun pv i ι μ H H' x d k af cm e y => by
    obtain ⟨A, u, w, ev, hn, eH, e1, e2⟩ := y
    obtain ⟨p, q, ep, eq, ed⟩ := pairs_get e
    subst ed
    obtain ⟨u', z1, r1⟩ := (cm (xs, vs) (List.mem_cons_self ..)).get ep
    obtain ⟨w', z2, r2⟩ := (cm (ys, ws) (List.mem_cons_of_mem _ (List.mem_cons_self ..))).get eq
    have y1 := e1 vs (rd_tup_aft k0 af sa)
    have y2 := e2 ws (rd_tup_aft k0 af sb)
    rw [z1] at y1
    rw [z2] at y2
    cases y1
    cases y2
    exact yld_pair (s0 := s0) k hn eH ev r1 r2
end
section
variable {X : Cx} {W : WX}
theorem im_zip {e e2 : Expr} {m : MA} {p pos tpos : Pos} {elts : List Expr} {kk : Nat} (hg : Gl X "zip") (hm : X.mg "zip" = none) (ha : AM T X W [e, e2] m)
    (hs : starEach [e, e2] X.env = (false, eval e X.env) :: starEach [e2] X.env := by rfl) (hpl : (backTo pos (starEach [e2] X.env)).any (·.1) = false := by rfl) :
    IM T X W (.Tuple elts kk tpos) (.Call (.Name "zip" p) [e, e2] [] pos) (iZip m) :=
  PI.mono (RZ.pi_zipA hg hm ha hs hpl) fun σ H R ⟨pv, ι, μ, ρ, k, rr, h⟩ => ⟨pv, ι, μ, ρ, k, rr, (RetA.of_I h).mono fun vs H1 ⟨ι1, μ1, ds, k1, x1, r1, h1⟩ => by
    (try dsimp only at h1)
    split at h1
    · rename_i xs ys
      obtain ⟨u, w, rfl, ru, rw_⟩ := reps2 r1
      obtain ⟨a, va, ea, qa, ra⟩ := tup_at ru
      obtain ⟨b, vb, eb, qb, rb⟩ := tup_at rw_
      subst ea eb
      exact ⟨a, b, va, vb, rfl, .inr ⟨qa, qb, h1 ι1 H1 _ [(xs, va), (ys, vb)] k1 (Aft.refl _) (fun z hz => by
        rcases List.mem_cons.mp hz with e | hz
        · rw [e]
          exact ra
        · rcases List.mem_cons.mp hz with e | hz
          · rw [e]
            exact rb
          · cases hz) (iter_zipT k1 qa qb ra.length rb.length)⟩⟩
    · rename_i x y _
      split at h1
      · rename_i xs ys ex ey
        obtain ⟨u, w, rfl, ru, rw_⟩ := reps2 r1
        obtain ⟨a, va, ea, qa, sa, ra⟩ := fz_at k1 ru ex
        obtain ⟨b, vb, eb, qb, sb, rb⟩ := fz_at k1 rw_ ey
        subst ea eb
        exact ⟨a, b, va, vb, rfl, .inl ⟨qa, qb, h1 ι1 H1 _ [(xs, va), (ys, vb)] k1 (Aft.refl _) (fun z hz => by
          rcases List.mem_cons.mp hz with e | hz
          · rw [e]
            exact ra
          · rcases List.mem_cons.mp hz with e | hz
            · rw [e]
              exact rb
            · cases hz) (iter_zipL sa sb ra.length rb.length)⟩⟩
      · exact h1.elim
    · exact h1.elim⟩
end
/-! ### a def's promise -/
section
variable {P : Program} {w : World} {K : PySem.W.Frag} {mg : Str → Option Value} {base : Heap}
/-- the context of a def's body -/
abbrev cxB (P : Program) (w : World) (K : PySem.W.Frag) (mg : Str → Option Value) (base : Heap) (N : List Str) (qual : Str) (sc : Scope) (f : Addr) (cd : Value) (A : Around) (outer : List Env) (s : Shared) (H : Hp) (E : XK) : Cx := cxOf (L2.CX P w) P w K mg base N qual sc f cd A outer s H E
abbrev wB (E : XK) : WX := fun cls d _ H => E cls d H
theorem fm_ofD {x qual : Str} {st : Stmt} {dvs : List V} {kws : List (Str × V)} {f : Addr} {fd : FuncData} {N ps : List Str} {k : Nat} {m : MS} (F : FunD K x qual (defArgs st) (defBody st) (defScope st) dvs kws f fd) (S : FnScope N ps (defScope st))
    (h : ∀ (A : Around) (outer : List Env) (s : Shared) (H : Hp) (E : XK), Cok (cxB P w K mg base N qual (defScope st) f fd.code A outer s H E) (wB E) k → BM T (cxB P w K mg base N qual (defScope st) f fd.code A outer s H E) (wB E) (defBody st) m) : FM T P w K mg base (k + 1) f fd ps (mFn N.length m) := by
  obtain ⟨oc, od, dV, kV, doc, pm, an, cdv, ct, osl, rfl, lk, hcd, _, _⟩ := F.ex
  refine fn_of lk hcd S (fun vs H Q E h => h.1) fun A outer s H vs Q E hr hs => ?_
  exact body_ok rfl rfl (h A outer s H E ⟨rfl, hr, takes_of rfl rfl rfl rfl, passes_of rfl, rfl, rfl⟩) hs
/-- nothing is promised -/
def mNever : MF := fun _ _ => none
theorem fm_never {f : Addr} {fd : FuncData} {ps : List Str} {k : Nat} : FM T P w K mg base k f fd ps mNever := ⟨fun vs H Q E h => h.1, fun A outer s H args us vs Q E hr e0 hb r h => by
  obtain ⟨_, _, _, _, _, _, _, z⟩ := h
  exact z.elim⟩
theorem FM.up {f : Addr} {fd : FuncData} {ps : List Str} {F : MF} {j k : Nat} (h : FM T P w K mg base j f fd ps F) (le : j ≤ k) : FM T P w K mg base k f fd ps F := FnOk.mono h le
theorem Fun.ofD {x qual : Str} {st : Stmt} {kws : List (Str × V)} {f : Addr} {fd : FuncData} (F : FunD K x qual (defArgs st) (defBody st) (defScope st) [] kws f fd) : Fun K x qual st f fd := by
  obtain ⟨oc, od, dV, kV, doc, pm, an, cdv, ct, osl, e, lk, hcd, hd, _⟩ := F.ex
  refine ⟨⟨oc, od, kV, doc, pm, an, cdv, ct, osl, ?_, lk, hcd⟩, F.kp⟩
  rcases hd with ⟨_, e2⟩ | ⟨n, _⟩
  · rw [e, e2]
  · exact absurd rfl n
end
end MV

set_option Elab.async false
set_option linter.all false
set_option maxRecDepth 100000
set_option maxHeartbeats 4000000
/-! MV17: methods by name; calls by what is known of a def -/
namespace MV
open PySem PySem.Spec PyProof.Rows L2
variable {T : List (Addr × Str)}
section
variable {X : Cx} {W : WX}
theorem em_append {o e : Expr} {apos cpos : Pos} {mo me : ME} (ho : EM T X W o mo) (he : EM T X W e me) (hbase : attributeBase o "append" X.env (eval o X.env) = eval o X.env := by rfl)
    (hs : starEach [e] X.env = (false, eval e X.env) :: starEach [] X.env := by rfl) (hline : (apos.endLine == cpos.line) = true := by rfl) :
    EM T X W (.Call (.Attribute o "append" apos) [e] [] cpos) (mMeth .list fAppend mo (aCons me aNil)) :=
  em_bm (TT := .list) F.plainAttrs_list F.slot_list_append F.type_list_append mt_append r_append ho (am_cons he am_nil hs) hbase (by rw [hs]; rfl) hline hs
theorem em_extend {o e : Expr} {apos cpos : Pos} {mo me : ME} (ho : EM T X W o mo) (he : EM T X W e me) (hbase : attributeBase o "extend" X.env (eval o X.env) = eval o X.env := by rfl)
    (hs : starEach [e] X.env = (false, eval e X.env) :: starEach [] X.env := by rfl) (hline : (apos.endLine == cpos.line) = true := by rfl) :
    EM T X W (.Call (.Attribute o "extend" apos) [e] [] cpos) (mMeth .list fExtend mo (aCons me aNil)) :=
  em_bm (TT := .list) F.plainAttrs_list F.slot_list_extend F.type_list_extend mt_extend r_extend ho (am_cons he am_nil hs) hbase (by rw [hs]; rfl) hline hs
theorem em_pop {o : Expr} {apos cpos : Pos} {mo : ME} (ho : EM T X W o mo) (hbase : attributeBase o "pop" X.env (eval o X.env) = eval o X.env := by rfl) (hline : (apos.endLine == cpos.line) = true := by rfl) :
    EM T X W (.Call (.Attribute o "pop" apos) [] [] cpos) (mMeth .list fPop mo aNil) :=
  em_bm0 (TT := .list) F.plainAttrs_list F.slot_list_pop F.type_list_pop mt_pop r_pop ho hbase hline
end
/-! ### what is known of a def, to its callers -/
/-- the def x, called with as many values as ps has but the last ones, dv -/
def Has (T : List (Addr × Str)) (P : Program) (w : World) (K : PySem.W.Frag) (mg : Str → Option Value) (base : Heap) (k : Nat) (x : Str) (n : Nat) (dv : List D) (F : MF) : Prop :=
  ∃ (f : Addr) (fd : FuncData) (ps : List Str) (dvs : List V) (dls : List Value), FM T P w K mg base k f fd ps F ∧ mg x = some (.ref f) ∧ PySem.W.keepIn K (.ref f) = true ∧ Binds K fd ps dls ∧ Vals dvs dls ∧ (∀ pv s, Reps ⟨K, mg, pv, T⟩ s dv dvs) ∧ ps.length = n
def HasK (T : List (Addr × Str)) (P : Program) (w : World) (K : PySem.W.Frag) (mg : Str → Option Value) (base : Heap) (k : Nat) (x : Str) (n n1 : Nat) (ks : List Str) (dv : List D) (F : MF) : Prop :=
  ∃ (f : Addr) (fd : FuncData) (ps : List Str) (dvs : List V) (dls : List Value), FM T P w K mg base k f fd ps F ∧ mg x = some (.ref f) ∧ PySem.W.keepIn K (.ref f) = true ∧ KB K fd ps ks n1 dls ∧ Vals dvs dls ∧ (∀ pv s, Reps ⟨K, mg, pv, T⟩ s dv dvs) ∧ ps.length = n
section
variable {X : Cx} {W : WX}
theorem em_f {k n : Nat} {x : Str} {dv : List D} {F : MF} {p pos : Pos} {e : Expr} {es : List Expr} {m : MA} (h : Has T X.prog X.w X.K X.mg X.base k x n dv F) (hr : Room k X.A) (tk : Takes X W) (hg : Gl X x) (ha : AM T X W (e :: es) m)
    (hdb : (x == ("__debug__" : Str)) = false := by decide) (he : starEach (e :: es) X.env = (false, eval e X.env) :: starEach es X.env := by rfl) (hpl : (backTo pos (starEach es X.env)).any (·.1) = false := by rfl) :
    EM T X W (.Call (.Name x p) (e :: es) [] pos) (mApp n F dv m) := by
  obtain ⟨f, fd, ps, dvs, dls, FO, gm, kp, bd, va, rp, ln⟩ := h
  subst ln
  exact em_app FO hr tk hg gm kp bd va rp ha hdb he hpl
theorem em_f0 {k n : Nat} {x : Str} {dv : List D} {F : MF} {p pos : Pos} (h : Has T X.prog X.w X.K X.mg X.base k x n dv F) (hr : Room k X.A) (tk : Takes X W) (hg : Gl X x) (hdb : (x == ("__debug__" : Str)) = false := by decide) :
    EM T X W (.Call (.Name x p) [] [] pos) (mApp n F dv aNil) := by
  obtain ⟨f, fd, ps, dvs, dls, FO, gm, kp, bd, va, rp, ln⟩ := h
  subst ln
  exact em_appZ FO hr tk hg gm kp bd va rp hdb
theorem em_fK {k n n1 : Nat} {x : Str} {ks : List Str} {dv : List D} {F : MF} {p pos : Pos} {e : Expr} {es : List Expr} {kws : List Keyword} {a m : MA} (h : HasK T X.prog X.w X.K X.mg X.base k x n n1 ks dv F) (hr : Room k X.A) (tk : Takes X W) (hg : Gl X x) (ha : AM T X W (e :: es) a) (hkw : KM T X W kws m)
    (hall : (backToKw pos (keywordEach kws X.env)).all (·.1.isSome) = true := by rfl) (hks : (backToKw pos (keywordEach kws X.env)).filterMap (·.1) = ks := by rfl)
    (hdb : (x == ("__debug__" : Str)) = false := by decide) (he : starEach (e :: es) X.env = (false, eval e X.env) :: starEach es X.env := by rfl)
    (hpl : ((backTo pos (starEach (e :: es) X.env)).any (·.1) || (backToKw pos (keywordEach kws X.env)).any (·.1.isNone)) = false := by rfl) :
    EM T X W (.Call (.Name x p) (e :: es) kws pos) (mAppK n n1 ks.length F dv a m) := by
  obtain ⟨f, fd, ps, dvs, dls, FO, gm, kp, bd, va, rp, ln⟩ := h
  subst ln
  exact em_appK FO hr tk hg gm kp bd va rp ha hkw hall hks hdb he hpl
theorem em_fK0 {k n : Nat} {x : Str} {ks : List Str} {dv : List D} {F : MF} {p pos : Pos} {kws : List Keyword} {m : MA} (h : HasK T X.prog X.w X.K X.mg X.base k x n 0 ks dv F) (hr : Room k X.A) (tk : Takes X W) (hg : Gl X x) (hkw : KM T X W kws m)
    (hall : (backToKw pos (keywordEach kws X.env)).all (·.1.isSome) = true := by rfl) (hks : (backToKw pos (keywordEach kws X.env)).filterMap (·.1) = ks := by rfl)
    (hdb : (x == ("__debug__" : Str)) = false := by decide) (hpl : ((backTo pos (starEach [] X.env)).any (·.1) || (backToKw pos (keywordEach kws X.env)).any (·.1.isNone)) = false := by rfl) :
    EM T X W (.Call (.Name x p) [] kws pos) (mAppK n 0 ks.length F dv aNil m) := by
  obtain ⟨f, fd, ps, dvs, dls, FO, gm, kp, bd, va, rp, ln⟩ := h
  subst ln
  exact em_appK0 FO hr tk hg gm kp bd va rp hkw hall hks hdb hpl
theorem em_v {k i : Nat} {tb : Str → Option (Nat × MF)} {x : Str} {p pos : Pos} {e : Expr} {es : List Expr} {m : MA} (ht : ∀ y n F, tb y = some (n, F) → Has T X.prog X.w X.K X.mg X.base k y n [] F) (hr : Room k X.A) (tk : Takes X W) (hN : X.N[i]? = some x) (hv : Vis X.env.scope x) (ha : AM T X W (e :: es) m)
    (hdb : (x == ("__debug__" : Str)) = false := by decide) (hcd : (x == ("__classdict__" : Str)) = false := by decide) (he : starEach (e :: es) X.env = (false, eval e X.env) :: starEach es X.env := by rfl) (hpl : (backTo pos (starEach es X.env)).any (·.1) = false := by rfl) :
    EM T X W (.Call (.Name x p) (e :: es) [] pos) (mAppV tb i m) :=
  em_appV (fun y n F hy => by
    obtain ⟨f, fd, ps, dvs, dls, FO, gm, kp, bd, va, rp, ln⟩ := ht y n F hy
    have z := rp [] ⟨[], [], fun _ => none⟩
    cases z
    cases va
    exact ⟨f, fd, ps, gm, kp, bd, ln, FO⟩) hr tk hN hv ha hdb hcd he hpl
/-- a def as a value -/
theorem em_fn {k n : Nat} {x : Str} {dv : List D} {F : MF} {pos : Pos} (h : Has T X.prog X.w X.K X.mg X.base k x n dv F) (hg : Gl X x) (hdb : (x == ("__debug__" : Str)) = false := by decide) : EM T X W (.Name x pos) (mC (.fn x)) := by
  obtain ⟨f, fd, ps, dvs, dls, FO, gm, kp, bd, va, rp, ln⟩ := h
  exact em_glob hg gm (v := .ref f) rfl (fun pv s => .fn gm) hdb
end
theorem Has.up {P : Program} {w : World} {K : PySem.W.Frag} {mg : Str → Option Value} {base : Heap} {j k n : Nat} {x : Str} {dv : List D} {F : MF} (h : Has T P w K mg base j x n dv F) (le : j ≤ k) : Has T P w K mg base k x n dv F := by
  obtain ⟨f, fd, ps, dvs, dls, FO, r⟩ := h
  exact ⟨f, fd, ps, dvs, dls, FO.up le, r⟩
theorem code_of {K : PySem.W.Frag} {x qual : Str} {params : Arguments} {body : List Stmt} {scope : Scope} {dvs : List V} {kws : List (Str × V)} {fd : FuncData} (F : FunD K x qual params body scope dvs kws (He.fAd K (x, none)) fd) : fd.code = .ref (He.codeOf K (x, none)) := by
  obtain ⟨oc, od, dV, kV, doc, pm, an, cdv, ct, osl, e, lk, hcd, _, _⟩ := F.ex
  obtain ⟨c, hc⟩ := He.codeIn_ref hcd
  subst e
  show cdv = _
  rw [He.codeOf_eq lk (show (PySem.W.fnOf x qual params body scope dV kV doc pm an cdv ct).code = .ref c from hc)]
  exact hc
theorem room_in {k : Nat} {A : Around} (r : Room k A) : A.units + 65 < cLine := by have := r.un; omega
end MV

set_option Elab.async false
set_option linter.all false
set_option maxRecDepth 100000
set_option maxHeartbeats 4000000
/-! MV18: comparisons as tests -/
namespace MV
open PySem PySem.Spec PyProof.Rows L2
variable {T : List (Addr × Str)}
section
variable {X : Cx} {W : WX}
theorem gl_of {x : Str} (h : X.env.kindOf x = some .globalImplicit) : Gl X x := h
theorem tm_cmp {op : CmpOp} {a b : Expr} {ma mb : ME} {f : D → D → Mu → Option D} {r : R2} {pos : Pos} (ho : OpR X (compareOp op) r) (hr : R2M T X.K X.mg f r) (ha : EM T X W a ma) (hb : EM T X W b mb) (hm : behindInMarks op b = false) : TM T X W (.Compare a [op] [b] pos) (mOp f ma mb) :=
  PT.mono (pt_cmpR ho ha hb hm) fun _ _ _ h => two hr h
theorem tm_chain {op op' : CmpOp} {a b e : Expr} {ma mb me : ME} {f g : D → D → Mu → Option D} {r r' : R2} {pos : Pos} (ho : OpR X (compareOp op) r) (ho' : OpR X (compareOp op') r') (hr : R2M T X.K X.mg f r) (hr' : R2M T X.K X.mg g r')
    (ha : EM T X W a ma) (hb : EM T X W b mb) (he : EM T X W e me) (hm : lastMarks [op, op'] [b, e] = false := by with_unfolding_all rfl) : TM T X W (.Compare a [op, op'] [b, e] pos) (mChain f g ma mb me) :=
  PT.mono (pt_chain ho ho' ha hb he hm) fun _ _ _ h => chain hr hr' h
end
end MV

set_option Elab.async false
set_option linter.all false
set_option maxRecDepth 100000
set_option maxHeartbeats 4000000
/-! MVE: how mirrors are reckoned -/
namespace MV
open PySem
section
variable {α : Type} {d e : D} {ds : List D} {μ μ1 : Mu} {x : Str} {a : Option D} {k : D → Mu → Option Out} {kA : List D → Mu → Option Out} {kO : D → Mu → Option OutA} {kAA : List D → Mu → Option OutA} {kS : D → Mu → Option Fl} {ρ : Rho}
@[simp] theorem bindO_none : bindO none k = none := rfl
@[simp] theorem bindO_ok : bindO (some (.ok d μ)) k = k d μ := rfl
@[simp] theorem bindO_ex : bindO (some (.ex x a μ)) k = some (.ex x a μ) := rfl
@[simp] theorem bindA_none : bindA none kA = none := rfl
@[simp] theorem bindA_ok : bindA (some (.ok ds μ)) kA = kA ds μ := rfl
@[simp] theorem bindA_ex : bindA (some (.ex x a μ)) kA = some (.ex x a μ) := rfl
@[simp] theorem bindOA_none : bindOA none kO = none := rfl
@[simp] theorem bindOA_ok : bindOA (some (.ok d μ)) kO = kO d μ := rfl
@[simp] theorem bindOA_ex : bindOA (some (.ex x a μ)) kO = some (.ex x a μ) := rfl
@[simp] theorem bindAA_none : bindAA none kAA = none := rfl
@[simp] theorem bindAA_ok : bindAA (some (.ok ds μ)) kAA = kAA ds μ := rfl
@[simp] theorem bindAA_ex : bindAA (some (.ex x a μ)) kAA = some (.ex x a μ) := rfl
@[simp] theorem bindS_none : bindS none ρ kS = none := rfl
@[simp] theorem bindS_ok : bindS (some (.ok d μ)) ρ kS = kS d μ := rfl
@[simp] theorem bindS_ex : bindS (some (.ex x a μ)) ρ kS = some (.ex x a ρ μ) := rfl
@[simp] theorem retV_some : retV (some d) μ = some (.ok d μ) := rfl
@[simp] theorem retV_none : retV none μ = none := rfl
@[simp] theorem mC_ev : mC d ρ μ = some (.ok d μ) := rfl
@[simp] theorem aNil_ev : aNil ρ μ = some (.ok [] μ) := rfl
end
section
variable {ρ ρ1 : Rho} {μ μ1 : Mu} {d e : D} {i : Nat} {ma mb me : ME} {r : MA} {f g : D → D → Mu → Option D} {f1 : D → Mu → Option D} {fc : List D → Mu → Option D} {s t : MS}
theorem mVar_ev : mVar i ρ μ = match ρ[i]? with
  | some (some d) => some (.ok d μ)
  | _ => none := rfl
@[simp] theorem mOp_ev : mOp f ma mb ρ μ = bindO (ma ρ μ) fun x μ1 => bindO (mb ρ μ1) fun y μ2 => retV (f x y μ2) μ2 := rfl
@[simp] theorem mUn_ev : mUn f1 ma ρ μ = bindO (ma ρ μ) fun x μ1 => retV (f1 x μ1) μ1 := rfl
@[simp] theorem aCons_ev : aCons ma r ρ μ = bindOA (ma ρ μ) fun x μ1 => bindAA (r ρ μ1) fun xs μ2 => some (.ok (x :: xs) μ2) := rfl
@[simp] theorem mCall_ev : mCall fc r ρ μ = bindA (r ρ μ) fun ds μ1 => retV (fc ds μ1) μ1 := rfl
@[simp] theorem mTup_ev : mTup r ρ μ = bindA (r ρ μ) fun ds μ1 => if ds.length ≤ lineS then some (.ok (.tup ds) μ1) else none := rfl
@[simp] theorem mLst_ev : mLst r ρ μ = bindA (r ρ μ) fun ds μ1 => if ds.length ≤ lineS then some (.ok (.lst ds) μ1) else none := rfl
@[simp] theorem mLstM_ev : mLstM r ρ μ = bindA (r ρ μ) fun ds μ1 => if ds.length ≤ lineS then some (.ok (.ob μ1.length) (μ1 ++ [some (.lst ds)])) else none := rfl
/-- what and, or, not, if do of a truth value -/
def andK (m : ME) (ρ : Rho) (x : D) (μ : Mu) : Option Out := match x with
  | .bl true => m ρ μ
  | .bl false => some (.ok (.bl false) μ)
  | _ => none
def orK (m : ME) (ρ : Rho) (x : D) (μ : Mu) : Option Out := match x with
  | .bl false => m ρ μ
  | .bl true => some (.ok (.bl true) μ)
  | _ => none
def notK (x : D) (μ : Mu) : Option Out := match x with
  | .bl b => some (.ok (.bl !b) μ)
  | _ => none
def ifK (a b : ME) (ρ : Rho) (x : D) (μ : Mu) : Option Out := match x with
  | .bl true => a ρ μ
  | .bl false => b ρ μ
  | _ => none
@[simp] theorem mAnd_ev : mAnd ma mb ρ μ = bindO (ma ρ μ) (andK mb ρ) := rfl
@[simp] theorem mOr_ev : mOr ma mb ρ μ = bindO (ma ρ μ) (orK mb ρ) := rfl
@[simp] theorem mNot_ev : mNot ma ρ μ = bindO (ma ρ μ) notK := rfl
@[simp] theorem mIf_ev : mIf me ma mb ρ μ = bindO (me ρ μ) (ifK ma mb ρ) := rfl
@[simp] theorem andK_t : andK ma ρ (.bl true) μ = ma ρ μ := rfl
@[simp] theorem andK_f : andK ma ρ (.bl false) μ = some (.ok (.bl false) μ) := rfl
@[simp] theorem orK_t : orK ma ρ (.bl true) μ = some (.ok (.bl true) μ) := rfl
@[simp] theorem orK_f : orK ma ρ (.bl false) μ = ma ρ μ := rfl
@[simp] theorem notK_b {b : Bool} : notK (.bl b) μ = some (.ok (.bl !b) μ) := rfl
@[simp] theorem ifK_t : ifK ma mb ρ (.bl true) μ = ma ρ μ := rfl
@[simp] theorem ifK_f : ifK ma mb ρ (.bl false) μ = mb ρ μ := rfl
theorem andK_b {b : Bool} : andK ma ρ (.bl b) μ = if b = true then ma ρ μ else some (.ok (.bl false) μ) := by cases b <;> rfl
theorem orK_b {b : Bool} : orK ma ρ (.bl b) μ = if b = true then some (.ok (.bl true) μ) else ma ρ μ := by cases b <;> rfl
/-- two comparisons -/
def chK (g : D → D → Mu → Option D) (e : ME) (ρ : Rho) (y : D) (o : Option D) (μ : Mu) : Option Out := match o with
  | some (.bl true) => bindO (e ρ μ) fun z μ3 => retV (g y z μ3) μ3
  | some (.bl false) => some (.ok (.bl false) μ)
  | _ => none
@[simp] theorem mChain_ev : mChain f g ma mb me ρ μ = bindO (ma ρ μ) fun x μ1 => bindO (mb ρ μ1) fun y μ2 => chK g me ρ y (f x y μ2) μ2 := rfl
@[simp] theorem chK_t {y : D} : chK g me ρ y (some (.bl true)) μ = bindO (me ρ μ) fun z μ3 => retV (g y z μ3) μ3 := rfl
@[simp] theorem chK_f {y : D} : chK g me ρ y (some (.bl false)) μ = some (.ok (.bl false) μ) := rfl
@[simp] theorem mApp_ev {n : Nat} {F : MF} {dv : List D} : mApp n F dv r ρ μ = bindA (r ρ μ) fun ds μ1 => if (ds ++ dv).length = n then F (ds ++ dv) μ1 else none := rfl
@[simp] theorem mAppK_ev {n n1 n2 : Nat} {F : MF} {dv : List D} {r2 : MA} : mAppK n n1 n2 F dv r r2 ρ μ = bindA (r ρ μ) fun xs μ1 => bindA (r2 ρ μ1) fun ys μ2 => if xs.length = n1 ∧ ys.length = n2 ∧ (xs ++ ys ++ dv).length = n then F (xs ++ ys ++ dv) μ2 else none := rfl
/-- statements -/
@[simp] theorem sNext_ev : sNext ρ μ = some (.nx ρ μ) := rfl
@[simp] theorem sRet_ev : sRet ma ρ μ = bindS (ma ρ μ) ρ fun d μ1 => some (.rt d μ1) := rfl
@[simp] theorem sDrop_ev : sDrop ma ρ μ = bindS (ma ρ μ) ρ fun _ μ1 => some (.nx ρ μ1) := rfl
@[simp] theorem sRaise_ev {x : Str} : sRaise x ma ρ μ = bindS (ma ρ μ) ρ fun d μ1 => some (.ex x (some d) ρ μ1) := rfl
def seqK (t : MS) (o : Option Fl) : Option Fl := match o with
  | some (.nx ρ1 μ1) => t ρ1 μ1
  | r => r
@[simp] theorem sSeq_ev : sSeq s t ρ μ = seqK t (s ρ μ) := rfl
@[simp] theorem seqK_nx : seqK t (some (.nx ρ1 μ1)) = t ρ1 μ1 := rfl
@[simp] theorem seqK_rt : seqK t (some (.rt d μ1)) = some (.rt d μ1) := rfl
@[simp] theorem seqK_bk : seqK t (some (.bk ρ1 μ1)) = some (.bk ρ1 μ1) := rfl
@[simp] theorem seqK_ct : seqK t (some (.ct ρ1 μ1)) = some (.ct ρ1 μ1) := rfl
@[simp] theorem seqK_ex {x : Str} {a : Option D} : seqK t (some (.ex x a ρ1 μ1)) = some (.ex x a ρ1 μ1) := rfl
@[simp] theorem seqK_no : seqK t none = none := rfl
def ifS (s t : MS) (ρ : Rho) (x : D) (μ : Mu) : Option Fl := match x with
  | .bl true => s ρ μ
  | .bl false => t ρ μ
  | _ => none
@[simp] theorem sIf_ev : sIf ma s t ρ μ = bindS (ma ρ μ) ρ (ifS s t ρ) := rfl
@[simp] theorem ifS_t : ifS s t ρ (.bl true) μ = s ρ μ := rfl
@[simp] theorem ifS_f : ifS s t ρ (.bl false) μ = t ρ μ := rfl
theorem ifS_b {b : Bool} : ifS s t ρ (.bl b) μ = if b = true then s ρ μ else t ρ μ := by cases b <;> rfl
def asgK (g : MG) (ρ : Rho) (d : D) (μ : Mu) : Option Fl := match g.put d ρ with
  | some ρ1 => some (.nx ρ1 μ)
  | none => none
@[simp] theorem sAsg_ev {gm : MG} : sAsg ma gm ρ μ = bindS (ma ρ μ) ρ (asgK gm ρ) := rfl
@[simp] theorem asgK_n : asgK (gN i) ρ d μ = some (.nx (ρ.set i (some d)) μ) := rfl
/-- a def's end -/
def fnK (o : Option Fl) : Option Out := match o with
  | some (.nx _ μ1) => some (.ok .non μ1)
  | some (.rt d μ1) => some (.ok d μ1)
  | some (.ex x a _ μ1) => some (.ex x a μ1)
  | _ => none
theorem mFn_ev {n : Nat} {ds : List D} : mFn n s ds μ = fnK (s (ds.map some ++ List.replicate (n - ds.length) none) μ) := rfl
@[simp] theorem fnK_nx : fnK (some (.nx ρ1 μ1)) = some (.ok .non μ1) := rfl
@[simp] theorem fnK_rt : fnK (some (.rt d μ1)) = some (.ok d μ1) := rfl
@[simp] theorem fnK_ex {x : Str} {a : Option D} : fnK (some (.ex x a ρ1 μ1)) = some (.ex x a μ1) := rfl
end
/-! ### equality of data -/
section
variable {μ : Mu}
@[simp] theorem eq_int {i j : Int} : dEq (.int i) (.int j) μ = some (.bl (i == j)) := rfl
@[simp] theorem ne_int {i j : Int} : dNe (.int i) (.int j) μ = some (.bl (!(i == j))) := rfl
@[simp] theorem ne_bl {a b : Bool} : dNe (.bl a) (.bl b) μ = some (.bl (!(a == b))) := rfl
theorem pyDs_ints : ∀ l : List Int, pyDs (l.map D.int) = some (l.map PyData.int)
  | [] => rfl
  | i :: l => by
    show (match pyD (D.int i), pyDs (l.map D.int) with
      | some p, some ps => some (p :: ps)
      | _, _ => none) = _
    rw [pyDs_ints l]
    rfl
theorem lay_ints : ∀ l : List Int, PyData.canLayAll0 (l.map PyData.int) = true
  | [] => rfl
  | i :: l => by
    show (PyData.canLay0 (.int i) && PyData.canLayAll0 (l.map PyData.int)) = true
    rw [lay_ints l]
    rfl
theorem depth_ints : ∀ l : List Int, PyData.depthAll (l.map PyData.int) = 0
  | [] => rfl
  | i :: l => by
    show max (PyData.depth (.int i)) (PyData.depthAll (l.map PyData.int)) = 0
    rw [depth_ints l]
    rfl
theorem shaped_ints (l : List Int) : SeqAt.shaped (.list (l.map PyData.int)) = true := by
  unfold SeqAt.shaped
  simp only [PyData.canLay0, PyData.depth, lay_ints, depth_ints]
  decide
/-- a list of numbers that changes, asked whether it is empty -/
theorem ne_nil {n : Nat} {l : List Int} (h : μ[n]? = some (some (.lst (l.map .int)))) : dNe (.ob n) (.lst []) μ = some (.bl (!l.isEmpty)) := by
  unfold dNe eqM pyT
  simp only [h, pyDs_ints, Option.map_some]
  have e : pyD (.lst []) = some (.list []) := rfl
  have e2 : SeqAt.shaped (.list []) = true := by decide
  simp only [e, shaped_ints, e2, if_true]
  cases l <;> rfl
end
/-! ### numbers -/
section
variable {μ : Mu} {i j : Int}
@[simp] theorem add_int : dAdd (.int i) (.int j) μ = some (.int (i + j)) := rfl
@[simp] theorem sub_int : iSub (.int i) (.int j) μ = some (.int (i - j)) := rfl
@[simp] theorem neg_int : iNeg (.int i) μ = some (.int (-i)) := rfl
theorem mod_int (h : 0 < j) : iMod (.int i) (.int j) μ = some (.int (i % j)) := if_pos h
theorem div_int (h : 0 < j) (h2 : j < bigI) : iDiv (.int i) (.int j) μ = some (.int (i / j)) := if_pos ⟨h, h2⟩
theorem mul_right (h : smallI j = true) : iMul (.int i) (.int j) μ = some (.int (i * j)) := if_pos h
theorem mul_left (h : smallI i = true) : iMul (.int i) (.int j) μ = some (.int (i * j)) := by
  show (if smallI j = true then some (D.int (i * j)) else if smallI i = true then some (D.int (i * j)) else none) = _
  rw [if_pos h]
  split <;> rfl
theorem small_of (h1 : -(2 ^ 64) < i) (h2 : i < 2 ^ 64) : smallI i = true := by
  unfold smallI
  rw [decide_eq_true h1, decide_eq_true h2]
  rfl
@[simp] theorem cmp_int {p : Int → Int → Bool} : iCmp p (.int i) (.int j) μ = some (.bl (p i j)) := rfl
@[simp] theorem int_int : fInt [.int i] μ = some (.int i) := rfl
@[simp] theorem abs_int : fAbs [.int i] μ = some (.int (if i < 0 then -i else i)) := rfl
end
/-! ### kinds -/
@[simp] theorem isA_non_bl : isA .non .bl = false := rfl
@[simp] theorem isA_non_int : isA .non .int = false := rfl
@[simp] theorem isA_non_str : isA .non .str = false := rfl
@[simp] theorem isA_non_tup : isA .non .tup = false := rfl
@[simp] theorem isA_non_lst : isA .non .lst = false := rfl
@[simp] theorem isA_non_dct : isA .non .dct = false := rfl
@[simp] theorem isA_bl_bl : isA .bl .bl = true := rfl
@[simp] theorem isA_bl_int : isA .bl .int = true := rfl
@[simp] theorem isA_bl_str : isA .bl .str = false := rfl
@[simp] theorem isA_bl_tup : isA .bl .tup = false := rfl
@[simp] theorem isA_bl_lst : isA .bl .lst = false := rfl
@[simp] theorem isA_bl_dct : isA .bl .dct = false := rfl
@[simp] theorem isA_int_bl : isA .int .bl = false := rfl
@[simp] theorem isA_int_int : isA .int .int = true := rfl
@[simp] theorem isA_int_str : isA .int .str = false := rfl
@[simp] theorem isA_int_tup : isA .int .tup = false := rfl
@[simp] theorem isA_int_lst : isA .int .lst = false := rfl
@[simp] theorem isA_int_dct : isA .int .dct = false := rfl
@[simp] theorem isA_str_bl : isA .str .bl = false := rfl
@[simp] theorem isA_str_int : isA .str .int = false := rfl
@[simp] theorem isA_str_str : isA .str .str = true := rfl
@[simp] theorem isA_str_tup : isA .str .tup = false := rfl
@[simp] theorem isA_str_lst : isA .str .lst = false := rfl
@[simp] theorem isA_str_dct : isA .str .dct = false := rfl
@[simp] theorem isA_tup_bl : isA .tup .bl = false := rfl
@[simp] theorem isA_tup_int : isA .tup .int = false := rfl
@[simp] theorem isA_tup_str : isA .tup .str = false := rfl
@[simp] theorem isA_tup_tup : isA .tup .tup = true := rfl
@[simp] theorem isA_tup_lst : isA .tup .lst = false := rfl
@[simp] theorem isA_tup_dct : isA .tup .dct = false := rfl
@[simp] theorem isA_lst_bl : isA .lst .bl = false := rfl
@[simp] theorem isA_lst_int : isA .lst .int = false := rfl
@[simp] theorem isA_lst_str : isA .lst .str = false := rfl
@[simp] theorem isA_lst_tup : isA .lst .tup = false := rfl
@[simp] theorem isA_lst_lst : isA .lst .lst = true := rfl
@[simp] theorem isA_lst_dct : isA .lst .dct = false := rfl
@[simp] theorem isA_dct_bl : isA .dct .bl = false := rfl
@[simp] theorem isA_dct_int : isA .dct .int = false := rfl
@[simp] theorem isA_dct_str : isA .dct .str = false := rfl
@[simp] theorem isA_dct_tup : isA .dct .tup = false := rfl
@[simp] theorem isA_dct_lst : isA .dct .lst = false := rfl
@[simp] theorem isA_dct_dct : isA .dct .dct = true := rfl
end MV

set_option Elab.async false
set_option linter.all false
set_option maxRecDepth 100000
set_option maxHeartbeats 4000000
/-! MVL: the mirrors of what all laws have in common (printed by gen.py), what they tell -/
namespace LawC
open PySem MV
def b_L_draw_F1 : MS := (sAsg (mOp iMod (mCall fInt (aCons (mOp dAdd (mOp dAdd (mOp iMul (mVar 4) (mC (.int 48271))) (mOp iMod (mVar 2) (mC (.int 2147483549)))) (mC (.int 11))) aNil)) (mC (.int 2147483647))) (gN 4))
def b_L_draw : MS := (sSeq (sAsg (mLc [5, 2] (iSeq (mSl (mVar 0) (mC .non) (mPart (mC (.int 48))))) (gN 2) mYes (mOp iMod (mCall fAbs (aCons (mCall fInt (aCons (mVar 2) aNil)) aNil)) (mOp iPow (mC (.int 10)) (mC (.int 60))))) (gN 3)) (sSeq (sAsg (mOp dAdd (mC (.int 7919)) (mOp iMul (mC (.int 104729)) (mVar 1))) (gN 4)) (sSeq (sFor (iSeq (mVar 3)) (gN 2) b_L_draw_F1) (sRet (mLstM (aCons (mRevM (mLc [5, 2] (iSeq (mVar 3)) (gN 2) (mOp iGe (mVar 2) (mOp iPow (mC (.int 10)) (mC (.int 18)))) (mVar 2))) (aCons (mVar 4) aNil)))))))
def m_L_draw : MF := mFn 6 b_L_draw
def b_L_any_W1 : MS := (sDrop (mMeth .list fPop (mOp dIx (mVar 0) (mC (.int 0))) aNil))
def b_L_any : MS := (sSeq (sWhile (mAnd (mOp dNe (mOp dIx (mVar 0) (mC (.int 0))) (mLst aNil)) (mOp dEq (mOp dIx (mOp dIx (mVar 0) (mC (.int 0))) (mUn iNeg (mC (.int 1)))) (mC (.int 0)))) b_L_any_W1) (sSeq (sIf (mOp dNe (mOp dIx (mVar 0) (mC (.int 0))) (mLst aNil)) (sSeq (sAsg (mCall fInt (aCons (mMeth .list fPop (mOp dIx (mVar 0) (mC (.int 0))) aNil) aNil)) (gN 2)) (sSeq (sDrop (mMeth .list fAppend (mOp dIx (mVar 0) (mC (.int 0))) (aCons (mOp iDiv (mVar 2) (mVar 1)) aNil))) (sRet (mOp iMod (mCall fInt (aCons (mVar 2) aNil)) (mVar 1))))) sNext) (sSeq (sPut (mOp iMod (mCall fInt (aCons (mOp dAdd (mOp iMul (mOp dIx (mVar 0) (mC (.int 1))) (mC (.int 40693))) (mC (.int 71))) aNil)) (mC (.int 2147483647))) (mVar 0) (mC (.int 1))) (sRet (mOp iMod (mCall fInt (aCons (mOp iDiv (mOp dIx (mVar 0) (mC (.int 1))) (mC (.int 64))) aNil)) (mVar 1))))))
def m_L_any : MF := mFn 3 b_L_any
def b_L_of : MS := (sRet (mOp dIx (mVar 1) (mApp 2 m_L_any [] (aCons (mVar 0) (aCons (mCall fLen (aCons (mVar 1) aNil)) aNil)))))
def m_L_of : MF := mFn 2 b_L_of
def b_L_same (m_rec : MF) : MS := (sSeq (sIf (mIsi [.tup, .lst] (mVar 1)) (sSeq (sIf (mOr (mOp dNe (mIsi [.tup] (mVar 1)) (mIsi [.tup] (mVar 0))) (mOr (mNot (mIsi [.tup, .lst] (mVar 0))) (mOp dNe (mCall fLen (aCons (mVar 0) aNil)) (mCall fLen (aCons (mVar 1) aNil))))) (sRet (mC (.bl false))) sNext) (sRet (mOp dEq (mLc [2, 3, 4] (iZip (aCons (mVar 0) (aCons (mVar 1) aNil))) (gT 2 (gsCons (gN 3) (gsCons (gN 4) gsNil))) (mNot (mApp 2 m_rec [] (aCons (mVar 3) (aCons (mVar 4) aNil)))) (mC (.int 0))) (mLst aNil)))) sNext) (sSeq (sIf (mOp dIsN (mVar 1) (mC .non)) (sRet (mOp dIsN (mVar 0) (mC .non))) sNext) (sSeq (sIf (mOp dIsL (mVar 1) (mC (.bl true))) (sRet (mOp dIsL (mVar 0) (mC (.bl true)))) sNext) (sSeq (sIf (mOp dIsL (mVar 1) (mC (.bl false))) (sRet (mOp dIsL (mVar 0) (mC (.bl false)))) sNext) (sSeq (sIf (mIsi [.int] (mVar 1)) (sRet (mAnd (mIsi [.int] (mVar 0)) (mAnd (mNot (mIsi [.bl] (mVar 0))) (mOp dEq (mVar 0) (mVar 1))))) sNext) (sRet (mAnd (mIsi [.str] (mVar 0)) (mOp dEq (mVar 0) (mVar 1)))))))))
def m_L_same : Nat → MF
  | 0 => mNever
  | n + 1 => mFn 5 (b_L_same (m_L_same n))
end LawC

set_option Elab.async false
set_option linter.all false
set_option maxRecDepth 100000
set_option maxHeartbeats 4000000
/-! MVS: what the helpers of all laws tell: draws, choices, sameness -/
namespace LawC
open PySem MV L2
/-- the drawn numbers: a list that changes, of a list that changes and a number -/
structure DealAt (n m : Nat) (μ : Mu) : Prop where
  ne : n ≠ m
  top : ∃ b : Int, μ[n]? = some (some (.lst [.ob m, .int b]))
  low : ∃ l : List Int, l.length ≤ 1000 ∧ μ[m]? = some (some (.lst (l.map .int)))
/-- nothing but the drawn numbers changed -/
structure Oth (n m : Nat) (μ μ' : Mu) : Prop where
  len : μ'.length = μ.length
  oth : ∀ i, i ≠ n → i ≠ m → μ'[i]? = μ[i]?
theorem Oth.refl {n m : Nat} {μ : Mu} : Oth n m μ μ := ⟨rfl, fun _ _ _ => rfl⟩
theorem Oth.trans {n m : Nat} {a b c : Mu} (x : Oth n m a b) (y : Oth n m b c) : Oth n m a c := ⟨y.len.trans x.len, fun i h1 h2 => (y.oth i h1 h2).trans (x.oth i h1 h2)⟩
theorem atI_last {α : Type} (l : List α) (x : α) : atI (l ++ [x]) (-1) = some x := by
  unfold atI
  have e : ixN (l ++ [x]).length (-1) = some l.length := by
    rw [List.length_append, List.length_singleton]
    unfold ixN
    first
      | (split <;> (try split) <;> (try simp) <;> omega)
      | simp
  rw [e]
  simp
theorem get_set_ne {μ : Mu} {n m : Nat} {x : Option MO} (h : n ≠ m) : (μ.set m x)[n]? = μ[n]? := List.getElem?_set_ne (Ne.symm h)
theorem get_set_eq {μ : Mu} {m : Nat} {x y : Option MO} (h : μ[m]? = some y) : (μ.set m x)[m]? = some x := List.getElem?_set_self (List.getElem?_eq_some_iff.mp h).1
theorem ix_ob {μ : Mu} {n : Nat} {ds : List D} {i : Int} (h : μ[n]? = some (some (.lst ds))) : dIx (.ob n) (.int i) μ = atI ds i := by
  show (match asQ (.ob n) μ with
    | some ds => atI ds i
    | none => none) = _
  have e : asQ (.ob n) μ = some ds := by
    show (match μ[n]? with
      | some (some (.lst ds)) => some ds
      | _ => none) = _
    rw [h]
  rw [e]
theorem ty_ob {μ : Mu} {n : Nat} {ds : List D} (h : μ[n]? = some (some (.lst ds))) : tyD .list (.ob n) μ = true := by
  show ((match μ[n]? with
      | some (some (.lst ds)) => some ds
      | _ => none) : Option (List D)).isSome = true
  rw [h]
  rfl
theorem ob_ob {μ : Mu} {n : Nat} {ds : List D} (h : μ[n]? = some (some (.lst ds))) : obL (.ob n) μ = some (n, ds) := by
  show (match μ[n]? with
      | some (some (.lst ds)) => some (n, ds)
      | _ => none) = _
  rw [h]
theorem pop_ob {μ : Mu} {n : Nat} {ds : List D} {d : D} (h : μ[n]? = some (some (.lst (ds ++ [d])))) : fPop (.ob n) [] μ = some (d, μ.set n (some (.lst ds))) := by
  unfold fPop
  simp only [ob_ob h]
  simp
theorem append_ob {μ : Mu} {n : Nat} {ds : List D} {d : D} (h : μ[n]? = some (some (.lst ds))) (hl : ds.length < lineS) : fAppend (.ob n) [d] μ = some (.non, μ.set n (some (.lst (ds ++ [d])))) := by
  unfold fAppend
  simp only [ob_ob h, if_pos hl]
/-- a method of a list -/
def methK (f : D → List D → Mu → Option (D × Mu)) (x : D) (xs : List D) (μ : Mu) : Option Out := match f x xs μ with
  | some (d, μ3) => some (.ok d μ3)
  | none => none
theorem meth_ev {TT : Ty2} {f : D → List D → Mu → Option (D × Mu)} {o : ME} {a : MA} {ρ : Rho} {μ : Mu} : mMeth TT f o a ρ μ = bindO (o ρ μ) fun x μ1 => if tyD TT x μ1 = true then bindA (a ρ μ1) (methK f x) else none := rfl
/-- a turn of a while -/
def whB (t : ME) (b : MS) (o : Option Fl) : Option Fl := match o with
  | some (.nx ρ μ) => sWhile t b ρ μ
  | some (.ct ρ μ) => sWhile t b ρ μ
  | some (.bk ρ μ) => some (.nx ρ μ)
  | r => r
def whK (t : ME) (b : MS) (ρ : Rho) (o : Option Out) : Option Fl := match o with
  | some (.ok (.bl true) μ1) => whB t b (b ρ μ1)
  | some (.ok (.bl false) μ1) => some (.nx ρ μ1)
  | some (.ex x a μ1) => some (.ex x a ρ μ1)
  | _ => none
theorem while_ev {t : ME} {b : MS} {ρ : Rho} {μ : Mu} : sWhile t b ρ μ = whK t b ρ (t ρ μ) := by
  rw [sWhile]
  unfold whK whB
  rfl
section
variable {t : ME} {b : MS} {ρ ρ1 : Rho} {μ μ1 : Mu}
@[simp] theorem whK_t : whK t b ρ (some (.ok (.bl true) μ1)) = whB t b (b ρ μ1) := rfl
@[simp] theorem whK_f : whK t b ρ (some (.ok (.bl false) μ1)) = some (.nx ρ μ1) := rfl
@[simp] theorem whB_nx : whB t b (some (.nx ρ1 μ1)) = sWhile t b ρ1 μ1 := rfl
end
/-- x[j] = v -/
def putK (v x : D) (ρ : Rho) (j : D) (μ : Mu) : Option Fl := match j with
  | .int j => match obL x μ with
    | some (n, ds) => match ixN ds.length j with
      | some q => some (.nx ρ (μ.set n (some (.lst (ds.set q v)))))
      | none => none
    | none => none
  | _ => none
theorem put_ev {e o i : ME} {ρ : Rho} {μ : Mu} : sPut e o i ρ μ = bindS (e ρ μ) ρ fun v μ1 => bindS (o ρ μ1) ρ fun x μ2 => bindS (i ρ μ2) ρ (putK v x ρ) := rfl
theorem put_ob {v : D} {ρ : Rho} {μ : Mu} {n q : Nat} {ds : List D} {j : Int} (h : μ[n]? = some (some (.lst ds))) (hj : ixN ds.length j = some q) : putK v (.ob n) ρ (.int j) μ = some (.nx ρ (μ.set n (some (.lst (ds.set q v))))) := by
  unfold putK
  simp only [ob_ob h, hj]
theorem any_loop {n m : Nat} {bd : Int} (nm : n ≠ m) : ∀ (k : Nat) (l : List Int) (μ : Mu) (b : Int), l.length = k → μ[n]? = some (some (.lst [.ob m, .int b])) → μ[m]? = some (some (.lst (l.map .int))) →
    ∃ l' : List Int, l'.length ≤ l.length ∧ sWhile (mAnd (mOp dNe (mOp dIx (mVar 0) (mC (.int 0))) (mLst aNil)) (mOp dEq (mOp dIx (mOp dIx (mVar 0) (mC (.int 0))) (mUn iNeg (mC (.int 1)))) (mC (.int 0)))) b_L_any_W1 [some (.ob n), some (.int bd), none] μ
      = some (.nx [some (.ob n), some (.int bd), none] (μ.set m (some (.lst (l'.map .int))))) := by
  intro k
  induction k with
  | zero =>
    intro l μ b hl hn hm
    have el : l = [] := List.eq_nil_of_length_eq_zero hl
    subst el
    refine ⟨[], Nat.le_refl _, ?_⟩
    have e0 : dIx (.ob n) (.int 0) μ = some (.ob m) := by rw [ix_ob hn]; rfl
    have e1 : dNe (.ob m) (.lst []) μ = some (.bl false) := ne_nil (l := []) hm
    rw [while_ev]
    simp [mVar_ev, e0, e1, lineS]
    exact (set_same hm).symm
  | succ k ih =>
    intro l μ b hl hn hm
    obtain ⟨l0, x, el⟩ : ∃ l0 x, l = l0 ++ [x] := by
      rcases List.eq_nil_or_concat l with e | ⟨l0, x, e⟩
      · rw [e] at hl
        cases hl
      · exact ⟨l0, x, by rw [e]; simp⟩
    subst el
    have e0 : dIx (.ob n) (.int 0) μ = some (.ob m) := by rw [ix_ob hn]; rfl
    have e1 : dNe (.ob m) (.lst []) μ = some (.bl true) := by
      rw [ne_nil hm]
      simp
    have e2 : dIx (.ob m) (.int (-1)) μ = some (.int x) := by
      rw [ix_ob hm, List.map_append]
      exact atI_last _ _
    by_cases hx : x = 0
    · subst hx
      have hm' : μ[m]? = some (some (.lst (l0.map .int ++ [.int 0]))) := by rw [hm, List.map_append]; rfl
      obtain ⟨l', le, e⟩ := ih l0 (μ.set m (some (.lst (l0.map .int)))) b (by simpa using hl) (by rw [get_set_ne nm]; exact hn) (get_set_eq hm)
      have hb : b_L_any_W1 [some (.ob n), some (.int bd), none] μ = some (.nx [some (.ob n), some (.int bd), none] (μ.set m (some (.lst (l0.map .int))))) := by
        simp [b_L_any_W1, mVar_ev, e0, meth_ev, ty_ob hm, methK, pop_ob hm']
      refine ⟨l', by rw [List.length_append]; omega, ?_⟩
      rw [while_ev]
      simp [mVar_ev, e0, e1, e2, lineS, hb]
      rw [e]
      simp
    · refine ⟨l0 ++ [x], Nat.le_refl _, ?_⟩
      have hx' : (x == 0) = false := by simpa using hx
      rw [while_ev]
      simp [mVar_ev, e0, e1, e2, lineS, hx']
      have := (set_same hm).symm
      rw [List.map_append] at this
      simpa using this
/-- a number below a bound is drawn -/
theorem any_ok {n m : Nat} {μ : Mu} {bd : Int} (h : DealAt n m μ) (h0 : 0 < bd) (h1 : bd < bigI) : ∃ (r : Int) (μ' : Mu), m_L_any [.ob n, .int bd] μ = some (.ok (.int r) μ') ∧ 0 ≤ r ∧ r < bd ∧ DealAt n m μ' ∧ Oth n m μ μ' := by
  obtain ⟨nm, ⟨b, hn⟩, l, hll, hm⟩ := h
  obtain ⟨l', le, hw⟩ := any_loop (bd := bd) nm l.length l μ b rfl hn hm
  have hm1 : (μ.set m (some (.lst (l'.map .int))))[m]? = some (some (.lst (l'.map .int))) := get_set_eq hm
  have hn1 : (μ.set m (some (.lst (l'.map .int))))[n]? = some (some (.lst [.ob m, .int b])) := by rw [get_set_ne nm]; exact hn
  have o1 : Oth n m μ (μ.set m (some (.lst (l'.map .int)))) := ⟨by simp, fun i h1 h2 => get_set_ne h2⟩
  generalize μ.set m (some (.lst (l'.map .int))) = μ1 at hw hm1 hn1 o1
  have e0 : dIx (.ob n) (.int 0) μ1 = some (.ob m) := by rw [ix_ob hn1]; rfl
  have pm : (0 : Int) < 2147483647 := by decide
  have p64 : (0 : Int) < 64 := by decide
  have b64 : (64 : Int) < bigI := by decide
  have sm : smallI 40693 = true := by decide
  rcases List.eq_nil_or_concat l' with el | ⟨l0, x, el⟩
  · subst el
    have e1 : dNe (.ob m) (.lst []) μ1 = some (.bl false) := ne_nil (l := []) hm1
    have e2 : dIx (.ob n) (.int 1) μ1 = some (.int b) := by rw [ix_ob hn1]; rfl
    refine ⟨((b * 40693 + 71) % 2147483647) / 64 % bd, μ1.set n (some (.lst [.ob m, .int ((b * 40693 + 71) % 2147483647)])), ?_, Int.emod_nonneg _ (by omega), Int.emod_lt_of_pos _ h0, ⟨nm, ⟨_, get_set_eq hn1⟩, [], by simp, by rw [get_set_ne (Ne.symm nm)]; exact hm1⟩, o1.trans ⟨by simp, fun i h2 h3 => get_set_ne h2⟩⟩
    have hn2 : (μ1.set n (some (.lst [.ob m, .int ((b * 40693 + 71) % 2147483647)])))[n]? = some (some (.lst [.ob m, .int ((b * 40693 + 71) % 2147483647)])) := get_set_eq hn1
    have e3 : dIx (.ob n) (.int 1) (μ1.set n (some (.lst [.ob m, .int ((b * 40693 + 71) % 2147483647)]))) = some (.int ((b * 40693 + 71) % 2147483647)) := by rw [ix_ob hn2]; rfl
    have hput : ∀ ρ, putK (.int ((b * 40693 + 71) % 2147483647)) (.ob n) ρ (.int 1) μ1 = some (.nx ρ (μ1.set n (some (.lst [.ob m, .int ((b * 40693 + 71) % 2147483647)])))) := fun ρ => put_ob (q := 1) hn1 rfl
    simp only [m_L_any, mFn_ev, b_L_any, List.map_cons, List.map_nil, List.length_cons, List.length_nil, sSeq_ev]
    simp only [show List.replicate (3 - (0 + 1 + 1)) (none : Option D) = [none] from rfl, List.cons_append, List.nil_append, hw, seqK_nx]
    simp [e0, e1, lineS, mVar_ev, e2, mul_right (i := b) (j := 40693) (μ := μ1) sm, mod_int pm, put_ev, hput, e3, div_int p64 b64, mod_int h0]
  · have el' : l' = l0 ++ [x] := by rw [el]; simp
    subst el'
    have e1 : dNe (.ob m) (.lst []) μ1 = some (.bl true) := by
      rw [ne_nil hm1]
      simp
    have hm1' : μ1[m]? = some (some (.lst (l0.map .int ++ [.int x]))) := by rw [hm1, List.map_append]; rfl
    have hm2 : (μ1.set m (some (.lst (l0.map .int))))[m]? = some (some (.lst (l0.map .int))) := get_set_eq hm1
    have hn2 : (μ1.set m (some (.lst (l0.map .int))))[n]? = some (some (.lst [.ob m, .int b])) := by rw [get_set_ne nm]; exact hn1
    have e4 : dIx (.ob n) (.int 0) (μ1.set m (some (.lst (l0.map .int)))) = some (.ob m) := by rw [ix_ob hn2]; rfl
    have hl0 : (l0.map D.int).length < lineS := by
      rw [List.length_map]
      rw [List.length_append, List.length_singleton] at le
      unfold lineS
      omega
    have ap : fAppend (.ob m) [.int (x / bd)] (μ1.set m (some (.lst (l0.map .int)))) = some (.non, μ1.set m (some (.lst ((l0 ++ [x / bd]).map .int)))) := by
      rw [append_ob hm2 hl0, List.map_append]
      simp
    refine ⟨x % bd, μ1.set m (some (.lst ((l0 ++ [x / bd]).map .int))), ?_, Int.emod_nonneg _ (by omega), Int.emod_lt_of_pos _ h0, ⟨nm, ⟨b, by rw [get_set_ne nm]; exact hn1⟩, l0 ++ [x / bd], by rw [List.length_append, List.length_singleton] at le ⊢; omega, get_set_eq hm1⟩, o1.trans ⟨by simp, fun i h2 h3 => get_set_ne h3⟩⟩
    simp only [m_L_any, mFn_ev, b_L_any, List.map_cons, List.map_nil, List.length_cons, List.length_nil, sSeq_ev]
    simp only [show List.replicate (3 - (0 + 1 + 1)) (none : Option D) = [none] from rfl, List.cons_append, List.nil_append, hw, seqK_nx]
    simp [e0, e1, lineS, mVar_ev, meth_ev, ty_ob hm1, methK, pop_ob hm1', e4, ty_ob hm2, ap, div_int h0 h1, mod_int h0]
/-- one of a list | a tuple -/
theorem of_ok {n m : Nat} {μ : Mu} {some_ : D} {xs : List D} (h : DealAt n m μ) (hs : some_ = .lst xs ∨ some_ = .tup xs) (h0 : xs ≠ []) (h1 : xs.length ≤ 1000000) : ∃ (x : D) (μ' : Mu), x ∈ xs ∧ m_L_of [.ob n, some_] μ = some (.ok x μ') ∧ DealAt n m μ' ∧ Oth n m μ μ' := by
  have hp : 0 < xs.length := List.length_pos_iff.mpr h0
  have hb : ((xs.length : Nat) : Int) < bigI := by
    have : (1000000 : Int) < bigI := by decide
    omega
  obtain ⟨r, μ', e, h2, h3, h4, h5⟩ := any_ok (bd := xs.length) h (by omega) hb
  have hr : r.toNat < xs.length := by omega
  have at_ : atI xs r = some xs[r.toNat] := by
    unfold atI ixN
    rw [if_pos h2, if_pos h3]
    simp [hr]
  have hl : fLen [some_] μ = some (.int xs.length) := by
    rcases hs with e | e <;> subst e <;> rfl
  have hx : dIx some_ (.int r) μ' = some xs[r.toNat] := by
    rcases hs with e | e <;> subst e <;> exact at_
  refine ⟨xs[r.toNat], μ', List.getElem_mem _, ?_, h4, h5⟩
  simp [m_L_of, mFn_ev, b_L_of, mVar_ev, hl, e, hx]
/-! ### loops -/
theorem lc_ok {g : MG} {mt me : ME} {ρ : Rho} {p : D → Bool} {f : D → D} {μ : Mu} : ∀ {ds : List D}, (∀ d ∈ ds, ∃ ρ2, g.put d ρ = some ρ2 ∧ mt ρ2 μ = some (.ok (.bl (p d)) μ) ∧ (p d = true → me ρ2 μ = some (.ok (f d) μ))) → lcLoop g mt me ρ ds μ = some ((ds.filter p).map f, μ)
  | [], _ => rfl
  | d :: ds, h => by
    obtain ⟨ρ2, e1, e2, e3⟩ := h d (List.mem_cons_self ..)
    have ih := lc_ok (ds := ds) fun y hy => h y (List.mem_cons_of_mem _ hy)
    simp only [lcLoop, e1]
    cases hp : p d with
    | true =>
      rw [hp] at e2
      have hf : (d :: ds).filter p = d :: ds.filter p := by simp [hp]
      simp only [e2, e3 hp, ih, hf, List.map_cons]
    | false =>
      rw [hp] at e2
      have hf : (d :: ds).filter p = ds.filter p := by simp [hp]
      simp only [e2, ih, hf]
/-- every turn goes on and keeps I -/
theorem for_ok {g : MG} {body : MS} {I : Rho → Mu → Prop} : ∀ {ds : List D}, (∀ d ∈ ds, ∀ ρ μ, I ρ μ → ∃ ρ1 ρ2 μ2, g.put d ρ = some ρ1 ∧ body ρ1 μ = some (.nx ρ2 μ2) ∧ I ρ2 μ2) → ∀ ρ μ, I ρ μ → ∃ ρ' μ', forLoop g body ds ρ μ = some (.nx ρ' μ') ∧ I ρ' μ'
  | [], _, ρ, μ, i => ⟨ρ, μ, rfl, i⟩
  | d :: ds, h, ρ, μ, i => by
    obtain ⟨ρ1, ρ2, μ2, e1, e2, i2⟩ := h d (List.mem_cons_self ..) ρ μ i
    obtain ⟨ρ', μ', e3, i3⟩ := for_ok (ds := ds) (fun y hy => h y (List.mem_cons_of_mem _ hy)) ρ2 μ2 i2
    refine ⟨ρ', μ', ?_, i3⟩
    simp only [forLoop, e1, e2, e3]
/-- the iteration's items, the loop -/
def forK (g : MG) (body : MS) (ρ : Rho) (o : Option OutA) : Option Fl := match o with
  | none => none
  | some (.ok ds μ1) => forLoop g body ds ρ μ1
  | some (.ex x a μ1) => some (.ex x a ρ μ1)
theorem sFor_ev {mi : MA} {g : MG} {body : MS} {ρ : Rho} {μ : Mu} : sFor mi g body ρ μ = forK g body ρ (mi ρ μ) := rfl
@[simp] theorem forK_ok {g : MG} {body : MS} {ρ : Rho} {ds : List D} {μ : Mu} : forK g body ρ (some (.ok ds μ)) = forLoop g body ds ρ μ := rfl
def seqI (d : D) (μ : Mu) : Option OutA := match itemsOf d with
  | some ds => some (.ok ds μ)
  | none => none
@[simp] theorem iSeq_ev {m : ME} {ρ : Rho} {μ : Mu} : iSeq m ρ μ = bindOA (m ρ μ) seqI := rfl
@[simp] theorem seqI_lst {ds : List D} {μ : Mu} : seqI (.lst ds) μ = some (.ok ds μ) := rfl
@[simp] theorem seqI_tup {ds : List D} {μ : Mu} : seqI (.tup ds) μ = some (.ok ds μ) := rfl
@[simp] theorem seqI_ro {ds : List D} {μ : Mu} : seqI (.ro ds) μ = some (.ok ds μ) := rfl
def lcK (o : Option (List D × Mu)) : Option Out := match o with
  | some (ys, μ2) => some (.ok (.lst ys) μ2)
  | none => none
theorem mLc_ev {own : List Nat} {mi : MA} {g : MG} {mt me : ME} {ρ : Rho} {μ : Mu} : mLc own mi g mt me ρ μ = bindA (mi ρ μ) fun ds μ1 => if ds.length ≤ lineS then lcK (lcLoop g mt me (wipeR ρ own) ds μ1) else none := rfl
@[simp] theorem lcK_ok {ys : List D} {μ : Mu} : lcK (some (ys, μ)) = some (.ok (.lst ys) μ) := rfl
def partK (d : D) (μ : Mu) : Option Out := match d with
  | .int i => some (.ok (.int i) μ)
  | _ => none
@[simp] theorem mPart_ev {m : ME} {ρ : Rho} {μ : Mu} : mPart m ρ μ = bindO (m ρ μ) partK := rfl
@[simp] theorem partK_int {i : Int} {μ : Mu} : partK (.int i) μ = some (.ok (.int i) μ) := rfl
def slK2 (d : D) (l : Option Int) (h : D) (μ : Mu) : Option Out := match partOf h with
  | none => none
  | some h => retV (dSl d l h μ) μ
def slK1 (mh : ME) (ρ : Rho) (d l : D) (μ : Mu) : Option Out := match partOf l with
  | none => none
  | some l => bindO (mh ρ μ) (slK2 d l)
theorem mSl_ev {mx ml mh : ME} {ρ : Rho} {μ : Mu} : mSl mx ml mh ρ μ = bindO (mx ρ μ) fun d μ1 => bindO (ml ρ μ1) (slK1 mh ρ d) := rfl
@[simp] theorem slK1_non {mh : ME} {ρ : Rho} {d : D} {μ : Mu} : slK1 mh ρ d .non μ = bindO (mh ρ μ) (slK2 d none) := rfl
@[simp] theorem slK1_int {mh : ME} {ρ : Rho} {d : D} {μ : Mu} {i : Int} : slK1 mh ρ d (.int i) μ = bindO (mh ρ μ) (slK2 d (some i)) := rfl
@[simp] theorem slK2_non {d : D} {μ : Mu} {l : Option Int} : slK2 d l .non μ = retV (dSl d l none μ) μ := rfl
@[simp] theorem slK2_int {d : D} {μ : Mu} {l : Option Int} {i : Int} : slK2 d l (.int i) μ = retV (dSl d l (some i) μ) μ := rfl
def revMK (d : D) (μ : Mu) : Option Out := match asQ d μ with
  | some ds => some (.ok (.ob μ.length) (μ ++ [some (.lst ds.reverse)]))
  | none => none
theorem mRevM_ev {m : ME} {ρ : Rho} {μ : Mu} : mRevM m ρ μ = bindO (m ρ μ) revMK := rfl
@[simp] theorem revMK_lst {ds : List D} {μ : Mu} : revMK (.lst ds) μ = some (.ok (.ob μ.length) (μ ++ [some (.lst ds.reverse)])) := rfl
def revK (d : D) (μ : Mu) : Option Out := match asQ d μ with
  | some ds => some (.ok (.lst ds.reverse) μ)
  | none => none
theorem mRev_ev {m : ME} {ρ : Rho} {μ : Mu} : mRev m ρ μ = bindO (m ρ μ) revK := rfl
@[simp] theorem revK_lst {ds : List D} {μ : Mu} : revK (.lst ds) μ = some (.ok (.lst ds.reverse) μ) := rfl
/-! ### the draw -/
theorem pow_10 {k : Int} (h0 : 0 ≤ k) (h1 : k ≤ 1000000) {μ : Mu} : iPow (.int 10) (.int k) μ = some (.int (10 ^ k.toNat)) := if_pos ⟨h0, h1, by decide⟩
theorem draw_ok {ns : List Int} (hn : ns.length ≤ 63) {script : D} (hs : script = .lst (ns.map .int) ∨ script = .ro (ns.map .int)) {salt : Int} (h1 : -1000 < salt) (h2 : salt < 1000) : ∃ μ, m_L_draw [script, .int salt] [] = some (.ok (.ob 1) μ) ∧ DealAt 1 0 μ := by
  obtain ⟨l, hl, e1⟩ : ∃ l : List Int, l.length ≤ 63 ∧ dSl script none (some 48) [] = some (.lst (l.map .int)) := by
    refine ⟨(ns.drop (HT.sIx ns.length 0 none)).take (HT.sIx ns.length ns.length (some 48) - HT.sIx ns.length 0 none), ?_, ?_⟩
    · rw [List.length_take, List.length_drop]
      omega
    · rcases hs with e | e <;> subst e <;> simp [dSl, asQ, asL, List.map_take, List.map_drop]
  obtain ⟨cs, ecs⟩ : ∃ cs : List Int, cs = l.map fun i => (if i < 0 then -i else i) % 10 ^ 60 := ⟨_, rfl⟩
  have lcs : cs.length ≤ 63 := by rw [ecs, List.length_map]; exact hl
  have c1 : ∀ ρ : Rho, ρ.length = 6 → lcLoop (gN 2) mYes (mOp iMod (mCall fAbs (aCons (mCall fInt (aCons (mVar 2) aNil)) aNil)) (mOp iPow (mC (.int 10)) (mC (.int 60)))) ρ (l.map .int) [] = some (cs.map .int, []) := fun ρ hρ => by
    rw [lc_ok (p := fun _ => true) (f := fun d => match d with | .int i => .int ((if i < 0 then -i else i) % 10 ^ 60) | d => d)]
    · rw [List.filter_eq_self.mpr (fun _ _ => rfl), List.map_map, ecs, List.map_map]
      rfl
    · intro d hd
      obtain ⟨i, _, e⟩ := List.mem_map.mp hd
      subst e
      refine ⟨_, rfl, rfl, fun _ => ?_⟩
      have h2 : (ρ.set 2 (some (.int i)))[2]? = some (some (.int i)) := List.getElem?_set_self (by omega)
      simp [mVar_ev, h2, pow_10 (k := 60) (by decide) (by decide)]
      rw [mod_int (by decide)]
      rfl
  have c2 : ∀ ρ : Rho, ρ.length = 6 → lcLoop (gN 2) (mOp iGe (mVar 2) (mOp iPow (mC (.int 10)) (mC (.int 18)))) (mVar 2) ρ (cs.map .int) [] = some (((cs.filter fun i => decide (10 ^ 18 ≤ i)).map .int), []) := fun ρ hρ => by
    rw [lc_ok (p := fun d => match d with | .int i => decide (10 ^ 18 ≤ i) | _ => false) (f := id)]
    · rw [List.map_id, List.filter_map]
      rfl
    · intro d hd
      obtain ⟨i, _, e⟩ := List.mem_map.mp hd
      subst e
      have h2 : (ρ.set 2 (some (.int i)))[2]? = some (some (.int i)) := List.getElem?_set_self (by omega)
      refine ⟨_, rfl, ?_, fun _ => ?_⟩
      · simp [mVar_ev, h2, pow_10 (k := 18) (by decide) (by decide)]
      · simp [mVar_ev, h2]
  have small : ∀ {k : Nat}, k ≤ 63 → k ≤ lineS := fun h => by unfold lineS; omega
  have lp : ∀ b : Int, ∃ (c : Option D) (b' : Int), forLoop (gN 2) b_L_draw_F1 (cs.map .int) [some script, some (.int salt), none, some (.lst (cs.map .int)), some (.int b), none] [] = some (.nx [some script, some (.int salt), c, some (.lst (cs.map .int)), some (.int b'), none] []) := fun b => by
    obtain ⟨ρ', μ', e, ⟨c, b', e2⟩, e3⟩ := for_ok (g := gN 2) (body := b_L_draw_F1) (I := fun ρ μ => (∃ (c : Option D) (b' : Int), ρ = [some script, some (.int salt), c, some (.lst (cs.map .int)), some (.int b'), none]) ∧ μ = []) (ds := cs.map .int) (fun d hd ρ μ i => by
      obtain ⟨⟨c, b', e⟩, e2⟩ := i
      subst e e2
      obtain ⟨x, _, ex⟩ := List.mem_map.mp hd
      subst ex
      refine ⟨_, _, _, rfl, ?_, ⟨some (.int x), (b' * 48271 + x % 2147483549 + 11) % 2147483647, rfl⟩, rfl⟩
      simp [b_L_draw_F1, mVar_ev, mul_right (i := b') (j := 48271) (μ := []) (by decide)]
      rw [mod_int (by decide)]
      simp
      rw [mod_int (by decide)]
      simp) _ [] ⟨⟨none, b, rfl⟩, rfl⟩
    subst e2 e3
    exact ⟨c, b', e⟩
  obtain ⟨c, b', hloop⟩ := lp (7919 + 104729 * salt)
  have hmul : iMul (.int 104729) (.int salt) [] = some (.int (104729 * salt)) := mul_left (by decide)
  refine ⟨[some (.lst ((cs.filter fun i => decide (10 ^ 18 ≤ i)).reverse.map .int)), some (.lst [.ob 0, .int b'])], ?_, ⟨by decide, ⟨b', rfl⟩, _, ?_, rfl⟩⟩
  · have w1 : (wipeR [some script, some (.int salt), none, none, none, none] [5, 2]).length = 6 := by rw [wipeR_length]; rfl
    have w2 : (wipeR [some script, some (.int salt), c, some (.lst (cs.map .int)), some (.int b'), none] [5, 2]).length = 6 := by rw [wipeR_length]; rfl
    have h1 : mLc [5, 2] (iSeq (mSl (mVar 0) (mC .non) (mPart (mC (.int 48))))) (gN 2) mYes (mOp iMod (mCall fAbs (aCons (mCall fInt (aCons (mVar 2) aNil)) aNil)) (mOp iPow (mC (.int 10)) (mC (.int 60)))) [some script, some (.int salt), none, none, none, none] [] = some (.ok (.lst (cs.map .int)) []) := by
      rw [mLc_ev, iSeq_ev, mSl_ev]
      simp only [mVar_ev, mC_ev, mPart_ev, List.getElem?_cons_zero, bindO_ok, slK1_non, partK_int, slK2_int, e1, retV_some, bindOA_ok, seqI_lst, bindA_ok, List.length_map]
      rw [if_pos (small hl), c1 _ w1]
      rfl
    have h2 : mLc [5, 2] (iSeq (mVar 3)) (gN 2) (mOp iGe (mVar 2) (mOp iPow (mC (.int 10)) (mC (.int 18)))) (mVar 2) [some script, some (.int salt), c, some (.lst (cs.map .int)), some (.int b'), none] [] = some (.ok (.lst ((cs.filter fun i => decide (10 ^ 18 ≤ i)).map .int)) []) := by
      rw [mLc_ev, iSeq_ev]
      simp only [mVar_ev, List.getElem?_cons_succ, List.getElem?_cons_zero, bindOA_ok, seqI_lst, bindA_ok, List.length_map]
      rw [if_pos (small lcs), c2 _ w2]
      rfl
    simp only [m_L_draw, mFn_ev, b_L_draw, List.map_cons, List.map_nil, List.length_cons, List.length_nil, sSeq_ev]
    simp only [show List.replicate (6 - (0 + 1 + 1)) (none : Option D) = [none, none, none, none] from rfl, List.cons_append, List.nil_append]
    simp [h1, sFor_ev, mVar_ev, hmul, hloop, mRevM_ev, h2, lineS]
  · rw [List.length_reverse]
    exact Nat.le_trans (List.length_filter_le _ _) (by omega)
/-! ### sameness -/
/-- plain data, nested less than k times -/
def plainD : Nat → D → Bool
  | _, .non => true
  | _, .bl _ => true
  | _, .int _ => true
  | _, .str x => PyData.canLay0 (.str x)
  | k + 1, .tup ds => decide (ds.length ≤ lineS) && ds.all (plainD k)
  | k + 1, .lst ds => decide (ds.length ≤ lineS) && ds.all (plainD k)
  | _, _ => false
theorem eq_nils {μ : Mu} : dEq (.lst []) (.lst []) μ = some (.bl true) := rfl
theorem isi_ev {ks : List Kd} {m : ME} {ρ : Rho} {μ : Mu} : mIsi ks m ρ μ = bindO (m ρ μ) fun d μ1 => match kdOf d μ1 with
  | some q => some (.ok (.bl (ks.any fun k => isA q k)) μ1)
  | none => none := rfl
theorem pairs_self {f : D → Option Out} : ∀ xs : List D, ∀ d ∈ pairs xs xs, ∃ x ∈ xs, d = .tup [x, x]
  | [], d, h => by cases h
  | x :: xs, d, h => by
    have e : pairs (x :: xs) (x :: xs) = .tup [x, x] :: pairs xs xs := rfl
    rw [e] at h
    rcases List.mem_cons.mp h with h | h
    · exact ⟨x, List.mem_cons_self .., h⟩
    · obtain ⟨y, hy, e⟩ := pairs_self (f := f) xs d h
      exact ⟨y, List.mem_cons_of_mem _ hy, e⟩
theorem pairs_length (xs : List D) : (pairs xs xs).length = xs.length := by
  unfold pairs
  rw [List.length_zipWith, Nat.min_self]
theorem eq_str {μ : Mu} {x : Str} (h : PyData.canLay0 (.str x) = true) : dEq (.str x) (.str x) μ = some (.bl true) := by
  unfold dEq eqM pyT pyD
  have hs : SeqAt.shaped (.str x) = true := by
    unfold SeqAt.shaped
    rw [h]
    rfl
  simp only [hs, if_true, Option.map_some]
  show some (D.bl (x == x)) = _
  simp
theorem same_refl {μ : Mu} : ∀ (k : Nat) (d : D), plainD k d = true → m_L_same (k + 1) [d, d] μ = some (.ok (.bl true) μ) := by
  intro k
  induction k with
  | zero =>
    intro d h
    match d, h with
    | .non, _ => rfl
    | .bl true, _ => rfl
    | .bl false, _ => rfl
    | .int i, _ => simp [m_L_same, mFn_ev, b_L_same, isi_ev, mVar_ev, kdOf, dIsN, dIsL, isBl]
    | .str x, h =>
      simp [m_L_same, mFn_ev, b_L_same, isi_ev, mVar_ev, kdOf, dIsN, dIsL, isBl, eq_str h]
  | succ k ih =>
    have flat : ∀ d : D, plainD 0 d = true → m_L_same (k + 1 + 1) [d, d] μ = some (.ok (.bl true) μ) := fun d h => by
      match d, h with
      | .non, _ => rfl
      | .bl true, _ => rfl
      | .bl false, _ => rfl
      | .int i, _ => simp [m_L_same, mFn_ev, b_L_same, isi_ev, mVar_ev, kdOf, dIsN, dIsL, isBl]
      | .str x, h => simp [m_L_same, mFn_ev, b_L_same, isi_ev, mVar_ev, kdOf, dIsN, dIsL, isBl, eq_str h]
    intro d h
    have many : ∀ xs : List D, xs.length ≤ lineS → xs.all (plainD k) = true → ∀ ρ : Rho, ρ.length = 5 →
        lcLoop (gT 2 (gsCons (gN 3) (gsCons (gN 4) gsNil))) (mNot (mApp 2 (m_L_same (k + 1)) [] (aCons (mVar 3) (aCons (mVar 4) aNil)))) (mC (.int 0)) ρ (pairs xs xs) μ = some ([], μ) := fun xs hl ha ρ hρ => by
      rw [lc_ok (p := fun _ => false) (f := id)]
      · simp
      · intro d hd
        obtain ⟨x, hx, e⟩ := pairs_self (f := fun _ => none) xs d hd
        subst e
        have hx' := ih x (List.all_eq_true.mp ha x hx)
        have l3 : (ρ.set 3 (some x)).length = 5 := by rw [List.length_set]; exact hρ
        have g4 : ((ρ.set 3 (some x)).set 4 (some x))[4]? = some (some x) := List.getElem?_set_self (by omega)
        have g3 : ((ρ.set 3 (some x)).set 4 (some x))[3]? = some (some x) := by
          rw [List.getElem?_set_ne (by decide)]
          exact List.getElem?_set_self (by omega)
        refine ⟨(ρ.set 3 (some x)).set 4 (some x), rfl, ?_, fun z => by cases z⟩
        simp [mVar_ev, g3, g4, hx']
    match d, h with
    | .tup ds, h =>
      have h2 : (decide (ds.length ≤ lineS) && ds.all (plainD k)) = true := h
      rw [Bool.and_eq_true, decide_eq_true_eq] at h2
      have hz : MV.iZip (aCons (mVar 0) (aCons (mVar 1) aNil)) [some (.tup ds), some (.tup ds), none, none, none] μ = some (.ok (pairs ds ds) μ) := rfl
      have hc : mLc [2, 3, 4] (MV.iZip (aCons (mVar 0) (aCons (mVar 1) aNil))) (gT 2 (gsCons (gN 3) (gsCons (gN 4) gsNil))) (mNot (mApp 2 (m_L_same (k + 1)) [] (aCons (mVar 3) (aCons (mVar 4) aNil)))) (mC (.int 0)) [some (.tup ds), some (.tup ds), none, none, none] μ = some (.ok (.lst []) μ) := by
        rw [mLc_ev, hz, bindA_ok, pairs_length, if_pos h2.1, many ds h2.1 h2.2 _ (by rw [wipeR_length]; rfl)]
        rfl
      rw [m_L_same, mFn_ev]
      simp [b_L_same, isi_ev, mVar_ev, kdOf, hc, eq_nils, fLen, lineS]
    | .lst ds, h =>
      have h2 : (decide (ds.length ≤ lineS) && ds.all (plainD k)) = true := h
      rw [Bool.and_eq_true, decide_eq_true_eq] at h2
      have hz : MV.iZip (aCons (mVar 0) (aCons (mVar 1) aNil)) [some (.lst ds), some (.lst ds), none, none, none] μ = some (.ok (pairs ds ds) μ) := rfl
      have hc : mLc [2, 3, 4] (MV.iZip (aCons (mVar 0) (aCons (mVar 1) aNil))) (gT 2 (gsCons (gN 3) (gsCons (gN 4) gsNil))) (mNot (mApp 2 (m_L_same (k + 1)) [] (aCons (mVar 3) (aCons (mVar 4) aNil)))) (mC (.int 0)) [some (.lst ds), some (.lst ds), none, none, none] μ = some (.ok (.lst []) μ) := by
        rw [mLc_ev, hz, bindA_ok, pairs_length, if_pos h2.1, many ds h2.1 h2.2 _ (by rw [wipeR_length]; rfl)]
        rfl
      rw [m_L_same, mFn_ev]
      simp [b_L_same, isi_ev, mVar_ev, kdOf, hc, eq_nils, fLen, asQ, asL, lineS]
    | .non, _ => exact flat _ rfl
    | .bl b, _ => exact flat _ rfl
    | .int i, _ => exact flat _ rfl
    | .str x, h => exact flat _ h
theorem flat_ints (l : List Int) : (l.map D.int).all flatD = true := List.all_eq_true.mpr fun d hd => by
  obtain ⟨x, _, e⟩ := List.mem_map.mp hd
  subst e
  rfl
theorem inF_ints (i : Int) : ∀ l : List Int, inF (.int i) (l.map .int) = l.contains i
  | [] => rfl
  | x :: l => by
    have ih := inF_ints i l
    have sw : (x == i) = (i == x) := by
      by_cases h : x = i
      · subst h
        rfl
      · have h2 : ¬ i = x := fun z => h z.symm
        rw [beq_eq_false_iff_ne.mpr h, beq_eq_false_iff_ne.mpr h2]
    show ((x == i) || inF (.int i) (l.map .int)) = (x :: l).contains i
    rw [List.contains_cons, ih, sw]
theorem in_ints {i : Int} {l : List Int} {μ : Mu} (y : D) (hy : y = .tup (l.map .int) ∨ y = .lst (l.map .int)) : dIn (.int i) y μ = some (.bl (l.contains i)) := by
  have m : inM (.int i) y μ = some (inF (.int i) (l.map .int)) := by
    rcases hy with e | e <;> subst e <;> show (if flatD (.int i) = true then if (l.map D.int).all flatD = true then some (inF (.int i) (l.map .int)) else none else none) = _ <;> rw [if_pos (show flatD (.int i) = true from rfl), if_pos (flat_ints l)]
  unfold dIn
  rw [m, inF_ints]
  rfl
/-! ### parallel stores -/
def parK (i j : Nat) (ρ : Rho) (o : Option OutA) : Option Fl := match o with
  | some (.ok [x, y] μ1) => some (.nx ((ρ.set i (some x)).set j (some y)) μ1)
  | some (.ex x e μ1) => some (.ex x e ρ μ1)
  | _ => none
theorem sPar_ev {i j : Nat} {a b : ME} {ρ : Rho} {μ : Mu} : sPar i j a b ρ μ = parK i j ρ (aCons a (aCons b aNil) ρ μ) := rfl
@[simp] theorem parK_ok {i j : Nat} {ρ : Rho} {x y : D} {μ : Mu} : parK i j ρ (some (.ok [x, y] μ)) = some (.nx ((ρ.set i (some x)).set j (some y)) μ) := rfl
def parK3 (i j l : Nat) (ρ : Rho) (o : Option OutA) : Option Fl := match o with
  | some (.ok [x, y, z] μ1) => some (.nx (((ρ.set i (some x)).set j (some y)).set l (some z)) μ1)
  | some (.ex x e μ1) => some (.ex x e ρ μ1)
  | _ => none
theorem sPar3_ev {i j l : Nat} {a b c : ME} {ρ : Rho} {μ : Mu} : sPar3 i j l a b c ρ μ = parK3 i j l ρ (aCons a (aCons b (aCons c aNil)) ρ μ) := rfl
@[simp] theorem parK3_ok {i j l : Nat} {ρ : Rho} {x y z : D} {μ : Mu} : parK3 i j l ρ (some (.ok [x, y, z] μ)) = some (.nx (((ρ.set i (some x)).set j (some y)).set l (some z)) μ) := rfl
/-! ### powers -/
theorem pow_mod (a p : Int) : ∀ m : Nat, (a % p) ^ m % p = a ^ m % p
  | 0 => by rw [Int.pow_zero, Int.pow_zero]
  | m + 1 => by rw [Int.pow_succ, Int.pow_succ, Int.mul_emod, pow_mod a p m, Int.emod_emod_of_dvd _ (Int.dvd_refl p), ← Int.mul_emod]
theorem sq_pow (b : Int) : ∀ m : Nat, (b * b) ^ m = b ^ (2 * m)
  | 0 => by rw [Nat.mul_zero, Int.pow_zero, Int.pow_zero]
  | m + 1 => by
    rw [Int.pow_succ, sq_pow b m, show 2 * (m + 1) = 2 * m + 1 + 1 from rfl, Int.pow_succ, Int.pow_succ, Int.mul_assoc]
theorem mul_mod_left (a b p : Int) : a % p * b % p = a * b % p := by rw [Int.mul_emod, Int.emod_emod_of_dvd _ (Int.dvd_refl p), ← Int.mul_emod]
theorem mul_mod_right (a b p : Int) : a * (b % p) % p = a * b % p := by rw [Int.mul_emod, Int.emod_emod_of_dvd _ (Int.dvd_refl p), ← Int.mul_emod]
theorem for_cons {i : Nat} {body : MS} {d : D} {ds : List D} {ρ ρ2 : Rho} {μ μ2 : Mu} (h : body (ρ.set i (some d)) μ = some (.nx ρ2 μ2)) : forLoop (gN i) body (d :: ds) ρ μ = forLoop (gN i) body ds ρ2 μ2 := by
  simp only [forLoop, gN, h]
/-- a list that changed is one that changes no more -/
theorem frz_ev {i n : Nat} {ρ : Rho} {μ : Mu} {b : MS} {ds : List D} (h1 : ρ[i]? = some (some (.ob n))) (h2 : μ[n]? = some (some (.lst ds))) : sFrz i b ρ μ = b (ρ.set i (some (.lst ds))) (μ.set n none) := by
  unfold sFrz frz
  simp only [h1, h2]
/-- every item's value is a P, I is kept -/
theorem lc_inv {g : MG} {me : ME} {ρ : Rho} {I : Mu → Prop} {Pd : D → Prop} : ∀ {ds : List D}, (∀ d ∈ ds, ∀ μ, I μ → ∃ ρ2 y μ2, g.put d ρ = some ρ2 ∧ me ρ2 μ = some (.ok y μ2) ∧ Pd y ∧ I μ2) → ∀ μ, I μ →
    ∃ ys μ', lcLoop g mYes me ρ ds μ = some (ys, μ') ∧ ys.length = ds.length ∧ (∀ y ∈ ys, Pd y) ∧ I μ'
  | [], _, μ, i => ⟨[], μ, rfl, rfl, (fun y hy => by cases hy), i⟩
  | d :: ds, h, μ, i => by
    obtain ⟨ρ2, y, μ2, e1, e2, py, i2⟩ := h d (List.mem_cons_self ..) μ i
    obtain ⟨ys, μ', e3, hl, ha, i3⟩ := lc_inv (ds := ds) (fun x hx => h x (List.mem_cons_of_mem _ hx)) μ2 i2
    refine ⟨y :: ys, μ', ?_, by rw [List.length_cons, List.length_cons, hl], fun z hz => ?_, i3⟩
    · simp only [lcLoop, e1, mC_ev, e2, e3]
    · rcases List.mem_cons.mp hz with e | hz
      · rw [e]
        exact py
      · exact ha z hz
/-- what the clauses make of a question refused -/
theorem heard_ok {told : Str} {es : List Str} {sb : Str → Str → Bool} {hs : List (Str × Str)} {m : ME} {ρ : Rho} {μ μ1 : Mu} {d : D} (h : m ρ μ = some (.ok d μ1)) : mHeard told es sb hs m ρ μ = some (.ok (.tup [.str told, d]) μ1) := by
  unfold mHeard
  simp only [h]
theorem heard_ex {told : Str} {es : List Str} {sb : Str → Str → Bool} {hs : List (Str × Str)} {m : ME} {ρ : Rho} {μ μ1 : Mu} {x : Str} {d : D} {w : Str × Str} (h : m ρ μ = some (.ex x (some d) μ1)) (hx : x ∈ es) (hw : hs.find? (fun h => sb x h.1) = some w) : mHeard told es sb hs m ρ μ = some (.ok (.tup [.str w.2, d]) μ1) := by
  unfold mHeard
  simp only [h, if_pos hx, hw]
theorem deal_app {n m : Nat} {μ ν : Mu} (h : DealAt n m μ) : DealAt n m (μ ++ ν) := by
  obtain ⟨nm, ⟨b, h1⟩, l, hl, h2⟩ := h
  refine ⟨nm, ⟨b, ?_⟩, l, hl, ?_⟩
  · rw [List.getElem?_append_left (List.getElem?_eq_some_iff.mp h1).1]
    exact h1
  · rw [List.getElem?_append_left (List.getElem?_eq_some_iff.mp h2).1]
    exact h2
theorem get_app {μ : Mu} {x : Option MO} : (μ ++ [x])[μ.length]? = some x := by simp
theorem set_app {μ : Mu} {x y : Option MO} : (μ ++ [x]).set μ.length y = μ ++ [y] := by
  rw [List.set_append_right _ _ (Nat.le_refl _)]
  simp
theorem deal_set {n m L : Nat} {μ : Mu} {x : Option MO} (h : DealAt n m μ) (h1 : L ≠ n) (h2 : L ≠ m) : DealAt n m (μ.set L x) := by
  obtain ⟨nm, ⟨b, e1⟩, l, hl, e2⟩ := h
  exact ⟨nm, ⟨b, by rw [List.getElem?_set_ne h1]; exact e1⟩, l, hl, by rw [List.getElem?_set_ne h2]; exact e2⟩
theorem deal_len {n m : Nat} {μ : Mu} (h : DealAt n m μ) : n < μ.length ∧ m < μ.length := by
  obtain ⟨_, ⟨_, e1⟩, _, _, e2⟩ := h
  exact ⟨(List.getElem?_eq_some_iff.mp e1).1, (List.getElem?_eq_some_iff.mp e2).1⟩
/-- x.append(e), x a list that a slot holds -/
theorem app_ok {E : ME} {i : Nat} {ρ : Rho} {μ μ1 : Mu} {v : D} {L : Nat} {ds0 ds : List D} (h5 : ρ[i]? = some (some (.ob L))) (hL0 : μ[L]? = some (some (.lst ds0))) (hE : E ρ μ = some (.ok v μ1)) (hL : μ1[L]? = some (some (.lst ds))) (hl : ds.length < lineS) :
    sDrop (mMeth .list fAppend (mVar i) (aCons E aNil)) ρ μ = some (.nx ρ (μ1.set L (some (.lst (ds ++ [v]))))) := by
  have hv : mVar i ρ μ = some (.ok (.ob L) μ) := by
    rw [mVar_ev, h5]
  simp only [sDrop_ev, meth_ev, hv, bindO_ok, ty_ob hL0, if_true, aCons_ev, hE, bindOA_ok, aNil_ev, bindAA_ok, bindA_ok, methK, append_ob hL hl, bindS_ok]
end LawC

set_option Elab.async false
set_option linter.all false
set_option maxRecDepth 100000
set_option maxHeartbeats 0
namespace K01
open PySem PySem.Spec PyProof.Rows L2 MV
open PySem.W (Frag)
open LawC
abbrev prog : Program := PySem.Challenge.pw_dealtoncurves_k01_whole_numbers_by_a_pri
def top (i : Nat) : Stmt := PySem.Challenge.pw_dealtoncurves_k01_whole_numbers_by_a_pri.main.body.getD i (.Pass ⟨0, 0, 0, 0⟩)
def initStmt (st : Stmt) : Stmt := match st with
  | .ClassDef _ _ _ (b :: _) _ _ _ _ _ _ _ => b
  | _ => .Pass ⟨0, 0, 0, 0⟩
abbrev d_is_integer : He.DefD := ⟨("is_integer", none), "is_integer", "is_integer", defArgs (top 4), defBody (top 4), defScope (top 4), [], []⟩
abbrev d_is_index : He.DefD := ⟨("is_index", none), "is_index", "is_index", defArgs (top 5), defBody (top 5), defScope (top 5), [], []⟩
abbrev d_is_prime_told : He.DefD := ⟨("is_prime_told", none), "is_prime_told", "is_prime_told", defArgs (top 9), defBody (top 9), defScope (top 9), [], []⟩
abbrev d_checked_prime : He.DefD := ⟨("checked_prime", none), "checked_prime", "checked_prime", defArgs (top 10), defBody (top 10), defScope (top 10), [.int 0], []⟩
abbrev d_checked_number : He.DefD := ⟨("checked_number", none), "checked_number", "checked_number", defArgs (top 11), defBody (top 11), defScope (top 11), [], []⟩
abbrev d_power_by : He.DefD := ⟨("power_by", none), "power_by", "power_by", defArgs (top 12), defBody (top 12), defScope (top 12), [], []⟩
abbrev d_inverse_by : He.DefD := ⟨("inverse_by", none), "inverse_by", "inverse_by", defArgs (top 13), defBody (top 13), defScope (top 13), [], []⟩
abbrev d_sum_of : He.DefD := ⟨("sum_of", none), "sum_of", "sum_of", defArgs (top 14), defBody (top 14), defScope (top 14), [], []⟩
abbrev d_difference_of : He.DefD := ⟨("difference_of", none), "difference_of", "difference_of", defArgs (top 15), defBody (top 15), defScope (top 15), [], []⟩
abbrev d_product_of : He.DefD := ⟨("product_of", none), "product_of", "product_of", defArgs (top 16), defBody (top 16), defScope (top 16), [], []⟩
abbrev d_inverse_of : He.DefD := ⟨("inverse_of", none), "inverse_of", "inverse_of", defArgs (top 17), defBody (top 17), defScope (top 17), [], []⟩
abbrev d_power_of : He.DefD := ⟨("power_of", none), "power_of", "power_of", defArgs (top 18), defBody (top 18), defScope (top 18), [], []⟩
abbrev d_L_draw : He.DefD := ⟨("_law_draw", none), "_law_draw", "_law_draw", defArgs (top 20), defBody (top 20), defScope (top 20), [], []⟩
abbrev d_L_any : He.DefD := ⟨("_law_any", none), "_law_any", "_law_any", defArgs (top 21), defBody (top 21), defScope (top 21), [], []⟩
abbrev d_L_of : He.DefD := ⟨("_law_of", none), "_law_of", "_law_of", defArgs (top 22), defBody (top 22), defScope (top 22), [], []⟩
abbrev d_L_same : He.DefD := ⟨("_law_same", none), "_law_same", "_law_same", defArgs (top 23), defBody (top 23), defScope (top 23), [], []⟩
abbrev d_L_is_int : He.DefD := ⟨("_law_is_int", none), "_law_is_int", "_law_is_int", defArgs (top 24), defBody (top 24), defScope (top 24), [], []⟩
abbrev d_L_primes : He.DefD := ⟨("_law_primes", none), "_law_primes", "_law_primes", defArgs (top 25), defBody (top 25), defScope (top 25), [], []⟩
abbrev d_L_some_prime : He.DefD := ⟨("_law_some_prime", none), "_law_some_prime", "_law_some_prime", defArgs (top 26), defBody (top 26), defScope (top 26), [], []⟩
abbrev d_L_inverse : He.DefD := ⟨("_law_inverse", none), "_law_inverse", "_law_inverse", defArgs (top 27), defBody (top 27), defScope (top 27), [], []⟩
abbrev d_L_some_row : He.DefD := ⟨("_law_some_row", none), "_law_some_row", "_law_some_row", defArgs (top 28), defBody (top 28), defScope (top 28), [], []⟩
abbrev d_L_heard : He.DefD := ⟨("_law_heard", none), "_law_heard", "_law_heard", defArgs (top 29), defBody (top 29), defScope (top 29), [], []⟩
abbrev d_L_power : He.DefD := ⟨("_law_power", none), "_law_power", "_law_power", defArgs (top 30), defBody (top 30), defScope (top 30), [], []⟩
abbrev d_L_pair_right : He.DefD := ⟨("_law_pair_right", none), "_law_pair_right", "_law_pair_right", defArgs (top 31), defBody (top 31), defScope (top 31), [], []⟩
abbrev d_law : He.DefD := ⟨("law", none), "law", "law", defArgs (top 32), defBody (top 32), defScope (top 32), [], []⟩
def fn : List He.DefD := [d_is_integer, d_is_index, d_is_prime_told, d_checked_prime, d_checked_number, d_power_by, d_inverse_by, d_sum_of, d_difference_of, d_product_of, d_inverse_of, d_power_of, d_L_draw, d_L_any, d_L_of, d_L_same, d_L_is_int, d_L_primes, d_L_some_prime, d_L_inverse, d_L_some_row, d_L_heard, d_L_power, d_L_pair_right, d_law]
abbrev i_InvalidQuestion : InD := ⟨"InvalidQuestion", "InvalidQuestion.__init__", defArgs (initStmt (top 2)), defBody (initStmt (top 2)), defScope (initStmt (top 2))⟩
def ins : List InD := [i_InvalidQuestion]
def fa : List He.Fa := [.glo "is_integer", .glo "is_index", .glo "is_prime_told", .glo "checked_prime", .glo "checked_number", .glo "power_by", .glo "inverse_by", .glo "sum_of", .glo "difference_of", .glo "product_of", .glo "inverse_of", .glo "power_of", .glo "_law_draw", .glo "_law_any", .glo "_law_of", .glo "_law_same", .glo "_law_is_int", .glo "_law_primes", .glo "_law_some_prime", .glo "_law_inverse", .glo "_law_some_row", .glo "_law_heard", .glo "_law_power", .glo "_law_pair_right", .glo "law", .glo "InvalidQuestion", .free "isinstance", .free "int", .free "bool", .free "abs", .free "len", .free "list", .free "tuple", .free "zip", .free "str", .free "range", .free "super", .glo "PRIMES", .int "MOST_POWER" (1000000000000000000000000000000), .exm "InvalidQuestion" "InvalidQuestion" true]
def tf : List He.Defn := [("law", none)]
def ex (K : Frag) : Bool := He.tupB K "PRIMES" [.int (2), .int (3), .int (5), .int (7), .int (11), .int (13), .int (17), .int (19), .int (23), .int (29), .int (31), .int (37), .int (41), .int (43), .int (47), .int (53), .int (59), .int (61), .int (67), .int (71), .int (73), .int (79), .int (83), .int (89), .int (97)]
abbrev R : PySem.W.OpenRow := PySem.W.OpenLaw.row PySem.Challenge.rw_dealtoncurves_k01_whole_numbers_by_a_pri
abbrev hk : PySem.W.Hook := hookM prog 4 fa fn ins tf ex
def ob (s : PySem.W.SharedT) : AlM := obsM prog 4 fa fn ins tf ex (HandSHeadRun.getT s)
theorem ob_eq (s : PySem.W.SharedT) : ob s = hk.obs s.abs := obsM_eq (HandSHeadRun.getT_eq s)
def loose0 : List Str := ["is_integer", "is_index", "is_prime_told", "checked_prime", "checked_number", "power_by", "inverse_by", "sum_of", "difference_of", "product_of", "inverse_of", "power_of", "_law_draw", "_law_any", "_law_of", "_law_same", "_law_is_int", "_law_primes", "_law_some_prime", "_law_inverse", "_law_some_row", "_law_heard", "_law_power", "_law_pair_right", "DealtError", "InvalidQuestion", "PRIMES", "MOST_POWER"]
def loose : List Str := loose0
theorem run (w : World) : HandSHeadRun.RunEq R (PySem.W.view R.prog [32]) hk ob 8000 loose w := by
  intro os
  kernel_rfl
structure CtxL (w : World) (K : Frag) (mg : Str → Option Value) (base h : Heap) : Prop where
  kx : K.In h
  gn : h.Ns mainGlobals mg
  c : SaysM prog fa fn ins tf ex h K
  tb : ∀ p ∈ tf.map (He.cT K), LamX.TabB base mg p.1 p.2
section
variable {w : World} {K : Frag} {mg : Str → Option Value} {base h : Heap}
theorem glo_is_integer (e : CtxL w K mg base h) : mg "is_integer" = some (.ref (He.ga K "is_integer")) := He.glo_ok e.kx e.gn (e.c.d.fact 0 (f := .glo "is_integer") rfl)
theorem glo_is_index (e : CtxL w K mg base h) : mg "is_index" = some (.ref (He.ga K "is_index")) := He.glo_ok e.kx e.gn (e.c.d.fact 1 (f := .glo "is_index") rfl)
theorem glo_is_prime_told (e : CtxL w K mg base h) : mg "is_prime_told" = some (.ref (He.ga K "is_prime_told")) := He.glo_ok e.kx e.gn (e.c.d.fact 2 (f := .glo "is_prime_told") rfl)
theorem glo_checked_prime (e : CtxL w K mg base h) : mg "checked_prime" = some (.ref (He.ga K "checked_prime")) := He.glo_ok e.kx e.gn (e.c.d.fact 3 (f := .glo "checked_prime") rfl)
theorem glo_checked_number (e : CtxL w K mg base h) : mg "checked_number" = some (.ref (He.ga K "checked_number")) := He.glo_ok e.kx e.gn (e.c.d.fact 4 (f := .glo "checked_number") rfl)
theorem glo_power_by (e : CtxL w K mg base h) : mg "power_by" = some (.ref (He.ga K "power_by")) := He.glo_ok e.kx e.gn (e.c.d.fact 5 (f := .glo "power_by") rfl)
theorem glo_inverse_by (e : CtxL w K mg base h) : mg "inverse_by" = some (.ref (He.ga K "inverse_by")) := He.glo_ok e.kx e.gn (e.c.d.fact 6 (f := .glo "inverse_by") rfl)
theorem glo_sum_of (e : CtxL w K mg base h) : mg "sum_of" = some (.ref (He.ga K "sum_of")) := He.glo_ok e.kx e.gn (e.c.d.fact 7 (f := .glo "sum_of") rfl)
theorem glo_difference_of (e : CtxL w K mg base h) : mg "difference_of" = some (.ref (He.ga K "difference_of")) := He.glo_ok e.kx e.gn (e.c.d.fact 8 (f := .glo "difference_of") rfl)
theorem glo_product_of (e : CtxL w K mg base h) : mg "product_of" = some (.ref (He.ga K "product_of")) := He.glo_ok e.kx e.gn (e.c.d.fact 9 (f := .glo "product_of") rfl)
theorem glo_inverse_of (e : CtxL w K mg base h) : mg "inverse_of" = some (.ref (He.ga K "inverse_of")) := He.glo_ok e.kx e.gn (e.c.d.fact 10 (f := .glo "inverse_of") rfl)
theorem glo_power_of (e : CtxL w K mg base h) : mg "power_of" = some (.ref (He.ga K "power_of")) := He.glo_ok e.kx e.gn (e.c.d.fact 11 (f := .glo "power_of") rfl)
theorem glo_L_draw (e : CtxL w K mg base h) : mg "_law_draw" = some (.ref (He.ga K "_law_draw")) := He.glo_ok e.kx e.gn (e.c.d.fact 12 (f := .glo "_law_draw") rfl)
theorem glo_L_any (e : CtxL w K mg base h) : mg "_law_any" = some (.ref (He.ga K "_law_any")) := He.glo_ok e.kx e.gn (e.c.d.fact 13 (f := .glo "_law_any") rfl)
theorem glo_L_of (e : CtxL w K mg base h) : mg "_law_of" = some (.ref (He.ga K "_law_of")) := He.glo_ok e.kx e.gn (e.c.d.fact 14 (f := .glo "_law_of") rfl)
theorem glo_L_same (e : CtxL w K mg base h) : mg "_law_same" = some (.ref (He.ga K "_law_same")) := He.glo_ok e.kx e.gn (e.c.d.fact 15 (f := .glo "_law_same") rfl)
theorem glo_L_is_int (e : CtxL w K mg base h) : mg "_law_is_int" = some (.ref (He.ga K "_law_is_int")) := He.glo_ok e.kx e.gn (e.c.d.fact 16 (f := .glo "_law_is_int") rfl)
theorem glo_L_primes (e : CtxL w K mg base h) : mg "_law_primes" = some (.ref (He.ga K "_law_primes")) := He.glo_ok e.kx e.gn (e.c.d.fact 17 (f := .glo "_law_primes") rfl)
theorem glo_L_some_prime (e : CtxL w K mg base h) : mg "_law_some_prime" = some (.ref (He.ga K "_law_some_prime")) := He.glo_ok e.kx e.gn (e.c.d.fact 18 (f := .glo "_law_some_prime") rfl)
theorem glo_L_inverse (e : CtxL w K mg base h) : mg "_law_inverse" = some (.ref (He.ga K "_law_inverse")) := He.glo_ok e.kx e.gn (e.c.d.fact 19 (f := .glo "_law_inverse") rfl)
theorem glo_L_some_row (e : CtxL w K mg base h) : mg "_law_some_row" = some (.ref (He.ga K "_law_some_row")) := He.glo_ok e.kx e.gn (e.c.d.fact 20 (f := .glo "_law_some_row") rfl)
theorem glo_L_heard (e : CtxL w K mg base h) : mg "_law_heard" = some (.ref (He.ga K "_law_heard")) := He.glo_ok e.kx e.gn (e.c.d.fact 21 (f := .glo "_law_heard") rfl)
theorem glo_L_power (e : CtxL w K mg base h) : mg "_law_power" = some (.ref (He.ga K "_law_power")) := He.glo_ok e.kx e.gn (e.c.d.fact 22 (f := .glo "_law_power") rfl)
theorem glo_L_pair_right (e : CtxL w K mg base h) : mg "_law_pair_right" = some (.ref (He.ga K "_law_pair_right")) := He.glo_ok e.kx e.gn (e.c.d.fact 23 (f := .glo "_law_pair_right") rfl)
theorem glo_law (e : CtxL w K mg base h) : mg "law" = some (.ref (He.ga K "law")) := He.glo_ok e.kx e.gn (e.c.d.fact 24 (f := .glo "law") rfl)
theorem glo_InvalidQuestion (e : CtxL w K mg base h) : mg "InvalidQuestion" = some (.ref (He.ga K "InvalidQuestion")) := He.glo_ok e.kx e.gn (e.c.d.fact 25 (f := .glo "InvalidQuestion") rfl)
theorem free_isinstance (e : CtxL w K mg base h) : mg "isinstance" = none := He.free_ok e.kx e.gn (e.c.d.fact 26 (f := .free "isinstance") rfl)
theorem free_int (e : CtxL w K mg base h) : mg "int" = none := He.free_ok e.kx e.gn (e.c.d.fact 27 (f := .free "int") rfl)
theorem free_bool (e : CtxL w K mg base h) : mg "bool" = none := He.free_ok e.kx e.gn (e.c.d.fact 28 (f := .free "bool") rfl)
theorem free_abs (e : CtxL w K mg base h) : mg "abs" = none := He.free_ok e.kx e.gn (e.c.d.fact 29 (f := .free "abs") rfl)
theorem free_len (e : CtxL w K mg base h) : mg "len" = none := He.free_ok e.kx e.gn (e.c.d.fact 30 (f := .free "len") rfl)
theorem free_list (e : CtxL w K mg base h) : mg "list" = none := He.free_ok e.kx e.gn (e.c.d.fact 31 (f := .free "list") rfl)
theorem free_tuple (e : CtxL w K mg base h) : mg "tuple" = none := He.free_ok e.kx e.gn (e.c.d.fact 32 (f := .free "tuple") rfl)
theorem free_zip (e : CtxL w K mg base h) : mg "zip" = none := He.free_ok e.kx e.gn (e.c.d.fact 33 (f := .free "zip") rfl)
theorem free_str (e : CtxL w K mg base h) : mg "str" = none := He.free_ok e.kx e.gn (e.c.d.fact 34 (f := .free "str") rfl)
theorem free_range (e : CtxL w K mg base h) : mg "range" = none := He.free_ok e.kx e.gn (e.c.d.fact 35 (f := .free "range") rfl)
theorem free_super (e : CtxL w K mg base h) : mg "super" = none := He.free_ok e.kx e.gn (e.c.d.fact 36 (f := .free "super") rfl)
theorem at_InvalidQuestion (e : CtxL w K mg base h) : ATX.AtTxt prog K mg "InvalidQuestion" (He.ga K "InvalidQuestion") (He.ma K (He.ga K "InvalidQuestion") "__init__") := at_txt (d := i_InvalidQuestion) (glo_InvalidQuestion e) (free_super e) (e.c.in_ 0 (d := i_InvalidQuestion) rfl).1 (e.c.in_ 0 (d := i_InvalidQuestion) rfl).2 rfl rfl rfl rfl (by kernel_rfl)
def gd_PRIMES : D := .tup [.int (2), .int (3), .int (5), .int (7), .int (11), .int (13), .int (17), .int (19), .int (23), .int (29), .int (31), .int (37), .int (41), .int (43), .int (47), .int (53), .int (59), .int (61), .int (67), .int (71), .int (73), .int (79), .int (83), .int (89), .int (97)]
theorem ex_PRIMES (e : CtxL w K mg base h) : He.tupB K "PRIMES" [.int (2), .int (3), .int (5), .int (7), .int (11), .int (13), .int (17), .int (19), .int (23), .int (29), .int (31), .int (37), .int (41), .int (43), .int (47), .int (53), .int (59), .int (61), .int (67), .int (71), .int (73), .int (79), .int (83), .int (89), .int (97)] = true := by
  have z := e.c.more
  unfold ex at z
  exact z
theorem em_gc_PRIMES (e : CtxL w K mg base h) {X : Cx} {W : WX} {pos : Pos} (hK : X.K = K) (hm : X.mg = mg) (hg : Gl X "PRIMES") : EM (tabs K tf) X W (.Name "PRIMES" pos) (mC gd_PRIMES) := by
  subst hK
  exact em_glob hg (by rw [hm]; exact He.glo_ok e.kx e.gn (e.c.d.fact 37 rfl)) (v := .ref (He.ga _ "PRIMES")) rfl (fun pv s => .tup (He.tupB_ok (ex_PRIMES e) s.H) (.cons (.int _) (.cons (.int _) (.cons (.int _) (.cons (.int _) (.cons (.int _) (.cons (.int _) (.cons (.int _) (.cons (.int _) (.cons (.int _) (.cons (.int _) (.cons (.int _) (.cons (.int _) (.cons (.int _) (.cons (.int _) (.cons (.int _) (.cons (.int _) (.cons (.int _) (.cons (.int _) (.cons (.int _) (.cons (.int _) (.cons (.int _) (.cons (.int _) (.cons (.int _) (.cons (.int _) (.cons (.int _) .nil))))))))))))))))))))))))))
def gd_MOST_POWER : D := .int (1000000000000000000000000000000)
theorem em_gc_MOST_POWER (e : CtxL w K mg base h) {X : Cx} {W : WX} {pos : Pos} (hK : X.K = K) (hm : X.mg = mg) (hg : Gl X "MOST_POWER") : EM (tabs K tf) X W (.Name "MOST_POWER" pos) (mC gd_MOST_POWER) := by
  obtain ⟨t, q⟩ := He.int_ok e.kx e.gn (e.c.d.fact 38 rfl)
  exact em_glob hg (by rw [hm]; exact q) (v := .int (1000000000000000000000000000000)) ⟨t, rfl⟩ (fun _ _ => .int _)
abbrev errs : List Str := ["InvalidQuestion"]
def sbe (x y : Str) : Bool := decide (x = y)
theorem cls_all (e : CtxL w K mg base h) : ∀ x ∈ errs, mg x = some (.ref (He.ga K x)) ∧ AtCls K (He.ga K x) := (List.forall_mem_cons.mpr ⟨⟨glo_InvalidQuestion e, at_cls (e.c.in_ 0 (d := i_InvalidQuestion) rfl).2⟩, (fun x hx => by cases hx)⟩)
abbrev hs_L_heard : List (Str × Str) := [("InvalidQuestion", "question")]
theorem ho_L_heard (e : CtxL w K mg base h) : HOkay K mg (He.ga K) errs sbe hs_L_heard := ⟨cls_all e, (List.forall_mem_cons.mpr ⟨(List.forall_mem_cons.mpr ⟨(He.exm_ok (x := "InvalidQuestion") (y := "InvalidQuestion") (e.c.d.fact 39 rfl)).trans (by kernel_rfl), (fun x hx => by cases hx)⟩), (fun x hx => by cases hx)⟩)⟩
theorem hd_L_heard (e : CtxL w K mg base h) : HDef K mg (He.ga K) "_law_heard" (top 29) (He.fAd K ("_law_heard", none)) (Classical.choose (e.c.d.def_ 21 (d := d_L_heard) rfl)) "told" hs_L_heard := by
  have F := Classical.choose_spec (e.c.d.def_ 21 (d := d_L_heard) rfl)
  refine ⟨Fun.ofD F, glo_L_heard e, FunD.bindsN F (fun _ _ _ _ _ _ us hl => match us, hl with | [_], _ => rfl), ⟨fun y c => (defScope (top 29)).names.lookup y = some .globalImplicit ∧ (y == ("__debug__" : Str)) = false ∧ mg y = some c, _, _, _, _, _, _, _, _, _, _, fun _ _ z => z, (.more ⟨by kernel_rfl, by decide, glo_InvalidQuestion e⟩ .none), rfl⟩, ⟨rfl, rfl, rfl, by decide +kernel, rfl, by decide +kernel, by decide +kernel⟩, by kernel_rfl, .inl (by kernel_rfl)⟩
end
abbrev N_is_integer : List Str := ["value"]
def b_is_integer : MS := (sRet (mAnd (mIsi [.int] (mVar 0)) (mNot (mIsi [.bl] (mVar 0)))))
def m_is_integer : MF := mFn 1 b_is_integer
abbrev N_is_index : List Str := ["value", "many"]
def b_is_index : MS := (sRet (mAnd (mApp 1 m_is_integer [] (aCons (mVar 0) aNil)) (mChain iLe iLt (mC (.int 0)) (mVar 0) (mVar 1))))
def m_is_index : MF := mFn 2 b_is_index
abbrev N_is_prime_told : List Str := ["value"]
def b_is_prime_told : MS := (sRet (mAnd (mApp 2 m_is_index [] (aCons (mVar 0) (aCons (mOp dAdd (mOp dIx (mC gd_PRIMES) (mUn iNeg (mC (.int 1)))) (mC (.int 1))) aNil))) (mOp dIn (mVar 0) (mC gd_PRIMES))))
def m_is_prime_told : MF := mFn 1 b_is_prime_told
abbrev N_checked_prime : List Str := ["prime", "at"]
def b_checked_prime : MS := (sIf (mNot (mApp 1 m_is_prime_told [] (aCons (mVar 0) aNil))) (sRaise "InvalidQuestion" (mVar 1)) sNext)
def m_checked_prime : MF := mFn 2 b_checked_prime
abbrev N_checked_number : List Str := ["prime", "number", "at"]
def b_checked_number : MS := (sIf (mNot (mApp 2 m_is_index [] (aCons (mVar 1) (aCons (mVar 0) aNil)))) (sRaise "InvalidQuestion" (mVar 2)) sNext)
def m_checked_number : MF := mFn 3 b_checked_number
abbrev N_power_by : List Str := ["prime", "number", "many", "found", "base", "left"]
def b_power_by_W1 : MS := (sSeq (sIf (mOp dEq (mOp iMod (mVar 5) (mC (.int 2))) (mC (.int 1))) (sAsg (mOp iMod (mOp iMul (mVar 3) (mVar 4)) (mVar 0)) (gN 3)) sNext) (sPar 4 5 (mOp iMod (mOp iMul (mVar 4) (mVar 4)) (mVar 0)) (mOp iDiv (mVar 5) (mC (.int 2)))))
def b_power_by : MS := (sSeq (sPar3 3 4 5 (mOp iMod (mC (.int 1)) (mVar 0)) (mVar 1) (mVar 2)) (sSeq (sWhile (mOp iGt (mVar 5) (mC (.int 0))) b_power_by_W1) (sRet (mVar 3))))
def m_power_by : MF := mFn 6 b_power_by
abbrev N_inverse_by : List Str := ["prime", "number"]
def b_inverse_by : MS := (sRet (mIf (mOp iGt (mVar 0) (mC (.int 2))) (mApp 3 m_power_by [] (aCons (mVar 0) (aCons (mVar 1) (aCons (mOp iSub (mVar 0) (mC (.int 2))) aNil)))) (mC (.int 1))))
def m_inverse_by : MF := mFn 2 b_inverse_by
abbrev N_sum_of : List Str := ["prime", "one", "other"]
def b_sum_of : MS := (sSeq (sDrop (mApp 2 m_checked_prime [.int 0] (aCons (mVar 0) aNil))) (sSeq (sDrop (mApp 3 m_checked_number [] (aCons (mVar 0) (aCons (mVar 1) (aCons (mC (.int 1)) aNil))))) (sSeq (sDrop (mApp 3 m_checked_number [] (aCons (mVar 0) (aCons (mVar 2) (aCons (mC (.int 2)) aNil))))) (sRet (mOp iMod (mOp dAdd (mVar 1) (mVar 2)) (mVar 0))))))
def m_sum_of : MF := mFn 3 b_sum_of
abbrev N_difference_of : List Str := ["prime", "one", "other"]
def b_difference_of : MS := (sSeq (sDrop (mApp 2 m_checked_prime [.int 0] (aCons (mVar 0) aNil))) (sSeq (sDrop (mApp 3 m_checked_number [] (aCons (mVar 0) (aCons (mVar 1) (aCons (mC (.int 1)) aNil))))) (sSeq (sDrop (mApp 3 m_checked_number [] (aCons (mVar 0) (aCons (mVar 2) (aCons (mC (.int 2)) aNil))))) (sRet (mOp iMod (mOp iSub (mVar 1) (mVar 2)) (mVar 0))))))
def m_difference_of : MF := mFn 3 b_difference_of
abbrev N_product_of : List Str := ["prime", "one", "other"]
def b_product_of : MS := (sSeq (sDrop (mApp 2 m_checked_prime [.int 0] (aCons (mVar 0) aNil))) (sSeq (sDrop (mApp 3 m_checked_number [] (aCons (mVar 0) (aCons (mVar 1) (aCons (mC (.int 1)) aNil))))) (sSeq (sDrop (mApp 3 m_checked_number [] (aCons (mVar 0) (aCons (mVar 2) (aCons (mC (.int 2)) aNil))))) (sRet (mOp iMod (mOp iMul (mVar 1) (mVar 2)) (mVar 0))))))
def m_product_of : MF := mFn 3 b_product_of
abbrev N_inverse_of : List Str := ["prime", "number"]
def b_inverse_of : MS := (sSeq (sDrop (mApp 2 m_checked_prime [.int 0] (aCons (mVar 0) aNil))) (sSeq (sIf (mOr (mNot (mApp 2 m_is_index [] (aCons (mVar 1) (aCons (mVar 0) aNil)))) (mOp dEq (mVar 1) (mC (.int 0)))) (sRaise "InvalidQuestion" (mC (.int 1))) sNext) (sRet (mApp 2 m_inverse_by [] (aCons (mVar 0) (aCons (mVar 1) aNil))))))
def m_inverse_of : MF := mFn 2 b_inverse_of
abbrev N_power_of : List Str := ["prime", "number", "many"]
def b_power_of : MS := (sSeq (sDrop (mApp 2 m_checked_prime [.int 0] (aCons (mVar 0) aNil))) (sSeq (sDrop (mApp 3 m_checked_number [] (aCons (mVar 0) (aCons (mVar 1) (aCons (mC (.int 1)) aNil))))) (sSeq (sIf (mNot (mApp 2 m_is_index [] (aCons (mVar 2) (aCons (mC gd_MOST_POWER) aNil)))) (sRaise "InvalidQuestion" (mC (.int 2))) sNext) (sRet (mApp 3 m_power_by [] (aCons (mVar 0) (aCons (mVar 1) (aCons (mVar 2) aNil))))))))
def m_power_of : MF := mFn 3 b_power_of
abbrev N_L_draw : List Str := ["script", "salt", "cell", "cells", "blend", ".0"]
abbrev N_L_any : List Str := ["deal", "bound", "rest"]
abbrev N_L_of : List Str := ["deal", "some"]
abbrev N_L_same : List Str := ["value", "due", ".0", "one", "other"]
abbrev N_L_is_int : List Str := ["value"]
def b_L_is_int : MS := (sRet (mAnd (mIsi [.int] (mVar 0)) (mNot (mIsi [.bl] (mVar 0)))))
def m_L_is_int : MF := mFn 1 b_L_is_int
abbrev N_L_primes : List Str := []
def b_L_primes : MS := (sRet (mLst (aCons (mC (.int 2)) (aCons (mC (.int 3)) (aCons (mC (.int 5)) (aCons (mC (.int 7)) (aCons (mC (.int 11)) (aCons (mC (.int 13)) (aCons (mC (.int 17)) (aCons (mC (.int 19)) (aCons (mC (.int 23)) (aCons (mC (.int 29)) (aCons (mC (.int 31)) (aCons (mC (.int 37)) (aCons (mC (.int 41)) (aCons (mC (.int 43)) (aCons (mC (.int 47)) (aCons (mC (.int 53)) (aCons (mC (.int 59)) (aCons (mC (.int 61)) (aCons (mC (.int 67)) (aCons (mC (.int 71)) (aCons (mC (.int 73)) (aCons (mC (.int 79)) (aCons (mC (.int 83)) (aCons (mC (.int 89)) (aCons (mC (.int 97)) aNil)))))))))))))))))))))))))))
def m_L_primes : MF := mFn 0 b_L_primes
abbrev N_L_some_prime : List Str := ["deal"]
def b_L_some_prime : MS := (sRet (mApp 2 m_L_of [] (aCons (mVar 0) (aCons (mLst (aCons (mC (.int 2)) (aCons (mC (.int 3)) (aCons (mC (.int 5)) (aCons (mC (.int 7)) (aCons (mC (.int 13)) (aCons (mC (.int 97)) (aCons (mApp 2 m_L_of [] (aCons (mVar 0) (aCons (mApp 0 m_L_primes [] aNil) aNil))) aNil)))))))) aNil))))
def m_L_some_prime : MF := mFn 1 b_L_some_prime
abbrev N_L_inverse : List Str := ["prime", "number", ".0", "one"]
def b_L_inverse : MS := (sRet (mOp dIx (mLc [2, 3] (iRange1 (aCons (mVar 0) aNil)) (gN 3) (mOp dEq (mOp iMod (mCall fInt (aCons (mOp iMul (mVar 3) (mVar 1)) aNil)) (mVar 0)) (mC (.int 1))) (mVar 3)) (mC (.int 0))))
def m_L_inverse : MF := mFn 4 b_L_inverse
abbrev N_L_some_row : List Str := ["deal", "prime", "many", "chosen", ".0", "place"]
def b_L_some_row : MS := (sSeq (sAsg (mApp 2 m_L_any [] (aCons (mVar 0) (aCons (mC (.int 3)) aNil))) (gN 3)) (sRet (mCall fTuple (aCons (mLc [4, 5] (iRange1 (aCons (mVar 2) aNil)) (gN 5) mYes (mIf (mAnd (mOp dEq (mVar 3) (mC (.int 0))) (mOp dEq (mApp 2 m_L_any [] (aCons (mVar 0) (aCons (mC (.int 2)) aNil))) (mC (.int 0)))) (mC (.int 0)) (mApp 2 m_L_of [] (aCons (mVar 0) (aCons (mLst (aCons (mC (.int 0)) (aCons (mC (.int 1)) (aCons (mOp iSub (mVar 1) (mC (.int 1))) (aCons (mApp 2 m_L_any [] (aCons (mVar 0) (aCons (mVar 1) aNil))) (aCons (mApp 2 m_L_any [] (aCons (mVar 0) (aCons (mVar 1) aNil))) aNil)))))) aNil))))) aNil))))
def m_L_some_row : MF := mFn 6 b_L_some_row
abbrev N_L_power : List Str := ["prime", "number", "many", "found", "figures", "left", "figure"]
def b_L_power_W1 : MS := (sSeq (sDrop (mMeth .list fAppend (mVar 4) (aCons (mOp iMod (mVar 5) (mC (.int 2))) aNil))) (sAsg (mOp iDiv (mVar 5) (mC (.int 2))) (gN 5)))
def b_L_power_F2 : MS := (sSeq (sAsg (mOp iMod (mCall fInt (aCons (mOp iMul (mVar 3) (mVar 3)) aNil)) (mVar 0)) (gN 3)) (sIf (mOp dEq (mVar 6) (mC (.int 1))) (sAsg (mOp iMod (mCall fInt (aCons (mOp iMul (mVar 3) (mVar 1)) aNil)) (mVar 0)) (gN 3)) sNext))
def b_L_power : MS := (sSeq (sPar3 3 4 5 (mOp iMod (mC (.int 1)) (mVar 0)) (mLstM aNil) (mVar 2)) (sSeq (sWhile (mOp iGt (mVar 5) (mC (.int 0))) b_L_power_W1) (sFrz 4 (sSeq (sFor (iSeq (mRev (mVar 4))) (gN 6) b_L_power_F2) (sRet (mVar 3))))))
def m_L_power : MF := mFn 7 b_L_power
abbrev N_L_pair_right : List Str := ["prime", "one", "other", "told", "due"]
def b_L_pair_right : MS := (sSeq (sAsg (mLst (aCons (mAppK 3 0 3 m_sum_of [] aNil (aCons (mVar 0) (aCons (mVar 1) (aCons (mVar 2) aNil)))) (aCons (mAppK 3 0 3 m_difference_of [] aNil (aCons (mVar 0) (aCons (mVar 1) (aCons (mVar 2) aNil)))) (aCons (mAppK 3 0 3 m_product_of [] aNil (aCons (mVar 0) (aCons (mVar 1) (aCons (mVar 2) aNil)))) aNil)))) (gN 3)) (sSeq (sAsg (mLst (aCons (mOp iMod (mCall fInt (aCons (mOp dAdd (mVar 1) (mVar 2)) aNil)) (mVar 0)) (aCons (mOp iMod (mCall fInt (aCons (mOp iSub (mOp dAdd (mVar 1) (mVar 0)) (mVar 2)) aNil)) (mVar 0)) (aCons (mOp iMod (mCall fInt (aCons (mOp iMul (mVar 1) (mVar 2)) aNil)) (mVar 0)) aNil)))) (gN 4)) (sRet (mAnd (mApp 2 (m_L_same 8) [] (aCons (mVar 3) (aCons (mVar 4) aNil))) (mApp 2 (m_L_same 8) [] (aCons (mApp 3 m_sum_of [] (aCons (mVar 0) (aCons (mOp dIx (mVar 3) (mC (.int 1))) (aCons (mVar 2) aNil)))) (aCons (mVar 1) aNil)))))))
def m_L_pair_right : MF := mFn 5 b_L_pair_right
abbrev N_law : List Str := ["script", "value", "other", "turn", "many", "told", "bad", "call", "deal", "odd", "one", "prime"]
def tb_law : Str → Option (Nat × MF) := fun y => if y = "difference_of" then some (3, m_difference_of) else if y = "product_of" then some (3, m_product_of) else if y = "sum_of" then some (3, m_sum_of) else none
def b_law_F1 : MS := (sIf (mNot (mApp 2 (m_L_same 8) [] (aCons (mAppK 1 0 1 m_is_prime_told [] aNil (aCons (mVar 1) aNil)) (aCons (mAnd (mApp 1 m_L_is_int [] (aCons (mVar 1) aNil)) (mOp dIn (mVar 1) (mApp 0 m_L_primes [] aNil))) aNil)))) (sRet (mC (.bl false))) sNext)
def b_law_F2 : MS := (sIf (mNot (mApp 3 m_L_pair_right [] (aCons (mVar 11) (aCons (mVar 10) (aCons (mVar 2) aNil))))) (sRet (mC (.bl false))) sNext)
def b_law_F3 : MS := (sFor (iRange1 (aCons (mVar 11) aNil)) (gN 2) b_law_F2)
def b_law_F4 : MS := (sFor (iRange1 (aCons (mVar 11) aNil)) (gN 10) b_law_F3)
def b_law_F5 : MS := (sSeq (sAsg (mLstM (aCons (mHeard "told" errs sbe hs_L_heard (mAppV tb_law 7 (aCons (mVar 11) (aCons (mVar 10) (aCons (mVar 6) aNil))))) aNil)) (gN 5)) (sSeq (sDrop (mMeth .list fAppend (mVar 5) (aCons (mHeard "told" errs sbe hs_L_heard (mAppV tb_law 7 (aCons (mVar 11) (aCons (mVar 6) (aCons (mVar 6) aNil))))) aNil))) (sSeq (sDrop (mMeth .list fAppend (mVar 5) (aCons (mHeard "told" errs sbe hs_L_heard (mAppV tb_law 7 (aCons (mVar 9) (aCons (mVar 6) (aCons (mVar 6) aNil))))) aNil))) (sFrz 5 (sIf (mNot (mApp 2 (m_L_same 8) [] (aCons (mVar 5) (aCons (mLst (aCons (mTup (aCons (mC (.str "question")) (aCons (mC (.int 2)) aNil))) (aCons (mTup (aCons (mC (.str "question")) (aCons (mC (.int 1)) aNil))) (aCons (mTup (aCons (mC (.str "question")) (aCons (mC (.int 0)) aNil))) aNil)))) aNil)))) (sRet (mC (.bl false))) sNext)))))
def b_law_F6 : MS := (sSeq (sAsg (mApp 1 m_L_some_prime [] (aCons (mVar 8) aNil)) (gN 11)) (sSeq (sAsg (mApp 3 m_L_some_row [] (aCons (mVar 8) (aCons (mVar 11) (aCons (mC (.int 2)) aNil)))) (gT 2 (gsCons (gN 10) (gsCons (gN 2) gsNil)))) (sSeq (sAsg (mApp 2 m_L_of [] (aCons (mVar 8) (aCons (mLst (aCons (mC (.int 0)) (aCons (mC (.int 1)) (aCons (mC (.int 2)) (aCons (mOp iSub (mVar 11) (mC (.int 1))) (aCons (mVar 11) (aCons (mApp 2 m_L_any [] (aCons (mVar 8) (aCons (mC (.int 200)) aNil))) (aCons (mOp iSub (mOp iPow (mC (.int 10)) (mC (.int 30))) (mC (.int 1))) (aCons (mApp 2 m_L_any [] (aCons (mVar 8) (aCons (mOp iPow (mC (.int 10)) (mC (.int 30))) aNil))) aNil))))))))) aNil))) (gN 4)) (sSeq (sIf (mOr (mNot (mApp 3 m_L_pair_right [] (aCons (mVar 11) (aCons (mVar 10) (aCons (mVar 2) aNil))))) (mNot (mApp 2 (m_L_same 8) [] (aCons (mAppK 3 0 3 m_power_of [] aNil (aCons (mVar 11) (aCons (mVar 10) (aCons (mVar 4) aNil)))) (aCons (mApp 3 m_L_power [] (aCons (mVar 11) (aCons (mVar 10) (aCons (mVar 4) aNil)))) aNil))))) (sRet (mC (.bl false))) sNext) (sSeq (sIf (mAnd (mOp iGt (mVar 10) (mC (.int 0))) (mNot (mApp 2 (m_L_same 8) [] (aCons (mLst (aCons (mAppK 2 0 2 m_inverse_of [] aNil (aCons (mVar 11) (aCons (mVar 10) aNil))) (aCons (mApp 3 m_product_of [] (aCons (mVar 11) (aCons (mApp 2 m_inverse_of [] (aCons (mVar 11) (aCons (mVar 10) aNil))) (aCons (mVar 10) aNil)))) aNil))) (aCons (mLst (aCons (mApp 2 m_L_inverse [] (aCons (mVar 11) (aCons (mVar 10) aNil))) (aCons (mOp iMod (mC (.int 1)) (mVar 11)) aNil))) aNil))))) (sRet (mC (.bl false))) sNext) (sSeq (sAsg (mTup (aCons (mApp 2 m_L_of [] (aCons (mVar 8) (aCons (mLst (aCons (mVar 11) (aCons (mUn iNeg (mC (.int 1))) (aCons (mC (.bl true)) (aCons (mC .non) (aCons (mC (.str "0")) (aCons (mTup (aCons (mC (.int 0)) aNil)) (aCons (mLst (aCons (mC (.int 0)) aNil)) (aCons (mOp iPow (mC (.int 10)) (mC (.int 40))) aNil))))))))) aNil))) (aCons (mApp 2 m_L_of [] (aCons (mVar 8) (aCons (mLst (aCons (mC (.int 0)) (aCons (mC (.int 1)) (aCons (mC (.int 4)) (aCons (mC (.int 98)) (aCons (mC (.int 99)) (aCons (mC (.int 101)) (aCons (mC (.bl true)) (aCons (mC .non) (aCons (mC (.str "7")) (aCons (mTup (aCons (mC (.int 7)) aNil)) (aCons (mLst (aCons (mC (.int 7)) aNil)) aNil)))))))))))) aNil))) aNil))) (gT 2 (gsCons (gN 6) (gsCons (gN 9) gsNil)))) (sSeq (sFor (iSeq (mLst (aCons (mC (.fn "sum_of")) (aCons (mC (.fn "difference_of")) (aCons (mC (.fn "product_of")) aNil))))) (gN 7) b_law_F5) (sSeq (sAsg (mLstM (aCons (mHeard "told" errs sbe hs_L_heard (mApp 2 m_inverse_of [] (aCons (mVar 11) (aCons (mApp 2 m_L_of [] (aCons (mVar 8) (aCons (mLst (aCons (mC (.int 0)) (aCons (mVar 6) aNil))) aNil))) aNil)))) aNil)) (gN 5)) (sSeq (sDrop (mMeth .list fAppend (mVar 5) (aCons (mHeard "told" errs sbe hs_L_heard (mApp 2 m_inverse_of [] (aCons (mVar 9) (aCons (mC (.int 0)) aNil)))) aNil))) (sSeq (sDrop (mMeth .list fAppend (mVar 5) (aCons (mHeard "told" errs sbe hs_L_heard (mApp 3 m_power_of [] (aCons (mVar 11) (aCons (mVar 10) (aCons (mApp 2 m_L_of [] (aCons (mVar 8) (aCons (mLst (aCons (mOp iPow (mC (.int 10)) (mC (.int 30))) (aCons (mUn iNeg (mC (.int 1))) (aCons (mC .non) (aCons (mC (.bl true)) (aCons (mC (.str "1")) aNil)))))) aNil))) aNil))))) aNil))) (sSeq (sDrop (mMeth .list fAppend (mVar 5) (aCons (mHeard "told" errs sbe hs_L_heard (mApp 3 m_power_of [] (aCons (mVar 11) (aCons (mVar 6) (aCons (mC .non) aNil))))) aNil))) (sSeq (sDrop (mMeth .list fAppend (mVar 5) (aCons (mHeard "told" errs sbe hs_L_heard (mApp 3 m_power_of [] (aCons (mVar 9) (aCons (mVar 6) (aCons (mC .non) aNil))))) aNil))) (sFrz 5 (sIf (mNot (mApp 2 (m_L_same 8) [] (aCons (mVar 5) (aCons (mLst (aCons (mTup (aCons (mC (.str "question")) (aCons (mC (.int 1)) aNil))) (aCons (mTup (aCons (mC (.str "question")) (aCons (mC (.int 0)) aNil))) (aCons (mTup (aCons (mC (.str "question")) (aCons (mC (.int 2)) aNil))) (aCons (mTup (aCons (mC (.str "question")) (aCons (mC (.int 1)) aNil))) (aCons (mTup (aCons (mC (.str "question")) (aCons (mC (.int 0)) aNil))) aNil)))))) aNil)))) (sRet (mC (.bl false))) sNext))))))))))))))
def b_law : MS := (sSeq (sAsg (mApp 2 m_L_draw [] (aCons (mVar 0) (aCons (mC (.int 1)) aNil))) (gN 8)) (sSeq (sFor (iSeq (mOp dAdd (mRange1 kLst (mC (.int 110))) (mLst (aCons (mUn iNeg (mC (.int 1))) (aCons (mUn iNeg (mC (.int 2))) (aCons (mC (.bl true)) (aCons (mC (.bl false)) (aCons (mC .non) (aCons (mC (.str "7")) (aCons (mTup (aCons (mC (.int 7)) aNil)) (aCons (mLst (aCons (mC (.int 7)) aNil)) (aCons (mC (.int 101)) (aCons (mC (.int 9409)) (aCons (mOp iPow (mC (.int 10)) (mC (.int 40))) aNil)))))))))))))) (gN 1) b_law_F1) (sSeq (sFor (iSeq (mLst (aCons (mC (.int 2)) (aCons (mC (.int 3)) (aCons (mC (.int 5)) (aCons (mApp 2 m_L_of [] (aCons (mVar 8) (aCons (mLst (aCons (mC (.int 7)) (aCons (mC (.int 11)) aNil))) aNil))) aNil)))))) (gN 11) b_law_F4) (sSeq (sFor (iRange1 (aCons (mC (.int 20)) aNil)) (gN 3) b_law_F6) (sRet (mC (.bl true)))))))
def m_law : MF := mFn 12 b_law
section
variable {w : World} {K : Frag} {mg : Str → Option Value} {base h : Heap}
theorem sc_is_integer : FnScope N_is_integer ["value"] (defScope (top 4)) := ⟨rfl, rfl, rfl, by decide +kernel, rfl, by decide +kernel, by decide +kernel⟩
theorem fm_is_integer (e : CtxL w K mg base h) : ∃ fd, FunD K "is_integer" "is_integer" (defArgs (top 4)) (defBody (top 4)) (defScope (top 4)) [] [] (He.fAd K ("is_integer", none)) fd ∧ FM (tabs K tf) prog w K mg base 2 (He.fAd K ("is_integer", none)) fd ["value"] m_is_integer := by
  obtain ⟨fd, F⟩ := e.c.d.def_ 0 (d := d_is_integer) rfl
  refine ⟨fd, F, fm_ofD (N := N_is_integer) (m := b_is_integer) F sc_is_integer (fun A outer s H E c => ?_)⟩
  exact (bm_one (sm_ret (em_and (em_isi (q := .int) (em_var (i := 0) (by kernel_rfl) (.inl (by kernel_rfl))) (by decide) (by kernel_rfl) (gl_of (by kernel_rfl)) (free_isinstance e) (gl_of (by kernel_rfl)) (free_int e)) (em_one (em_not (em_isi (q := .bl) (em_var (i := 0) (by kernel_rfl) (.inl (by kernel_rfl))) (by decide) (by kernel_rfl) (gl_of (by kernel_rfl)) (free_isinstance e) (gl_of (by kernel_rfl)) (free_bool e)))))))
theorem has_is_integer (e : CtxL w K mg base h) : Has (tabs K tf) prog w K mg base 2 "is_integer" 1 [] m_is_integer := by
  obtain ⟨fd, F, FO⟩ := fm_is_integer e
  exact ⟨_, fd, _, [], [], FO, glo_is_integer e, F.kp, FunD.bindsN F (fun _ _ _ _ _ _ us hl => match us, hl with | [_], _ => rfl), .nil, fun _ _ => .nil, rfl⟩
theorem sc_is_index : FnScope N_is_index ["value", "many"] (defScope (top 5)) := ⟨rfl, rfl, rfl, by decide +kernel, rfl, by decide +kernel, by decide +kernel⟩
theorem fm_is_index (e : CtxL w K mg base h) : ∃ fd, FunD K "is_index" "is_index" (defArgs (top 5)) (defBody (top 5)) (defScope (top 5)) [] [] (He.fAd K ("is_index", none)) fd ∧ FM (tabs K tf) prog w K mg base 3 (He.fAd K ("is_index", none)) fd ["value", "many"] m_is_index := by
  obtain ⟨fd, F⟩ := e.c.d.def_ 1 (d := d_is_index) rfl
  refine ⟨fd, F, fm_ofD (N := N_is_index) (m := b_is_index) F sc_is_index (fun A outer s H E c => ?_)⟩
  exact (bm_one (sm_ret (em_and (em_f (has_is_integer e) (c.room.mono (by omega)) c.tk (gl_of (by kernel_rfl)) (am_cons (em_var (i := 0) (by kernel_rfl) (.inl (by kernel_rfl))) am_nil)) (em_one (em_chain op_le op_lt r_cmp r_cmp em_int (em_var (i := 0) (by kernel_rfl) (.inl (by kernel_rfl))) (em_var (i := 1) (by kernel_rfl) (.inl (by kernel_rfl))))))))
theorem has_is_index (e : CtxL w K mg base h) : Has (tabs K tf) prog w K mg base 3 "is_index" 2 [] m_is_index := by
  obtain ⟨fd, F, FO⟩ := fm_is_index e
  exact ⟨_, fd, _, [], [], FO, glo_is_index e, F.kp, FunD.bindsN F (fun _ _ _ _ _ _ us hl => match us, hl with | [_, _], _ => rfl), .nil, fun _ _ => .nil, rfl⟩
theorem sc_is_prime_told : FnScope N_is_prime_told ["value"] (defScope (top 9)) := ⟨rfl, rfl, rfl, by decide +kernel, rfl, by decide +kernel, by decide +kernel⟩
theorem fm_is_prime_told (e : CtxL w K mg base h) : ∃ fd, FunD K "is_prime_told" "is_prime_told" (defArgs (top 9)) (defBody (top 9)) (defScope (top 9)) [] [] (He.fAd K ("is_prime_told", none)) fd ∧ FM (tabs K tf) prog w K mg base 4 (He.fAd K ("is_prime_told", none)) fd ["value"] m_is_prime_told := by
  obtain ⟨fd, F⟩ := e.c.d.def_ 2 (d := d_is_prime_told) rfl
  refine ⟨fd, F, fm_ofD (N := N_is_prime_told) (m := b_is_prime_told) F sc_is_prime_told (fun A outer s H E c => ?_)⟩
  exact (bm_one (sm_ret (em_and (em_f (has_is_index e) (c.room.mono (by omega)) c.tk (gl_of (by kernel_rfl)) (am_cons (em_var (i := 0) (by kernel_rfl) (.inl (by kernel_rfl))) (am_cons (em_op op_addD r_add (em_ix ix_seq r_ix (em_gc_PRIMES e rfl rfl (gl_of (by kernel_rfl))) (em_un un_neg r_neg em_int) (fun _ _ => rfl)) em_int) am_nil))) (em_one (em_cmp MV.op_inD r_in (em_var (i := 0) (by kernel_rfl) (.inl (by kernel_rfl))) (em_gc_PRIMES e rfl rfl (gl_of (by kernel_rfl))) rfl)))))
theorem has_is_prime_told (e : CtxL w K mg base h) : Has (tabs K tf) prog w K mg base 4 "is_prime_told" 1 [] m_is_prime_told := by
  obtain ⟨fd, F, FO⟩ := fm_is_prime_told e
  exact ⟨_, fd, _, [], [], FO, glo_is_prime_told e, F.kp, FunD.bindsN F (fun _ _ _ _ _ _ us hl => match us, hl with | [_], _ => rfl), .nil, fun _ _ => .nil, rfl⟩
theorem hk_is_prime_told_value (e : CtxL w K mg base h) : HasK (tabs K tf) prog w K mg base 4 "is_prime_told" 1 0 ["value"] [] m_is_prime_told := by
  obtain ⟨fd, F, FO⟩ := fm_is_prime_told e
  refine ⟨_, fd, _, [], [], FO, glo_is_prime_told e, F.kp, ?_, .nil, fun _ _ => .nil, rfl⟩
  obtain ⟨oc, od, dV, kV, doc, pm, an, cdv, ct, osl, e1, lk, hcd, hd, _⟩ := F.ex
  rcases hd with ⟨_, e2⟩ | ⟨z, _⟩
  · subst e1 e2
    exact fun s us ws _ h1 h2 => match us, ws, h1, h2 with | [], [_], _, _ => .of_eq rfl
  · exact absurd rfl z
theorem sc_checked_prime : FnScope N_checked_prime ["prime", "at"] (defScope (top 10)) := ⟨rfl, rfl, rfl, by decide +kernel, rfl, by decide +kernel, by decide +kernel⟩
theorem fm_checked_prime (e : CtxL w K mg base h) : ∃ fd, FunD K "checked_prime" "checked_prime" (defArgs (top 10)) (defBody (top 10)) (defScope (top 10)) [.int 0] [] (He.fAd K ("checked_prime", none)) fd ∧ FM (tabs K tf) prog w K mg base 5 (He.fAd K ("checked_prime", none)) fd ["prime", "at"] m_checked_prime := by
  obtain ⟨fd, F⟩ := e.c.d.def_ 3 (d := d_checked_prime) rfl
  refine ⟨fd, F, fm_ofD (N := N_checked_prime) (m := b_checked_prime) F sc_checked_prime (fun A outer s H E c => ?_)⟩
  exact (bm_one (sm_if (tm_not (tm_val (em_f (has_is_prime_told e) (c.room.mono (by omega)) c.tk (gl_of (by kernel_rfl)) (am_cons (em_var (i := 0) (by kernel_rfl) (.inl (by kernel_rfl))) am_nil)))) (bm_one (sm_raise rfl (at_InvalidQuestion e) c.room c.tk (em_var (i := 1) (by kernel_rfl) (.inl (by kernel_rfl))) (gl_of (by kernel_rfl)))) bm_nil))
theorem has_checked_prime_d1 (e : CtxL w K mg base h) : Has (tabs K tf) prog w K mg base 5 "checked_prime" 2 [.int 0] m_checked_prime := by
  obtain ⟨fd, F, FO⟩ := fm_checked_prime e
  obtain ⟨ds, va, bd⟩ := FunD.binds1 (ps := ["prime", "at"]) F 1 0 (by simp) rfl (fun _ _ _ _ _ _ _ us its hu hi => match us, its, hu, hi with | [_], [_], _, _ => ⟨_, rfl, rfl⟩)
  exact ⟨_, fd, _, [.int 0], ds, FO, glo_checked_prime e, F.kp, bd, va, fun _ _ => (.cons (.int 0) .nil), rfl⟩
theorem has_checked_prime (e : CtxL w K mg base h) : Has (tabs K tf) prog w K mg base 5 "checked_prime" 2 [] m_checked_prime := by
  obtain ⟨fd, F, FO⟩ := fm_checked_prime e
  obtain ⟨ds, va, bd⟩ := FunD.binds1 (ps := ["prime", "at"]) F 2 1 (by simp) rfl (fun _ _ _ _ _ _ _ us its hu hi => match us, its, hu, hi with | [_, _], [_], _, _ => ⟨_, rfl, rfl⟩)
  exact ⟨_, fd, _, [], ds, FO, glo_checked_prime e, F.kp, bd, va, fun _ _ => .nil, rfl⟩
theorem sc_checked_number : FnScope N_checked_number ["prime", "number", "at"] (defScope (top 11)) := ⟨rfl, rfl, rfl, by decide +kernel, rfl, by decide +kernel, by decide +kernel⟩
theorem fm_checked_number (e : CtxL w K mg base h) : ∃ fd, FunD K "checked_number" "checked_number" (defArgs (top 11)) (defBody (top 11)) (defScope (top 11)) [] [] (He.fAd K ("checked_number", none)) fd ∧ FM (tabs K tf) prog w K mg base 4 (He.fAd K ("checked_number", none)) fd ["prime", "number", "at"] m_checked_number := by
  obtain ⟨fd, F⟩ := e.c.d.def_ 4 (d := d_checked_number) rfl
  refine ⟨fd, F, fm_ofD (N := N_checked_number) (m := b_checked_number) F sc_checked_number (fun A outer s H E c => ?_)⟩
  exact (bm_one (sm_if (tm_not (tm_val (em_f (has_is_index e) (c.room.mono (by omega)) c.tk (gl_of (by kernel_rfl)) (am_cons (em_var (i := 1) (by kernel_rfl) (.inl (by kernel_rfl))) (am_cons (em_var (i := 0) (by kernel_rfl) (.inl (by kernel_rfl))) am_nil))))) (bm_one (sm_raise rfl (at_InvalidQuestion e) c.room c.tk (em_var (i := 2) (by kernel_rfl) (.inl (by kernel_rfl))) (gl_of (by kernel_rfl)))) bm_nil))
theorem has_checked_number (e : CtxL w K mg base h) : Has (tabs K tf) prog w K mg base 4 "checked_number" 3 [] m_checked_number := by
  obtain ⟨fd, F, FO⟩ := fm_checked_number e
  exact ⟨_, fd, _, [], [], FO, glo_checked_number e, F.kp, FunD.bindsN F (fun _ _ _ _ _ _ us hl => match us, hl with | [_, _, _], _ => rfl), .nil, fun _ _ => .nil, rfl⟩
theorem sc_power_by : FnScope N_power_by ["prime", "number", "many"] (defScope (top 12)) := ⟨rfl, rfl, rfl, by decide +kernel, rfl, by decide +kernel, by decide +kernel⟩
theorem fm_power_by (e : CtxL w K mg base h) : ∃ fd, FunD K "power_by" "power_by" (defArgs (top 12)) (defBody (top 12)) (defScope (top 12)) [] [] (He.fAd K ("power_by", none)) fd ∧ FM (tabs K tf) prog w K mg base 2 (He.fAd K ("power_by", none)) fd ["prime", "number", "many"] m_power_by := by
  obtain ⟨fd, F⟩ := e.c.d.def_ 5 (d := d_power_by) rfl
  refine ⟨fd, F, fm_ofD (N := N_power_by) (m := b_power_by) F sc_power_by (fun A outer s H E c => ?_)⟩
  exact (bm_cons (sm_par3 (i := 3) (j := 4) (l := 5) rfl sc_power_by.nd (by kernel_rfl) (by kernel_rfl) (by kernel_rfl) (by decide) (by decide) (by decide) (by kernel_rfl) (by kernel_rfl) (by kernel_rfl) (em_op op_mod r_mod em_int (em_var (i := 0) (by kernel_rfl) (.inl (by kernel_rfl)))) (em_var (i := 1) (by kernel_rfl) (.inl (by kernel_rfl))) (em_var (i := 2) (by kernel_rfl) (.inl (by kernel_rfl))) (by kernel_rfl)) (bm_cons (sm_while c.po (tm_cmp op_gt r_cmp (em_var (i := 5) (by kernel_rfl) (.inl (by kernel_rfl))) em_int rfl) (by exact (bm_cons (sm_if (tm_cmp (op_eqD (Room.units c.room)) r_eq (em_op op_mod r_mod (em_var (i := 5) (by kernel_rfl) (.inl (by kernel_rfl))) em_int) em_int rfl) (bm_one (sm_asg (em_op op_mod r_mod (em_op op_mul r_mul (em_var (i := 3) (by kernel_rfl) (.inl (by kernel_rfl))) (em_var (i := 4) (by kernel_rfl) (.inl (by kernel_rfl)))) (em_var (i := 0) (by kernel_rfl) (.inl (by kernel_rfl)))) (gm_name (i := 3) sc_power_by.nd (by kernel_rfl) (.inl (by kernel_rfl)) (.inr (by kernel_rfl))))) bm_nil) (bm_one (sm_par (i := 4) (j := 5) rfl sc_power_by.nd (by kernel_rfl) (by kernel_rfl) (by decide) (by kernel_rfl) (by kernel_rfl) (em_op op_mod r_mod (em_op op_mul r_mul (em_var (i := 4) (by kernel_rfl) (.inl (by kernel_rfl))) (em_var (i := 4) (by kernel_rfl) (.inl (by kernel_rfl)))) (em_var (i := 0) (by kernel_rfl) (.inl (by kernel_rfl)))) (em_op op_fdivW r_div (em_var (i := 5) (by kernel_rfl) (.inl (by kernel_rfl))) em_int) (by kernel_rfl)))))) (bm_one (sm_ret (em_var (i := 3) (by kernel_rfl) (.inl (by kernel_rfl)))))))
theorem has_power_by (e : CtxL w K mg base h) : Has (tabs K tf) prog w K mg base 2 "power_by" 3 [] m_power_by := by
  obtain ⟨fd, F, FO⟩ := fm_power_by e
  exact ⟨_, fd, _, [], [], FO, glo_power_by e, F.kp, FunD.bindsN F (fun _ _ _ _ _ _ us hl => match us, hl with | [_, _, _], _ => rfl), .nil, fun _ _ => .nil, rfl⟩
theorem sc_inverse_by : FnScope N_inverse_by ["prime", "number"] (defScope (top 13)) := ⟨rfl, rfl, rfl, by decide +kernel, rfl, by decide +kernel, by decide +kernel⟩
theorem fm_inverse_by (e : CtxL w K mg base h) : ∃ fd, FunD K "inverse_by" "inverse_by" (defArgs (top 13)) (defBody (top 13)) (defScope (top 13)) [] [] (He.fAd K ("inverse_by", none)) fd ∧ FM (tabs K tf) prog w K mg base 3 (He.fAd K ("inverse_by", none)) fd ["prime", "number"] m_inverse_by := by
  obtain ⟨fd, F⟩ := e.c.d.def_ 6 (d := d_inverse_by) rfl
  refine ⟨fd, F, fm_ofD (N := N_inverse_by) (m := b_inverse_by) F sc_inverse_by (fun A outer s H E c => ?_)⟩
  exact (bm_one (sm_ret (em_if (tm_cmp op_gt r_cmp (em_var (i := 0) (by kernel_rfl) (.inl (by kernel_rfl))) em_int rfl) (em_f (has_power_by e) (c.room.mono (by omega)) c.tk (gl_of (by kernel_rfl)) (am_cons (em_var (i := 0) (by kernel_rfl) (.inl (by kernel_rfl))) (am_cons (em_var (i := 1) (by kernel_rfl) (.inl (by kernel_rfl))) (am_cons (em_op op_sub r_sub (em_var (i := 0) (by kernel_rfl) (.inl (by kernel_rfl))) em_int) am_nil)))) em_int)))
theorem has_inverse_by (e : CtxL w K mg base h) : Has (tabs K tf) prog w K mg base 3 "inverse_by" 2 [] m_inverse_by := by
  obtain ⟨fd, F, FO⟩ := fm_inverse_by e
  exact ⟨_, fd, _, [], [], FO, glo_inverse_by e, F.kp, FunD.bindsN F (fun _ _ _ _ _ _ us hl => match us, hl with | [_, _], _ => rfl), .nil, fun _ _ => .nil, rfl⟩
theorem sc_sum_of : FnScope N_sum_of ["prime", "one", "other"] (defScope (top 14)) := ⟨rfl, rfl, rfl, by decide +kernel, rfl, by decide +kernel, by decide +kernel⟩
theorem fm_sum_of (e : CtxL w K mg base h) : ∃ fd, FunD K "sum_of" "sum_of" (defArgs (top 14)) (defBody (top 14)) (defScope (top 14)) [] [] (He.fAd K ("sum_of", none)) fd ∧ FM (tabs K tf) prog w K mg base 6 (He.fAd K ("sum_of", none)) fd ["prime", "one", "other"] m_sum_of := by
  obtain ⟨fd, F⟩ := e.c.d.def_ 7 (d := d_sum_of) rfl
  refine ⟨fd, F, fm_ofD (N := N_sum_of) (m := b_sum_of) F sc_sum_of (fun A outer s H E c => ?_)⟩
  exact (bm_cons (sm_expr (em_f (has_checked_prime_d1 e) (c.room.mono (by omega)) c.tk (gl_of (by kernel_rfl)) (am_cons (em_var (i := 0) (by kernel_rfl) (.inl (by kernel_rfl))) am_nil))) (bm_cons (sm_expr (em_f (has_checked_number e) (c.room.mono (by omega)) c.tk (gl_of (by kernel_rfl)) (am_cons (em_var (i := 0) (by kernel_rfl) (.inl (by kernel_rfl))) (am_cons (em_var (i := 1) (by kernel_rfl) (.inl (by kernel_rfl))) (am_cons em_int am_nil))))) (bm_cons (sm_expr (em_f (has_checked_number e) (c.room.mono (by omega)) c.tk (gl_of (by kernel_rfl)) (am_cons (em_var (i := 0) (by kernel_rfl) (.inl (by kernel_rfl))) (am_cons (em_var (i := 2) (by kernel_rfl) (.inl (by kernel_rfl))) (am_cons em_int am_nil))))) (bm_one (sm_ret (em_op op_mod r_mod (em_op op_addD r_add (em_var (i := 1) (by kernel_rfl) (.inl (by kernel_rfl))) (em_var (i := 2) (by kernel_rfl) (.inl (by kernel_rfl)))) (em_var (i := 0) (by kernel_rfl) (.inl (by kernel_rfl)))))))))
theorem has_sum_of (e : CtxL w K mg base h) : Has (tabs K tf) prog w K mg base 6 "sum_of" 3 [] m_sum_of := by
  obtain ⟨fd, F, FO⟩ := fm_sum_of e
  exact ⟨_, fd, _, [], [], FO, glo_sum_of e, F.kp, FunD.bindsN F (fun _ _ _ _ _ _ us hl => match us, hl with | [_, _, _], _ => rfl), .nil, fun _ _ => .nil, rfl⟩
theorem hk_sum_of_prime_one_other (e : CtxL w K mg base h) : HasK (tabs K tf) prog w K mg base 6 "sum_of" 3 0 ["prime", "one", "other"] [] m_sum_of := by
  obtain ⟨fd, F, FO⟩ := fm_sum_of e
  refine ⟨_, fd, _, [], [], FO, glo_sum_of e, F.kp, ?_, .nil, fun _ _ => .nil, rfl⟩
  obtain ⟨oc, od, dV, kV, doc, pm, an, cdv, ct, osl, e1, lk, hcd, hd, _⟩ := F.ex
  rcases hd with ⟨_, e2⟩ | ⟨z, _⟩
  · subst e1 e2
    exact fun s us ws _ h1 h2 => match us, ws, h1, h2 with | [], [_, _, _], _, _ => .of_eq rfl
  · exact absurd rfl z
theorem sc_difference_of : FnScope N_difference_of ["prime", "one", "other"] (defScope (top 15)) := ⟨rfl, rfl, rfl, by decide +kernel, rfl, by decide +kernel, by decide +kernel⟩
theorem fm_difference_of (e : CtxL w K mg base h) : ∃ fd, FunD K "difference_of" "difference_of" (defArgs (top 15)) (defBody (top 15)) (defScope (top 15)) [] [] (He.fAd K ("difference_of", none)) fd ∧ FM (tabs K tf) prog w K mg base 6 (He.fAd K ("difference_of", none)) fd ["prime", "one", "other"] m_difference_of := by
  obtain ⟨fd, F⟩ := e.c.d.def_ 8 (d := d_difference_of) rfl
  refine ⟨fd, F, fm_ofD (N := N_difference_of) (m := b_difference_of) F sc_difference_of (fun A outer s H E c => ?_)⟩
  exact (bm_cons (sm_expr (em_f (has_checked_prime_d1 e) (c.room.mono (by omega)) c.tk (gl_of (by kernel_rfl)) (am_cons (em_var (i := 0) (by kernel_rfl) (.inl (by kernel_rfl))) am_nil))) (bm_cons (sm_expr (em_f (has_checked_number e) (c.room.mono (by omega)) c.tk (gl_of (by kernel_rfl)) (am_cons (em_var (i := 0) (by kernel_rfl) (.inl (by kernel_rfl))) (am_cons (em_var (i := 1) (by kernel_rfl) (.inl (by kernel_rfl))) (am_cons em_int am_nil))))) (bm_cons (sm_expr (em_f (has_checked_number e) (c.room.mono (by omega)) c.tk (gl_of (by kernel_rfl)) (am_cons (em_var (i := 0) (by kernel_rfl) (.inl (by kernel_rfl))) (am_cons (em_var (i := 2) (by kernel_rfl) (.inl (by kernel_rfl))) (am_cons em_int am_nil))))) (bm_one (sm_ret (em_op op_mod r_mod (em_op op_sub r_sub (em_var (i := 1) (by kernel_rfl) (.inl (by kernel_rfl))) (em_var (i := 2) (by kernel_rfl) (.inl (by kernel_rfl)))) (em_var (i := 0) (by kernel_rfl) (.inl (by kernel_rfl)))))))))
theorem has_difference_of (e : CtxL w K mg base h) : Has (tabs K tf) prog w K mg base 6 "difference_of" 3 [] m_difference_of := by
  obtain ⟨fd, F, FO⟩ := fm_difference_of e
  exact ⟨_, fd, _, [], [], FO, glo_difference_of e, F.kp, FunD.bindsN F (fun _ _ _ _ _ _ us hl => match us, hl with | [_, _, _], _ => rfl), .nil, fun _ _ => .nil, rfl⟩
theorem hk_difference_of_prime_one_other (e : CtxL w K mg base h) : HasK (tabs K tf) prog w K mg base 6 "difference_of" 3 0 ["prime", "one", "other"] [] m_difference_of := by
  obtain ⟨fd, F, FO⟩ := fm_difference_of e
  refine ⟨_, fd, _, [], [], FO, glo_difference_of e, F.kp, ?_, .nil, fun _ _ => .nil, rfl⟩
  obtain ⟨oc, od, dV, kV, doc, pm, an, cdv, ct, osl, e1, lk, hcd, hd, _⟩ := F.ex
  rcases hd with ⟨_, e2⟩ | ⟨z, _⟩
  · subst e1 e2
    exact fun s us ws _ h1 h2 => match us, ws, h1, h2 with | [], [_, _, _], _, _ => .of_eq rfl
  · exact absurd rfl z
theorem sc_product_of : FnScope N_product_of ["prime", "one", "other"] (defScope (top 16)) := ⟨rfl, rfl, rfl, by decide +kernel, rfl, by decide +kernel, by decide +kernel⟩
theorem fm_product_of (e : CtxL w K mg base h) : ∃ fd, FunD K "product_of" "product_of" (defArgs (top 16)) (defBody (top 16)) (defScope (top 16)) [] [] (He.fAd K ("product_of", none)) fd ∧ FM (tabs K tf) prog w K mg base 6 (He.fAd K ("product_of", none)) fd ["prime", "one", "other"] m_product_of := by
  obtain ⟨fd, F⟩ := e.c.d.def_ 9 (d := d_product_of) rfl
  refine ⟨fd, F, fm_ofD (N := N_product_of) (m := b_product_of) F sc_product_of (fun A outer s H E c => ?_)⟩
  exact (bm_cons (sm_expr (em_f (has_checked_prime_d1 e) (c.room.mono (by omega)) c.tk (gl_of (by kernel_rfl)) (am_cons (em_var (i := 0) (by kernel_rfl) (.inl (by kernel_rfl))) am_nil))) (bm_cons (sm_expr (em_f (has_checked_number e) (c.room.mono (by omega)) c.tk (gl_of (by kernel_rfl)) (am_cons (em_var (i := 0) (by kernel_rfl) (.inl (by kernel_rfl))) (am_cons (em_var (i := 1) (by kernel_rfl) (.inl (by kernel_rfl))) (am_cons em_int am_nil))))) (bm_cons (sm_expr (em_f (has_checked_number e) (c.room.mono (by omega)) c.tk (gl_of (by kernel_rfl)) (am_cons (em_var (i := 0) (by kernel_rfl) (.inl (by kernel_rfl))) (am_cons (em_var (i := 2) (by kernel_rfl) (.inl (by kernel_rfl))) (am_cons em_int am_nil))))) (bm_one (sm_ret (em_op op_mod r_mod (em_op op_mul r_mul (em_var (i := 1) (by kernel_rfl) (.inl (by kernel_rfl))) (em_var (i := 2) (by kernel_rfl) (.inl (by kernel_rfl)))) (em_var (i := 0) (by kernel_rfl) (.inl (by kernel_rfl)))))))))
theorem has_product_of (e : CtxL w K mg base h) : Has (tabs K tf) prog w K mg base 6 "product_of" 3 [] m_product_of := by
  obtain ⟨fd, F, FO⟩ := fm_product_of e
  exact ⟨_, fd, _, [], [], FO, glo_product_of e, F.kp, FunD.bindsN F (fun _ _ _ _ _ _ us hl => match us, hl with | [_, _, _], _ => rfl), .nil, fun _ _ => .nil, rfl⟩
theorem hk_product_of_prime_one_other (e : CtxL w K mg base h) : HasK (tabs K tf) prog w K mg base 6 "product_of" 3 0 ["prime", "one", "other"] [] m_product_of := by
  obtain ⟨fd, F, FO⟩ := fm_product_of e
  refine ⟨_, fd, _, [], [], FO, glo_product_of e, F.kp, ?_, .nil, fun _ _ => .nil, rfl⟩
  obtain ⟨oc, od, dV, kV, doc, pm, an, cdv, ct, osl, e1, lk, hcd, hd, _⟩ := F.ex
  rcases hd with ⟨_, e2⟩ | ⟨z, _⟩
  · subst e1 e2
    exact fun s us ws _ h1 h2 => match us, ws, h1, h2 with | [], [_, _, _], _, _ => .of_eq rfl
  · exact absurd rfl z
theorem sc_inverse_of : FnScope N_inverse_of ["prime", "number"] (defScope (top 17)) := ⟨rfl, rfl, rfl, by decide +kernel, rfl, by decide +kernel, by decide +kernel⟩
theorem fm_inverse_of (e : CtxL w K mg base h) : ∃ fd, FunD K "inverse_of" "inverse_of" (defArgs (top 17)) (defBody (top 17)) (defScope (top 17)) [] [] (He.fAd K ("inverse_of", none)) fd ∧ FM (tabs K tf) prog w K mg base 6 (He.fAd K ("inverse_of", none)) fd ["prime", "number"] m_inverse_of := by
  obtain ⟨fd, F⟩ := e.c.d.def_ 10 (d := d_inverse_of) rfl
  refine ⟨fd, F, fm_ofD (N := N_inverse_of) (m := b_inverse_of) F sc_inverse_of (fun A outer s H E c => ?_)⟩
  exact (bm_cons (sm_expr (em_f (has_checked_prime_d1 e) (c.room.mono (by omega)) c.tk (gl_of (by kernel_rfl)) (am_cons (em_var (i := 0) (by kernel_rfl) (.inl (by kernel_rfl))) am_nil))) (bm_cons (sm_if (tm_w (tw_or (tm_not (tm_val (em_f (has_is_index e) (c.room.mono (by omega)) c.tk (gl_of (by kernel_rfl)) (am_cons (em_var (i := 1) (by kernel_rfl) (.inl (by kernel_rfl))) (am_cons (em_var (i := 0) (by kernel_rfl) (.inl (by kernel_rfl))) am_nil))))) (tw_or1 (tm_cmp (op_eqD (Room.units c.room)) r_eq (em_var (i := 1) (by kernel_rfl) (.inl (by kernel_rfl))) em_int rfl)))) (bm_one (sm_raise rfl (at_InvalidQuestion e) c.room c.tk em_int (gl_of (by kernel_rfl)))) bm_nil) (bm_one (sm_ret (em_f (has_inverse_by e) (c.room.mono (by omega)) c.tk (gl_of (by kernel_rfl)) (am_cons (em_var (i := 0) (by kernel_rfl) (.inl (by kernel_rfl))) (am_cons (em_var (i := 1) (by kernel_rfl) (.inl (by kernel_rfl))) am_nil)))))))
theorem has_inverse_of (e : CtxL w K mg base h) : Has (tabs K tf) prog w K mg base 6 "inverse_of" 2 [] m_inverse_of := by
  obtain ⟨fd, F, FO⟩ := fm_inverse_of e
  exact ⟨_, fd, _, [], [], FO, glo_inverse_of e, F.kp, FunD.bindsN F (fun _ _ _ _ _ _ us hl => match us, hl with | [_, _], _ => rfl), .nil, fun _ _ => .nil, rfl⟩
theorem hk_inverse_of_prime_number (e : CtxL w K mg base h) : HasK (tabs K tf) prog w K mg base 6 "inverse_of" 2 0 ["prime", "number"] [] m_inverse_of := by
  obtain ⟨fd, F, FO⟩ := fm_inverse_of e
  refine ⟨_, fd, _, [], [], FO, glo_inverse_of e, F.kp, ?_, .nil, fun _ _ => .nil, rfl⟩
  obtain ⟨oc, od, dV, kV, doc, pm, an, cdv, ct, osl, e1, lk, hcd, hd, _⟩ := F.ex
  rcases hd with ⟨_, e2⟩ | ⟨z, _⟩
  · subst e1 e2
    exact fun s us ws _ h1 h2 => match us, ws, h1, h2 with | [], [_, _], _, _ => .of_eq rfl
  · exact absurd rfl z
theorem sc_power_of : FnScope N_power_of ["prime", "number", "many"] (defScope (top 18)) := ⟨rfl, rfl, rfl, by decide +kernel, rfl, by decide +kernel, by decide +kernel⟩
theorem fm_power_of (e : CtxL w K mg base h) : ∃ fd, FunD K "power_of" "power_of" (defArgs (top 18)) (defBody (top 18)) (defScope (top 18)) [] [] (He.fAd K ("power_of", none)) fd ∧ FM (tabs K tf) prog w K mg base 6 (He.fAd K ("power_of", none)) fd ["prime", "number", "many"] m_power_of := by
  obtain ⟨fd, F⟩ := e.c.d.def_ 11 (d := d_power_of) rfl
  refine ⟨fd, F, fm_ofD (N := N_power_of) (m := b_power_of) F sc_power_of (fun A outer s H E c => ?_)⟩
  exact (bm_cons (sm_expr (em_f (has_checked_prime_d1 e) (c.room.mono (by omega)) c.tk (gl_of (by kernel_rfl)) (am_cons (em_var (i := 0) (by kernel_rfl) (.inl (by kernel_rfl))) am_nil))) (bm_cons (sm_expr (em_f (has_checked_number e) (c.room.mono (by omega)) c.tk (gl_of (by kernel_rfl)) (am_cons (em_var (i := 0) (by kernel_rfl) (.inl (by kernel_rfl))) (am_cons (em_var (i := 1) (by kernel_rfl) (.inl (by kernel_rfl))) (am_cons em_int am_nil))))) (bm_cons (sm_if (tm_not (tm_val (em_f (has_is_index e) (c.room.mono (by omega)) c.tk (gl_of (by kernel_rfl)) (am_cons (em_var (i := 2) (by kernel_rfl) (.inl (by kernel_rfl))) (am_cons (em_gc_MOST_POWER e rfl rfl (gl_of (by kernel_rfl))) am_nil))))) (bm_one (sm_raise rfl (at_InvalidQuestion e) c.room c.tk em_int (gl_of (by kernel_rfl)))) bm_nil) (bm_one (sm_ret (em_f (has_power_by e) (c.room.mono (by omega)) c.tk (gl_of (by kernel_rfl)) (am_cons (em_var (i := 0) (by kernel_rfl) (.inl (by kernel_rfl))) (am_cons (em_var (i := 1) (by kernel_rfl) (.inl (by kernel_rfl))) (am_cons (em_var (i := 2) (by kernel_rfl) (.inl (by kernel_rfl))) am_nil)))))))))
theorem has_power_of (e : CtxL w K mg base h) : Has (tabs K tf) prog w K mg base 6 "power_of" 3 [] m_power_of := by
  obtain ⟨fd, F, FO⟩ := fm_power_of e
  exact ⟨_, fd, _, [], [], FO, glo_power_of e, F.kp, FunD.bindsN F (fun _ _ _ _ _ _ us hl => match us, hl with | [_, _, _], _ => rfl), .nil, fun _ _ => .nil, rfl⟩
theorem hk_power_of_prime_number_many (e : CtxL w K mg base h) : HasK (tabs K tf) prog w K mg base 6 "power_of" 3 0 ["prime", "number", "many"] [] m_power_of := by
  obtain ⟨fd, F, FO⟩ := fm_power_of e
  refine ⟨_, fd, _, [], [], FO, glo_power_of e, F.kp, ?_, .nil, fun _ _ => .nil, rfl⟩
  obtain ⟨oc, od, dV, kV, doc, pm, an, cdv, ct, osl, e1, lk, hcd, hd, _⟩ := F.ex
  rcases hd with ⟨_, e2⟩ | ⟨z, _⟩
  · subst e1 e2
    exact fun s us ws _ h1 h2 => match us, ws, h1, h2 with | [], [_, _, _], _, _ => .of_eq rfl
  · exact absurd rfl z
theorem sc_L_draw : FnScope N_L_draw ["script", "salt"] (defScope (top 20)) := ⟨rfl, rfl, rfl, by decide +kernel, rfl, by decide +kernel, by decide +kernel⟩
theorem fm_L_draw (e : CtxL w K mg base h) : ∃ fd, FunD K "_law_draw" "_law_draw" (defArgs (top 20)) (defBody (top 20)) (defScope (top 20)) [] [] (He.fAd K ("_law_draw", none)) fd ∧ FM (tabs K tf) prog w K mg base 2 (He.fAd K ("_law_draw", none)) fd ["script", "salt"] m_L_draw := by
  obtain ⟨fd, F⟩ := e.c.d.def_ 12 (d := d_L_draw) rfl
  refine ⟨fd, F, fm_ofD (N := N_L_draw) (m := b_L_draw) F sc_L_draw (fun A outer s H E c => ?_)⟩
  exact (bm_cons (sm_setLc (i := 3) (own := [((".0" : Str), 5), (("cell" : Str), 2)]) rfl sc_L_draw.nd (by kernel_rfl) (by kernel_rfl) (by kernel_rfl) (im_seq (em_slice (em_var (i := 0) (by kernel_rfl) (.inl (by kernel_rfl))) om_none (om_some em_int))) (blkOk_by (by kernel_rfl)) (by decide) (fun _ _ _ _ _ => (gm_name (i := 2) sc_L_draw.nd (by kernel_rfl) (.inl (by kernel_rfl)) (.inr (by kernel_rfl)))) (fun _ _ _ _ _ => ptm_nil) (fun _ _ _ _ _ => (em_op op_mod r_mod (em_callB call_abs r_abs (gl_of (by kernel_rfl)) (free_abs e) (by kernel_rfl) (am_cons (em_callTy (call_int1.or call_int_str) r_int (gl_of (by kernel_rfl)) (free_int e) (by kernel_rfl) (am_cons (em_var (i := 2) (by kernel_rfl) (.inl (by kernel_rfl))) am_nil)) am_nil)) (em_op op_pow r_pow em_int em_int))) _ (.inl rfl)) (bm_cons (sm_asg (em_op op_addD r_add em_int (em_op op_mul r_mul em_int (em_var (i := 1) (by kernel_rfl) (.inl (by kernel_rfl))))) (gm_name (i := 4) sc_L_draw.nd (by kernel_rfl) (.inl (by kernel_rfl)) (.inr (by kernel_rfl)))) (bm_cons (sm_for c.po rfl (im_seq (em_var (i := 3) (by kernel_rfl) (.inl (by kernel_rfl)))) (gm_name (i := 2) sc_L_draw.nd (by kernel_rfl) (.inl (by kernel_rfl)) (.inr (by kernel_rfl))) (by exact (bm_one (sm_asg (em_op op_mod r_mod (em_callTy (call_int1.or call_int_str) r_int (gl_of (by kernel_rfl)) (free_int e) (by kernel_rfl) (am_cons (em_op op_addD r_add (em_op op_addD r_add (em_op op_mul r_mul (em_var (i := 4) (by kernel_rfl) (.inl (by kernel_rfl))) em_int) (em_op op_mod r_mod (em_var (i := 2) (by kernel_rfl) (.inl (by kernel_rfl))) em_int)) em_int) am_nil)) em_int) (gm_name (i := 4) sc_L_draw.nd (by kernel_rfl) (.inl (by kernel_rfl)) (.inr (by kernel_rfl))))))) (bm_one (sm_ret (em_lstM (am_cons (em_revM (em_lc (own := [((".0" : Str), 5), (("cell" : Str), 2)]) rfl sc_L_draw.nd (im_seq (em_var (i := 3) (by kernel_rfl) (.inl (by kernel_rfl)))) (blkOk_by (by kernel_rfl)) (by decide) (fun _ _ _ _ _ => (gm_name (i := 2) sc_L_draw.nd (by kernel_rfl) (.inl (by kernel_rfl)) (.inr (by kernel_rfl)))) (fun _ _ _ _ _ => (ptm_one (tm_cmp op_ge r_cmp (em_var (i := 2) (by kernel_rfl) (.inl (by kernel_rfl))) (em_op op_pow r_pow em_int em_int) rfl))) (fun _ _ _ _ _ => (em_var (i := 2) (by kernel_rfl) (.inl (by kernel_rfl)))))) (am_cons (em_var (i := 4) (by kernel_rfl) (.inl (by kernel_rfl))) am_nil))))))))
theorem has_L_draw (e : CtxL w K mg base h) : Has (tabs K tf) prog w K mg base 2 "_law_draw" 2 [] m_L_draw := by
  obtain ⟨fd, F, FO⟩ := fm_L_draw e
  exact ⟨_, fd, _, [], [], FO, glo_L_draw e, F.kp, FunD.bindsN F (fun _ _ _ _ _ _ us hl => match us, hl with | [_, _], _ => rfl), .nil, fun _ _ => .nil, rfl⟩
theorem sc_L_any : FnScope N_L_any ["deal", "bound"] (defScope (top 21)) := ⟨rfl, rfl, rfl, by decide +kernel, rfl, by decide +kernel, by decide +kernel⟩
theorem fm_L_any (e : CtxL w K mg base h) : ∃ fd, FunD K "_law_any" "_law_any" (defArgs (top 21)) (defBody (top 21)) (defScope (top 21)) [] [] (He.fAd K ("_law_any", none)) fd ∧ FM (tabs K tf) prog w K mg base 2 (He.fAd K ("_law_any", none)) fd ["deal", "bound"] m_L_any := by
  obtain ⟨fd, F⟩ := e.c.d.def_ 13 (d := d_L_any) rfl
  refine ⟨fd, F, fm_ofD (N := N_L_any) (m := b_L_any) F sc_L_any (fun A outer s H E c => ?_)⟩
  exact (bm_cons (sm_while c.po (tm_w (tw_and (tm_cmp (op_neD (Room.units c.room)) r_ne (em_ix ix_seq r_ix (em_var (i := 0) (by kernel_rfl) (.inl (by kernel_rfl))) em_int (fun _ _ => rfl)) (em_lst am_nil) rfl) (tw_and1 (tm_cmp (op_eqD (Room.units c.room)) r_eq (em_ix ix_seq r_ix (em_ix ix_seq r_ix (em_var (i := 0) (by kernel_rfl) (.inl (by kernel_rfl))) em_int (fun _ _ => rfl)) (em_un un_neg r_neg em_int) (fun _ _ => rfl)) em_int rfl)))) (by exact (bm_one (sm_expr (em_pop (em_ix ix_seq r_ix (em_var (i := 0) (by kernel_rfl) (.inl (by kernel_rfl))) em_int (fun _ _ => rfl))))))) (bm_cons (sm_if (tm_cmp (op_neD (Room.units c.room)) r_ne (em_ix ix_seq r_ix (em_var (i := 0) (by kernel_rfl) (.inl (by kernel_rfl))) em_int (fun _ _ => rfl)) (em_lst am_nil) rfl) (bm_cons (sm_asg (em_callTy (call_int1.or call_int_str) r_int (gl_of (by kernel_rfl)) (free_int e) (by kernel_rfl) (am_cons (em_pop (em_ix ix_seq r_ix (em_var (i := 0) (by kernel_rfl) (.inl (by kernel_rfl))) em_int (fun _ _ => rfl))) am_nil)) (gm_name (i := 2) sc_L_any.nd (by kernel_rfl) (.inl (by kernel_rfl)) (.inr (by kernel_rfl)))) (bm_cons (sm_expr (em_append (em_ix ix_seq r_ix (em_var (i := 0) (by kernel_rfl) (.inl (by kernel_rfl))) em_int (fun _ _ => rfl)) (em_op op_fdivW r_div (em_var (i := 2) (by kernel_rfl) (.inl (by kernel_rfl))) (em_var (i := 1) (by kernel_rfl) (.inl (by kernel_rfl)))))) (bm_one (sm_ret (em_op op_mod r_mod (em_callTy (call_int1.or call_int_str) r_int (gl_of (by kernel_rfl)) (free_int e) (by kernel_rfl) (am_cons (em_var (i := 2) (by kernel_rfl) (.inl (by kernel_rfl))) am_nil)) (em_var (i := 1) (by kernel_rfl) (.inl (by kernel_rfl)))))))) bm_nil) (bm_cons (sm_put (em_op op_mod r_mod (em_callTy (call_int1.or call_int_str) r_int (gl_of (by kernel_rfl)) (free_int e) (by kernel_rfl) (am_cons (em_op op_addD r_add (em_op op_mul r_mul (em_ix ix_seq r_ix (em_var (i := 0) (by kernel_rfl) (.inl (by kernel_rfl))) em_int (fun _ _ => rfl)) em_int) em_int) am_nil)) em_int) (em_var (i := 0) (by kernel_rfl) (.inl (by kernel_rfl))) em_int) (bm_one (sm_ret (em_op op_mod r_mod (em_callTy (call_int1.or call_int_str) r_int (gl_of (by kernel_rfl)) (free_int e) (by kernel_rfl) (am_cons (em_op op_fdivW r_div (em_ix ix_seq r_ix (em_var (i := 0) (by kernel_rfl) (.inl (by kernel_rfl))) em_int (fun _ _ => rfl)) em_int) am_nil)) (em_var (i := 1) (by kernel_rfl) (.inl (by kernel_rfl)))))))))
theorem has_L_any (e : CtxL w K mg base h) : Has (tabs K tf) prog w K mg base 2 "_law_any" 2 [] m_L_any := by
  obtain ⟨fd, F, FO⟩ := fm_L_any e
  exact ⟨_, fd, _, [], [], FO, glo_L_any e, F.kp, FunD.bindsN F (fun _ _ _ _ _ _ us hl => match us, hl with | [_, _], _ => rfl), .nil, fun _ _ => .nil, rfl⟩
theorem sc_L_of : FnScope N_L_of ["deal", "some"] (defScope (top 22)) := ⟨rfl, rfl, rfl, by decide +kernel, rfl, by decide +kernel, by decide +kernel⟩
theorem fm_L_of (e : CtxL w K mg base h) : ∃ fd, FunD K "_law_of" "_law_of" (defArgs (top 22)) (defBody (top 22)) (defScope (top 22)) [] [] (He.fAd K ("_law_of", none)) fd ∧ FM (tabs K tf) prog w K mg base 3 (He.fAd K ("_law_of", none)) fd ["deal", "some"] m_L_of := by
  obtain ⟨fd, F⟩ := e.c.d.def_ 14 (d := d_L_of) rfl
  refine ⟨fd, F, fm_ofD (N := N_L_of) (m := b_L_of) F sc_L_of (fun A outer s H E c => ?_)⟩
  exact (bm_one (sm_ret (em_ix ix_seq r_ix (em_var (i := 1) (by kernel_rfl) (.inl (by kernel_rfl))) (em_f (has_L_any e) (c.room.mono (by omega)) c.tk (gl_of (by kernel_rfl)) (am_cons (em_var (i := 0) (by kernel_rfl) (.inl (by kernel_rfl))) (am_cons (em_callB call_len r_len (gl_of (by kernel_rfl)) (free_len e) (by kernel_rfl) (am_cons (em_var (i := 1) (by kernel_rfl) (.inl (by kernel_rfl))) am_nil)) am_nil))) (fun _ _ => rfl))))
theorem has_L_of (e : CtxL w K mg base h) : Has (tabs K tf) prog w K mg base 3 "_law_of" 2 [] m_L_of := by
  obtain ⟨fd, F, FO⟩ := fm_L_of e
  exact ⟨_, fd, _, [], [], FO, glo_L_of e, F.kp, FunD.bindsN F (fun _ _ _ _ _ _ us hl => match us, hl with | [_, _], _ => rfl), .nil, fun _ _ => .nil, rfl⟩
theorem sc_L_same : FnScope N_L_same ["value", "due"] (defScope (top 23)) := ⟨rfl, rfl, rfl, by decide +kernel, rfl, by decide +kernel, by decide +kernel⟩
theorem has_L_sameN (e : CtxL w K mg base h) : ∀ n : Nat, Has (tabs K tf) prog w K mg base (1 + n) "_law_same" 2 [] (m_L_same n) := by
  obtain ⟨fd, F⟩ := e.c.d.def_ 15 (d := d_L_same) rfl
  intro n
  induction n with
  | zero => exact ⟨_, fd, ["value", "due"], [], [], fm_never, glo_L_same e, F.kp, FunD.bindsN F (fun _ _ _ _ _ _ us hl => match us, hl with | [_, _], _ => rfl), .nil, fun _ _ => .nil, rfl⟩
  | succ n rec =>
    refine ⟨_, fd, ["value", "due"], [], [], fm_ofD (N := N_L_same) (k := 1 + n) (m := b_L_same (m_L_same n)) F sc_L_same (fun A outer s H E c => ?_), glo_L_same e, F.kp, FunD.bindsN F (fun _ _ _ _ _ _ us hl => match us, hl with | [_, _], _ => rfl), .nil, fun _ _ => .nil, rfl⟩
    generalize m_L_same n = m_rec at rec ⊢
    exact (bm_cons (sm_if (tm_val (em_isiT (em_var (i := 1) (by kernel_rfl) (.inl (by kernel_rfl))) (.cons (q := .tup) (by decide) (by kernel_rfl) (gl_of (by kernel_rfl)) (free_tuple e) (by decide) (by decide) rfl (.cons (q := .lst) (by decide) (by kernel_rfl) (gl_of (by kernel_rfl)) (free_list e) (by decide) (by decide) rfl .nil)) (by decide) (gl_of (by kernel_rfl)) (free_isinstance e))) (bm_cons (sm_if (tm_w (tw_or (tm_cmp (op_neD (Room.units c.room)) r_ne (em_isi (q := .tup) (em_var (i := 1) (by kernel_rfl) (.inl (by kernel_rfl))) (by decide) (by kernel_rfl) (gl_of (by kernel_rfl)) (free_isinstance e) (gl_of (by kernel_rfl)) (free_tuple e)) (em_isi (q := .tup) (em_var (i := 0) (by kernel_rfl) (.inl (by kernel_rfl))) (by decide) (by kernel_rfl) (gl_of (by kernel_rfl)) (free_isinstance e) (gl_of (by kernel_rfl)) (free_tuple e)) rfl) (tw_or (tm_not (tm_val (em_isiT (em_var (i := 0) (by kernel_rfl) (.inl (by kernel_rfl))) (.cons (q := .tup) (by decide) (by kernel_rfl) (gl_of (by kernel_rfl)) (free_tuple e) (by decide) (by decide) rfl (.cons (q := .lst) (by decide) (by kernel_rfl) (gl_of (by kernel_rfl)) (free_list e) (by decide) (by decide) rfl .nil)) (by decide) (gl_of (by kernel_rfl)) (free_isinstance e)))) (tw_or1 (tm_cmp (op_neD (Room.units c.room)) r_ne (em_callB call_len r_len (gl_of (by kernel_rfl)) (free_len e) (by kernel_rfl) (am_cons (em_var (i := 0) (by kernel_rfl) (.inl (by kernel_rfl))) am_nil)) (em_callB call_len r_len (gl_of (by kernel_rfl)) (free_len e) (by kernel_rfl) (am_cons (em_var (i := 1) (by kernel_rfl) (.inl (by kernel_rfl))) am_nil)) rfl))))) (bm_one (sm_ret em_bl)) bm_nil) (bm_one (sm_ret (em_cmp (op_eqD (Room.units c.room)) r_eq (em_lc (own := [((".0" : Str), 2), (("one" : Str), 3), (("other" : Str), 4)]) rfl sc_L_same.nd (im_zip (gl_of (by kernel_rfl)) (free_zip e) (am_cons (em_var (i := 0) (by kernel_rfl) (.inl (by kernel_rfl))) (am_cons (em_var (i := 1) (by kernel_rfl) (.inl (by kernel_rfl))) am_nil))) (blkOk_by (by kernel_rfl)) (by decide) (fun _ _ _ _ _ => (gm_tup rfl (gsm_cons (gm_name (i := 3) sc_L_same.nd (by kernel_rfl) (.inl (by kernel_rfl)) (.inr (by kernel_rfl))) (gsm_cons (gm_name (i := 4) sc_L_same.nd (by kernel_rfl) (.inl (by kernel_rfl)) (.inr (by kernel_rfl))) gsm_nil)))) (fun _ _ _ _ _ => (ptm_one (tm_not (tm_val (em_f rec (c.room.mono (by omega)) LamX.takes0 (gl_of (by kernel_rfl)) (am_cons (em_var (i := 3) (by kernel_rfl) (.inl (by kernel_rfl))) (am_cons (em_var (i := 4) (by kernel_rfl) (.inl (by kernel_rfl))) am_nil))))))) (fun _ _ _ _ _ => em_int)) (em_lst am_nil) rfl)))) bm_nil) (bm_cons (sm_if (tm_cmp op_isN r_isN (em_var (i := 1) (by kernel_rfl) (.inl (by kernel_rfl))) em_non rfl) (bm_one (sm_ret (em_cmp op_isN r_isN (em_var (i := 0) (by kernel_rfl) (.inl (by kernel_rfl))) em_non rfl))) bm_nil) (bm_cons (sm_if (tm_cmp op_isL r_isL (em_var (i := 1) (by kernel_rfl) (.inl (by kernel_rfl))) em_bl rfl) (bm_one (sm_ret (em_cmp op_isL r_isL (em_var (i := 0) (by kernel_rfl) (.inl (by kernel_rfl))) em_bl rfl))) bm_nil) (bm_cons (sm_if (tm_cmp op_isL r_isL (em_var (i := 1) (by kernel_rfl) (.inl (by kernel_rfl))) em_bl rfl) (bm_one (sm_ret (em_cmp op_isL r_isL (em_var (i := 0) (by kernel_rfl) (.inl (by kernel_rfl))) em_bl rfl))) bm_nil) (bm_cons (sm_if (tm_val (em_isi (q := .int) (em_var (i := 1) (by kernel_rfl) (.inl (by kernel_rfl))) (by decide) (by kernel_rfl) (gl_of (by kernel_rfl)) (free_isinstance e) (gl_of (by kernel_rfl)) (free_int e))) (bm_one (sm_ret (em_and (em_isi (q := .int) (em_var (i := 0) (by kernel_rfl) (.inl (by kernel_rfl))) (by decide) (by kernel_rfl) (gl_of (by kernel_rfl)) (free_isinstance e) (gl_of (by kernel_rfl)) (free_int e)) (em_and (em_not (em_isi (q := .bl) (em_var (i := 0) (by kernel_rfl) (.inl (by kernel_rfl))) (by decide) (by kernel_rfl) (gl_of (by kernel_rfl)) (free_isinstance e) (gl_of (by kernel_rfl)) (free_bool e))) (em_one (em_cmp (op_eqD (Room.units c.room)) r_eq (em_var (i := 0) (by kernel_rfl) (.inl (by kernel_rfl))) (em_var (i := 1) (by kernel_rfl) (.inl (by kernel_rfl))) rfl)))))) bm_nil) (bm_one (sm_ret (em_and (em_isi (q := .str) (em_var (i := 0) (by kernel_rfl) (.inl (by kernel_rfl))) (by decide) (by kernel_rfl) (gl_of (by kernel_rfl)) (free_isinstance e) (gl_of (by kernel_rfl)) (free_str e)) (em_one (em_cmp (op_eqD (Room.units c.room)) r_eq (em_var (i := 0) (by kernel_rfl) (.inl (by kernel_rfl))) (em_var (i := 1) (by kernel_rfl) (.inl (by kernel_rfl))) rfl))))))))))
theorem has_L_same (e : CtxL w K mg base h) : Has (tabs K tf) prog w K mg base 9 "_law_same" 2 [] (m_L_same 8) := has_L_sameN e 8
theorem sc_L_is_int : FnScope N_L_is_int ["value"] (defScope (top 24)) := ⟨rfl, rfl, rfl, by decide +kernel, rfl, by decide +kernel, by decide +kernel⟩
theorem fm_L_is_int (e : CtxL w K mg base h) : ∃ fd, FunD K "_law_is_int" "_law_is_int" (defArgs (top 24)) (defBody (top 24)) (defScope (top 24)) [] [] (He.fAd K ("_law_is_int", none)) fd ∧ FM (tabs K tf) prog w K mg base 2 (He.fAd K ("_law_is_int", none)) fd ["value"] m_L_is_int := by
  obtain ⟨fd, F⟩ := e.c.d.def_ 16 (d := d_L_is_int) rfl
  refine ⟨fd, F, fm_ofD (N := N_L_is_int) (m := b_L_is_int) F sc_L_is_int (fun A outer s H E c => ?_)⟩
  exact (bm_one (sm_ret (em_and (em_isi (q := .int) (em_var (i := 0) (by kernel_rfl) (.inl (by kernel_rfl))) (by decide) (by kernel_rfl) (gl_of (by kernel_rfl)) (free_isinstance e) (gl_of (by kernel_rfl)) (free_int e)) (em_one (em_not (em_isi (q := .bl) (em_var (i := 0) (by kernel_rfl) (.inl (by kernel_rfl))) (by decide) (by kernel_rfl) (gl_of (by kernel_rfl)) (free_isinstance e) (gl_of (by kernel_rfl)) (free_bool e)))))))
theorem has_L_is_int (e : CtxL w K mg base h) : Has (tabs K tf) prog w K mg base 2 "_law_is_int" 1 [] m_L_is_int := by
  obtain ⟨fd, F, FO⟩ := fm_L_is_int e
  exact ⟨_, fd, _, [], [], FO, glo_L_is_int e, F.kp, FunD.bindsN F (fun _ _ _ _ _ _ us hl => match us, hl with | [_], _ => rfl), .nil, fun _ _ => .nil, rfl⟩
theorem sc_L_primes : FnScope N_L_primes [] (defScope (top 25)) := ⟨rfl, rfl, rfl, by decide +kernel, rfl, by decide +kernel, by decide +kernel⟩
theorem fm_L_primes (e : CtxL w K mg base h) : ∃ fd, FunD K "_law_primes" "_law_primes" (defArgs (top 25)) (defBody (top 25)) (defScope (top 25)) [] [] (He.fAd K ("_law_primes", none)) fd ∧ FM (tabs K tf) prog w K mg base 2 (He.fAd K ("_law_primes", none)) fd [] m_L_primes := by
  obtain ⟨fd, F⟩ := e.c.d.def_ 17 (d := d_L_primes) rfl
  refine ⟨fd, F, fm_ofD (N := N_L_primes) (m := b_L_primes) F sc_L_primes (fun A outer s H E c => ?_)⟩
  exact (bm_one (sm_ret (em_lst (am_cons em_int (am_cons em_int (am_cons em_int (am_cons em_int (am_cons em_int (am_cons em_int (am_cons em_int (am_cons em_int (am_cons em_int (am_cons em_int (am_cons em_int (am_cons em_int (am_cons em_int (am_cons em_int (am_cons em_int (am_cons em_int (am_cons em_int (am_cons em_int (am_cons em_int (am_cons em_int (am_cons em_int (am_cons em_int (am_cons em_int (am_cons em_int (am_cons em_int am_nil))))))))))))))))))))))))))))
theorem has_L_primes (e : CtxL w K mg base h) : Has (tabs K tf) prog w K mg base 2 "_law_primes" 0 [] m_L_primes := by
  obtain ⟨fd, F, FO⟩ := fm_L_primes e
  exact ⟨_, fd, _, [], [], FO, glo_L_primes e, F.kp, FunD.bindsN F (fun _ _ _ _ _ _ us hl => match us, hl with | [], _ => rfl), .nil, fun _ _ => .nil, rfl⟩
theorem sc_L_some_prime : FnScope N_L_some_prime ["deal"] (defScope (top 26)) := ⟨rfl, rfl, rfl, by decide +kernel, rfl, by decide +kernel, by decide +kernel⟩
theorem fm_L_some_prime (e : CtxL w K mg base h) : ∃ fd, FunD K "_law_some_prime" "_law_some_prime" (defArgs (top 26)) (defBody (top 26)) (defScope (top 26)) [] [] (He.fAd K ("_law_some_prime", none)) fd ∧ FM (tabs K tf) prog w K mg base 4 (He.fAd K ("_law_some_prime", none)) fd ["deal"] m_L_some_prime := by
  obtain ⟨fd, F⟩ := e.c.d.def_ 18 (d := d_L_some_prime) rfl
  refine ⟨fd, F, fm_ofD (N := N_L_some_prime) (m := b_L_some_prime) F sc_L_some_prime (fun A outer s H E c => ?_)⟩
  exact (bm_one (sm_ret (em_f (has_L_of e) (c.room.mono (by omega)) c.tk (gl_of (by kernel_rfl)) (am_cons (em_var (i := 0) (by kernel_rfl) (.inl (by kernel_rfl))) (am_cons (em_lst (am_cons em_int (am_cons em_int (am_cons em_int (am_cons em_int (am_cons em_int (am_cons em_int (am_cons (em_f (has_L_of e) (c.room.mono (by omega)) c.tk (gl_of (by kernel_rfl)) (am_cons (em_var (i := 0) (by kernel_rfl) (.inl (by kernel_rfl))) (am_cons (em_f0 (has_L_primes e) (c.room.mono (by omega)) c.tk (gl_of (by kernel_rfl))) am_nil))) am_nil)))))))) am_nil)))))
theorem has_L_some_prime (e : CtxL w K mg base h) : Has (tabs K tf) prog w K mg base 4 "_law_some_prime" 1 [] m_L_some_prime := by
  obtain ⟨fd, F, FO⟩ := fm_L_some_prime e
  exact ⟨_, fd, _, [], [], FO, glo_L_some_prime e, F.kp, FunD.bindsN F (fun _ _ _ _ _ _ us hl => match us, hl with | [_], _ => rfl), .nil, fun _ _ => .nil, rfl⟩
theorem sc_L_inverse : FnScope N_L_inverse ["prime", "number"] (defScope (top 27)) := ⟨rfl, rfl, rfl, by decide +kernel, rfl, by decide +kernel, by decide +kernel⟩
theorem fm_L_inverse (e : CtxL w K mg base h) : ∃ fd, FunD K "_law_inverse" "_law_inverse" (defArgs (top 27)) (defBody (top 27)) (defScope (top 27)) [] [] (He.fAd K ("_law_inverse", none)) fd ∧ FM (tabs K tf) prog w K mg base 2 (He.fAd K ("_law_inverse", none)) fd ["prime", "number"] m_L_inverse := by
  obtain ⟨fd, F⟩ := e.c.d.def_ 19 (d := d_L_inverse) rfl
  refine ⟨fd, F, fm_ofD (N := N_L_inverse) (m := b_L_inverse) F sc_L_inverse (fun A outer s H E c => ?_)⟩
  exact (bm_one (sm_ret (em_ix ix_seq r_ix (em_lc (own := [((".0" : Str), 2), (("one" : Str), 3)]) rfl sc_L_inverse.nd (im_range1 (gl_of (by kernel_rfl)) (free_range e) (am_cons (em_var (i := 0) (by kernel_rfl) (.inr (.inl (by kernel_rfl)))) am_nil)) (blkOk_by (by kernel_rfl)) (by decide) (fun _ _ _ _ _ => (gm_name (i := 3) sc_L_inverse.nd (by kernel_rfl) (.inl (by kernel_rfl)) (.inr (by kernel_rfl)))) (fun _ _ _ _ _ => (ptm_one (tm_cmp (op_eqD (Room.units c.room)) r_eq (em_op op_mod r_mod (em_callTy (call_int1.or call_int_str) r_int (gl_of (by kernel_rfl)) (free_int e) (by kernel_rfl) (am_cons (em_op op_mul r_mul (em_var (i := 3) (by kernel_rfl) (.inl (by kernel_rfl))) (em_var (i := 1) (by kernel_rfl) (.inr (.inl (by kernel_rfl))))) am_nil)) (em_var (i := 0) (by kernel_rfl) (.inr (.inl (by kernel_rfl))))) em_int rfl))) (fun _ _ _ _ _ => (em_var (i := 3) (by kernel_rfl) (.inl (by kernel_rfl))))) em_int (fun _ _ => rfl))))
theorem has_L_inverse (e : CtxL w K mg base h) : Has (tabs K tf) prog w K mg base 2 "_law_inverse" 2 [] m_L_inverse := by
  obtain ⟨fd, F, FO⟩ := fm_L_inverse e
  exact ⟨_, fd, _, [], [], FO, glo_L_inverse e, F.kp, FunD.bindsN F (fun _ _ _ _ _ _ us hl => match us, hl with | [_, _], _ => rfl), .nil, fun _ _ => .nil, rfl⟩
theorem sc_L_some_row : FnScope N_L_some_row ["deal", "prime", "many"] (defScope (top 28)) := ⟨rfl, rfl, rfl, by decide +kernel, rfl, by decide +kernel, by decide +kernel⟩
theorem fm_L_some_row (e : CtxL w K mg base h) : ∃ fd, FunD K "_law_some_row" "_law_some_row" (defArgs (top 28)) (defBody (top 28)) (defScope (top 28)) [] [] (He.fAd K ("_law_some_row", none)) fd ∧ FM (tabs K tf) prog w K mg base 4 (He.fAd K ("_law_some_row", none)) fd ["deal", "prime", "many"] m_L_some_row := by
  obtain ⟨fd, F⟩ := e.c.d.def_ 20 (d := d_L_some_row) rfl
  refine ⟨fd, F, fm_ofD (N := N_L_some_row) (m := b_L_some_row) F sc_L_some_row (fun A outer s H E c => ?_)⟩
  exact (bm_cons (sm_asg (em_f (has_L_any e) (c.room.mono (by omega)) c.tk (gl_of (by kernel_rfl)) (am_cons (em_var (i := 0) (by kernel_rfl) (.inr (.inl (by kernel_rfl)))) (am_cons em_int am_nil))) (gm_name (i := 3) sc_L_some_row.nd (by kernel_rfl) (.inr (by kernel_rfl)) (.inl (by kernel_rfl)))) (bm_one (sm_ret (em_callTy call_tuple_of r_tuple (gl_of (by kernel_rfl)) (free_tuple e) (by kernel_rfl) (am_cons (em_lc (own := [((".0" : Str), 4), (("place" : Str), 5)]) rfl sc_L_some_row.nd (im_range1 (gl_of (by kernel_rfl)) (free_range e) (am_cons (em_var (i := 2) (by kernel_rfl) (.inl (by kernel_rfl))) am_nil)) (blkOk_by (by kernel_rfl)) (by decide) (fun _ _ _ _ _ => (gm_name (i := 5) sc_L_some_row.nd (by kernel_rfl) (.inl (by kernel_rfl)) (.inr (by kernel_rfl)))) (fun _ _ _ _ _ => ptm_nil) (fun _ _ _ _ _ => (em_if (tm_w (tw_and (tm_cmp (op_eqD (Room.units c.room)) r_eq (em_var (i := 3) (by kernel_rfl) (.inr (.inl (by kernel_rfl)))) em_int rfl) (tw_and1 (tm_cmp (op_eqD (Room.units c.room)) r_eq (em_f (has_L_any e) (c.room.mono (by omega)) LamX.takes0 (gl_of (by kernel_rfl)) (am_cons (em_var (i := 0) (by kernel_rfl) (.inr (.inl (by kernel_rfl)))) (am_cons em_int am_nil))) em_int rfl)))) em_int (em_f (has_L_of e) (c.room.mono (by omega)) LamX.takes0 (gl_of (by kernel_rfl)) (am_cons (em_var (i := 0) (by kernel_rfl) (.inr (.inl (by kernel_rfl)))) (am_cons (em_lst (am_cons em_int (am_cons em_int (am_cons (em_op op_sub r_sub (em_var (i := 1) (by kernel_rfl) (.inr (.inl (by kernel_rfl)))) em_int) (am_cons (em_f (has_L_any e) (c.room.mono (by omega)) LamX.takes0 (gl_of (by kernel_rfl)) (am_cons (em_var (i := 0) (by kernel_rfl) (.inr (.inl (by kernel_rfl)))) (am_cons (em_var (i := 1) (by kernel_rfl) (.inr (.inl (by kernel_rfl)))) am_nil))) (am_cons (em_f (has_L_any e) (c.room.mono (by omega)) LamX.takes0 (gl_of (by kernel_rfl)) (am_cons (em_var (i := 0) (by kernel_rfl) (.inr (.inl (by kernel_rfl)))) (am_cons (em_var (i := 1) (by kernel_rfl) (.inr (.inl (by kernel_rfl)))) am_nil))) am_nil)))))) am_nil)))))) am_nil)))))
theorem has_L_some_row (e : CtxL w K mg base h) : Has (tabs K tf) prog w K mg base 4 "_law_some_row" 3 [] m_L_some_row := by
  obtain ⟨fd, F, FO⟩ := fm_L_some_row e
  exact ⟨_, fd, _, [], [], FO, glo_L_some_row e, F.kp, FunD.bindsN F (fun _ _ _ _ _ _ us hl => match us, hl with | [_, _, _], _ => rfl), .nil, fun _ _ => .nil, rfl⟩
theorem sc_L_power : FnScope N_L_power ["prime", "number", "many"] (defScope (top 30)) := ⟨rfl, rfl, rfl, by decide +kernel, rfl, by decide +kernel, by decide +kernel⟩
theorem fm_L_power (e : CtxL w K mg base h) : ∃ fd, FunD K "_law_power" "_law_power" (defArgs (top 30)) (defBody (top 30)) (defScope (top 30)) [] [] (He.fAd K ("_law_power", none)) fd ∧ FM (tabs K tf) prog w K mg base 2 (He.fAd K ("_law_power", none)) fd ["prime", "number", "many"] m_L_power := by
  obtain ⟨fd, F⟩ := e.c.d.def_ 22 (d := d_L_power) rfl
  refine ⟨fd, F, fm_ofD (N := N_L_power) (m := b_L_power) F sc_L_power (fun A outer s H E c => ?_)⟩
  exact (bm_cons (sm_par3 (i := 3) (j := 4) (l := 5) rfl sc_L_power.nd (by kernel_rfl) (by kernel_rfl) (by kernel_rfl) (by decide) (by decide) (by decide) (by kernel_rfl) (by kernel_rfl) (by kernel_rfl) (em_op op_mod r_mod em_int (em_var (i := 0) (by kernel_rfl) (.inl (by kernel_rfl)))) (em_lstM am_nil) (em_var (i := 2) (by kernel_rfl) (.inl (by kernel_rfl))) (by kernel_rfl)) (bm_cons (sm_while c.po (tm_cmp op_gt r_cmp (em_var (i := 5) (by kernel_rfl) (.inl (by kernel_rfl))) em_int rfl) (by exact (bm_cons (sm_expr (em_append (em_var (i := 4) (by kernel_rfl) (.inl (by kernel_rfl))) (em_op op_mod r_mod (em_var (i := 5) (by kernel_rfl) (.inl (by kernel_rfl))) em_int))) (bm_one (sm_asg (em_op op_fdivW r_div (em_var (i := 5) (by kernel_rfl) (.inl (by kernel_rfl))) em_int) (gm_name (i := 5) sc_L_power.nd (by kernel_rfl) (.inl (by kernel_rfl)) (.inr (by kernel_rfl)))))))) (bm_frz (i := 4) (bm_cons (sm_for c.po rfl (im_seq (em_rev (em_var (i := 4) (by kernel_rfl) (.inl (by kernel_rfl))))) (gm_name (i := 6) sc_L_power.nd (by kernel_rfl) (.inl (by kernel_rfl)) (.inr (by kernel_rfl))) (by exact (bm_cons (sm_asg (em_op op_mod r_mod (em_callTy (call_int1.or call_int_str) r_int (gl_of (by kernel_rfl)) (free_int e) (by kernel_rfl) (am_cons (em_op op_mul r_mul (em_var (i := 3) (by kernel_rfl) (.inl (by kernel_rfl))) (em_var (i := 3) (by kernel_rfl) (.inl (by kernel_rfl)))) am_nil)) (em_var (i := 0) (by kernel_rfl) (.inl (by kernel_rfl)))) (gm_name (i := 3) sc_L_power.nd (by kernel_rfl) (.inl (by kernel_rfl)) (.inr (by kernel_rfl)))) (bm_one (sm_if (tm_cmp (op_eqD (Room.units c.room)) r_eq (em_var (i := 6) (by kernel_rfl) (.inl (by kernel_rfl))) em_int rfl) (bm_one (sm_asg (em_op op_mod r_mod (em_callTy (call_int1.or call_int_str) r_int (gl_of (by kernel_rfl)) (free_int e) (by kernel_rfl) (am_cons (em_op op_mul r_mul (em_var (i := 3) (by kernel_rfl) (.inl (by kernel_rfl))) (em_var (i := 1) (by kernel_rfl) (.inl (by kernel_rfl)))) am_nil)) (em_var (i := 0) (by kernel_rfl) (.inl (by kernel_rfl)))) (gm_name (i := 3) sc_L_power.nd (by kernel_rfl) (.inl (by kernel_rfl)) (.inr (by kernel_rfl))))) bm_nil))))) (bm_one (sm_ret (em_var (i := 3) (by kernel_rfl) (.inl (by kernel_rfl)))))))))
theorem has_L_power (e : CtxL w K mg base h) : Has (tabs K tf) prog w K mg base 2 "_law_power" 3 [] m_L_power := by
  obtain ⟨fd, F, FO⟩ := fm_L_power e
  exact ⟨_, fd, _, [], [], FO, glo_L_power e, F.kp, FunD.bindsN F (fun _ _ _ _ _ _ us hl => match us, hl with | [_, _, _], _ => rfl), .nil, fun _ _ => .nil, rfl⟩
theorem sc_L_pair_right : FnScope N_L_pair_right ["prime", "one", "other"] (defScope (top 31)) := ⟨rfl, rfl, rfl, by decide +kernel, rfl, by decide +kernel, by decide +kernel⟩
theorem fm_L_pair_right (e : CtxL w K mg base h) : ∃ fd, FunD K "_law_pair_right" "_law_pair_right" (defArgs (top 31)) (defBody (top 31)) (defScope (top 31)) [] [] (He.fAd K ("_law_pair_right", none)) fd ∧ FM (tabs K tf) prog w K mg base 10 (He.fAd K ("_law_pair_right", none)) fd ["prime", "one", "other"] m_L_pair_right := by
  obtain ⟨fd, F⟩ := e.c.d.def_ 23 (d := d_L_pair_right) rfl
  refine ⟨fd, F, fm_ofD (N := N_L_pair_right) (m := b_L_pair_right) F sc_L_pair_right (fun A outer s H E c => ?_)⟩
  exact (bm_cons (sm_asg (em_lst (am_cons (em_fK0 (hk_sum_of_prime_one_other e) (c.room.mono (by omega)) c.tk (gl_of (by kernel_rfl)) (km_cons (em_var (i := 0) (by kernel_rfl) (.inl (by kernel_rfl))) (km_cons (em_var (i := 1) (by kernel_rfl) (.inl (by kernel_rfl))) (km_cons (em_var (i := 2) (by kernel_rfl) (.inl (by kernel_rfl))) km_nil)))) (am_cons (em_fK0 (hk_difference_of_prime_one_other e) (c.room.mono (by omega)) c.tk (gl_of (by kernel_rfl)) (km_cons (em_var (i := 0) (by kernel_rfl) (.inl (by kernel_rfl))) (km_cons (em_var (i := 1) (by kernel_rfl) (.inl (by kernel_rfl))) (km_cons (em_var (i := 2) (by kernel_rfl) (.inl (by kernel_rfl))) km_nil)))) (am_cons (em_fK0 (hk_product_of_prime_one_other e) (c.room.mono (by omega)) c.tk (gl_of (by kernel_rfl)) (km_cons (em_var (i := 0) (by kernel_rfl) (.inl (by kernel_rfl))) (km_cons (em_var (i := 1) (by kernel_rfl) (.inl (by kernel_rfl))) (km_cons (em_var (i := 2) (by kernel_rfl) (.inl (by kernel_rfl))) km_nil)))) am_nil)))) (gm_name (i := 3) sc_L_pair_right.nd (by kernel_rfl) (.inl (by kernel_rfl)) (.inr (by kernel_rfl)))) (bm_cons (sm_asg (em_lst (am_cons (em_op op_mod r_mod (em_callTy (call_int1.or call_int_str) r_int (gl_of (by kernel_rfl)) (free_int e) (by kernel_rfl) (am_cons (em_op op_addD r_add (em_var (i := 1) (by kernel_rfl) (.inl (by kernel_rfl))) (em_var (i := 2) (by kernel_rfl) (.inl (by kernel_rfl)))) am_nil)) (em_var (i := 0) (by kernel_rfl) (.inl (by kernel_rfl)))) (am_cons (em_op op_mod r_mod (em_callTy (call_int1.or call_int_str) r_int (gl_of (by kernel_rfl)) (free_int e) (by kernel_rfl) (am_cons (em_op op_sub r_sub (em_op op_addD r_add (em_var (i := 1) (by kernel_rfl) (.inl (by kernel_rfl))) (em_var (i := 0) (by kernel_rfl) (.inl (by kernel_rfl)))) (em_var (i := 2) (by kernel_rfl) (.inl (by kernel_rfl)))) am_nil)) (em_var (i := 0) (by kernel_rfl) (.inl (by kernel_rfl)))) (am_cons (em_op op_mod r_mod (em_callTy (call_int1.or call_int_str) r_int (gl_of (by kernel_rfl)) (free_int e) (by kernel_rfl) (am_cons (em_op op_mul r_mul (em_var (i := 1) (by kernel_rfl) (.inl (by kernel_rfl))) (em_var (i := 2) (by kernel_rfl) (.inl (by kernel_rfl)))) am_nil)) (em_var (i := 0) (by kernel_rfl) (.inl (by kernel_rfl)))) am_nil)))) (gm_name (i := 4) sc_L_pair_right.nd (by kernel_rfl) (.inl (by kernel_rfl)) (.inr (by kernel_rfl)))) (bm_one (sm_ret (em_and (em_f (has_L_same e) (c.room.mono (by omega)) c.tk (gl_of (by kernel_rfl)) (am_cons (em_var (i := 3) (by kernel_rfl) (.inl (by kernel_rfl))) (am_cons (em_var (i := 4) (by kernel_rfl) (.inl (by kernel_rfl))) am_nil))) (em_one (em_f (has_L_same e) (c.room.mono (by omega)) c.tk (gl_of (by kernel_rfl)) (am_cons (em_f (has_sum_of e) (c.room.mono (by omega)) c.tk (gl_of (by kernel_rfl)) (am_cons (em_var (i := 0) (by kernel_rfl) (.inl (by kernel_rfl))) (am_cons (em_ix ix_seq r_ix (em_var (i := 3) (by kernel_rfl) (.inl (by kernel_rfl))) em_int (fun _ _ => rfl)) (am_cons (em_var (i := 2) (by kernel_rfl) (.inl (by kernel_rfl))) am_nil)))) (am_cons (em_var (i := 1) (by kernel_rfl) (.inl (by kernel_rfl))) am_nil)))))))))
theorem has_L_pair_right (e : CtxL w K mg base h) : Has (tabs K tf) prog w K mg base 10 "_law_pair_right" 3 [] m_L_pair_right := by
  obtain ⟨fd, F, FO⟩ := fm_L_pair_right e
  exact ⟨_, fd, _, [], [], FO, glo_L_pair_right e, F.kp, FunD.bindsN F (fun _ _ _ _ _ _ us hl => match us, hl with | [_, _, _], _ => rfl), .nil, fun _ _ => .nil, rfl⟩
theorem sc_law : FnScope N_law ["script"] (defScope (top 32)) := ⟨rfl, rfl, rfl, by decide +kernel, rfl, by decide +kernel, by decide +kernel⟩
theorem tbl_law (e : CtxL w K mg base h) : ∀ y n F, tb_law y = some (n, F) → Has (tabs K tf) prog w K mg base 10 y n [] F := by
  intro y n F hy
  unfold tb_law at hy
  split at hy
  · rename_i ey
    cases hy
    rw [ey]
    exact (has_difference_of e).up (by decide)
  · skip
    split at hy
    · rename_i ey
      cases hy
      rw [ey]
      exact (has_product_of e).up (by decide)
    · skip
      split at hy
      · rename_i ey
        cases hy
        rw [ey]
        exact (has_sum_of e).up (by decide)
      · skip
        cases hy
theorem fm_law (e : CtxL w K mg base h) : ∃ fd, FunD K "law" "law" (defArgs (top 32)) (defBody (top 32)) (defScope (top 32)) [] [] (He.fAd K ("law", none)) fd ∧ FM (tabs K tf) prog w K mg base 13 (He.fAd K ("law", none)) fd ["script"] m_law := by
  obtain ⟨fd, F⟩ := e.c.d.def_ 24 (d := d_law) rfl
  refine ⟨fd, F, fm_ofD (N := N_law) (m := b_law) F sc_law (fun A outer s H E c => ?_)⟩
  exact (bm_cons (sm_asg (em_f (has_L_draw e) (c.room.mono (by omega)) c.tk (gl_of (by kernel_rfl)) (am_cons (em_var (i := 0) (by kernel_rfl) (.inl (by kernel_rfl))) (am_cons em_int am_nil))) (gm_name (i := 8) sc_law.nd (by kernel_rfl) (.inr (by kernel_rfl)) (.inl (by kernel_rfl)))) (bm_cons (sm_for c.po rfl (im_seq (em_op op_addD r_add (em_lstRg1 rfl (gl_of (by kernel_rfl)) (free_list e) (gl_of (by kernel_rfl)) (free_range e) em_int kLst (.inl rfl)) (em_lst (am_cons (em_un un_neg r_neg em_int) (am_cons (em_un un_neg r_neg em_int) (am_cons em_bl (am_cons em_bl (am_cons em_non (am_cons em_str (am_cons (em_tup (am_cons em_int am_nil)) (am_cons (em_lst (am_cons em_int am_nil)) (am_cons em_int (am_cons em_int (am_cons (em_op op_pow r_pow em_int em_int) am_nil)))))))))))))) (gm_name (i := 1) sc_law.nd (by kernel_rfl) (.inl (by kernel_rfl)) (.inr (by kernel_rfl))) (by exact (bm_one (sm_if (tm_not (tm_val (em_f (has_L_same e) (c.room.mono (by omega)) c.tk (gl_of (by kernel_rfl)) (am_cons (em_fK0 (hk_is_prime_told_value e) (c.room.mono (by omega)) c.tk (gl_of (by kernel_rfl)) (km_cons (em_var (i := 1) (by kernel_rfl) (.inl (by kernel_rfl))) km_nil)) (am_cons (em_and (em_f (has_L_is_int e) (c.room.mono (by omega)) c.tk (gl_of (by kernel_rfl)) (am_cons (em_var (i := 1) (by kernel_rfl) (.inl (by kernel_rfl))) am_nil)) (em_one (em_cmp MV.op_inD r_in (em_var (i := 1) (by kernel_rfl) (.inl (by kernel_rfl))) (em_f0 (has_L_primes e) (c.room.mono (by omega)) c.tk (gl_of (by kernel_rfl))) rfl))) am_nil))))) (bm_one (sm_ret em_bl)) bm_nil)))) (bm_cons (sm_for c.po rfl (im_seq (em_lst (am_cons em_int (am_cons em_int (am_cons em_int (am_cons (em_f (has_L_of e) (c.room.mono (by omega)) c.tk (gl_of (by kernel_rfl)) (am_cons (em_var (i := 8) (by kernel_rfl) (.inr (.inl (by kernel_rfl)))) (am_cons (em_lst (am_cons em_int (am_cons em_int am_nil))) am_nil))) am_nil)))))) (gm_name (i := 11) sc_law.nd (by kernel_rfl) (.inr (by kernel_rfl)) (.inl (by kernel_rfl))) (by exact (bm_one (sm_for c.po rfl (im_range1 (gl_of (by kernel_rfl)) (free_range e) (am_cons (em_var (i := 11) (by kernel_rfl) (.inr (.inl (by kernel_rfl)))) am_nil)) (gm_name (i := 10) sc_law.nd (by kernel_rfl) (.inr (by kernel_rfl)) (.inl (by kernel_rfl))) (by exact (bm_one (sm_for c.po rfl (im_range1 (gl_of (by kernel_rfl)) (free_range e) (am_cons (em_var (i := 11) (by kernel_rfl) (.inr (.inl (by kernel_rfl)))) am_nil)) (gm_name (i := 2) sc_law.nd (by kernel_rfl) (.inl (by kernel_rfl)) (.inr (by kernel_rfl))) (by exact (bm_one (sm_if (tm_not (tm_val (em_f (has_L_pair_right e) (c.room.mono (by omega)) c.tk (gl_of (by kernel_rfl)) (am_cons (em_var (i := 11) (by kernel_rfl) (.inr (.inl (by kernel_rfl)))) (am_cons (em_var (i := 10) (by kernel_rfl) (.inr (.inl (by kernel_rfl)))) (am_cons (em_var (i := 2) (by kernel_rfl) (.inl (by kernel_rfl))) am_nil)))))) (bm_one (sm_ret em_bl)) bm_nil)))))))))) (bm_cons (sm_for c.po rfl (im_range1 (gl_of (by kernel_rfl)) (free_range e) (am_cons em_int am_nil)) (gm_name (i := 3) sc_law.nd (by kernel_rfl) (.inl (by kernel_rfl)) (.inr (by kernel_rfl))) (by exact (bm_cons (sm_asg (em_f (has_L_some_prime e) (c.room.mono (by omega)) c.tk (gl_of (by kernel_rfl)) (am_cons (em_var (i := 8) (by kernel_rfl) (.inr (.inl (by kernel_rfl)))) am_nil)) (gm_name (i := 11) sc_law.nd (by kernel_rfl) (.inr (by kernel_rfl)) (.inl (by kernel_rfl)))) (bm_cons (sm_asg (em_f (has_L_some_row e) (c.room.mono (by omega)) c.tk (gl_of (by kernel_rfl)) (am_cons (em_var (i := 8) (by kernel_rfl) (.inr (.inl (by kernel_rfl)))) (am_cons (em_var (i := 11) (by kernel_rfl) (.inr (.inl (by kernel_rfl)))) (am_cons em_int am_nil)))) (gm_tup rfl (gsm_cons (gm_name (i := 10) sc_law.nd (by kernel_rfl) (.inr (by kernel_rfl)) (.inl (by kernel_rfl))) (gsm_cons (gm_name (i := 2) sc_law.nd (by kernel_rfl) (.inl (by kernel_rfl)) (.inr (by kernel_rfl))) gsm_nil)))) (bm_cons (sm_asg (em_f (has_L_of e) (c.room.mono (by omega)) c.tk (gl_of (by kernel_rfl)) (am_cons (em_var (i := 8) (by kernel_rfl) (.inr (.inl (by kernel_rfl)))) (am_cons (em_lst (am_cons em_int (am_cons em_int (am_cons em_int (am_cons (em_op op_sub r_sub (em_var (i := 11) (by kernel_rfl) (.inr (.inl (by kernel_rfl)))) em_int) (am_cons (em_var (i := 11) (by kernel_rfl) (.inr (.inl (by kernel_rfl)))) (am_cons (em_f (has_L_any e) (c.room.mono (by omega)) c.tk (gl_of (by kernel_rfl)) (am_cons (em_var (i := 8) (by kernel_rfl) (.inr (.inl (by kernel_rfl)))) (am_cons em_int am_nil))) (am_cons (em_op op_sub r_sub (em_op op_pow r_pow em_int em_int) em_int) (am_cons (em_f (has_L_any e) (c.room.mono (by omega)) c.tk (gl_of (by kernel_rfl)) (am_cons (em_var (i := 8) (by kernel_rfl) (.inr (.inl (by kernel_rfl)))) (am_cons (em_op op_pow r_pow em_int em_int) am_nil))) am_nil))))))))) am_nil))) (gm_name (i := 4) sc_law.nd (by kernel_rfl) (.inl (by kernel_rfl)) (.inr (by kernel_rfl)))) (bm_cons (sm_if (tm_w (tw_or (tm_not (tm_val (em_f (has_L_pair_right e) (c.room.mono (by omega)) c.tk (gl_of (by kernel_rfl)) (am_cons (em_var (i := 11) (by kernel_rfl) (.inr (.inl (by kernel_rfl)))) (am_cons (em_var (i := 10) (by kernel_rfl) (.inr (.inl (by kernel_rfl)))) (am_cons (em_var (i := 2) (by kernel_rfl) (.inl (by kernel_rfl))) am_nil)))))) (tw_or1 (tm_not (tm_val (em_f (has_L_same e) (c.room.mono (by omega)) c.tk (gl_of (by kernel_rfl)) (am_cons (em_fK0 (hk_power_of_prime_number_many e) (c.room.mono (by omega)) c.tk (gl_of (by kernel_rfl)) (km_cons (em_var (i := 11) (by kernel_rfl) (.inr (.inl (by kernel_rfl)))) (km_cons (em_var (i := 10) (by kernel_rfl) (.inr (.inl (by kernel_rfl)))) (km_cons (em_var (i := 4) (by kernel_rfl) (.inl (by kernel_rfl))) km_nil)))) (am_cons (em_f (has_L_power e) (c.room.mono (by omega)) c.tk (gl_of (by kernel_rfl)) (am_cons (em_var (i := 11) (by kernel_rfl) (.inr (.inl (by kernel_rfl)))) (am_cons (em_var (i := 10) (by kernel_rfl) (.inr (.inl (by kernel_rfl)))) (am_cons (em_var (i := 4) (by kernel_rfl) (.inl (by kernel_rfl))) am_nil)))) am_nil)))))))) (bm_one (sm_ret em_bl)) bm_nil) (bm_cons (sm_if (tm_w (tw_and (tm_cmp op_gt r_cmp (em_var (i := 10) (by kernel_rfl) (.inr (.inl (by kernel_rfl)))) em_int rfl) (tw_and1 (tm_not (tm_val (em_f (has_L_same e) (c.room.mono (by omega)) c.tk (gl_of (by kernel_rfl)) (am_cons (em_lst (am_cons (em_fK0 (hk_inverse_of_prime_number e) (c.room.mono (by omega)) c.tk (gl_of (by kernel_rfl)) (km_cons (em_var (i := 11) (by kernel_rfl) (.inr (.inl (by kernel_rfl)))) (km_cons (em_var (i := 10) (by kernel_rfl) (.inr (.inl (by kernel_rfl)))) km_nil))) (am_cons (em_f (has_product_of e) (c.room.mono (by omega)) c.tk (gl_of (by kernel_rfl)) (am_cons (em_var (i := 11) (by kernel_rfl) (.inr (.inl (by kernel_rfl)))) (am_cons (em_f (has_inverse_of e) (c.room.mono (by omega)) c.tk (gl_of (by kernel_rfl)) (am_cons (em_var (i := 11) (by kernel_rfl) (.inr (.inl (by kernel_rfl)))) (am_cons (em_var (i := 10) (by kernel_rfl) (.inr (.inl (by kernel_rfl)))) am_nil))) (am_cons (em_var (i := 10) (by kernel_rfl) (.inr (.inl (by kernel_rfl)))) am_nil)))) am_nil))) (am_cons (em_lst (am_cons (em_f (has_L_inverse e) (c.room.mono (by omega)) c.tk (gl_of (by kernel_rfl)) (am_cons (em_var (i := 11) (by kernel_rfl) (.inr (.inl (by kernel_rfl)))) (am_cons (em_var (i := 10) (by kernel_rfl) (.inr (.inl (by kernel_rfl)))) am_nil))) (am_cons (em_op op_mod r_mod em_int (em_var (i := 11) (by kernel_rfl) (.inr (.inl (by kernel_rfl))))) am_nil))) am_nil)))))))) (bm_one (sm_ret em_bl)) bm_nil) (bm_cons (sm_asg (em_tup (am_cons (em_f (has_L_of e) (c.room.mono (by omega)) c.tk (gl_of (by kernel_rfl)) (am_cons (em_var (i := 8) (by kernel_rfl) (.inr (.inl (by kernel_rfl)))) (am_cons (em_lst (am_cons (em_var (i := 11) (by kernel_rfl) (.inr (.inl (by kernel_rfl)))) (am_cons (em_un un_neg r_neg em_int) (am_cons em_bl (am_cons em_non (am_cons em_str (am_cons (em_tup (am_cons em_int am_nil)) (am_cons (em_lst (am_cons em_int am_nil)) (am_cons (em_op op_pow r_pow em_int em_int) am_nil))))))))) am_nil))) (am_cons (em_f (has_L_of e) (c.room.mono (by omega)) c.tk (gl_of (by kernel_rfl)) (am_cons (em_var (i := 8) (by kernel_rfl) (.inr (.inl (by kernel_rfl)))) (am_cons (em_lst (am_cons em_int (am_cons em_int (am_cons em_int (am_cons em_int (am_cons em_int (am_cons em_int (am_cons em_bl (am_cons em_non (am_cons em_str (am_cons (em_tup (am_cons em_int am_nil)) (am_cons (em_lst (am_cons em_int am_nil)) am_nil)))))))))))) am_nil))) am_nil))) (gm_tup rfl (gsm_cons (gm_name (i := 6) sc_law.nd (by kernel_rfl) (.inr (by kernel_rfl)) (.inl (by kernel_rfl))) (gsm_cons (gm_name (i := 9) sc_law.nd (by kernel_rfl) (.inr (by kernel_rfl)) (.inl (by kernel_rfl))) gsm_nil)))) (bm_cons (sm_for c.po rfl (im_seq (em_lst (am_cons (em_fn (has_sum_of e) (gl_of (by kernel_rfl))) (am_cons (em_fn (has_difference_of e) (gl_of (by kernel_rfl))) (am_cons (em_fn (has_product_of e) (gl_of (by kernel_rfl))) am_nil))))) (gm_name (i := 7) sc_law.nd (by kernel_rfl) (.inr (by kernel_rfl)) (.inl (by kernel_rfl))) (by exact (bm_cons (sm_asg (em_lstM (am_cons (em_heard (k := 10) (hd_L_heard e) (ho_L_heard e) (lam_at e.c e.tb (by simp [tf]) (code_of F)) (gl_of (by kernel_rfl)) (c.room.mono (by omega)) (LamX.lamS_by (by kernel_rfl)) rfl (fun _ _ _ _ _ => rfl) (fun A outer s H E f c' hr => (em_v (k := 10) (tbl_law e) (hr.mono (by omega)) (takes_of rfl rfl rfl rfl) (by kernel_rfl) (.inr (.inr (by kernel_rfl))) (am_cons (em_var (i := 11) (by kernel_rfl) (.inr (.inr (by kernel_rfl)))) (am_cons (em_var (i := 10) (by kernel_rfl) (.inr (.inr (by kernel_rfl)))) (am_cons (em_var (i := 6) (by kernel_rfl) (.inr (.inr (by kernel_rfl)))) am_nil)))))) am_nil)) (gm_name (i := 5) sc_law.nd (by kernel_rfl) (.inl (by kernel_rfl)) (.inr (by kernel_rfl)))) (bm_cons (sm_expr (em_append (em_var (i := 5) (by kernel_rfl) (.inl (by kernel_rfl))) (em_heard (k := 10) (hd_L_heard e) (ho_L_heard e) (lam_at e.c e.tb (by simp [tf]) (code_of F)) (gl_of (by kernel_rfl)) (c.room.mono (by omega)) (LamX.lamS_by (by kernel_rfl)) rfl (fun _ _ _ _ _ => rfl) (fun A outer s H E f c' hr => (em_v (k := 10) (tbl_law e) (hr.mono (by omega)) (takes_of rfl rfl rfl rfl) (by kernel_rfl) (.inr (.inr (by kernel_rfl))) (am_cons (em_var (i := 11) (by kernel_rfl) (.inr (.inr (by kernel_rfl)))) (am_cons (em_var (i := 6) (by kernel_rfl) (.inr (.inr (by kernel_rfl)))) (am_cons (em_var (i := 6) (by kernel_rfl) (.inr (.inr (by kernel_rfl)))) am_nil)))))))) (bm_cons (sm_expr (em_append (em_var (i := 5) (by kernel_rfl) (.inl (by kernel_rfl))) (em_heard (k := 10) (hd_L_heard e) (ho_L_heard e) (lam_at e.c e.tb (by simp [tf]) (code_of F)) (gl_of (by kernel_rfl)) (c.room.mono (by omega)) (LamX.lamS_by (by kernel_rfl)) rfl (fun _ _ _ _ _ => rfl) (fun A outer s H E f c' hr => (em_v (k := 10) (tbl_law e) (hr.mono (by omega)) (takes_of rfl rfl rfl rfl) (by kernel_rfl) (.inr (.inr (by kernel_rfl))) (am_cons (em_var (i := 9) (by kernel_rfl) (.inr (.inr (by kernel_rfl)))) (am_cons (em_var (i := 6) (by kernel_rfl) (.inr (.inr (by kernel_rfl)))) (am_cons (em_var (i := 6) (by kernel_rfl) (.inr (.inr (by kernel_rfl)))) am_nil)))))))) (bm_frz (i := 5) (bm_one (sm_if (tm_not (tm_val (em_f (has_L_same e) (c.room.mono (by omega)) c.tk (gl_of (by kernel_rfl)) (am_cons (em_var (i := 5) (by kernel_rfl) (.inl (by kernel_rfl))) (am_cons (em_lst (am_cons (em_tup (am_cons em_str (am_cons em_int am_nil))) (am_cons (em_tup (am_cons em_str (am_cons em_int am_nil))) (am_cons (em_tup (am_cons em_str (am_cons em_int am_nil))) am_nil)))) am_nil))))) (bm_one (sm_ret em_bl)) bm_nil)))))))) (bm_cons (sm_asg (em_lstM (am_cons (em_heard (k := 10) (hd_L_heard e) (ho_L_heard e) (lam_at e.c e.tb (by simp [tf]) (code_of F)) (gl_of (by kernel_rfl)) (c.room.mono (by omega)) (LamX.lamS_by (by kernel_rfl)) rfl (fun _ _ _ _ _ => rfl) (fun A outer s H E f c' hr => (em_f (has_inverse_of e) (hr.mono (by omega)) (takes_of rfl rfl rfl rfl) (gl_of (by kernel_rfl)) (am_cons (em_var (i := 11) (by kernel_rfl) (.inr (.inr (by kernel_rfl)))) (am_cons (em_f (has_L_of e) (hr.mono (by omega)) (takes_of rfl rfl rfl rfl) (gl_of (by kernel_rfl)) (am_cons (em_var (i := 8) (by kernel_rfl) (.inr (.inr (by kernel_rfl)))) (am_cons (em_lst (am_cons em_int (am_cons (em_var (i := 6) (by kernel_rfl) (.inr (.inr (by kernel_rfl)))) am_nil))) am_nil))) am_nil))))) am_nil)) (gm_name (i := 5) sc_law.nd (by kernel_rfl) (.inl (by kernel_rfl)) (.inr (by kernel_rfl)))) (bm_cons (sm_expr (em_append (em_var (i := 5) (by kernel_rfl) (.inl (by kernel_rfl))) (em_heard (k := 10) (hd_L_heard e) (ho_L_heard e) (lam_at e.c e.tb (by simp [tf]) (code_of F)) (gl_of (by kernel_rfl)) (c.room.mono (by omega)) (LamX.lamS_by (by kernel_rfl)) rfl (fun _ _ _ _ _ => rfl) (fun A outer s H E f c' hr => (em_f (has_inverse_of e) (hr.mono (by omega)) (takes_of rfl rfl rfl rfl) (gl_of (by kernel_rfl)) (am_cons (em_var (i := 9) (by kernel_rfl) (.inr (.inr (by kernel_rfl)))) (am_cons em_int am_nil))))))) (bm_cons (sm_expr (em_append (em_var (i := 5) (by kernel_rfl) (.inl (by kernel_rfl))) (em_heard (k := 10) (hd_L_heard e) (ho_L_heard e) (lam_at e.c e.tb (by simp [tf]) (code_of F)) (gl_of (by kernel_rfl)) (c.room.mono (by omega)) (LamX.lamS_by (by kernel_rfl)) rfl (fun _ _ _ _ _ => rfl) (fun A outer s H E f c' hr => (em_f (has_power_of e) (hr.mono (by omega)) (takes_of rfl rfl rfl rfl) (gl_of (by kernel_rfl)) (am_cons (em_var (i := 11) (by kernel_rfl) (.inr (.inr (by kernel_rfl)))) (am_cons (em_var (i := 10) (by kernel_rfl) (.inr (.inr (by kernel_rfl)))) (am_cons (em_f (has_L_of e) (hr.mono (by omega)) (takes_of rfl rfl rfl rfl) (gl_of (by kernel_rfl)) (am_cons (em_var (i := 8) (by kernel_rfl) (.inr (.inr (by kernel_rfl)))) (am_cons (em_lst (am_cons (em_op op_pow r_pow em_int em_int) (am_cons (em_un un_neg r_neg em_int) (am_cons em_non (am_cons em_bl (am_cons em_str am_nil)))))) am_nil))) am_nil)))))))) (bm_cons (sm_expr (em_append (em_var (i := 5) (by kernel_rfl) (.inl (by kernel_rfl))) (em_heard (k := 10) (hd_L_heard e) (ho_L_heard e) (lam_at e.c e.tb (by simp [tf]) (code_of F)) (gl_of (by kernel_rfl)) (c.room.mono (by omega)) (LamX.lamS_by (by kernel_rfl)) rfl (fun _ _ _ _ _ => rfl) (fun A outer s H E f c' hr => (em_f (has_power_of e) (hr.mono (by omega)) (takes_of rfl rfl rfl rfl) (gl_of (by kernel_rfl)) (am_cons (em_var (i := 11) (by kernel_rfl) (.inr (.inr (by kernel_rfl)))) (am_cons (em_var (i := 6) (by kernel_rfl) (.inr (.inr (by kernel_rfl)))) (am_cons em_non am_nil)))))))) (bm_cons (sm_expr (em_append (em_var (i := 5) (by kernel_rfl) (.inl (by kernel_rfl))) (em_heard (k := 10) (hd_L_heard e) (ho_L_heard e) (lam_at e.c e.tb (by simp [tf]) (code_of F)) (gl_of (by kernel_rfl)) (c.room.mono (by omega)) (LamX.lamS_by (by kernel_rfl)) rfl (fun _ _ _ _ _ => rfl) (fun A outer s H E f c' hr => (em_f (has_power_of e) (hr.mono (by omega)) (takes_of rfl rfl rfl rfl) (gl_of (by kernel_rfl)) (am_cons (em_var (i := 9) (by kernel_rfl) (.inr (.inr (by kernel_rfl)))) (am_cons (em_var (i := 6) (by kernel_rfl) (.inr (.inr (by kernel_rfl)))) (am_cons em_non am_nil)))))))) (bm_frz (i := 5) (bm_one (sm_if (tm_not (tm_val (em_f (has_L_same e) (c.room.mono (by omega)) c.tk (gl_of (by kernel_rfl)) (am_cons (em_var (i := 5) (by kernel_rfl) (.inl (by kernel_rfl))) (am_cons (em_lst (am_cons (em_tup (am_cons em_str (am_cons em_int am_nil))) (am_cons (em_tup (am_cons em_str (am_cons em_int am_nil))) (am_cons (em_tup (am_cons em_str (am_cons em_int am_nil))) (am_cons (em_tup (am_cons em_str (am_cons em_int am_nil))) (am_cons (em_tup (am_cons em_str (am_cons em_int am_nil))) am_nil)))))) am_nil))))) (bm_one (sm_ret em_bl)) bm_nil))))))))))))))))) (bm_one (sm_ret em_bl))))))
theorem has_law (e : CtxL w K mg base h) : Has (tabs K tf) prog w K mg base 13 "law" 1 [] m_law := by
  obtain ⟨fd, F, FO⟩ := fm_law e
  exact ⟨_, fd, _, [], [], FO, glo_law e, F.kp, FunD.bindsN F (fun _ _ _ _ _ _ us hl => match us, hl with | [_], _ => rfl), .nil, fun _ _ => .nil, rfl⟩
end
theorem law_at {w : World} {K : Frag} {mg : Str → Option Value} {f : Addr} {h : Heap} (kx : K.In h) (gn : h.Ns mainGlobals mg) (hf : mg "law" = some (.ref f)) (c : SaysM prog fa fn ins tf ex h K)
    (yes : ∀ ns : List Int, ns.length ≤ 63 → (∀ z ∈ ns, Builtin.Int.intBits z ≤ 1048576) → ∀ d : D, d = .lst (ns.map .int) ∨ d = .ro (ns.map .int) → ∃ μ, m_law [d] [] = some (.ok (.bl true) μ)) : LamX.LawAtS PySem.Challenge.rw_dealtoncurves_k01_whole_numbers_by_a_pri w K (L2.CX prog w) 13 63 "script" mg f h := by
  obtain ⟨fd, F⟩ := c.d.def_ 24 (d := d_law) rfl
  have eg := He.glo_ok kx gn (c.d.fact 24 (f := .glo "law") rfl)
  have ef : f = He.ga K "law" := by
    rw [hf] at eg
    cases eg
    rfl
  subst ef
  refine lawAt_of (fd := fd) (F := m_law) kx c (fun s u => FunD.bindsA (ps := ["script"]) F (fun _ _ _ _ _ _ us hl => match us, hl with | [_], _ => rfl) s [u] rfl) (fun base hk hg tb => ?_) yes
  obtain ⟨fd2, F2, FO⟩ := fm_law (w := w) (base := base) ⟨kx, gn, c, tb⟩
  have e1 : fd = fd2 := by
    obtain ⟨_, _, _, _, _, _, _, _, _, _, _, l1, _⟩ := F.ex
    obtain ⟨_, _, _, _, _, _, _, _, _, _, _, l2, _⟩ := F2.ex
    have l3 := l1.symm.trans l2
    cases l3
    rfl
  subst e1
  exact FO
end K01

set_option Elab.async false
set_option linter.all false
set_option maxRecDepth 100000
set_option maxHeartbeats 4000000
/-! K01B: what the defs of k01 tell -/
namespace K01
open PySem MV LawC L2
def P25 : List Int := [2, 3, 5, 7, 11, 13, 17, 19, 23, 29, 31, 37, 41, 43, 47, 53, 59, 61, 67, 71, 73, 79, 83, 89, 97]
theorem gd_is : gd_PRIMES = .tup (P25.map .int) := rfl
theorem isint_int {i : Int} {μ : Mu} : m_is_integer [.int i] μ = some (.ok (.bl true) μ) := by
  simp [m_is_integer, mFn_ev, b_is_integer, isi_ev, mVar_ev, kdOf]
theorem isint_no {d : D} {q : Kd} {μ : Mu} (h : kdOf d μ = some q) (hq : q ≠ .int) : m_is_integer [d] μ = some (.ok (.bl false) μ) := by
  cases q <;> first | exact absurd rfl hq | simp [m_is_integer, mFn_ev, b_is_integer, isi_ev, mVar_ev, h]
theorem isix_int {i k : Int} {μ : Mu} : m_is_index [.int i, .int k] μ = some (.ok (.bl (decide (0 ≤ i) && decide (i < k))) μ) := by
  by_cases h0 : 0 ≤ i <;> simp [m_is_index, mFn_ev, b_is_index, mVar_ev, isint_int, h0]
theorem isix_no {d e : D} {q : Kd} {μ : Mu} (h : kdOf d μ = some q) (hq : q ≠ .int) : m_is_index [d, e] μ = some (.ok (.bl false) μ) := by
  simp [m_is_index, mFn_ev, b_is_index, mVar_ev, isint_no h hq]
theorem last_prime {μ : Mu} : dIx gd_PRIMES (.int (-1)) μ = some (.int 97) := rfl
theorem told_int {i : Int} {μ : Mu} : m_is_prime_told [.int i] μ = some (.ok (.bl (P25.contains i)) μ) := by
  have e : P25.contains i = (decide (0 ≤ i) && decide (i < 98) && P25.contains i) := by
    cases h : P25.contains i with
    | false => simp
    | true =>
      have hm : i ∈ P25 := by simpa using h
      have : 0 ≤ i ∧ i < 98 := (by decide : ∀ x ∈ P25, 0 ≤ x ∧ x < 98) i hm
      simp [this.1, this.2]
  rw [e]
  by_cases h1 : 0 ≤ i <;> by_cases h2 : i < 98 <;> simp [m_is_prime_told, mFn_ev, b_is_prime_told, mVar_ev, last_prime, isix_int, h1, h2, in_ints gd_PRIMES (.inl gd_is)]
theorem told_no {d : D} {q : Kd} {μ : Mu} (h : kdOf d μ = some q) (hq : q ≠ .int) : m_is_prime_told [d] μ = some (.ok (.bl false) μ) := by
  simp [m_is_prime_told, mFn_ev, b_is_prime_told, mVar_ev, last_prime, isix_no h hq]
theorem cp_ok {p : Int} {a : D} {μ : Mu} (h : p ∈ P25) : m_checked_prime [.int p, a] μ = some (.ok .non μ) := by
  simp [m_checked_prime, mFn_ev, b_checked_prime, mVar_ev, told_int, h]
/-- what is no prime that is told -/
def oddP (d : D) (μ : Mu) : Prop := (∃ i, d = .int i ∧ i ∉ P25) ∨ ∃ q, kdOf d μ = some q ∧ q ≠ .int
theorem cp_no {d a : D} {μ : Mu} (h : oddP d μ) : m_checked_prime [d, a] μ = some (.ex "InvalidQuestion" (some a) μ) := by
  rcases h with ⟨i, e, h⟩ | ⟨q, h, hq⟩
  · subst e
    simp [m_checked_prime, mFn_ev, b_checked_prime, mVar_ev, told_int, h]
  · simp [m_checked_prime, mFn_ev, b_checked_prime, mVar_ev, told_no h hq]
theorem cn_ok {p i : Int} {a : D} {μ : Mu} (h0 : 0 ≤ i) (h1 : i < p) : m_checked_number [.int p, .int i, a] μ = some (.ok .non μ) := by
  simp [m_checked_number, mFn_ev, b_checked_number, mVar_ev, isix_int, h0, h1]
/-- what is no number below p -/
def oddN (p : Int) (d : D) (μ : Mu) : Prop := (∃ i, d = .int i ∧ ¬ (0 ≤ i ∧ i < p)) ∨ ∃ q, kdOf d μ = some q ∧ q ≠ .int
theorem cn_no {p : Int} {d a : D} {μ : Mu} (h : oddN p d μ) : m_checked_number [.int p, d, a] μ = some (.ex "InvalidQuestion" (some a) μ) := by
  rcases h with ⟨i, e, h⟩ | ⟨q, h, hq⟩
  · subst e
    have e : (decide (0 ≤ i) && decide (i < p)) = false := by
      by_cases h0 : 0 ≤ i
      · have : ¬ i < p := fun z => h ⟨h0, z⟩
        simp [this]
      · simp [h0]
    simp [m_checked_number, mFn_ev, b_checked_number, mVar_ev, isix_int, e]
  · simp [m_checked_number, mFn_ev, b_checked_number, mVar_ev, isix_no h hq]
section
variable {p a b : Int} {μ : Mu} (hp : p ∈ P25) (ha : 0 ≤ a ∧ a < p) (hb : 0 ≤ b ∧ b < p)
theorem P25_pos {p : Int} (hp : p ∈ P25) : 1 < p ∧ p < 98 := (by decide : ∀ x ∈ P25, 1 < x ∧ x < 98) p hp
include hp ha hb
theorem sum_is : m_sum_of [.int p, .int a, .int b] μ = some (.ok (.int ((a + b) % p)) μ) := by
  have h := P25_pos hp
  simp [m_sum_of, mFn_ev, b_sum_of, mVar_ev, cp_ok hp, cn_ok ha.1 ha.2, cn_ok hb.1 hb.2, mod_int (show 0 < p by omega)]
theorem diff_is : m_difference_of [.int p, .int a, .int b] μ = some (.ok (.int ((a - b) % p)) μ) := by
  have h := P25_pos hp
  simp [m_difference_of, mFn_ev, b_difference_of, mVar_ev, cp_ok hp, cn_ok ha.1 ha.2, cn_ok hb.1 hb.2, mod_int (show 0 < p by omega)]
theorem prod_is : m_product_of [.int p, .int a, .int b] μ = some (.ok (.int (a * b % p)) μ) := by
  have h := P25_pos hp
  have hs : smallI b = true := small_of (by omega) (by omega)
  simp [m_product_of, mFn_ev, b_product_of, mVar_ev, cp_ok hp, cn_ok ha.1 ha.2, cn_ok hb.1 hb.2, mul_right hs, mod_int (show 0 < p by omega)]
end
/-! ### powers -/
theorem pow_loop {p : Int} {nm mn : D} {μ : Mu} (hp : 1 < p ∧ p < 98) : ∀ (k : Nat) (f b n : Int), n.toNat ≤ k → 0 ≤ f ∧ f < p → 0 ≤ b ∧ b < p → 0 ≤ n →
    ∃ x y : D, sWhile (mOp iGt (mVar 5) (mC (.int 0))) b_power_by_W1 [some (.int p), some nm, some mn, some (.int f), some (.int b), some (.int n)] μ = some (.nx [some (.int p), some nm, some mn, some (.int (f * b ^ n.toNat % p)), some x, some y] μ) := by
  intro k
  have base : ∀ (f b n : Int), n = 0 → 0 ≤ f ∧ f < p → ∃ x y : D, sWhile (mOp iGt (mVar 5) (mC (.int 0))) b_power_by_W1 [some (.int p), some nm, some mn, some (.int f), some (.int b), some (.int n)] μ = some (.nx [some (.int p), some nm, some mn, some (.int (f * b ^ n.toNat % p)), some x, some y] μ) := fun f b n e hf => by
    subst e
    refine ⟨.int b, .int 0, ?_⟩
    have e2 : f % p = f := Int.emod_eq_of_lt hf.1 hf.2
    rw [while_ev]
    simp [mVar_ev, e2]
  induction k with
  | zero => exact fun f b n hn hf hb h0 => base f b n (by omega) hf
  | succ k ih =>
    intro f b n hn hf hb h0
    by_cases hz : n = 0
    · exact base f b n hz hf
    · have pos : decide (0 < n) = true := decide_eq_true (by omega)
      have sb : smallI b = true := small_of (by omega) (by omega)
      have pp : 0 < p := by omega
      have p2 : (0 : Int) < 2 := by decide
      have b2 : (2 : Int) < bigI := by decide
      have hb' : 0 ≤ b * b % p ∧ b * b % p < p := ⟨Int.emod_nonneg _ (by omega), Int.emod_lt_of_pos _ pp⟩
      have test : mOp iGt (mVar 5) (mC (.int 0)) [some (.int p), some nm, some mn, some (.int f), some (.int b), some (.int n)] μ = some (.ok (.bl true) μ) := by
        simp only [mOp_ev, mVar_ev, mC_ev, List.getElem?_cons_succ, List.getElem?_cons_zero, bindO_ok, cmp_int, pos, retV_some]
      have par : ∀ g : Int, sPar 4 5 (mOp iMod (mOp iMul (mVar 4) (mVar 4)) (mVar 0)) (mOp iDiv (mVar 5) (mC (.int 2))) [some (.int p), some nm, some mn, some (.int g), some (.int b), some (.int n)] μ = some (.nx [some (.int p), some nm, some mn, some (.int g), some (.int (b * b % p)), some (.int (n / 2))] μ) := fun g => by
        simp only [sPar_ev, aCons_ev, aNil_ev, mOp_ev, mVar_ev, mC_ev, List.getElem?_cons_succ, List.getElem?_cons_zero, bindO_ok, bindOA_ok, bindAA_ok, mul_right sb, mod_int pp, div_int p2 b2, retV_some, parK_ok]
        rfl
      rcases (show n % 2 = 0 ∨ n % 2 = 1 by omega) with even | odd
      · obtain ⟨x, y, e⟩ := ih f (b * b % p) (n / 2) (by omega) hf hb' (by omega)
        refine ⟨x, y, ?_⟩
        have step : b_power_by_W1 [some (.int p), some nm, some mn, some (.int f), some (.int b), some (.int n)] μ = some (.nx [some (.int p), some nm, some mn, some (.int f), some (.int (b * b % p)), some (.int (n / 2))] μ) := by
          simp only [b_power_by_W1, sSeq_ev, sIf_ev, mOp_ev, mVar_ev, mC_ev, List.getElem?_cons_succ, List.getElem?_cons_zero, bindO_ok, mod_int p2, retV_some, even, eq_int, bindS_ok, show ((0 : Int) == 1) = false from rfl, ifS_f, sNext_ev, seqK_nx, par]
        have val : f * (b * b % p) ^ (n / 2).toNat % p = f * b ^ n.toNat % p := by
          rw [Int.mul_emod, pow_mod, sq_pow, ← Int.mul_emod]
          have : 2 * (n / 2).toNat = n.toNat := by omega
          rw [this]
        rw [while_ev, test, whK_t, step, whB_nx, e, val]
      · have hf' : 0 ≤ f * b % p ∧ f * b % p < p := ⟨Int.emod_nonneg _ (by omega), Int.emod_lt_of_pos _ pp⟩
        obtain ⟨x, y, e⟩ := ih (f * b % p) (b * b % p) (n / 2) (by omega) hf' hb' (by omega)
        refine ⟨x, y, ?_⟩
        have step : b_power_by_W1 [some (.int p), some nm, some mn, some (.int f), some (.int b), some (.int n)] μ = some (.nx [some (.int p), some nm, some mn, some (.int (f * b % p)), some (.int (b * b % p)), some (.int (n / 2))] μ) := by
          simp only [b_power_by_W1, sSeq_ev, sIf_ev, mOp_ev, mVar_ev, mC_ev, List.getElem?_cons_succ, List.getElem?_cons_zero, bindO_ok, mod_int p2, retV_some, odd, eq_int, bindS_ok, show ((1 : Int) == 1) = true from rfl, ifS_t, sAsg_ev, mul_right sb, mod_int pp, asgK_n, seqK_nx, List.set_cons_succ, List.set_cons_zero, par]
        have val : f * b % p * (b * b % p) ^ (n / 2).toNat % p = f * b ^ n.toNat % p := by
          rw [Int.mul_emod, pow_mod, sq_pow, Int.emod_emod_of_dvd _ (Int.dvd_refl p), ← Int.mul_emod, Int.mul_assoc, ← Int.pow_succ']
          have : 2 * (n / 2).toNat + 1 = n.toNat := by omega
          rw [this]
        rw [while_ev, test, whK_t, step, whB_nx, e, val]
theorem pow_by {p a n : Int} {μ : Mu} (hp : 1 < p ∧ p < 98) (ha : 0 ≤ a ∧ a < p) (hn : 0 ≤ n) : m_power_by [.int p, .int a, .int n] μ = some (.ok (.int (a ^ n.toNat % p)) μ) := by
  have pp : 0 < p := by omega
  obtain ⟨x, y, e⟩ := pow_loop (nm := .int a) (mn := .int n) (μ := μ) hp n.toNat (1 % p) a n (Nat.le_refl _) ⟨Int.emod_nonneg _ (by omega), Int.emod_lt_of_pos _ pp⟩ ha hn
  have val : 1 % p * a ^ n.toNat % p = a ^ n.toNat % p := by rw [mul_mod_left, Int.one_mul]
  rw [val] at e
  simp [m_power_by, mFn_ev, b_power_by, sPar3_ev, mVar_ev, mod_int pp, e]
section
variable {p a : Int} {μ : Mu}
theorem most_is : gd_MOST_POWER = .int (10 ^ 30) := rfl
theorem power_is {n : Int} (hp : p ∈ P25) (ha : 0 ≤ a ∧ a < p) (hn : 0 ≤ n ∧ n < 10 ^ 30) : m_power_of [.int p, .int a, .int n] μ = some (.ok (.int (a ^ n.toNat % p)) μ) := by
  have h2 : n < 1000000000000000000000000000000 := hn.2
  simp [m_power_of, mFn_ev, b_power_of, mVar_ev, cp_ok hp, cn_ok ha.1 ha.2, most_is, isix_int, hn.1, h2, pow_by (P25_pos hp) ha hn.1]
theorem power_no2 {d : D} (hp : p ∈ P25) (ha : 0 ≤ a ∧ a < p) (hn : oddN (10 ^ 30) d μ) : m_power_of [.int p, .int a, d] μ = some (.ex "InvalidQuestion" (some (.int 2)) μ) := by
  have e : m_is_index [d, .int (10 ^ 30)] μ = some (.ok (.bl false) μ) := by
    rcases hn with ⟨i, e, h⟩ | ⟨q, h, hq⟩
    · subst e
      rw [isix_int]
      have : (decide (0 ≤ i) && decide (i < 10 ^ 30)) = false := by
        by_cases h0 : 0 ≤ i
        · have : ¬ i < 10 ^ 30 := fun z => h ⟨h0, z⟩
          simp only [decide_eq_false this, Bool.and_false]
        · simp only [decide_eq_false h0, Bool.false_and]
      rw [this]
    · exact isix_no h hq
  have e' : m_is_index [d, .int 1000000000000000000000000000000] μ = some (.ok (.bl false) μ) := e
  simp [m_power_of, mFn_ev, b_power_of, mVar_ev, cp_ok hp, cn_ok ha.1 ha.2, most_is, e']
theorem power_no1 {d e : D} (hp : p ∈ P25) (hd : oddN p d μ) : m_power_of [.int p, d, e] μ = some (.ex "InvalidQuestion" (some (.int 1)) μ) := by
  simp [m_power_of, mFn_ev, b_power_of, mVar_ev, cp_ok hp, cn_no hd]
theorem power_no0 {q d e : D} (hp : oddP q μ) : m_power_of [q, d, e] μ = some (.ex "InvalidQuestion" (some (.int 0)) μ) := by
  simp [m_power_of, mFn_ev, b_power_of, mVar_ev, cp_no hp]
/-- the inverse -/
def invI (p a : Int) : Int := if 2 < p then a ^ (p - 2).toNat % p else 1
theorem inv_by (hp : p ∈ P25) (ha : 0 ≤ a ∧ a < p) : m_inverse_by [.int p, .int a] μ = some (.ok (.int (invI p a)) μ) := by
  have h := P25_pos hp
  unfold invI
  by_cases h2 : 2 < p
  · simp [m_inverse_by, mFn_ev, b_inverse_by, mVar_ev, h2, pow_by (n := p - 2) h ha (by omega)]
  · simp [m_inverse_by, mFn_ev, b_inverse_by, mVar_ev, h2]
theorem inv_is (hp : p ∈ P25) (ha : 0 < a ∧ a < p) : m_inverse_of [.int p, .int a] μ = some (.ok (.int (invI p a)) μ) := by
  have h0 : (a == 0) = false := beq_eq_false_iff_ne.mpr (by omega)
  have h1 : 0 ≤ a := by omega
  simp [m_inverse_of, mFn_ev, b_inverse_of, mVar_ev, cp_ok hp, isix_int, h1, ha.2, h0, inv_by hp ⟨h1, ha.2⟩]
theorem inv_no1 {d : D} (hp : p ∈ P25) (hd : oddN p d μ ∨ d = .int 0) : m_inverse_of [.int p, d] μ = some (.ex "InvalidQuestion" (some (.int 1)) μ) := by
  have h := P25_pos hp
  have h2 : 0 < p := by omega
  rcases hd with hd | e
  · have e : m_is_index [d, .int p] μ = some (.ok (.bl false) μ) := by
      rcases hd with ⟨i, e, h⟩ | ⟨q, h, hq⟩
      · subst e
        rw [isix_int]
        have : (decide (0 ≤ i) && decide (i < p)) = false := by
          by_cases h0 : 0 ≤ i
          · have : ¬ i < p := fun z => h ⟨h0, z⟩
            simp [this]
          · simp [h0]
        rw [this]
      · exact isix_no h hq
    simp [m_inverse_of, mFn_ev, b_inverse_of, mVar_ev, cp_ok hp, e]
  · subst e
    simp [m_inverse_of, mFn_ev, b_inverse_of, mVar_ev, cp_ok hp, isix_int, h2]
theorem inv_no0 {q d : D} (hp : oddP q μ) : m_inverse_of [q, d] μ = some (.ex "InvalidQuestion" (some (.int 0)) μ) := by
  simp [m_inverse_of, mFn_ev, b_inverse_of, mVar_ev, cp_no hp]
end
/-! ### the law's own powers -/
/-- n's figures by 2, the last first -/
def bits : Nat → Int → List Int
  | 0, _ => []
  | k + 1, n => if 0 < n then n % 2 :: bits k (n / 2) else []
def valB : List Int → Nat
  | [] => 0
  | b :: r => b.toNat + 2 * valB r
theorem bits_len : ∀ (k : Nat) (n : Int), (bits k n).length ≤ k
  | 0, _ => Nat.le_refl 0
  | k + 1, n => by
    unfold bits
    split
    · rw [List.length_cons]
      exact Nat.succ_le_succ (bits_len k _)
    · simp
theorem bits_01 : ∀ (k : Nat) (n : Int), ∀ b ∈ bits k n, b = 0 ∨ b = 1
  | 0, _, b, h => by cases h
  | k + 1, n, b, h => by
    unfold bits at h
    split at h
    · rcases List.mem_cons.mp h with e | e
      · omega
      · exact bits_01 k _ b e
    · cases h
theorem bits_val : ∀ (k : Nat) (n : Int), 0 ≤ n → n.toNat < 2 ^ k → valB (bits k n) = n.toNat
  | 0, n, h0, h => by
    have : n.toNat = 0 := by simpa using h
    rw [this]
    rfl
  | k + 1, n, h0, h => by
    unfold bits
    split
    · rw [valB, bits_val k (n / 2) (by omega) (by rw [Nat.pow_succ] at h; omega)]
      omega
    · have : n = 0 := by omega
      subst this
      rfl
theorem fig_loop {p a n0 f : D} {q : Nat} {z : Option D} : ∀ (k : Nat) (n : Int) (fs : List Int) (μ : Mu), 0 ≤ n → n.toNat < 2 ^ k → fs.length + k < lineS → μ[q]? = some (some (.lst (fs.map .int))) →
    sWhile (mOp iGt (mVar 5) (mC (.int 0))) b_L_power_W1 [some p, some a, some n0, some f, some (.ob q), some (.int n), z] μ = some (.nx [some p, some a, some n0, some f, some (.ob q), some (.int 0), z] (μ.set q (some (.lst ((fs ++ bits k n).map .int))))) := by
  intro k
  induction k with
  | zero =>
    intro n fs μ h0 hn hl hq
    have e : n = 0 := by
      have : n.toNat < 1 := by simpa using hn
      omega
    subst e
    rw [while_ev]
    have : bits 0 0 = [] := rfl
    simp [mVar_ev, this]
    exact (set_same hq).symm
  | succ k ih =>
    intro n fs μ h0 hn hl hq
    by_cases hz : n = 0
    · subst hz
      rw [while_ev]
      have : bits (k + 1) 0 = [] := rfl
      simp [mVar_ev, this]
      exact (set_same hq).symm
    · have pos : decide (0 < n) = true := decide_eq_true (by omega)
      have hb : bits (k + 1) n = n % 2 :: bits k (n / 2) := by
        have h2 : 0 < n := by omega
        show (if 0 < n then n % 2 :: bits k (n / 2) else []) = _
        rw [if_pos h2]
      have p2 : (0 : Int) < 2 := by decide
      have b2 : (2 : Int) < bigI := by decide
      have test : mOp iGt (mVar 5) (mC (.int 0)) [some p, some a, some n0, some f, some (.ob q), some (.int n), z] μ = some (.ok (.bl true) μ) := by
        simp only [mOp_ev, mVar_ev, mC_ev, List.getElem?_cons_succ, List.getElem?_cons_zero, bindO_ok, cmp_int, pos, retV_some]
      have ap : fAppend (.ob q) [.int (n % 2)] μ = some (.non, μ.set q (some (.lst ((fs ++ [n % 2]).map .int)))) := by
        rw [append_ob hq (by rw [List.length_map]; omega), List.map_append]
        rfl
      have step : b_L_power_W1 [some p, some a, some n0, some f, some (.ob q), some (.int n), z] μ = some (.nx [some p, some a, some n0, some f, some (.ob q), some (.int (n / 2)), z] (μ.set q (some (.lst ((fs ++ [n % 2]).map .int))))) := by
        simp only [b_L_power_W1, sSeq_ev, sDrop_ev, meth_ev, mVar_ev, mC_ev, aCons_ev, aNil_ev, mOp_ev, List.getElem?_cons_succ, List.getElem?_cons_zero, bindO_ok, ty_ob hq, if_true, bindOA_ok, bindAA_ok, bindA_ok, mod_int p2, retV_some, methK, ap, bindS_ok, seqK_nx, sAsg_ev, div_int p2 b2, asgK_n, List.set_cons_succ, List.set_cons_zero]
      have hq2 : (μ.set q (some (.lst ((fs ++ [n % 2]).map .int))))[q]? = some (some (.lst ((fs ++ [n % 2]).map .int))) := get_set_eq hq
      have e := ih (n / 2) (fs ++ [n % 2]) _ (by omega) (by rw [Nat.pow_succ] at hn; omega) (by rw [List.length_append, List.length_singleton]; omega) hq2
      rw [while_ev, test, whK_t, step, whB_nx, e, hb]
      simp
/-- the same from the first on -/
def upB (e : Nat) (l : List Int) : Nat := l.foldl (fun e b => 2 * e + b.toNat) e
theorem upB_rev (l : List Int) : upB 0 l.reverse = valB l := by
  unfold upB
  rw [List.foldl_reverse]
  induction l with
  | nil => rfl
  | cons b l ih =>
    rw [List.foldr_cons, ih, valB]
    omega
theorem raise_loop {p a : Int} {n0 : D} {fs l0 : D} {μ : Mu} (hp : 1 < p ∧ p < 98) (ha : 0 ≤ a ∧ a < p) : ∀ (l : List Int), (∀ b ∈ l, b = 0 ∨ b = 1) → ∀ (z : Option D) (e : Nat),
    ∃ z' : Option D, forLoop (gN 6) b_L_power_F2 (l.map .int) [some (.int p), some (.int a), some n0, some (.int (a ^ e % p)), some fs, some l0, z] μ = some (.nx [some (.int p), some (.int a), some n0, some (.int (a ^ upB e l % p)), some fs, some l0, z'] μ)
  | [], _, z, e => ⟨z, rfl⟩
  | b :: l, h, z, e => by
    have pp : 0 < p := by omega
    have r1 : 0 ≤ a ^ e % p ∧ a ^ e % p < p := ⟨Int.emod_nonneg _ (by omega), Int.emod_lt_of_pos _ pp⟩
    have s1 : smallI (a ^ e % p) = true := small_of (by omega) (by omega)
    have s2 : smallI a = true := small_of (by omega) (by omega)
    have sq : (a ^ e % p) * (a ^ e % p) % p = a ^ (2 * e) % p := by
      rw [mul_mod_left, mul_mod_right, ← sq_pow, Int.mul_pow]
    rcases h b (List.mem_cons_self ..) with e0 | e1
    · subst e0
      have step : b_L_power_F2 [some (.int p), some (.int a), some n0, some (.int (a ^ e % p)), some fs, some l0, some (.int 0)] μ = some (.nx [some (.int p), some (.int a), some n0, some (.int (a ^ (2 * e) % p)), some fs, some l0, some (.int 0)] μ) := by
        simp [b_L_power_F2, mVar_ev, mul_right s1, mod_int pp, sq]
      obtain ⟨z', q⟩ := raise_loop hp ha l (fun x hx => h x (List.mem_cons_of_mem _ hx)) (some (.int 0)) (2 * e)
      exact ⟨z', (for_cons step).trans q⟩
    · subst e1
      have m : a ^ (2 * e) % p * a % p = a ^ (2 * e + 1) % p := by rw [mul_mod_left, ← Int.pow_succ]
      have step : b_L_power_F2 [some (.int p), some (.int a), some n0, some (.int (a ^ e % p)), some fs, some l0, some (.int 1)] μ = some (.nx [some (.int p), some (.int a), some n0, some (.int (a ^ (2 * e + 1) % p)), some fs, some l0, some (.int 1)] μ) := by
        simp [b_L_power_F2, mVar_ev, mul_right s1, mul_right s2, mod_int pp, sq, m]
      obtain ⟨z', q⟩ := raise_loop hp ha l (fun x hx => h x (List.mem_cons_of_mem _ hx)) (some (.int 1)) (2 * e + 1)
      exact ⟨z', (for_cons step).trans q⟩
theorem lpower_is {p a n : Int} {μ : Mu} (hp : 1 < p ∧ p < 98) (ha : 0 ≤ a ∧ a < p) (hn : 0 ≤ n) (hn2 : n.toNat < 2 ^ 1000) : m_L_power [.int p, .int a, .int n] μ = some (.ok (.int (a ^ n.toNat % p)) (μ ++ [none])) := by
  have pp : 0 < p := by omega
  have hq : (μ ++ [some (MO.lst (([] : List Int).map .int))])[μ.length]? = some (some (.lst (([] : List Int).map .int))) := by simp
  have l1 := fig_loop (p := .int p) (a := .int a) (n0 := .int n) (f := .int (1 % p)) (q := μ.length) (z := none) 1000 n [] _ hn hn2 (by unfold lineS; simp) hq
  rw [List.nil_append] at l1
  have hset : (μ ++ [some (MO.lst (([] : List Int).map .int))]).set μ.length (some (.lst ((bits 1000 n).map .int))) = μ ++ [some (.lst ((bits 1000 n).map .int))] := by
    rw [List.set_append_right _ _ (Nat.le_refl _)]
    simp
  rw [hset] at l1
  have hget : (μ ++ [some (MO.lst ((bits 1000 n).map .int))])[μ.length]? = some (some (.lst ((bits 1000 n).map .int))) := by simp
  have hset2 : (μ ++ [some (MO.lst ((bits 1000 n).map .int))]).set μ.length none = μ ++ [none] := by
    rw [List.set_append_right _ _ (Nat.le_refl _)]
    simp
  obtain ⟨z', e⟩ := raise_loop (n0 := .int n) (fs := .lst ((bits 1000 n).map .int)) (l0 := .int 0) (μ := μ ++ [none]) hp ha (bits 1000 n).reverse (fun b hb => bits_01 1000 n b (List.mem_reverse.mp hb)) none 0
  rw [upB_rev, bits_val 1000 n hn hn2, Int.pow_zero] at e
  have first : sPar3 3 4 5 (mOp iMod (mC (.int 1)) (mVar 0)) (mLstM aNil) (mVar 2) [some (.int p), some (.int a), some (.int n), none, none, none, none] μ = some (.nx [some (.int p), some (.int a), some (.int n), some (.int (1 % p)), some (.ob μ.length), some (.int n), none] (μ ++ [some (.lst [])])) := by
    simp [sPar3_ev, mVar_ev, mod_int pp, lineS]
  have frz := frz_ev (i := 4) (n := μ.length) (ρ := [some (.int p), some (.int a), some (.int n), some (.int (1 % p)), some (.ob μ.length), some (.int 0), none]) (b := sSeq (sFor (iSeq (mRev (mVar 4))) (gN 6) b_L_power_F2) (sRet (mVar 3))) rfl hget
  simp only [m_L_power, mFn_ev, b_L_power, List.map_cons, List.map_nil, List.length_cons, List.length_nil, sSeq_ev]
  simp only [show List.replicate (7 - (0 + 1 + 1 + 1)) (none : Option D) = [none, none, none, none] from rfl, List.cons_append, List.nil_append, first, seqK_nx, List.map_nil] at l1 ⊢
  rw [sSeq_ev, l1, seqK_nx, frz, hset2]
  simp only [List.set_cons_succ, List.set_cons_zero, sSeq_ev, sFor_ev, iSeq_ev, mRev_ev, mVar_ev, List.getElem?_cons_succ, List.getElem?_cons_zero, bindO_ok, revK_lst, bindOA_ok, seqI_lst, forK_ok]
  rw [← List.map_reverse, e]
  simp [mVar_ev]
end K01

set_option Elab.async false
set_option linter.all false
set_option maxRecDepth 100000
set_option maxHeartbeats 4000000
/-! K01C: the helpers of k01 -/
namespace K01
open PySem MV LawC L2
theorem lisint_int {i : Int} {μ : Mu} : m_L_is_int [.int i] μ = some (.ok (.bl true) μ) := by
  simp [m_L_is_int, mFn_ev, b_L_is_int, isi_ev, mVar_ev, kdOf]
theorem lisint_no {d : D} {q : Kd} {μ : Mu} (h : kdOf d μ = some q) (hq : q ≠ .int) : m_L_is_int [d] μ = some (.ok (.bl false) μ) := by
  cases q <;> first | exact absurd rfl hq | simp [m_L_is_int, mFn_ev, b_L_is_int, isi_ev, mVar_ev, h]
theorem primes_are {μ : Mu} : m_L_primes [] μ = some (.ok (.lst (P25.map .int)) μ) := rfl
theorem pair_is {p a b : Int} {μ : Mu} (hp : p ∈ P25) (ha : 0 ≤ a ∧ a < p) (hb : 0 ≤ b ∧ b < p) : m_L_pair_right [.int p, .int a, .int b] μ = some (.ok (.bl true) μ) := by
  have h := P25_pos hp
  have pp : 0 < p := by omega
  have sb : smallI b = true := small_of (by omega) (by omega)
  have d1 : (a - b) % p = (a + p - b) % p := by
    rw [show a + p - b = (a - b) + p by omega, Int.add_emod_right]
  have hd : 0 ≤ (a - b) % p ∧ (a - b) % p < p := ⟨Int.emod_nonneg _ (by omega), Int.emod_lt_of_pos _ pp⟩
  have back : ((a - b) % p + b) % p = a := by
    rw [Int.emod_add_emod, show a - b + b = a by omega]
    exact Int.emod_eq_of_lt ha.1 ha.2
  have s1 : m_L_same 8 [.lst [.int ((a + b) % p), .int ((a - b) % p), .int (a * b % p)], .lst [.int ((a + b) % p), .int ((a - b) % p), .int (a * b % p)]] μ = some (.ok (.bl true) μ) := same_refl 7 _ rfl
  have s2 : m_L_same 8 [.int a, .int a] μ = some (.ok (.bl true) μ) := same_refl 7 _ rfl
  have i1 : dIx (.lst [.int ((a + b) % p), .int ((a - b) % p), .int (a * b % p)]) (.int 1) μ = some (.int ((a - b) % p)) := rfl
  simp [m_L_pair_right, mFn_ev, b_L_pair_right, mVar_ev, sum_is hp ha hb, diff_is hp ha hb, prod_is hp ha hb, lineS, mod_int pp, mul_right sb, ← d1, s1, i1, sum_is hp hd hb, back, s2]
theorem rangeD_eq (n : Nat) : rangeD 0 n = (List.range n).map fun i => D.int (i : Nat) := by
  unfold rangeD
  simp
/-- the least number that makes 1 -/
def firstInv (p a : Int) : Option Int := ((List.range p.toNat).map fun i : Nat => (i : Int)).find? fun i => i * a % p == 1
theorem inv_table : ∀ p ∈ P25, ∀ a ∈ (List.range p.toNat).map (fun i : Nat => (i : Int)), 0 < a → firstInv p a = some (invI p a) := by decide +kernel
theorem someprime_ok {n m : Nat} {μ : Mu} (h : DealAt n m μ) : ∃ (p : Int) (μ' : Mu), p ∈ P25 ∧ m_L_some_prime [.ob n] μ = some (.ok (.int p) μ') ∧ DealAt n m μ' ∧ Oth n m μ μ' := by
  obtain ⟨x, μ1, hx, e1, h1, o1⟩ := of_ok (some_ := .lst (P25.map .int)) h (.inl rfl) (by decide) (by decide)
  obtain ⟨q, hq, eq⟩ := List.mem_map.mp hx
  subst eq
  obtain ⟨y, μ2, hy, e2, h2, o2⟩ := of_ok (some_ := .lst [.int 2, .int 3, .int 5, .int 7, .int 13, .int 97, .int q]) h1 (.inl rfl) (by simp) (by simp)
  obtain ⟨p, hp, ep⟩ : ∃ p ∈ P25, y = .int p := by
    simp only [List.mem_cons, List.not_mem_nil, or_false] at hy
    rcases hy with e | e | e | e | e | e | e <;> subst e
    · exact ⟨2, by decide, rfl⟩
    · exact ⟨3, by decide, rfl⟩
    · exact ⟨5, by decide, rfl⟩
    · exact ⟨7, by decide, rfl⟩
    · exact ⟨13, by decide, rfl⟩
    · exact ⟨97, by decide, rfl⟩
    · exact ⟨q, hq, rfl⟩
  subst ep
  refine ⟨p, μ2, hp, ?_, h2, o1.trans o2⟩
  simp [m_L_some_prime, mFn_ev, b_L_some_prime, mVar_ev, primes_are, e1, lineS, e2]
theorem linv_is {p a : Int} {μ : Mu} (hp : p ∈ P25) (ha : 0 < a ∧ a < p) : m_L_inverse [.int p, .int a] μ = some (.ok (.int (invI p a)) μ) := by
  have h := P25_pos hp
  have pp : 0 < p := by omega
  have sa : smallI a = true := small_of (by omega) (by omega)
  have hf : firstInv p a = some (invI p a) := inv_table p hp a (List.mem_map.mpr ⟨a.toNat, List.mem_range.mpr (by omega), by omega⟩) ha.1
  have s62 : small62 p = true := by
    unfold small62
    rw [decide_eq_true (by omega), decide_eq_true (by omega)]
    rfl
  have lc : ∀ ρ : Rho, ρ.length = 4 → ρ[0]? = some (some (.int p)) → ρ[1]? = some (some (.int a)) → lcLoop (gN 3) (mOp dEq (mOp iMod (mCall fInt (aCons (mOp iMul (mVar 3) (mVar 1)) aNil)) (mVar 0)) (mC (.int 1))) (mVar 3) ρ (rangeD 0 p.toNat) μ = some ((((List.range p.toNat).map fun i : Nat => (i : Int)).filter fun i => i * a % p == 1).map .int, μ) := fun ρ hl h0 h1 => by
    rw [rangeD_eq, show ((List.range p.toNat).map fun i => D.int (i : Nat)) = ((List.range p.toNat).map fun i : Nat => (i : Int)).map .int by rw [List.map_map]; rfl]
    rw [lc_ok (p := fun d => match d with | .int i => i * a % p == 1 | _ => false) (f := id)]
    · rw [List.map_id, List.filter_map]
      rfl
    · intro d hd
      obtain ⟨i, hi, e⟩ := List.mem_map.mp hd
      subst e
      have g3 : (ρ.set 3 (some (.int i)))[3]? = some (some (.int i)) := List.getElem?_set_self (by omega)
      have g0 : (ρ.set 3 (some (.int i)))[0]? = some (some (.int p)) := by rw [List.getElem?_set_ne (by decide)]; exact h0
      have g1 : (ρ.set 3 (some (.int i)))[1]? = some (some (.int a)) := by rw [List.getElem?_set_ne (by decide)]; exact h1
      refine ⟨_, rfl, ?_, fun _ => ?_⟩
      · simp [mVar_ev, g0, g1, g3, mul_right sa, mod_int pp]
      · simp [mVar_ev, g3]
  have hd : ((((List.range p.toNat).map fun i : Nat => (i : Int)).filter fun i => i * a % p == 1).map D.int)[0]? = some (.int (invI p a)) := by
    unfold firstInv at hf
    rw [← List.head?_filter] at hf
    rw [List.getElem?_map, ← List.head?_eq_getElem?, hf]
    rfl
  have hix : dIx (.lst ((((List.range p.toNat).map fun i : Nat => (i : Int)).filter fun i => i * a % p == 1).map D.int)) (.int 0) μ = some (.int (invI p a)) := by
    show atI _ 0 = _
    generalize ((((List.range p.toNat).map fun i : Nat => (i : Int)).filter fun i => i * a % p == 1).map D.int) = xs at hd
    cases xs with
    | nil => cases hd
    | cons x xs =>
      unfold atI ixN
      simp at hd ⊢
      exact hd
  have w : (wipeR [some (.int p), some (.int a), none, none] [2, 3]).length = 4 := by rw [wipeR_length]; rfl
  have hlc : mLc [2, 3] (iRange1 (aCons (mVar 0) aNil)) (gN 3) (mOp dEq (mOp iMod (mCall fInt (aCons (mOp iMul (mVar 3) (mVar 1)) aNil)) (mVar 0)) (mC (.int 1))) (mVar 3) [some (.int p), some (.int a), none, none] μ = some (.ok (.lst ((((List.range p.toNat).map fun i : Nat => (i : Int)).filter fun i => i * a % p == 1).map D.int)) μ) := by
    have hi : iRange1 (aCons (mVar 0) aNil) [some (.int p), some (.int a), none, none] μ = some (.ok (rangeD 0 p.toNat) μ) := by
      unfold iRange1
      simp [mVar_ev, s62]
    have hlen : (rangeD 0 p.toNat).length ≤ lineS := by
      rw [rangeD_eq, List.length_map, List.length_range]
      unfold lineS
      omega
    rw [mLc_ev, hi, bindA_ok, if_pos hlen, lc _ w rfl rfl]
    rfl
  simp only [m_L_inverse, mFn_ev, b_L_inverse, List.map_cons, List.map_nil, List.length_cons, List.length_nil]
  simp only [show List.replicate (4 - (0 + 1 + 1)) (none : Option D) = [none, none] from rfl, List.cons_append, List.nil_append, sRet_ev, mOp_ev, hlc, bindO_ok, mC_ev, hix, retV_some, bindS_ok, fnK_rt]
theorem somerow_ok {n m : Nat} {μ : Mu} {p : Int} (h : DealAt n m μ) (hp : p ∈ P25) : ∃ (a b : Int) (μ' : Mu), (0 ≤ a ∧ a < p) ∧ (0 ≤ b ∧ b < p) ∧ m_L_some_row [.ob n, .int p, .int 2] μ = some (.ok (.tup [.int a, .int b]) μ') ∧ DealAt n m μ' ∧ Oth n m μ μ' := by
  have hpp := P25_pos hp
  have bigP : p < bigI := by
    have : (98 : Int) < bigI := by decide
    omega
  obtain ⟨c, μ1, e1, c0, c1, h1, o1⟩ := any_ok (bd := 3) h (by decide) (by decide)
  -- one number of the row
  have one : ∀ (ρ : Rho) (μ2 : Mu), ρ[0]? = some (some (.ob n)) → ρ[1]? = some (some (.int p)) → ρ[3]? = some (some (.int c)) → DealAt n m μ2 → ∃ (y : Int) (μ3 : Mu), (mIf (mAnd (mOp dEq (mVar 3) (mC (.int 0))) (mOp dEq (mApp 2 m_L_any [] (aCons (mVar 0) (aCons (mC (.int 2)) aNil))) (mC (.int 0)))) (mC (.int 0)) (mApp 2 m_L_of [] (aCons (mVar 0) (aCons (mLst (aCons (mC (.int 0)) (aCons (mC (.int 1)) (aCons (mOp iSub (mVar 1) (mC (.int 1))) (aCons (mApp 2 m_L_any [] (aCons (mVar 0) (aCons (mVar 1) aNil))) (aCons (mApp 2 m_L_any [] (aCons (mVar 0) (aCons (mVar 1) aNil))) aNil)))))) aNil)))) ρ μ2 = some (.ok (.int y) μ3) ∧ (0 ≤ y ∧ y < p) ∧ DealAt n m μ3 ∧ Oth n m μ2 μ3 := fun ρ μ2 g0 g1 g3 hd => by
    have pick : ∀ μ2, DealAt n m μ2 → ∃ (y : Int) (μ3 : Mu), mApp 2 m_L_of [] (aCons (mVar 0) (aCons (mLst (aCons (mC (.int 0)) (aCons (mC (.int 1)) (aCons (mOp iSub (mVar 1) (mC (.int 1))) (aCons (mApp 2 m_L_any [] (aCons (mVar 0) (aCons (mVar 1) aNil))) (aCons (mApp 2 m_L_any [] (aCons (mVar 0) (aCons (mVar 1) aNil))) aNil)))))) aNil)) ρ μ2 = some (.ok (.int y) μ3) ∧ (0 ≤ y ∧ y < p) ∧ DealAt n m μ3 ∧ Oth n m μ2 μ3 := fun μ2 hd => by
      obtain ⟨r1, μ3, e3, a3, b3, h3, o3⟩ := any_ok (bd := p) hd (by omega) bigP
      obtain ⟨r2, μ4, e4, a4, b4, h4, o4⟩ := any_ok (bd := p) h3 (by omega) bigP
      obtain ⟨x, μ5, hx, e5, h5, o5⟩ := of_ok (some_ := .lst [.int 0, .int 1, .int (p - 1), .int r1, .int r2]) h4 (.inl rfl) (by simp) (by simp)
      obtain ⟨y, ey, hy⟩ : ∃ y : Int, x = .int y ∧ 0 ≤ y ∧ y < p := by
        simp only [List.mem_cons, List.not_mem_nil, or_false] at hx
        rcases hx with e | e | e | e | e <;> subst e
        · exact ⟨0, rfl, by omega, by omega⟩
        · exact ⟨1, rfl, by omega, by omega⟩
        · exact ⟨p - 1, rfl, by omega, by omega⟩
        · exact ⟨r1, rfl, a3, b3⟩
        · exact ⟨r2, rfl, a4, b4⟩
      subst ey
      refine ⟨y, μ5, ?_, hy, h5, (o3.trans o4).trans o5⟩
      simp [mVar_ev, g0, g1, e3, e4, lineS, e5]
    by_cases hc : c = 0
    · obtain ⟨r, μ3, e3, a3, b3, h3, o3⟩ := any_ok (bd := 2) hd (by decide) (by decide)
      by_cases hr : r = 0
      · refine ⟨0, μ3, ?_, ⟨by omega, by omega⟩, h3, o3⟩
        simp [mVar_ev, g3, hc, g0, e3, hr]
      · obtain ⟨y, μ4, e4, hy, h4, o4⟩ := pick μ3 h3
        refine ⟨y, μ4, ?_, hy, h4, o3.trans o4⟩
        have hr' : (r == 0) = false := beq_eq_false_iff_ne.mpr hr
        rw [mIf_ev]
        have tst : mAnd (mOp dEq (mVar 3) (mC (.int 0))) (mOp dEq (mApp 2 m_L_any [] (aCons (mVar 0) (aCons (mC (.int 2)) aNil))) (mC (.int 0))) ρ μ2 = some (.ok (.bl false) μ3) := by
          simp [mVar_ev, g3, hc, g0, e3, hr']
        rw [tst, bindO_ok, ifK_f]
        exact e4
    · obtain ⟨y, μ4, e4, hy, h4, o4⟩ := pick μ2 hd
      refine ⟨y, μ4, ?_, hy, h4, o4⟩
      have hc' : (c == 0) = false := beq_eq_false_iff_ne.mpr hc
      rw [mIf_ev]
      have tst : mAnd (mOp dEq (mVar 3) (mC (.int 0))) (mOp dEq (mApp 2 m_L_any [] (aCons (mVar 0) (aCons (mC (.int 2)) aNil))) (mC (.int 0))) ρ μ2 = some (.ok (.bl false) μ2) := by
        simp [mVar_ev, g3, hc']
      rw [tst, bindO_ok, ifK_f]
      exact e4
  obtain ⟨ys, μ2, e2, hl, hy, ⟨h2, o2⟩⟩ := lc_inv (g := gN 5) (ρ := wipeR [some (.ob n), some (.int p), some (.int 2), some (.int c), none, none] [4, 5]) (I := fun μ => DealAt n m μ ∧ Oth n m μ1 μ) (Pd := fun d => ∃ y : Int, d = .int y ∧ 0 ≤ y ∧ y < p) (ds := rangeD 0 2)
    (fun d hd μ2 ⟨hi, oi⟩ => by
      obtain ⟨y, μ3, e3, hy, h3, o3⟩ := one ((wipeR [some (.ob n), some (.int p), some (.int 2), some (.int c), none, none] [4, 5]).set 5 (some d)) μ2 rfl rfl rfl hi
      exact ⟨_, .int y, μ3, rfl, e3, ⟨y, rfl, hy⟩, h3, oi.trans o3⟩) μ1 ⟨h1, Oth.refl⟩
  match ys, hl, hy with
  | [y1, y2], _, hy =>
    obtain ⟨a, ea, ha⟩ := hy y1 (List.mem_cons_self ..)
    obtain ⟨b, eb, hb⟩ := hy y2 (List.mem_cons_of_mem _ (List.mem_cons_self ..))
    subst ea eb
    refine ⟨a, b, μ2, ha, hb, ?_, h2, o1.trans o2⟩
    have hi : iRange1 (aCons (mVar 2) aNil) [some (.ob n), some (.int p), some (.int 2), some (.int c), none, none] μ1 = some (.ok (rangeD 0 2) μ1) := rfl
    have t2 : fTuple [.lst [.int a, .int b]] μ2 = some (.tup [.int a, .int b]) := rfl
    simp only [m_L_some_row, mFn_ev, b_L_some_row, List.map_cons, List.map_nil, List.length_cons, List.length_nil]
    simp only [show List.replicate (6 - (0 + 1 + 1 + 1)) (none : Option D) = [none, none, none] from rfl, List.cons_append, List.nil_append, sSeq_ev, sAsg_ev, mApp_ev, aCons_ev, aNil_ev, mVar_ev, mC_ev, List.getElem?_cons_succ, List.getElem?_cons_zero, bindOA_ok, bindAA_ok, bindA_ok, List.append_nil, List.length_cons, List.length_nil, if_true, e1, bindS_ok, asgK_n, List.set_cons_succ, List.set_cons_zero, seqK_nx, sRet_ev, mCall_ev, mLc_ev, hi]
    rw [if_pos (by decide), e2]
    simp [t2]
end K01

set_option Elab.async false
set_option linter.all false
set_option maxRecDepth 100000
set_option maxHeartbeats 4000000
/-! K01D: the law k01 -/
namespace K01
open PySem MV LawC L2
/-- the slots of law: what stands in them, the drawn numbers in the ninth -/
def Lw (ρ : Rho) : Prop := ∃ x0 x1 x2 x3 x4 x5 x6 x7 x9 x10 x11 : Option D, ρ = [x0, x1, x2, x3, x4, x5, x6, x7, some (.ob 1), x9, x10, x11]
abbrev Iv (ρ : Rho) (μ : Mu) : Prop := Lw ρ ∧ DealAt 1 0 μ
/-- a number, or nothing of the kind -/
def kindD (d : D) : Prop := (∃ i, d = .int i) ∨ ∃ q : Kd, q ≠ .int ∧ ∀ μ, kdOf d μ = some q
theorem f1_step {x0 x2 x3 x4 x5 x6 x7 x9 x10 x11 : Option D} {d : D} {μ : Mu} (h : kindD d) : b_law_F1 [x0, some d, x2, x3, x4, x5, x6, x7, some (.ob 1), x9, x10, x11] μ = some (.nx [x0, some d, x2, x3, x4, x5, x6, x7, some (.ob 1), x9, x10, x11] μ) := by
  have s : ∀ b, m_L_same 8 [.bl b, .bl b] μ = some (.ok (.bl true) μ) := fun b => same_refl 7 _ rfl
  rcases h with ⟨i, e⟩ | ⟨q, hq, h⟩
  · subst e
    simp [b_law_F1, mVar_ev, told_int, lisint_int, primes_are, in_ints (.lst (P25.map .int)) (.inr rfl), s]
  · simp [b_law_F1, mVar_ev, told_no (h μ) hq, lisint_no (h μ) hq, s]
theorem f1_all {ds : List D} {ρ : Rho} {μ : Mu} (h : ∀ d ∈ ds, kindD d) (hi : Iv ρ μ) : ∃ ρ' μ', forLoop (gN 1) b_law_F1 ds ρ μ = some (.nx ρ' μ') ∧ Iv ρ' μ' := by
  refine for_ok (I := Iv) (fun d hd ρ μ ⟨⟨x0, x1, x2, x3, x4, x5, x6, x7, x9, x10, x11, e⟩, hD⟩ => ?_) ρ μ hi
  subst e
  exact ⟨_, _, μ, rfl, f1_step (h d hd), ⟨_, _, _, _, _, _, _, _, _, _, _, rfl⟩, hD⟩
theorem f2_step {x0 x1 x3 x4 x5 x6 x7 x9 : Option D} {p a b : Int} {μ : Mu} (hp : p ∈ P25) (ha : 0 ≤ a ∧ a < p) (hb : 0 ≤ b ∧ b < p) : b_law_F2 [x0, x1, some (.int b), x3, x4, x5, x6, x7, some (.ob 1), x9, some (.int a), some (.int p)] μ = some (.nx [x0, x1, some (.int b), x3, x4, x5, x6, x7, some (.ob 1), x9, some (.int a), some (.int p)] μ) := by
  simp [b_law_F2, mVar_ev, pair_is hp ha hb]
theorem range_p {p : Int} (hp : p ∈ P25) {ρ : Rho} {μ : Mu} (h : ρ[11]? = some (some (.int p))) : iRange1 (aCons (mVar 11) aNil) ρ μ = some (.ok (rangeD 0 p.toNat) μ) := by
  have h' := P25_pos hp
  have s62 : small62 p = true := by
    unfold small62
    rw [decide_eq_true (by omega), decide_eq_true (by omega)]
    rfl
  unfold iRange1
  simp [mVar_ev, h, s62]
theorem mem_range {p : Int} {d : D} (h : d ∈ rangeD 0 p.toNat) : ∃ a : Int, d = .int a ∧ 0 ≤ a ∧ a < p := by
  rw [rangeD_eq] at h
  obtain ⟨i, hi, e⟩ := List.mem_map.mp h
  have := List.mem_range.mp hi
  exact ⟨i, e.symm, by omega, by omega⟩
theorem f3_step {x0 x1 x2 x3 x4 x5 x6 x7 x9 : Option D} {p a : Int} {μ : Mu} (hp : p ∈ P25) (ha : 0 ≤ a ∧ a < p) : ∃ x2', b_law_F3 [x0, x1, x2, x3, x4, x5, x6, x7, some (.ob 1), x9, some (.int a), some (.int p)] μ = some (.nx [x0, x1, x2', x3, x4, x5, x6, x7, some (.ob 1), x9, some (.int a), some (.int p)] μ) := by
  obtain ⟨ρ', μ', e, ⟨x2', e2⟩, e3⟩ := for_ok (g := gN 2) (body := b_law_F2) (ds := rangeD 0 p.toNat) (I := fun ρ μ1 => (∃ x2', ρ = [x0, x1, x2', x3, x4, x5, x6, x7, some (.ob 1), x9, some (.int a), some (.int p)]) ∧ μ1 = μ) (fun d hd ρ μ1 ⟨⟨y, e⟩, e2⟩ => by
    subst e e2
    obtain ⟨b, eb, hb⟩ := mem_range hd
    subst eb
    exact ⟨_, _, _, rfl, f2_step hp ha hb, ⟨_, rfl⟩, rfl⟩) _ _ ⟨⟨x2, rfl⟩, rfl⟩
  subst e2 e3
  refine ⟨x2', ?_⟩
  rw [b_law_F3, sFor_ev, range_p hp rfl, forK_ok]
  exact e
theorem f4_step {x0 x1 x2 x3 x4 x5 x6 x7 x9 x10 : Option D} {p : Int} {μ : Mu} (hp : p ∈ P25) : ∃ x2' x10', b_law_F4 [x0, x1, x2, x3, x4, x5, x6, x7, some (.ob 1), x9, x10, some (.int p)] μ = some (.nx [x0, x1, x2', x3, x4, x5, x6, x7, some (.ob 1), x9, x10', some (.int p)] μ) := by
  obtain ⟨ρ', μ', e, ⟨x2', x10', e2⟩, e3⟩ := for_ok (g := gN 10) (body := b_law_F3) (ds := rangeD 0 p.toNat) (I := fun ρ μ1 => (∃ x2' x10', ρ = [x0, x1, x2', x3, x4, x5, x6, x7, some (.ob 1), x9, x10', some (.int p)]) ∧ μ1 = μ) (fun d hd ρ μ1 ⟨⟨y, z, e⟩, e2⟩ => by
    subst e e2
    obtain ⟨b, eb, hb⟩ := mem_range hd
    subst eb
    obtain ⟨w, ew⟩ := f3_step (x0 := x0) (x1 := x1) (x2 := y) (x3 := x3) (x4 := x4) (x5 := x5) (x6 := x6) (x7 := x7) (x9 := x9) (μ := μ1) hp hb
    exact ⟨_, _, _, rfl, ew, ⟨_, _, rfl⟩, rfl⟩) _ _ ⟨⟨x2, x10, rfl⟩, rfl⟩
  subst e2 e3
  refine ⟨x2', x10', ?_⟩
  rw [b_law_F4, sFor_ev, range_p hp rfl, forK_ok]
  exact e
theorem f4_all {ps : List Int} {ρ : Rho} {μ : Mu} (h : ∀ p ∈ ps, p ∈ P25) (hi : Iv ρ μ) : ∃ ρ' μ', forLoop (gN 11) b_law_F4 (ps.map .int) ρ μ = some (.nx ρ' μ') ∧ Iv ρ' μ' := by
  refine for_ok (I := Iv) (fun d hd ρ μ ⟨⟨x0, x1, x2, x3, x4, x5, x6, x7, x9, x10, x11, e⟩, hD⟩ => ?_) ρ μ hi
  subst e
  obtain ⟨p, hp, ep⟩ := List.mem_map.mp hd
  subst ep
  obtain ⟨y, z, e⟩ := f4_step (x0 := x0) (x1 := x1) (x2 := x2) (x3 := x3) (x4 := x4) (x5 := x5) (x6 := x6) (x7 := x7) (x9 := x9) (x10 := x10) (μ := μ) (h p hp)
  exact ⟨_, _, μ, rfl, e, ⟨_, _, _, _, _, _, _, _, _, _, _, rfl⟩, hD⟩
/-! ### what is refused -/
theorem q_in : ("InvalidQuestion" : Str) ∈ errs := by simp [errs]
theorem q_find : hs_L_heard.find? (fun h => sbe "InvalidQuestion" h.1) = some (("InvalidQuestion" : Str), ("question" : Str)) := by decide +kernel
theorem refused {m : ME} {ρ : Rho} {μ μ1 : Mu} {k : Int} (h : m ρ μ = some (.ex "InvalidQuestion" (some (.int k)) μ1)) : mHeard "told" errs sbe hs_L_heard m ρ μ = some (.ok (.tup [.str "question", .int k]) μ1) := heard_ex h q_in q_find
/-- the def of this name refuses what it must -/
structure Ref3 (nm : Str) (F : MF) : Prop where
  tab : tb_law nm = some (3, F)
  r2 : ∀ (p a : Int) (d : D) (μ : Mu), p ∈ P25 → 0 ≤ a ∧ a < p → oddN p d μ → F [.int p, .int a, d] μ = some (.ex "InvalidQuestion" (some (.int 2)) μ)
  r1 : ∀ (p : Int) (d e : D) (μ : Mu), p ∈ P25 → oddN p d μ → F [.int p, d, e] μ = some (.ex "InvalidQuestion" (some (.int 1)) μ)
  r0 : ∀ (q d e : D) (μ : Mu), oddP q μ → F [q, d, e] μ = some (.ex "InvalidQuestion" (some (.int 0)) μ)
theorem ref_sum : Ref3 "sum_of" m_sum_of where
  tab := by
    unfold tb_law
    rw [if_neg (by decide +kernel), if_neg (by decide +kernel), if_pos rfl]
  r2 := fun p a d μ hp ha hd => by simp [m_sum_of, mFn_ev, b_sum_of, mVar_ev, cp_ok hp, cn_ok ha.1 ha.2, cn_no hd]
  r1 := fun p d e μ hp hd => by simp [m_sum_of, mFn_ev, b_sum_of, mVar_ev, cp_ok hp, cn_no hd]
  r0 := fun q d e μ hq => by simp [m_sum_of, mFn_ev, b_sum_of, mVar_ev, cp_no hq]
theorem ref_diff : Ref3 "difference_of" m_difference_of where
  tab := by
    unfold tb_law
    rw [if_pos rfl]
  r2 := fun p a d μ hp ha hd => by simp [m_difference_of, mFn_ev, b_difference_of, mVar_ev, cp_ok hp, cn_ok ha.1 ha.2, cn_no hd]
  r1 := fun p d e μ hp hd => by simp [m_difference_of, mFn_ev, b_difference_of, mVar_ev, cp_ok hp, cn_no hd]
  r0 := fun q d e μ hq => by simp [m_difference_of, mFn_ev, b_difference_of, mVar_ev, cp_no hq]
theorem ref_prod : Ref3 "product_of" m_product_of where
  tab := by
    unfold tb_law
    rw [if_neg (by decide +kernel), if_pos rfl]
  r2 := fun p a d μ hp ha hd => by simp [m_product_of, mFn_ev, b_product_of, mVar_ev, cp_ok hp, cn_ok ha.1 ha.2, cn_no hd]
  r1 := fun p d e μ hp hd => by simp [m_product_of, mFn_ev, b_product_of, mVar_ev, cp_ok hp, cn_no hd]
  r0 := fun q d e μ hq => by simp [m_product_of, mFn_ev, b_product_of, mVar_ev, cp_no hq]
theorem appV_ev {tb : Str → Option (Nat × MF)} {i n : Nat} {r : MA} {ρ : Rho} {μ : Mu} {nm : Str} {F : MF} (h : ρ[i]? = some (some (.fn nm))) (ht : tb nm = some (n, F)) : mAppV tb i r ρ μ = mApp n F [] r ρ μ := by
  unfold mAppV
  simp only [h, ht]
theorem f5_step {x0 x1 x2 x3 x4 x5 : Option D} {nm : Str} {F : MF} {p a : Int} {bad q : D} {μ : Mu} (R : Ref3 nm F) (hp : p ∈ P25) (ha : 0 ≤ a ∧ a < p) (hb : ∀ μ, oddN p bad μ) (hq : ∀ μ, oddP q μ) :
    ∃ x5', b_law_F5 [x0, x1, x2, x3, x4, x5, some bad, some (.fn nm), some (.ob 1), some q, some (.int a), some (.int p)] μ = some (.nx [x0, x1, x2, x3, x4, x5', some bad, some (.fn nm), some (.ob 1), some q, some (.int a), some (.int p)] (μ ++ [none])) := by
  have v1 : ∀ (y : Option D) (ν : Mu), mHeard "told" errs sbe hs_L_heard (mAppV tb_law 7 (aCons (mVar 11) (aCons (mVar 10) (aCons (mVar 6) aNil)))) [x0, x1, x2, x3, x4, y, some bad, some (.fn nm), some (.ob 1), some q, some (.int a), some (.int p)] ν = some (.ok (.tup [.str "question", .int 2]) ν) := fun y ν => refused (by
    rw [appV_ev (nm := nm) rfl R.tab]
    simp [mVar_ev, R.r2 p a bad ν hp ha (hb ν)])
  have v2 : ∀ (y : Option D) (ν : Mu), mHeard "told" errs sbe hs_L_heard (mAppV tb_law 7 (aCons (mVar 11) (aCons (mVar 6) (aCons (mVar 6) aNil)))) [x0, x1, x2, x3, x4, y, some bad, some (.fn nm), some (.ob 1), some q, some (.int a), some (.int p)] ν = some (.ok (.tup [.str "question", .int 1]) ν) := fun y ν => refused (by
    rw [appV_ev (nm := nm) rfl R.tab]
    simp [mVar_ev, R.r1 p bad bad ν hp (hb ν)])
  have v3 : ∀ (y : Option D) (ν : Mu), mHeard "told" errs sbe hs_L_heard (mAppV tb_law 7 (aCons (mVar 9) (aCons (mVar 6) (aCons (mVar 6) aNil)))) [x0, x1, x2, x3, x4, y, some bad, some (.fn nm), some (.ob 1), some q, some (.int a), some (.int p)] ν = some (.ok (.tup [.str "question", .int 0]) ν) := fun y ν => refused (by
    rw [appV_ev (nm := nm) rfl R.tab]
    simp [mVar_ev, R.r0 q bad bad ν (hq ν)])
  have a1 : fAppend (.ob μ.length) [.tup [.str "question", .int 1]] (μ ++ [some (.lst [.tup [.str "question", .int 2]])]) = some (.non, μ ++ [some (.lst [.tup [.str "question", .int 2], .tup [.str "question", .int 1]])]) := by
    rw [append_ob get_app (by unfold lineS; simp), set_app]
    rfl
  have a2 : fAppend (.ob μ.length) [.tup [.str "question", .int 0]] (μ ++ [some (.lst [.tup [.str "question", .int 2], .tup [.str "question", .int 1]])]) = some (.non, μ ++ [some (.lst [.tup [.str "question", .int 2], .tup [.str "question", .int 1], .tup [.str "question", .int 0]])]) := by
    rw [append_ob get_app (by unfold lineS; simp), set_app]
    rfl
  have t1 : tyD .list (.ob μ.length) (μ ++ [some (.lst [.tup [.str "question", .int 2]])]) = true := ty_ob get_app
  have t2 : tyD .list (.ob μ.length) (μ ++ [some (.lst [.tup [.str "question", .int 2], .tup [.str "question", .int 1]])]) = true := ty_ob get_app
  have fz : ∀ b, sFrz 5 b [x0, x1, x2, x3, x4, some (.ob μ.length), some bad, some (.fn nm), some (.ob 1), some q, some (.int a), some (.int p)] (μ ++ [some (.lst [.tup [.str "question", .int 2], .tup [.str "question", .int 1], .tup [.str "question", .int 0]])]) = b [x0, x1, x2, x3, x4, some (.lst [.tup [.str "question", .int 2], .tup [.str "question", .int 1], .tup [.str "question", .int 0]]), some bad, some (.fn nm), some (.ob 1), some q, some (.int a), some (.int p)] (μ ++ [none]) := fun b => by
    rw [frz_ev (n := μ.length) rfl get_app, set_app]
    rfl
  have sm : m_L_same 8 [.lst [.tup [.str "question", .int 2], .tup [.str "question", .int 1], .tup [.str "question", .int 0]], .lst [.tup [.str "question", .int 2], .tup [.str "question", .int 1], .tup [.str "question", .int 0]]] (μ ++ [none]) = some (.ok (.bl true) (μ ++ [none])) := same_refl 7 _ (by decide +kernel)
  refine ⟨some (.lst [.tup [.str "question", .int 2], .tup [.str "question", .int 1], .tup [.str "question", .int 0]]), ?_⟩
  simp [b_law_F5, v1, v2, v3, lineS, mVar_ev, meth_ev, t1, t2, methK, a1, a2, fz, sm]
theorem inv_more : ∀ p ∈ P25, ∀ a ∈ (List.range p.toNat).map (fun i : Nat => (i : Int)), 0 < a → 0 ≤ invI p a ∧ invI p a < p ∧ invI p a * a % p = 1 % p := by decide +kernel
/-! ### a turn -/
abbrev row12 (x0 x1 x2 x3 x4 x5 x6 x7 x9 x10 x11 : Option D) : Rho := [x0, x1, x2, x3, x4, x5, x6, x7, some (.ob 1), x9, x10, x11]
theorem asgK_2 {i j : Nat} {ρ : Rho} {d e : D} {μ : Mu} : asgK (gT 2 (gsCons (gN i) (gsCons (gN j) gsNil))) ρ (.tup [d, e]) μ = some (.nx ((ρ.set i (some d)).set j (some e)) μ) := rfl
section
variable {x0 x1 x2 x3 x4 x5 x6 x7 x9 x10 x11 : Option D} {μ : Mu}
def t1 : MS := sAsg (mApp 1 m_L_some_prime [] (aCons (mVar 8) aNil)) (gN 11)
theorem t1_ok (h : DealAt 1 0 μ) : ∃ (p : Int) (μ' : Mu), p ∈ P25 ∧ t1 (row12 x0 x1 x2 x3 x4 x5 x6 x7 x9 x10 x11) μ = some (.nx (row12 x0 x1 x2 x3 x4 x5 x6 x7 x9 x10 (some (.int p))) μ') ∧ DealAt 1 0 μ' := by
  obtain ⟨p, μ', hp, e, h', _⟩ := someprime_ok h
  refine ⟨p, μ', hp, ?_, h'⟩
  simp [t1, mVar_ev, e]
def t2 : MS := sAsg (mApp 3 m_L_some_row [] (aCons (mVar 8) (aCons (mVar 11) (aCons (mC (.int 2)) aNil)))) (gT 2 (gsCons (gN 10) (gsCons (gN 2) gsNil)))
theorem t2_ok {p : Int} (hp : p ∈ P25) (h : DealAt 1 0 μ) : ∃ (a b : Int) (μ' : Mu), (0 ≤ a ∧ a < p) ∧ (0 ≤ b ∧ b < p) ∧ t2 (row12 x0 x1 x2 x3 x4 x5 x6 x7 x9 x10 (some (.int p))) μ = some (.nx (row12 x0 x1 (some (.int b)) x3 x4 x5 x6 x7 x9 (some (.int a)) (some (.int p))) μ') ∧ DealAt 1 0 μ' := by
  obtain ⟨a, b, μ', ha, hb, e, h', _⟩ := somerow_ok h hp
  refine ⟨a, b, μ', ha, hb, ?_, h'⟩
  simp [t2, mVar_ev, e, asgK_2]
def t3 : MS := sAsg (mApp 2 m_L_of [] (aCons (mVar 8) (aCons (mLst (aCons (mC (.int 0)) (aCons (mC (.int 1)) (aCons (mC (.int 2)) (aCons (mOp iSub (mVar 11) (mC (.int 1))) (aCons (mVar 11) (aCons (mApp 2 m_L_any [] (aCons (mVar 8) (aCons (mC (.int 200)) aNil))) (aCons (mOp iSub (mOp iPow (mC (.int 10)) (mC (.int 30))) (mC (.int 1))) (aCons (mApp 2 m_L_any [] (aCons (mVar 8) (aCons (mOp iPow (mC (.int 10)) (mC (.int 30))) aNil))) aNil))))))))) aNil))) (gN 4)
theorem t3_ok {p : Int} (hp : p ∈ P25) (h : DealAt 1 0 μ) : ∃ (n : Int) (μ' : Mu), (0 ≤ n ∧ n < 10 ^ 30) ∧ t3 (row12 x0 x1 x2 x3 x4 x5 x6 x7 x9 x10 (some (.int p))) μ = some (.nx (row12 x0 x1 x2 x3 (some (.int n)) x5 x6 x7 x9 x10 (some (.int p))) μ') ∧ DealAt 1 0 μ' := by
  have hpp := P25_pos hp
  obtain ⟨r1, μ1, e1, a1, b1, h1, _⟩ := any_ok (bd := 200) h (by decide) (by decide)
  obtain ⟨r2, μ2, e2, a2, b2, h2, _⟩ := any_ok (bd := 1000000000000000000000000000000) h1 (by decide) (by decide)
  obtain ⟨x, μ3, hx, e3, h3, _⟩ := of_ok (some_ := .lst [.int 0, .int 1, .int 2, .int (p - 1), .int p, .int r1, .int 999999999999999999999999999999, .int r2]) h2 (.inl rfl) (by simp) (by simp)
  obtain ⟨n, en, hn⟩ : ∃ n : Int, x = .int n ∧ 0 ≤ n ∧ n < 1000000000000000000000000000000 := by
    simp only [List.mem_cons, List.not_mem_nil, or_false] at hx
    rcases hx with e | e | e | e | e | e | e | e <;> subst e
    · exact ⟨0, rfl, by omega, by omega⟩
    · exact ⟨1, rfl, by omega, by omega⟩
    · exact ⟨2, rfl, by omega, by omega⟩
    · exact ⟨p - 1, rfl, by omega, by omega⟩
    · exact ⟨p, rfl, by omega, by omega⟩
    · exact ⟨r1, rfl, by omega, by omega⟩
    · exact ⟨_, rfl, by omega, by omega⟩
    · exact ⟨r2, rfl, a2, b2⟩
  subst en
  refine ⟨n, μ3, hn, ?_, h3⟩
  have p30 : ∀ ν : Mu, iPow (.int 10) (.int 30) ν = some (.int 1000000000000000000000000000000) := fun ν => pow_10 (k := 30) (by decide) (by decide)
  simp [t3, mVar_ev, e1, p30, e2, lineS, e3]
def t4 : MS := sIf (mOr (mNot (mApp 3 m_L_pair_right [] (aCons (mVar 11) (aCons (mVar 10) (aCons (mVar 2) aNil))))) (mNot (mApp 2 (m_L_same 8) [] (aCons (mAppK 3 0 3 m_power_of [] aNil (aCons (mVar 11) (aCons (mVar 10) (aCons (mVar 4) aNil)))) (aCons (mApp 3 m_L_power [] (aCons (mVar 11) (aCons (mVar 10) (aCons (mVar 4) aNil)))) aNil))))) (sRet (mC (.bl false))) sNext
theorem t4_ok {p a b n : Int} (hp : p ∈ P25) (ha : 0 ≤ a ∧ a < p) (hb : 0 ≤ b ∧ b < p) (hn : 0 ≤ n ∧ n < 10 ^ 30) : t4 (row12 x0 x1 (some (.int b)) x3 (some (.int n)) x5 x6 x7 x9 (some (.int a)) (some (.int p))) μ = some (.nx (row12 x0 x1 (some (.int b)) x3 (some (.int n)) x5 x6 x7 x9 (some (.int a)) (some (.int p))) (μ ++ [none])) := by
  have hb2 : n.toNat < 2 ^ 1000 := by
    have e : (10 : Int) ^ 30 ≤ ((2 ^ 1000 : Nat) : Int) := by decide +kernel
    have := hn.2
    have := hn.1
    omega
  have s : m_L_same 8 [.int (a ^ n.toNat % p), .int (a ^ n.toNat % p)] (μ ++ [none]) = some (.ok (.bl true) (μ ++ [none])) := same_refl 7 _ rfl
  simp [t4, mVar_ev, pair_is hp ha hb, power_is hp ha hn, lpower_is (P25_pos hp) ha hn.1 hb2, s]
def t5 : MS := sIf (mAnd (mOp iGt (mVar 10) (mC (.int 0))) (mNot (mApp 2 (m_L_same 8) [] (aCons (mLst (aCons (mAppK 2 0 2 m_inverse_of [] aNil (aCons (mVar 11) (aCons (mVar 10) aNil))) (aCons (mApp 3 m_product_of [] (aCons (mVar 11) (aCons (mApp 2 m_inverse_of [] (aCons (mVar 11) (aCons (mVar 10) aNil))) (aCons (mVar 10) aNil)))) aNil))) (aCons (mLst (aCons (mApp 2 m_L_inverse [] (aCons (mVar 11) (aCons (mVar 10) aNil))) (aCons (mOp iMod (mC (.int 1)) (mVar 11)) aNil))) aNil))))) (sRet (mC (.bl false))) sNext
theorem t5_ok {p a : Int} (hp : p ∈ P25) (ha : 0 ≤ a ∧ a < p) : t5 (row12 x0 x1 x2 x3 x4 x5 x6 x7 x9 (some (.int a)) (some (.int p))) μ = some (.nx (row12 x0 x1 x2 x3 x4 x5 x6 x7 x9 (some (.int a)) (some (.int p))) μ) := by
  have hpp := P25_pos hp
  have pp : 0 < p := by omega
  by_cases h0 : 0 < a
  · obtain ⟨i0, i1, i2⟩ := inv_more p hp a (List.mem_map.mpr ⟨a.toNat, List.mem_range.mpr (by omega), by omega⟩) h0
    have s : m_L_same 8 [.lst [.int (invI p a), .int (1 % p)], .lst [.int (invI p a), .int (1 % p)]] μ = some (.ok (.bl true) μ) := same_refl 7 _ rfl
    have d0 : decide (0 < a) = true := decide_eq_true h0
    simp [t5, mVar_ev, h0, inv_is hp ⟨h0, ha.2⟩, prod_is hp ⟨i0, i1⟩ ha, i2, lineS, linv_is hp ⟨h0, ha.2⟩, mod_int pp, s]
  · simp [t5, mVar_ev, h0]
end
def t6 : MS := (sAsg (mTup (aCons (mApp 2 m_L_of [] (aCons (mVar 8) (aCons (mLst (aCons (mVar 11) (aCons (mUn iNeg (mC (.int 1))) (aCons (mC (.bl true)) (aCons (mC .non) (aCons (mC (.str "0")) (aCons (mTup (aCons (mC (.int 0)) aNil)) (aCons (mLst (aCons (mC (.int 0)) aNil)) (aCons (mOp iPow (mC (.int 10)) (mC (.int 40))) aNil))))))))) aNil))) (aCons (mApp 2 m_L_of [] (aCons (mVar 8) (aCons (mLst (aCons (mC (.int 0)) (aCons (mC (.int 1)) (aCons (mC (.int 4)) (aCons (mC (.int 98)) (aCons (mC (.int 99)) (aCons (mC (.int 101)) (aCons (mC (.bl true)) (aCons (mC .non) (aCons (mC (.str "7")) (aCons (mTup (aCons (mC (.int 7)) aNil)) (aCons (mLst (aCons (mC (.int 7)) aNil)) aNil)))))))))))) aNil))) aNil))) (gT 2 (gsCons (gN 6) (gsCons (gN 9) gsNil))))
def t7 : MS := (sFor (iSeq (mLst (aCons (mC (.fn "sum_of")) (aCons (mC (.fn "difference_of")) (aCons (mC (.fn "product_of")) aNil))))) (gN 7) b_law_F5)
def e0 : ME := (mHeard "told" errs sbe hs_L_heard (mApp 2 m_inverse_of [] (aCons (mVar 11) (aCons (mApp 2 m_L_of [] (aCons (mVar 8) (aCons (mLst (aCons (mC (.int 0)) (aCons (mVar 6) aNil))) aNil))) aNil))))
def e1 : ME := (mHeard "told" errs sbe hs_L_heard (mApp 2 m_inverse_of [] (aCons (mVar 9) (aCons (mC (.int 0)) aNil))))
def e2 : ME := (mHeard "told" errs sbe hs_L_heard (mApp 3 m_power_of [] (aCons (mVar 11) (aCons (mVar 10) (aCons (mApp 2 m_L_of [] (aCons (mVar 8) (aCons (mLst (aCons (mOp iPow (mC (.int 10)) (mC (.int 30))) (aCons (mUn iNeg (mC (.int 1))) (aCons (mC .non) (aCons (mC (.bl true)) (aCons (mC (.str "1")) aNil)))))) aNil))) aNil)))))
def e3 : ME := (mHeard "told" errs sbe hs_L_heard (mApp 3 m_power_of [] (aCons (mVar 11) (aCons (mVar 6) (aCons (mC .non) aNil)))))
def e4 : ME := (mHeard "told" errs sbe hs_L_heard (mApp 3 m_power_of [] (aCons (mVar 9) (aCons (mVar 6) (aCons (mC .non) aNil)))))
def t12 : MS := (sFrz 5 (sIf (mNot (mApp 2 (m_L_same 8) [] (aCons (mVar 5) (aCons (mLst (aCons (mTup (aCons (mC (.str "question")) (aCons (mC (.int 1)) aNil))) (aCons (mTup (aCons (mC (.str "question")) (aCons (mC (.int 0)) aNil))) (aCons (mTup (aCons (mC (.str "question")) (aCons (mC (.int 2)) aNil))) (aCons (mTup (aCons (mC (.str "question")) (aCons (mC (.int 1)) aNil))) (aCons (mTup (aCons (mC (.str "question")) (aCons (mC (.int 0)) aNil))) aNil)))))) aNil)))) (sRet (mC (.bl false))) sNext))
theorem f6_is : b_law_F6 = sSeq t1 (sSeq t2 (sSeq t3 (sSeq t4 (sSeq t5 (sSeq t6 (sSeq t7 (sSeq (sAsg (mLstM (aCons e0 aNil)) (gN 5)) (sSeq (sDrop (mMeth .list fAppend (mVar 5) (aCons e1 aNil))) (sSeq (sDrop (mMeth .list fAppend (mVar 5) (aCons e2 aNil))) (sSeq (sDrop (mMeth .list fAppend (mVar 5) (aCons e3 aNil))) (sSeq (sDrop (mMeth .list fAppend (mVar 5) (aCons e4 aNil))) t12))))))))))) := rfl
section
variable {x0 x1 x2 x3 x4 x5 x6 x7 x9 x10 x11 : Option D} {μ : Mu}
theorem pow40 (ν : Mu) : iPow (.int 10) (.int 40) ν = some (.int 10000000000000000000000000000000000000000) := pow_10 (k := 40) (by decide) (by decide)
theorem pow30 (ν : Mu) : iPow (.int 10) (.int 30) ν = some (.int 1000000000000000000000000000000) := pow_10 (k := 30) (by decide) (by decide)
theorem t6_ok {p : Int} (hp : p ∈ P25) (h : DealAt 1 0 μ) : ∃ (bad q : D) (μ' : Mu), (∀ ν, oddN p bad ν) ∧ (∀ ν, oddP q ν) ∧ t6 (row12 x0 x1 x2 x3 x4 x5 x6 x7 x9 x10 (some (.int p))) μ = some (.nx (row12 x0 x1 x2 x3 x4 x5 (some bad) x7 (some q) x10 (some (.int p))) μ') ∧ DealAt 1 0 μ' := by
  have hpp := P25_pos hp
  obtain ⟨bad, μ1, hb, ea, h1, _⟩ := of_ok (some_ := .lst [.int p, .int (-1), .bl true, .non, .str "0", .tup [.int 0], .lst [.int 0], .int 10000000000000000000000000000000000000000]) h (.inl rfl) (by simp) (by simp)
  obtain ⟨q, μ2, hq, eb, h2, _⟩ := of_ok (some_ := .lst [.int 0, .int 1, .int 4, .int 98, .int 99, .int 101, .bl true, .non, .str "7", .tup [.int 7], .lst [.int 7]]) h1 (.inl rfl) (by simp) (by simp)
  refine ⟨bad, q, μ2, fun ν => ?_, fun ν => ?_, ?_, h2⟩
  · simp only [List.mem_cons, List.not_mem_nil, or_false] at hb
    rcases hb with e | e | e | e | e | e | e | e <;> subst e
    · exact .inl ⟨p, rfl, by omega⟩
    · exact .inl ⟨-1, rfl, by omega⟩
    · exact .inr ⟨.bl, rfl, by decide⟩
    · exact .inr ⟨.non, rfl, by decide⟩
    · exact .inr ⟨.str, rfl, by decide⟩
    · exact .inr ⟨.tup, rfl, by decide⟩
    · exact .inr ⟨.lst, rfl, by decide⟩
    · exact .inl ⟨_, rfl, by omega⟩
  · simp only [List.mem_cons, List.not_mem_nil, or_false] at hq
    rcases hq with e | e | e | e | e | e | e | e | e | e | e <;> subst e
    · exact .inl ⟨_, rfl, by decide⟩
    · exact .inl ⟨_, rfl, by decide⟩
    · exact .inl ⟨_, rfl, by decide⟩
    · exact .inl ⟨_, rfl, by decide⟩
    · exact .inl ⟨_, rfl, by decide⟩
    · exact .inl ⟨_, rfl, by decide⟩
    · exact .inr ⟨.bl, rfl, by decide⟩
    · exact .inr ⟨.non, rfl, by decide⟩
    · exact .inr ⟨.str, rfl, by decide⟩
    · exact .inr ⟨.tup, rfl, by decide⟩
    · exact .inr ⟨.lst, rfl, by decide⟩
  · simp [t6, mVar_ev, lineS, pow40, ea, eb, asgK_2]
theorem t7_ok {p a : Int} {bad q : D} (hp : p ∈ P25) (ha : 0 ≤ a ∧ a < p) (hb : ∀ ν, oddN p bad ν) (hq : ∀ ν, oddP q ν) (h : DealAt 1 0 μ) : ∃ (y5 y7 : Option D) (μ' : Mu), t7 (row12 x0 x1 x2 x3 x4 x5 (some bad) x7 (some q) (some (.int a)) (some (.int p))) μ = some (.nx (row12 x0 x1 x2 x3 x4 y5 (some bad) y7 (some q) (some (.int a)) (some (.int p))) μ') ∧ DealAt 1 0 μ' := by
  obtain ⟨ρ', μ', e, ⟨y5, y7, e2⟩, h'⟩ := for_ok (g := gN 7) (body := b_law_F5) (ds := [.fn "sum_of", .fn "difference_of", .fn "product_of"]) (I := fun ρ μ1 => (∃ y5 y7, ρ = row12 x0 x1 x2 x3 x4 y5 (some bad) y7 (some q) (some (.int a)) (some (.int p))) ∧ DealAt 1 0 μ1) (fun d hd ρ μ1 ⟨⟨y, z, e⟩, h1⟩ => by
    subst e
    have go : ∀ (nm : Str) (F : MF), Ref3 nm F → ∃ (y5' : Option D), b_law_F5 (row12 x0 x1 x2 x3 x4 y (some bad) (some (.fn nm)) (some q) (some (.int a)) (some (.int p))) μ1 = some (.nx (row12 x0 x1 x2 x3 x4 y5' (some bad) (some (.fn nm)) (some q) (some (.int a)) (some (.int p))) (μ1 ++ [none])) := fun nm F R => f5_step R hp ha hb hq
    simp only [List.mem_cons, List.not_mem_nil, or_false] at hd
    rcases hd with e | e | e <;> subst e
    · obtain ⟨y5', e⟩ := go _ _ ref_sum
      exact ⟨_, _, _, rfl, e, ⟨_, _, rfl⟩, deal_app h1⟩
    · obtain ⟨y5', e⟩ := go _ _ ref_diff
      exact ⟨_, _, _, rfl, e, ⟨_, _, rfl⟩, deal_app h1⟩
    · obtain ⟨y5', e⟩ := go _ _ ref_prod
      exact ⟨_, _, _, rfl, e, ⟨_, _, rfl⟩, deal_app h1⟩) _ _ ⟨⟨x5, x7, rfl⟩, h⟩
  subst e2
  refine ⟨y5, y7, μ', ?_, h'⟩
  rw [t7, sFor_ev]
  simp only [iSeq_ev, mLst_ev, aCons_ev, aNil_ev, mC_ev, bindOA_ok, bindAA_ok, bindA_ok, List.length_cons, List.length_nil]
  rw [if_pos (by unfold lineS; omega), bindOA_ok, seqI_lst, forK_ok]
  exact e
end
section
variable {x0 x1 x2 x3 x4 x5 x6 x7 x9 x10 x11 : Option D} {μ : Mu}
abbrev qu (k : Int) : D := .tup [.str "question", .int k]
theorem e0_ok {p a : Int} {bad q : D} (hp : p ∈ P25) (hb : ∀ ν, oddN p bad ν) (h : DealAt 1 0 μ) : ∃ μ', e0 (row12 x0 x1 x2 x3 x4 x5 (some bad) x7 (some q) (some (.int a)) (some (.int p))) μ = some (.ok (qu 1) μ') ∧ DealAt 1 0 μ' ∧ Oth 1 0 μ μ' := by
  obtain ⟨x, μ1, hx, ea, h1, o1⟩ := of_ok (some_ := .lst [.int 0, bad]) h (.inl rfl) (by simp) (by simp)
  refine ⟨μ1, refused ?_, h1, o1⟩
  have r : m_inverse_of [.int p, x] μ1 = some (.ex "InvalidQuestion" (some (.int 1)) μ1) := by
    simp only [List.mem_cons, List.not_mem_nil, or_false] at hx
    rcases hx with e | e <;> subst e
    · exact inv_no1 hp (.inr rfl)
    · exact inv_no1 hp (.inl (hb μ1))
  simp [mVar_ev, lineS, ea, r]
theorem e1_ok {p a : Int} {bad q : D} (hq : ∀ ν, oddP q ν) : e1 (row12 x0 x1 x2 x3 x4 x5 (some bad) x7 (some q) (some (.int a)) (some (.int p))) μ = some (.ok (qu 0) μ) := by
  refine refused ?_
  simp [mVar_ev, inv_no0 (hq μ)]
theorem e2_ok {p a : Int} {bad q : D} (hp : p ∈ P25) (ha : 0 ≤ a ∧ a < p) (h : DealAt 1 0 μ) : ∃ μ', e2 (row12 x0 x1 x2 x3 x4 x5 (some bad) x7 (some q) (some (.int a)) (some (.int p))) μ = some (.ok (qu 2) μ') ∧ DealAt 1 0 μ' ∧ Oth 1 0 μ μ' := by
  obtain ⟨x, μ1, hx, ea, h1, o1⟩ := of_ok (some_ := .lst [.int 1000000000000000000000000000000, .int (-1), .non, .bl true, .str "1"]) h (.inl rfl) (by simp) (by simp)
  refine ⟨μ1, refused ?_, h1, o1⟩
  have r : m_power_of [.int p, .int a, x] μ1 = some (.ex "InvalidQuestion" (some (.int 2)) μ1) := by
    refine power_no2 hp ha ?_
    simp only [List.mem_cons, List.not_mem_nil, or_false] at hx
    rcases hx with e | e | e | e | e <;> subst e
    · exact .inl ⟨_, rfl, by omega⟩
    · exact .inl ⟨_, rfl, by omega⟩
    · exact .inr ⟨.non, rfl, by decide⟩
    · exact .inr ⟨.bl, rfl, by decide⟩
    · exact .inr ⟨.str, rfl, by decide⟩
  simp [mVar_ev, lineS, pow30, ea, r]
theorem e3_ok {p a : Int} {bad q : D} (hp : p ∈ P25) (hb : ∀ ν, oddN p bad ν) : e3 (row12 x0 x1 x2 x3 x4 x5 (some bad) x7 (some q) (some (.int a)) (some (.int p))) μ = some (.ok (qu 1) μ) := by
  refine refused ?_
  simp [mVar_ev, power_no1 hp (hb μ)]
theorem e4_ok {p a : Int} {bad q : D} (hq : ∀ ν, oddP q ν) : e4 (row12 x0 x1 x2 x3 x4 x5 (some bad) x7 (some q) (some (.int a)) (some (.int p))) μ = some (.ok (qu 0) μ) := by
  refine refused ?_
  simp [mVar_ev, power_no0 (hq μ)]
theorem small_len {ds : List D} (h : ds.length ≤ 10) : ds.length < lineS := by
  unfold lineS
  omega
/-- the five that are refused -/
theorem five_ok {p a : Int} {bad q : D} (hp : p ∈ P25) (ha : 0 ≤ a ∧ a < p) (hb : ∀ ν, oddN p bad ν) (hq : ∀ ν, oddP q ν) (h : DealAt 1 0 μ) :
    ∃ (y5 : Option D) (μ' : Mu), sSeq (sAsg (mLstM (aCons e0 aNil)) (gN 5)) (sSeq (sDrop (mMeth .list fAppend (mVar 5) (aCons e1 aNil))) (sSeq (sDrop (mMeth .list fAppend (mVar 5) (aCons e2 aNil))) (sSeq (sDrop (mMeth .list fAppend (mVar 5) (aCons e3 aNil))) (sSeq (sDrop (mMeth .list fAppend (mVar 5) (aCons e4 aNil))) t12)))) (row12 x0 x1 x2 x3 x4 x5 (some bad) x7 (some q) (some (.int a)) (some (.int p))) μ = some (.nx (row12 x0 x1 x2 x3 x4 y5 (some bad) x7 (some q) (some (.int a)) (some (.int p))) μ') ∧ DealAt 1 0 μ' := by
  obtain ⟨μ1, v0, h1, _⟩ := e0_ok (x0 := x0) (x1 := x1) (x2 := x2) (x3 := x3) (x4 := x4) (x5 := x5) (x7 := x7) (a := a) (q := q) hp hb h
  have hL := deal_len h1
  generalize eL : μ1.length = L at hL
  have n1 : L ≠ 1 := by omega
  have n0 : L ≠ 0 := by omega
  have g1 : (μ1 ++ [some (MO.lst [qu 1])])[L]? = some (some (.lst [qu 1])) := by rw [← eL]; exact get_app
  have h1' : DealAt 1 0 (μ1 ++ [some (MO.lst [qu 1])]) := deal_app h1
  have s0 : sAsg (mLstM (aCons e0 aNil)) (gN 5) (row12 x0 x1 x2 x3 x4 x5 (some bad) x7 (some q) (some (.int a)) (some (.int p))) μ = some (.nx (row12 x0 x1 x2 x3 x4 (some (.ob L)) (some bad) x7 (some q) (some (.int a)) (some (.int p))) (μ1 ++ [some (.lst [qu 1])])) := by
    simp [v0, lineS, eL]
  generalize μ1 ++ [some (MO.lst [qu 1])] = μ2 at g1 h1' s0
  have s1 := app_ok (i := 5) (ρ := row12 x0 x1 x2 x3 x4 (some (.ob L)) (some bad) x7 (some q) (some (.int a)) (some (.int p))) rfl g1 (e1_ok (p := p) (a := a) (bad := bad) (q := q) hq) g1 (small_len (by simp))
  have g2 : (μ2.set L (some (.lst ([qu 1] ++ [qu 0]))))[L]? = some (some (.lst ([qu 1] ++ [qu 0]))) := get_set_eq g1
  have h2' : DealAt 1 0 (μ2.set L (some (.lst ([qu 1] ++ [qu 0])))) := deal_set h1' n1 n0
  generalize μ2.set L (some (.lst ([qu 1] ++ [qu 0]))) = μ3 at g2 h2' s1
  obtain ⟨μ4, v2, h4, o4⟩ := e2_ok (x0 := x0) (x1 := x1) (x2 := x2) (x3 := x3) (x4 := x4) (x5 := some (.ob L)) (x7 := x7) (bad := bad) (q := q) hp ha h2'
  have g4 : μ4[L]? = some (some (.lst ([qu 1] ++ [qu 0]))) := by rw [o4.oth L n1 n0]; exact g2
  have s2 := app_ok (i := 5) (ρ := row12 x0 x1 x2 x3 x4 (some (.ob L)) (some bad) x7 (some q) (some (.int a)) (some (.int p))) rfl g2 v2 g4 (small_len (by simp))
  have g5 : (μ4.set L (some (.lst ([qu 1] ++ [qu 0] ++ [qu 2]))))[L]? = some (some (.lst ([qu 1] ++ [qu 0] ++ [qu 2]))) := get_set_eq g4
  have h5 : DealAt 1 0 (μ4.set L (some (.lst ([qu 1] ++ [qu 0] ++ [qu 2])))) := deal_set h4 n1 n0
  generalize μ4.set L (some (.lst ([qu 1] ++ [qu 0] ++ [qu 2]))) = μ5 at g5 h5 s2
  have s3 := app_ok (i := 5) (ρ := row12 x0 x1 x2 x3 x4 (some (.ob L)) (some bad) x7 (some q) (some (.int a)) (some (.int p))) rfl g5 (e3_ok (a := a) (bad := bad) (q := q) hp hb) g5 (small_len (by simp))
  have g6 : (μ5.set L (some (.lst ([qu 1] ++ [qu 0] ++ [qu 2] ++ [qu 1]))))[L]? = some (some (.lst ([qu 1] ++ [qu 0] ++ [qu 2] ++ [qu 1]))) := get_set_eq g5
  have h6 : DealAt 1 0 (μ5.set L (some (.lst ([qu 1] ++ [qu 0] ++ [qu 2] ++ [qu 1])))) := deal_set h5 n1 n0
  generalize μ5.set L (some (.lst ([qu 1] ++ [qu 0] ++ [qu 2] ++ [qu 1]))) = μ6 at g6 h6 s3
  have s4 := app_ok (i := 5) (ρ := row12 x0 x1 x2 x3 x4 (some (.ob L)) (some bad) x7 (some q) (some (.int a)) (some (.int p))) rfl g6 (e4_ok (p := p) (a := a) (bad := bad) (q := q) hq) g6 (small_len (by simp))
  have g7 : (μ6.set L (some (.lst ([qu 1] ++ [qu 0] ++ [qu 2] ++ [qu 1] ++ [qu 0]))))[L]? = some (some (.lst ([qu 1] ++ [qu 0] ++ [qu 2] ++ [qu 1] ++ [qu 0]))) := get_set_eq g6
  have h7 : DealAt 1 0 (μ6.set L (some (.lst ([qu 1] ++ [qu 0] ++ [qu 2] ++ [qu 1] ++ [qu 0])))) := deal_set h6 n1 n0
  generalize μ6.set L (some (.lst ([qu 1] ++ [qu 0] ++ [qu 2] ++ [qu 1] ++ [qu 0]))) = μ7 at g7 h7 s4
  have sm : m_L_same 8 [.lst [qu 1, qu 0, qu 2, qu 1, qu 0], .lst [qu 1, qu 0, qu 2, qu 1, qu 0]] (μ7.set L none) = some (.ok (.bl true) (μ7.set L none)) := same_refl 7 _ (by decide +kernel)
  have s5 : t12 (row12 x0 x1 x2 x3 x4 (some (.ob L)) (some bad) x7 (some q) (some (.int a)) (some (.int p))) μ7 = some (.nx (row12 x0 x1 x2 x3 x4 (some (.lst [qu 1, qu 0, qu 2, qu 1, qu 0])) (some bad) x7 (some q) (some (.int a)) (some (.int p))) (μ7.set L none)) := by
    rw [t12, frz_ev (n := L) rfl g7]
    simp [mVar_ev, lineS, sm]
  exact ⟨_, _, by rw [sSeq_ev, s0, seqK_nx, sSeq_ev, s1, seqK_nx, sSeq_ev, s2, seqK_nx, sSeq_ev, s3, seqK_nx, sSeq_ev, s4, seqK_nx, s5], deal_set h7 n1 n0⟩
theorem f6_ok (h : DealAt 1 0 μ) : ∃ ρ' μ', b_law_F6 (row12 x0 x1 x2 x3 x4 x5 x6 x7 x9 x10 x11) μ = some (.nx ρ' μ') ∧ Iv ρ' μ' := by
  obtain ⟨p, μ1, hp, s1, h1⟩ := t1_ok (x0 := x0) (x1 := x1) (x2 := x2) (x3 := x3) (x4 := x4) (x5 := x5) (x6 := x6) (x7 := x7) (x9 := x9) (x10 := x10) (x11 := x11) h
  obtain ⟨a, b, μ2, ha, hb, s2, h2⟩ := t2_ok (x0 := x0) (x1 := x1) (x2 := x2) (x3 := x3) (x4 := x4) (x5 := x5) (x6 := x6) (x7 := x7) (x9 := x9) (x10 := x10) hp h1
  obtain ⟨n, μ3, hn, s3, h3⟩ := t3_ok (x0 := x0) (x1 := x1) (x2 := some (.int b)) (x3 := x3) (x4 := x4) (x5 := x5) (x6 := x6) (x7 := x7) (x9 := x9) (x10 := some (.int a)) hp h2
  have s4 := t4_ok (x0 := x0) (x1 := x1) (x3 := x3) (x5 := x5) (x6 := x6) (x7 := x7) (x9 := x9) (μ := μ3) hp ha hb hn
  have s5 := t5_ok (x0 := x0) (x1 := x1) (x2 := some (.int b)) (x3 := x3) (x4 := some (.int n)) (x5 := x5) (x6 := x6) (x7 := x7) (x9 := x9) (μ := μ3 ++ [none]) hp ha
  obtain ⟨bad, q, μ6, hbad, hq, s6, h6⟩ := t6_ok (x0 := x0) (x1 := x1) (x2 := some (.int b)) (x3 := x3) (x4 := some (.int n)) (x5 := x5) (x6 := x6) (x7 := x7) (x9 := x9) (x10 := some (.int a)) hp (deal_app (ν := [none]) h3)
  obtain ⟨y5, y7, μ7, s7, h7⟩ := t7_ok (x0 := x0) (x1 := x1) (x2 := some (.int b)) (x3 := x3) (x4 := some (.int n)) (x5 := x5) (x7 := x7) hp ha hbad hq h6
  obtain ⟨z5, μ8, s8, h8⟩ := five_ok (x0 := x0) (x1 := x1) (x2 := some (.int b)) (x3 := x3) (x4 := some (.int n)) (x5 := y5) (x7 := y7) hp ha hbad hq h7
  exact ⟨_, _, by rw [f6_is, sSeq_ev, s1, seqK_nx, sSeq_ev, s2, seqK_nx, sSeq_ev, s3, seqK_nx, sSeq_ev, s4, seqK_nx, sSeq_ev, s5, seqK_nx, sSeq_ev, s6, seqK_nx, sSeq_ev, s7, seqK_nx, s8], ⟨_, _, _, _, _, _, _, _, _, _, _, rfl⟩, h8⟩
theorem f6_all {ds : List D} {ρ : Rho} (hi : Iv ρ μ) : ∃ ρ' μ', forLoop (gN 3) b_law_F6 ds ρ μ = some (.nx ρ' μ') ∧ Iv ρ' μ' := by
  refine for_ok (I := Iv) (fun d hd ρ μ ⟨⟨x0, x1, x2, x3, x4, x5, x6, x7, x9, x10, x11, e⟩, hD⟩ => ?_) ρ μ hi
  subst e
  obtain ⟨ρ', μ', e, i⟩ := f6_ok (x0 := x0) (x1 := x1) (x2 := x2) (x3 := some d) (x4 := x4) (x5 := x5) (x6 := x6) (x7 := x7) (x9 := x9) (x10 := x10) (x11 := x11) hD
  exact ⟨_, ρ', μ', rfl, e, i⟩
end
/-- the values that are asked of is_prime_told -/
def asked : List D := rgD 0 110 ++ [.int (-1), .int (-2), .bl true, .bl false, .non, .str "7", .tup [.int 7], .lst [.int 7], .int 101, .int 9409, .int 10000000000000000000000000000000000000000]
theorem asked_kinds : ∀ d ∈ asked, kindD d := fun d hd => by
  unfold asked at hd
  rcases List.mem_append.mp hd with h | h
  · unfold rgD at h
    obtain ⟨i, _, e⟩ := List.mem_map.mp h
    exact .inl ⟨_, e.symm⟩
  · simp only [List.mem_cons, List.not_mem_nil, or_false] at h
    rcases h with e | e | e | e | e | e | e | e | e | e | e <;> subst e
    · exact .inl ⟨_, rfl⟩
    · exact .inl ⟨_, rfl⟩
    · exact .inr ⟨.bl, by decide, fun _ => rfl⟩
    · exact .inr ⟨.bl, by decide, fun _ => rfl⟩
    · exact .inr ⟨.non, by decide, fun _ => rfl⟩
    · exact .inr ⟨.str, by decide, fun _ => rfl⟩
    · exact .inr ⟨.tup, by decide, fun _ => rfl⟩
    · exact .inr ⟨.lst, by decide, fun _ => rfl⟩
    · exact .inl ⟨_, rfl⟩
    · exact .inl ⟨_, rfl⟩
    · exact .inl ⟨_, rfl⟩
theorem plain (ns : List Int) (hn : ns.length ≤ 63) (_ : ∀ z ∈ ns, Builtin.Int.intBits z ≤ 1048576) (d : D) (hd : d = .lst (ns.map .int) ∨ d = .ro (ns.map .int)) : ∃ μ, m_law [d] [] = some (.ok (.bl true) μ) := by
  obtain ⟨μ1, e1, h1⟩ := draw_ok hn hd (salt := 1) (by decide) (by decide)
  -- the values asked
  obtain ⟨ρ2, μ2, l2, i2⟩ := f1_all (ds := asked) (ρ := row12 (some d) none none none none none none none none none none) asked_kinds ⟨⟨_, _, _, _, _, _, _, _, _, _, _, rfl⟩, h1⟩
  obtain ⟨⟨a0, a1, a2, a3, a4, a5, a6, a7, a9, a10, a11, e2⟩, h2⟩ := i2
  subst e2
  -- the small primes
  obtain ⟨x, μ3, hx, e3, h3, _⟩ := of_ok (some_ := .lst [.int 7, .int 11]) h2 (.inl rfl) (by simp) (by simp)
  obtain ⟨r, er, hr⟩ : ∃ r : Int, x = .int r ∧ r ∈ P25 := by
    simp only [List.mem_cons, List.not_mem_nil, or_false] at hx
    rcases hx with e | e <;> subst e
    · exact ⟨7, rfl, by decide⟩
    · exact ⟨11, rfl, by decide⟩
  subst er
  have hps : ∀ p ∈ ([2, 3, 5, r] : List Int), p ∈ P25 := fun p hp => by
    simp only [List.mem_cons, List.not_mem_nil, or_false] at hp
    rcases hp with e | e | e | e
    · rw [e]; decide
    · rw [e]; decide
    · rw [e]; decide
    · rw [e]; exact hr
  obtain ⟨ρ4, μ4, l4, i4⟩ := f4_all (ps := [2, 3, 5, r]) (ρ := row12 a0 a1 a2 a3 a4 a5 a6 a7 a9 a10 a11) hps ⟨⟨_, _, _, _, _, _, _, _, _, _, _, rfl⟩, h3⟩
  obtain ⟨⟨b0, b1, b2, b3, b4, b5, b6, b7, b9, b10, b11, e4⟩, h4⟩ := i4
  subst e4
  -- the turns
  obtain ⟨ρ5, μ5, l5, i5⟩ := f6_all (ds := rangeD 0 20) (ρ := row12 b0 b1 b2 b3 b4 b5 b6 b7 b9 b10 b11) ⟨⟨_, _, _, _, _, _, _, _, _, _, _, rfl⟩, h4⟩
  refine ⟨μ5, ?_⟩
  have s0 : sAsg (mApp 2 m_L_draw [] (aCons (mVar 0) (aCons (mC (.int 1)) aNil))) (gN 8) [some d, none, none, none, none, none, none, none, none, none, none, none] [] = some (.nx (row12 (some d) none none none none none none none none none none) μ1) := by
    simp [mVar_ev, e1]
  have it1 : iSeq (mOp dAdd (mRange1 kLst (mC (.int 110))) (mLst (aCons (mUn iNeg (mC (.int 1))) (aCons (mUn iNeg (mC (.int 2))) (aCons (mC (.bl true)) (aCons (mC (.bl false)) (aCons (mC .non) (aCons (mC (.str "7")) (aCons (mTup (aCons (mC (.int 7)) aNil)) (aCons (mLst (aCons (mC (.int 7)) aNil)) (aCons (mC (.int 101)) (aCons (mC (.int 9409)) (aCons (mOp iPow (mC (.int 10)) (mC (.int 40))) aNil))))))))))))) (row12 (some d) none none none none none none none none none none) μ1 = some (.ok asked μ1) := by
    have k1 : mRange1 kLst (mC (.int 110)) (row12 (some d) none none none none none none none none none none) μ1 = some (.ok (.lst (rgD 0 110)) μ1) := by
      show kLst 0 110 μ1 = _
      unfold kLst
      rw [if_pos (by decide)]
    have k2 : ∀ es : List D, es.length = 11 → dAdd (.lst (rgD 0 110)) (.lst es) μ1 = some (.lst (rgD 0 110 ++ es)) := fun es he => by
      show (if (rgD 0 110).length + es.length ≤ lineS then some (D.lst (rgD 0 110 ++ es)) else none) = _
      rw [if_pos (by
        have : (rgD 0 110).length = 110 := by unfold rgD; simp
        rw [this, he]
        unfold lineS
        omega)]
    simp only [iSeq_ev, mOp_ev, k1, bindO_ok]
    simp [lineS, pow40, k2, asked]
  have it4 : iSeq (mLst (aCons (mC (.int 2)) (aCons (mC (.int 3)) (aCons (mC (.int 5)) (aCons (mApp 2 m_L_of [] (aCons (mVar 8) (aCons (mLst (aCons (mC (.int 7)) (aCons (mC (.int 11)) aNil))) aNil))) aNil))))) (row12 a0 a1 a2 a3 a4 a5 a6 a7 a9 a10 a11) μ2 = some (.ok (([2, 3, 5, r] : List Int).map .int) μ3) := by
    simp [mVar_ev, lineS, e3]
  have it6 : iRange1 (aCons (mC (.int 20)) aNil) (row12 b0 b1 b2 b3 b4 b5 b6 b7 b9 b10 b11) μ4 = some (.ok (rangeD 0 20) μ4) := rfl
  simp only [m_law, mFn_ev, b_law, List.map_cons, List.map_nil, List.length_cons, List.length_nil]
  simp only [show List.replicate (12 - (0 + 1)) (none : Option D) = [none, none, none, none, none, none, none, none, none, none, none] from rfl, List.cons_append, List.nil_append]
  rw [sSeq_ev, s0, seqK_nx, sSeq_ev, sFor_ev, it1, forK_ok, l2, seqK_nx, sSeq_ev, sFor_ev, it4, forK_ok, l4, seqK_nx, sSeq_ev, sFor_ev, it6, forK_ok, l5, seqK_nx]
  rfl
end K01


open PySem PySem.W PySem.Calls PyProof.Rows
set_option maxRecDepth 100000 in
set_option maxHeartbeats 0 in
theorem PySem.Challenge.cw_dealtoncurves_k01_whole_numbers_by_a_pri_holds : PySem.Challenge.rw_dealtoncurves_k01_whole_numbers_by_a_pri.Holds := by
  w_on; o_law
  refine HandSHeadRun.head_any (r := OpenLaw.row PySem.Challenge.rw_dealtoncurves_k01_whole_numbers_by_a_pri) (q := view (OpenLaw.row PySem.Challenge.rw_dealtoncurves_k01_whole_numbers_by_a_pri).prog [32]) (H := K01.hk) (ob := K01.ob) (M := 8000) (loose := K01.loose) (d := HandSHeadRun.topDef (OpenLaw.row PySem.Challenge.rw_dealtoncurves_k01_whole_numbers_by_a_pri).prog 32) (kwd := []) K01.ob_eq
    (by kernel_rfl) (fun s => by kernel_rfl) K01.run (by kernel_rfl) (by kernel_rfl) (by kernel_rfl) (by rfl) (by first | assumption | decide +kernel) (by decide +kernel) ⟨rfl, rfl, rfl, rfl, rfl, by decide +kernel⟩ ?hw ?hc
  case hw => w_witness2
  case hc =>
    refine LamX.walk_ofTsE (l := PySem.Challenge.rw_dealtoncurves_k01_whole_numbers_by_a_pri) (n := 63) (k := 13) (x := "script") (CX := fun w => L2.CX K01.prog w) rfl (by decide) (by kernel_rfl) ⟨rfl, by decide, by decide⟩ ?F (fun _ _ _ _ _ z => MV.noneOut z)
    intro w mg fa h Y G hmg0
    obtain ⟨K, KX, c⟩ := Y
    have hmg : mg ("law" : PySem.Str) = some (.ref fa) := by
      have e : (HandSHeadRun.topDef (OpenLaw.row PySem.Challenge.rw_dealtoncurves_k01_whole_numbers_by_a_pri).prog 32).name = ("law" : PySem.Str) := by kernel_rfl
      rw [← e]
      exact hmg0
    exact ⟨K, KX, K01.law_at KX G hmg c K01.plain⟩
