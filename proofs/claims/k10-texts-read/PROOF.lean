import PyProof.Rows.All
import Wide.All
import OpenK.AllK
import Wide.FinOn
import HandS.ForMost
import HandS.ForExc
import HandS.TupAny
import HandS.Conv
import HandS.Strs
import HandS.SetFor
import HandS.SortRule
import HandS.SortInts
import HandS.IsInst
import HandS.ExcIs
import HandS.TryOnly
import HandS.TryMany
import HandS.Replace
import HandS.HotCalls
import HandS.Comp
import HandS.SuiteRaise
import HandS.TupSets
import KE.KeyNested
import HandS.Rev
import HandS.Walk
import HandS.Deep
import PySem.Challenge.RW_votesway_k10_texts_read
set_option Elab.async false
set_option linter.all false
set_option maxRecDepth 100000
set_option maxHeartbeats 4000000
set_option autoImplicit false
/-! The D-layer: what a reading computes, said over plain data (D), no heap in sight. -/
namespace Vw
open PySem L2

inductive D where
  | non | bl (b : Bool) | int (i : Int) | str (x : Str)
  | lst (xs : List D) | tup (xs : List D)
  | cou (n : Int) (told : List (List Int))
  | scr (ns : List Int)
  /-- an object, only by where it stands -/
  | ptr (a : Addr)
def eC (c : List Int) : D := .tup (c.map .int)

/-- what a def's refusals are -/
inductive Err where
  | size | crowd | member | weights | unlike | note
  deriving DecidableEq

structure Cfg where
  K : PySem.W.Frag
  C : Addr
  ex : Err → Addr

mutual
inductive Rep (G : Cfg) (F : Hp) : V → D → Prop
  | non : Rep G F .non .non
  | bl (b : Bool) : Rep G F (.bl b) (.bl b)
  | int (i : Int) : Rep G F (.int i) (.int i)
  | str (x : Str) : Rep G F (.str x) (.str x)
  | lst {a : Addr} {vs : List V} {ds : List D} : F a = some (.lst vs) → Reps G F vs ds → Rep G F (.ref a) (.lst ds)
  | tup {a : Addr} {vs : List V} {ds : List D} : F a = some (.tup vs) → Reps G F vs ds → Rep G F (.ref a) (.tup ds)
  | cou {a dx l : Addr} {vs : List V} {n : Int} {told : List (List Int)} : F a = some (.ins G.C dx [(("size" : Str), V.int n), (("told" : Str), V.ref l)]) → F l = some (.lst vs) → Reps G F vs (told.map eC) → Rep G F (.ref a) (.cou n told)
  | scr {a : Addr} {ns : List Int} : SqL G.K F a (ns.map V.int) → Rep G F (.ref a) (.scr ns)
  | ptr (a : Addr) : Rep G F (.ref a) (.ptr a)
inductive Reps (G : Cfg) (F : Hp) : List V → List D → Prop
  | nil : Reps G F [] []
  | cons {v : V} {vs : List V} {d : D} {ds : List D} : Rep G F v d → Reps G F vs ds → Reps G F (v :: vs) (d :: ds)
end

theorem sq_same {K : PySem.W.Frag} {H H' : Hp} {a : Addr} {xs : List V} (e : Same H H') (h : SqL K H a xs) : SqL K H' a xs := e.seq h

mutual
theorem Rep.mono {G : Cfg} {F F' : Hp} (e : Same F F') : ∀ {v : V} {d : D}, Rep G F v d → Rep G F' v d
  | _, _, .non => .non
  | _, _, .bl b => .bl b
  | _, _, .int i => .int i
  | _, _, .str x => .str x
  | _, _, .lst h r => .lst (e _ _ h) (Reps.mono e r)
  | _, _, .tup h r => .tup (e _ _ h) (Reps.mono e r)
  | _, _, .cou h1 h2 r => .cou (e _ _ h1) (e _ _ h2) (Reps.mono e r)
  | _, _, .scr h => .scr (sq_same e h)
  | _, _, .ptr a => .ptr a
theorem Reps.mono {G : Cfg} {F F' : Hp} (e : Same F F') : ∀ {vs : List V} {ds : List D}, Reps G F vs ds → Reps G F' vs ds
  | _, _, .nil => .nil
  | _, _, .cons h r => .cons (Rep.mono e h) (Reps.mono e r)
end
theorem Reps.length {G : Cfg} {F : Hp} : ∀ {vs : List V} {ds : List D}, Reps G F vs ds → vs.length = ds.length
  | _, _, .nil => rfl
  | _, _, .cons _ r => congrArg (· + 1) (Reps.length r)
theorem Reps.get {G : Cfg} {F : Hp} : ∀ {vs : List V} {ds : List D} {i : Nat} {v : V}, Reps G F vs ds → vs[i]? = some v → ∃ d, ds[i]? = some d ∧ Rep G F v d
  | _, _, _, _, .nil, e => by simp at e
  | _, _, 0, _, .cons r _, e => by simp at e; subst e; exact ⟨_, rfl, r⟩
  | _, _, i + 1, x, .cons _ t, e => by
    obtain ⟨u, h1, h2⟩ := Reps.get (i := i) t (by simpa using e)
    exact ⟨u, by simpa using h1, h2⟩
theorem Reps.getD {G : Cfg} {F : Hp} : ∀ {vs : List V} {ds : List D} {i : Nat} {d : D}, Reps G F vs ds → ds[i]? = some d → ∃ v, vs[i]? = some v ∧ Rep G F v d
  | _, _, _, _, .nil, e => by simp at e
  | _, _, 0, _, .cons r _, e => by simp at e; subst e; exact ⟨_, rfl, r⟩
  | _, _, i + 1, x, .cons _ t, e => by
    obtain ⟨u, h1, h2⟩ := Reps.getD (i := i) t (by simpa using e)
    exact ⟨u, by simpa using h1, h2⟩
theorem Reps.append {G : Cfg} {F : Hp} : ∀ {vs ws : List V} {ds es : List D}, Reps G F vs ds → Reps G F ws es → Reps G F (vs ++ ws) (ds ++ es)
  | _, _, _, _, .nil, s => s
  | _, _, _, _, .cons r t, s => .cons r (Reps.append t s)
theorem Reps.one {G : Cfg} {F : Hp} {v : V} {d : D} (h : Rep G F v d) : Reps G F [v] [d] := .cons h .nil
theorem Reps.take {G : Cfg} {F : Hp} : ∀ {vs : List V} {ds : List D} (n : Nat), Reps G F vs ds → Reps G F (vs.take n) (ds.take n)
  | _, _, 0, _ => .nil
  | _, _, _ + 1, .nil => .nil
  | _, _, n + 1, .cons r t => .cons r (Reps.take n t)
theorem Reps.drop {G : Cfg} {F : Hp} : ∀ {vs : List V} {ds : List D} (n : Nat), Reps G F vs ds → Reps G F (vs.drop n) (ds.drop n)
  | _, _, 0, r => r
  | _, _, _ + 1, .nil => .nil
  | _, _, n + 1, .cons _ t => Reps.drop n t
theorem Reps.set {G : Cfg} {F : Hp} {v : V} {d : D} (r : Rep G F v d) : ∀ {vs : List V} {ds : List D} (i : Nat), Reps G F vs ds → Reps G F (vs.set i v) (ds.set i d)
  | _, _, _, .nil => .nil
  | _, _, 0, .cons _ t => .cons r t
  | _, _, i + 1, .cons q t => .cons q (Reps.set r i t)
theorem Reps.ints {G : Cfg} {F : Hp} : ∀ {vs : List V} {ns : List Int}, Reps G F vs (ns.map D.int) → vs = ns.map V.int
  | _, [], .nil => rfl
  | _, n :: ns, .cons h r => by
    cases h
    rw [Reps.ints r]
    rfl
theorem Reps.ofInts {G : Cfg} {F : Hp} : ∀ (ns : List Int), Reps G F (ns.map V.int) (ns.map D.int)
  | [] => .nil
  | n :: ns => .cons (.int n) (Reps.ofInts ns)

/-! ### growing -/
structure Grow (F H F' H' : Hp) : Prop where
  ef : Same F F'
  eh : Same H H'
  sub : Same F' H'
  new : ∀ a, F a = none → H a ≠ none → F' a = none
theorem Grow.refl {F H : Hp} (s : Same F H) : Grow F H F H := ⟨Same.refl _, Same.refl _, s, fun _ h _ => h⟩
theorem some_ne {H H' : Hp} {a : Addr} (e : Same H H') (h : H a ≠ none) : H' a ≠ none := by
  cases q : H a with
  | none => exact absurd q h
  | some o =>
    rw [e a o q]
    exact fun z => nomatch z
theorem Grow.trans {F H F1 H1 F2 H2 : Hp} (a : Grow F H F1 H1) (b : Grow F1 H1 F2 H2) : Grow F H F2 H2 :=
  ⟨a.ef.trans b.ef, a.eh.trans b.eh, b.sub, fun x h h' => b.new x (a.new x h h') (some_ne a.eh h')⟩
theorem Grow.laid {F H F1 H1 : Hp} (g : Grow F H F1 H1) {p : Addr} {o : HO} (hp : H1 p = none) : Grow F H (upd F1 p o) (upd H1 p o) := by
  have fp : F1 p = none := g.sub.free hp
  have h0 : H p = none := g.eh.free hp
  refine ⟨fun a u h => ?_, fun a u h => ?_, fun a u h => ?_, fun a h h' => ?_⟩
  · rw [upd_ne (ne_of_none (g.ef a u h) fp)]
    exact g.ef a u h
  · rw [upd_ne (ne_of_none h h0)]
    exact g.eh a u h
  · by_cases e : a = p
    · subst e
      rw [upd_same] at h ⊢
      exact h
    · rw [upd_ne e] at h ⊢
      exact g.sub a u h
  · have e : a ≠ p := by
      intro e
      subst e
      exact h' h0
    rw [upd_ne e]
    exact g.new a h h'
/-- a new list that is nobody's yet -/
theorem Grow.fresh {F H F1 H1 : Hp} (g : Grow F H F1 H1) {p : Addr} {o : HO} (hp : H1 p = none) : Grow F H F1 (upd H1 p o) := by
  have h0 : H p = none := g.eh.free hp
  refine ⟨g.ef, fun a u h => ?_, fun a u h => ?_, g.new⟩
  · rw [upd_ne (ne_of_none h h0)]
    exact g.eh a u h
  · rw [upd_ne (ne_of_none (g.sub a u h) hp)]
    exact g.sub a u h
/-- a list that was nobody's is data from now on -/
theorem Grow.take {F H F1 H1 : Hp} (g : Grow F H F1 H1) (s : Same F H) {p : Addr} {o : HO} (h0 : H p = none) (h1 : H1 p = some o) : Grow F H (upd F1 p o) H1 := by
  have f0 : F p = none := s.free h0
  refine ⟨fun a u h => ?_, g.eh, fun a u h => ?_, fun a h h' => ?_⟩
  · rw [upd_ne (ne_of_none h f0)]
    exact g.ef a u h
  · by_cases e : a = p
    · subst e
      rw [upd_same] at h
      rw [h1, ← h]
    · rw [upd_ne e] at h
      exact g.sub a u h
  · have e : a ≠ p := by
      intro e
      subst e
      exact h' h0
    rw [upd_ne e]
    exact g.new a h h'
theorem same_upd {F : Hp} {p : Addr} {o : HO} (h : F p = none) : Same F (upd F p o) := fun a u q => by
  rw [upd_ne (ne_of_none q h)]
  exact q

/-! ### environments -/
inductive Sl where
  | no | im (d : D) | ar (ds : List D) | own (ds : List D)
def SlOk (G : Cfg) (H0 F H : Hp) : Sl → Option (Option V) → Prop
  | .no, _ => True
  | .im d, o => ∃ v, o = some (some v) ∧ Rep G F v d
  | .ar ds, o => ∃ a vs, o = some (some (.ref a)) ∧ H0 a = some (.lst vs) ∧ Reps G F vs ds
  | .own ds, o => ∃ a vs, o = some (some (.ref a)) ∧ H0 a = none ∧ F a = none ∧ H a = some (.lst vs) ∧ Reps G F vs ds
abbrev Rho := List Sl
structure REnv (G : Cfg) (F0 H0 F H : Hp) (σ : L2.St) (ρ : Rho) : Prop where
  s0 : Same F0 H0
  g : Grow F0 H0 F H
  len : σ.length = ρ.length
  sl : ∀ (i : Nat) (s : Sl), ρ[i]? = some s → SlOk G H0 F H s (σ[i]?)
  inj : ∀ (i j : Nat) (ds es : List D) (a : Addr), ρ[i]? = some (.own ds) → ρ[j]? = some (.own es) → σ[i]? = some (some (.ref a)) → σ[j]? = some (some (.ref a)) → i = j
theorem SlOk.grow {G : Cfg} {H0 F H F' H' : Hp} (g : Grow F H F' H') : ∀ {s : Sl} {o : Option (Option V)}, SlOk G H0 F H s o → SlOk G H0 F' H' s o
  | .no, _, _ => trivial
  | .im _, _, ⟨v, e, r⟩ => ⟨v, e, r.mono g.ef⟩
  | .ar _, _, ⟨a, vs, e, h, r⟩ => ⟨a, vs, e, h, r.mono g.ef⟩
  | .own _, _, ⟨a, vs, e, h0, hf, h, r⟩ => ⟨a, vs, e, h0, g.new a hf (by rw [h]; exact fun z => nomatch z), g.eh a _ h, r.mono g.ef⟩
theorem REnv.grow {G : Cfg} {F0 H0 F H F' H' : Hp} {σ : L2.St} {ρ : Rho} (E : REnv G F0 H0 F H σ ρ) (g : Grow F H F' H') : REnv G F0 H0 F' H' σ ρ :=
  ⟨E.s0, E.g.trans g, E.len, fun i s h => (E.sl i s h).grow g, E.inj⟩
theorem REnv.sub {G : Cfg} {F0 H0 F H : Hp} {σ : L2.St} {ρ : Rho} (E : REnv G F0 H0 F H σ ρ) : Same F H := E.g.sub
theorem get_set {α : Type} {l : List α} {i j : Nat} {x : α} : (l.set i x)[j]? = if i = j ∧ j < l.length then some x else l[j]? := by
  rw [List.getElem?_set]
  by_cases h : i = j
  · subst h
    by_cases h2 : i < l.length
    · simp [h2]
    · simp [h2]
  · simp [h]
theorem REnv.setIm {G : Cfg} {F0 H0 F H : Hp} {σ : L2.St} {ρ : Rho} (E : REnv G F0 H0 F H σ ρ) {i : Nat} {v : V} {d : D} (r : Rep G F v d) : REnv G F0 H0 F H (σ.set i (some v)) (ρ.set i (.im d)) := by
  refine ⟨E.s0, E.g, by rw [List.length_set, List.length_set]; exact E.len, fun j s h => ?_, fun j k ds es a h1 h2 h3 h4 => ?_⟩
  · rw [get_set] at h ⊢
    by_cases c : i = j ∧ j < ρ.length
    · rw [if_pos c] at h
      cases h
      rw [if_pos ⟨c.1, by rw [E.len]; exact c.2⟩]
      exact ⟨v, rfl, r⟩
    · rw [if_neg c] at h
      rw [if_neg (by rw [E.len]; exact c)]
      exact E.sl j s h
  · rw [get_set] at h1 h2 h3 h4
    by_cases c1 : i = j ∧ j < ρ.length
    · rw [if_pos c1] at h1
      cases h1
    · by_cases c2 : i = k ∧ k < ρ.length
      · rw [if_pos c2] at h2
        cases h2
      · rw [if_neg c1] at h1
        rw [if_neg c2] at h2
        rw [if_neg (by rw [E.len]; exact c1)] at h3
        rw [if_neg (by rw [E.len]; exact c2)] at h4
        exact E.inj j k ds es a h1 h2 h3 h4
theorem REnv.setNo {G : Cfg} {F0 H0 F H : Hp} {σ : L2.St} {ρ : Rho} (E : REnv G F0 H0 F H σ ρ) {i : Nat} {o : Option V} : REnv G F0 H0 F H (σ.set i o) (ρ.set i .no) := by
  refine ⟨E.s0, E.g, by rw [List.length_set, List.length_set]; exact E.len, fun j s h => ?_, fun j k ds es a h1 h2 h3 h4 => ?_⟩
  · rw [get_set] at h ⊢
    by_cases c : i = j ∧ j < ρ.length
    · rw [if_pos c] at h
      cases h
      trivial
    · rw [if_neg c] at h
      rw [if_neg (by rw [E.len]; exact c)]
      exact E.sl j s h
  · rw [get_set] at h1 h2 h3 h4
    by_cases c1 : i = j ∧ j < ρ.length
    · rw [if_pos c1] at h1
      cases h1
    · by_cases c2 : i = k ∧ k < ρ.length
      · rw [if_pos c2] at h2
        cases h2
      · rw [if_neg c1] at h1
        rw [if_neg c2] at h2
        rw [if_neg (by rw [E.len]; exact c1)] at h3
        rw [if_neg (by rw [E.len]; exact c2)] at h4
        exact E.inj j k ds es a h1 h2 h3 h4
/-- a new list comes to a slot -/
theorem REnv.setOwn {G : Cfg} {F0 H0 F H F' H' : Hp} {σ : L2.St} {ρ : Rho} (E : REnv G F0 H0 F H σ ρ) (g : Grow F H F' H') {i : Nat} {a : Addr} {vs : List V} {ds : List D} (h0 : H a = none) (hf : F' a = none) (h1 : H' a = some (.lst vs)) (r : Reps G F' vs ds) :
    REnv G F0 H0 F' H' (σ.set i (some (.ref a))) (ρ.set i (.own ds)) := by
  have E' := E.grow g
  refine ⟨E.s0, E'.g, by rw [List.length_set, List.length_set]; exact E.len, fun j s h => ?_, fun j k ds es b h1' h2 h3 h4 => ?_⟩
  · rw [get_set] at h ⊢
    by_cases c : i = j ∧ j < ρ.length
    · rw [if_pos c] at h
      cases h
      rw [if_pos ⟨c.1, by rw [E.len]; exact c.2⟩]
      exact ⟨a, vs, rfl, E.g.eh.free h0, hf, h1, r⟩
    · rw [if_neg c] at h
      rw [if_neg (by rw [E.len]; exact c)]
      exact E'.sl j s h
  · have old : ∀ (j : Nat) (es : List D), ρ[j]? = some (Sl.own es) → σ[j]? ≠ some (some (V.ref a)) := fun j es q z => by
      obtain ⟨b, ws, e, _, _, hb, _⟩ := E.sl j _ q
      rw [z] at e
      cases e
      rw [h0] at hb
      cases hb
    rw [get_set] at h1' h2 h3 h4
    by_cases c1 : i = j ∧ j < ρ.length
    · rw [if_pos ⟨c1.1, by rw [E.len]; exact c1.2⟩] at h3
      cases h3
      by_cases c2 : i = k ∧ k < ρ.length
      · exact c1.1.symm.trans c2.1
      · rw [if_neg c2] at h2
        rw [if_neg (by rw [E.len]; exact c2)] at h4
        exact absurd h4 (old k _ h2)
    · rw [if_neg c1] at h1'
      rw [if_neg (by rw [E.len]; exact c1)] at h3
      by_cases c2 : i = k ∧ k < ρ.length
      · rw [if_pos ⟨c2.1, by rw [E.len]; exact c2.2⟩] at h4
        cases h4
        exact absurd h3 (old j _ h1')
      · rw [if_neg c2] at h2
        rw [if_neg (by rw [E.len]; exact c2)] at h4
        exact E.inj j k _ _ b h1' h2 h3 h4
/-- an own list is written -/
theorem REnv.write {G : Cfg} {F0 H0 F H F' H' : Hp} {σ : L2.St} {ρ : Rho} (E : REnv G F0 H0 F H σ ρ) (g : Grow F H F' H') {i : Nat} {a : Addr} {ds es : List D} {ws : List V} (hi : ρ[i]? = some (.own ds)) (hs : σ[i]? = some (some (.ref a))) (r : Reps G F' ws es) :
    REnv G F0 H0 F' (upd H' a (.lst ws)) σ (ρ.set i (.own es)) := by
  have E' := E.grow g
  obtain ⟨b, us, e, b0, bf, bh, br⟩ := E'.sl i _ hi
  rw [hs] at e
  cases e
  refine ⟨E.s0, ⟨E'.g.ef, fun x o h => ?_, fun x o h => ?_, E'.g.new⟩, by rw [List.length_set]; exact E.len, fun j s h => ?_, fun j k ds' es' b h1' h2 h3 h4 => ?_⟩
  · rw [upd_ne (ne_of_none h b0)]
    exact E'.g.eh x o h
  · rw [upd_ne (ne_of_none h bf)]
    exact E'.g.sub x o h
  · rw [get_set] at h
    by_cases c : i = j ∧ j < ρ.length
    · rw [if_pos c] at h
      cases h
      obtain ⟨rfl, _⟩ := c
      exact ⟨a, ws, hs, b0, bf, upd_same, r⟩
    · rw [if_neg c] at h
      have z := E'.sl j s h
      cases s with
      | no => trivial
      | im d => exact z
      | ar d => exact z
      | own d =>
        obtain ⟨b, us', e', b0', bf', bh', br'⟩ := z
        have ne : b ≠ a := by
          intro q
          subst q
          have hij := E.inj i j _ _ b hi h hs e'
          subst hij
          exact c ⟨rfl, by rw [← E.len]; exact (List.getElem?_eq_some_iff.mp hs).1⟩
        exact ⟨b, us', e', b0', bf', by rw [upd_ne ne]; exact bh', br'⟩
  · have back : ∀ (j : Nat) (es' : List D), (ρ.set i (Sl.own es))[j]? = some (Sl.own es') → ∃ es'', ρ[j]? = some (Sl.own es'') := fun j es' q => by
      rw [get_set] at q
      by_cases c : i = j ∧ j < ρ.length
      · obtain ⟨rfl, _⟩ := c
        exact ⟨_, hi⟩
      · rw [if_neg c] at q
        exact ⟨_, q⟩
    obtain ⟨x1, y1⟩ := back j _ h1'
    obtain ⟨x2, y2⟩ := back k _ h2
    exact E.inj j k _ _ b y1 y2 h3 h4
/-- an own list is given up: data from now on -/
theorem REnv.freeze {G : Cfg} {F0 H0 F H : Hp} {σ : L2.St} {ρ : Rho} (E : REnv G F0 H0 F H σ ρ) {i : Nat} {ds : List D} (hi : ρ[i]? = some (.own ds)) : ∃ F', Same F F' ∧ REnv G F0 H0 F' H σ (ρ.set i (.im (.lst ds))) := by
  obtain ⟨a, vs, e, b0, bf, bh, br⟩ := E.sl i _ hi
  refine ⟨upd F a (.lst vs), same_upd bf, E.s0, ⟨fun x o h => same_upd bf x o (E.g.ef x o h), E.g.eh, fun x o h => ?_, fun x h h' => ?_⟩, by rw [List.length_set]; exact E.len, fun j s h => ?_, fun j k ds' es' b h1' h2 h3 h4 => ?_⟩
  · by_cases q : x = a
    · subst q
      rw [upd_same] at h
      rw [bh, ← h]
    · rw [upd_ne q] at h
      exact E.g.sub x o h
  · have q : x ≠ a := by
      intro q
      subst q
      exact h' b0
    rw [upd_ne q]
    exact E.g.new x h h'
  · rw [get_set] at h
    by_cases c : i = j ∧ j < ρ.length
    · rw [if_pos c] at h
      cases h
      obtain ⟨rfl, _⟩ := c
      exact ⟨_, e, .lst upd_same (br.mono (same_upd bf))⟩
    · rw [if_neg c] at h
      have z := E.sl j s h
      cases s with
      | no => trivial
      | im d =>
        obtain ⟨v, e', r'⟩ := z
        exact ⟨v, e', r'.mono (same_upd bf)⟩
      | ar d =>
        obtain ⟨b, us', e', h', r'⟩ := z
        exact ⟨b, us', e', h', r'.mono (same_upd bf)⟩
      | own d =>
        obtain ⟨b, us', e', b0', bf', bh', br'⟩ := z
        have ne : b ≠ a := by
          intro q
          subst q
          have hij := E.inj i j _ _ b hi h e e'
          subst hij
          exact c ⟨rfl, by rw [← E.len]; exact (List.getElem?_eq_some_iff.mp e).1⟩
        exact ⟨b, us', e', b0', by rw [upd_ne ne]; exact bf', bh', br'.mono (same_upd bf)⟩
  · have back : ∀ (j : Nat) (es' : List D), (ρ.set i (Sl.im (.lst ds)))[j]? = some (Sl.own es') → ρ[j]? = some (Sl.own es') := fun j es' q => by
      rw [get_set] at q
      by_cases c : i = j ∧ j < ρ.length
      · rw [if_pos c] at q
        cases q
      · rw [if_neg c] at q
        exact q
    exact E.inj j k _ _ b (back j _ h1') (back k _ h2) h3 h4
/-- less is known -/
def WeakS : Sl → Sl → Prop := fun a b => b = .no ∨ a = b
def Weak (ρ ρ' : Rho) : Prop := ρ.length = ρ'.length ∧ ∀ (i : Nat) (s : Sl), ρ'[i]? = some s → s = .no ∨ ρ[i]? = some s
theorem Weak.refl (ρ : Rho) : Weak ρ ρ := ⟨rfl, fun _ _ h => .inr h⟩
theorem REnv.weak {G : Cfg} {F0 H0 F H : Hp} {σ : L2.St} {ρ ρ' : Rho} (E : REnv G F0 H0 F H σ ρ) (w : Weak ρ ρ') : REnv G F0 H0 F H σ ρ' :=
  ⟨E.s0, E.g, E.len.trans w.1, fun i s h => by
    rcases w.2 i s h with e | e
    · subst e
      trivial
    · exact E.sl i s e, fun i j ds es a h1 h2 h3 h4 => by
    rcases w.2 i _ h1 with e | e
    · cases e
    · rcases w.2 j _ h2 with e' | e'
      · cases e'
      · exact E.inj i j ds es a e e' h3 h4⟩
def weakB : Rho → Rho → Prop
  | [], [] => True
  | a :: r, b :: s => (b = .no ∨ a = b) ∧ weakB r s
  | _, _ => False
theorem Weak.of : ∀ {ρ ρ' : Rho}, weakB ρ ρ' → Weak ρ ρ'
  | [], [], _ => .refl _
  | [], _ :: _, h => h.elim
  | _ :: _, [], h => h.elim
  | a :: r, b :: s, ⟨h1, h2⟩ => by
    have w := Weak.of h2
    refine ⟨congrArg (· + 1) w.1, fun i t h => ?_⟩
    cases i with
    | zero =>
      simp at h
      subst h
      rcases h1 with e | e
      · exact .inl e
      · exact .inr (by rw [e]; rfl)
    | succ i => exact w.2 i t (by simpa using h)
end Vw

namespace Vw
open PySem L2

/-! ### what expressions come to -/
section
variable (G : Cfg)
def EvD (te : TE) (ρ : Rho) (d : D) : Prop := ∀ F0 H0 F H σ, REnv G F0 H0 F H σ ρ → ∀ Q : VK, (∀ v F' H', Grow F H F' H' → Rep G F' v d → Q v H') → te σ H Q
/-- a list to be read (it may be an own one) -/
def EvS (te : TE) (ρ : Rho) (ds : List D) : Prop := ∀ F0 H0 F H σ, REnv G F0 H0 F H σ ρ → ∀ Q : VK, (∀ a vs F' H', Grow F H F' H' → H' a = some (.lst vs) → Reps G F' vs ds → Q (.ref a) H') → te σ H Q
/-- a list that stands still -/
def EvZ (te : TE) (ρ : Rho) (ds : List D) : Prop := ∀ F0 H0 F H σ, REnv G F0 H0 F H σ ρ → ∀ Q : VK, (∀ a vs F' H', Grow F H F' H' → (F' a = some (.lst vs) ∨ H0 a = some (.lst vs)) → Reps G F' vs ds → Q (.ref a) H') → te σ H Q
/-- a new list -/
def EvN (te : TE) (ρ : Rho) (ds : List D) : Prop := ∀ F0 H0 F H σ, REnv G F0 H0 F H σ ρ → ∀ Q : VK, (∀ a vs F' H', Grow F H F' H' → H a = none → F' a = none → H' a = some (.lst vs) → Reps G F' vs ds → Q (.ref a) H') → te σ H Q
def EvT (tt : TT) (ρ : Rho) (b : Bool) : Prop := ∀ F0 H0 F H σ, REnv G F0 H0 F H σ ρ → ∀ Q : Bool → Hp → Prop, (∀ F' H', Grow F H F' H' → Q b H') → tt σ H Q
def RepA (F H : Hp) (v : V) (d : D) : Prop := Rep G F v d ∨ ∃ a vs ds, v = .ref a ∧ d = .lst ds ∧ H a = some (.lst vs) ∧ Reps G F vs ds
def RepAs (F H : Hp) (vs : List V) (ds : List D) : Prop := Paired (RepA G F H) vs ds
def EvA (ta : TA) (ρ : Rho) (ds : List D) : Prop := ∀ F0 H0 F H σ, REnv G F0 H0 F H σ ρ → ∀ Q : List V → Hp → Prop, (∀ vs F' H', Grow F H F' H' → RepAs G F' H' vs ds → Q vs H') → ta σ H Q
def EvO (to : TO) (ρ : Rho) (o : Option Int) : Prop := ∀ F0 H0 F H σ, REnv G F0 H0 F H σ ρ → ∀ Q : Option Int → Hp → Prop, (∀ F' H', Grow F H F' H' → Q o H') → to σ H Q
end
inductive Res where
  | val (d : D) | new (ds : List D) | err (e : Err)
  /-- a new tuple of a text, a new list of ints and an int -/
  | trip (s : Str) (W : List Int) (b : Int)
def Goes (G : Cfg) (F H : Hp) (Q : VK) (E : XK) : Res → Prop
  | .val d => ∀ v F' H', Grow F H F' H' → Rep G F' v d → Q v H'
  | .new ds => ∀ a vs F' H', Grow F H F' H' → H a = none → F' a = none → H' a = some (.lst vs) → Reps G F' vs ds → Q (.ref a) H'
  | .err e => ∀ F' H', Grow F H F' H' → E (.ref (G.ex e)) none H'
  | .trip s W b => ∀ t a F' H', Grow F H F' H' → H t = none → H a = none → F' t = none → F' a = none → t ≠ a → H' t = some (.tup [.str s, .ref a, .int b]) → H' a = some (.lst (W.map V.int)) → Q (.ref t) H'
def EvX (G : Cfg) (E : XK) (te : TE) (ρ : Rho) (r : Res) : Prop := ∀ F0 H0 F H σ, REnv G F0 H0 F H σ ρ → ∀ Q : VK, Goes G F H Q E r → te σ H Q
/-- an operation of two places, of values -/
def RvD (G : Cfg) (r : R2) (x y z : D) : Prop := ∀ F H v w, Same F H → Rep G F v x → Rep G F w y → ∀ Q : VK, (∀ u F' H', Grow F H F' H' → Rep G F' u z → Q u H') → r v w H Q
/-- .. the second a list -/
def RvL (G : Cfg) (r : R2) (x : D) (ds : List D) (z : D) : Prop := ∀ F H v a vs, Same F H → Rep G F v x → H a = some (.lst vs) → Reps G F vs ds → ∀ Q : VK, (∀ u F' H', Grow F H F' H' → Rep G F' u z → Q u H') → r v (.ref a) H Q
/-- .. the first a list -/
def RvF (G : Cfg) (r : R2) (ds : List D) (y : D) (z : D) : Prop := ∀ F H a vs w, Same F H → H a = some (.lst vs) → Reps G F vs ds → Rep G F w y → ∀ Q : VK, (∀ u F' H', Grow F H F' H' → Rep G F' u z → Q u H') → r (.ref a) w H Q
/-- .. both lists -/
def RvLL (G : Cfg) (r : R2) (ds es : List D) (z : D) : Prop := ∀ F H a vs b ws, Same F H → H a = some (.lst vs) → Reps G F vs ds → H b = some (.lst ws) → Reps G F ws es → ∀ Q : VK, (∀ u F' H', Grow F H F' H' → Rep G F' u z → Q u H') → r (.ref a) (.ref b) H Q
/-- a call, of values; to a value, to a new list -/
def RcD (G : Cfg) (r : List V → Hp → VK → Prop) (ds : List D) (z : D) : Prop := ∀ F H vs, Same F H → RepAs G F H vs ds → ∀ Q : VK, (∀ u F' H', Grow F H F' H' → Rep G F' u z → Q u H') → r vs H Q
def RcN (G : Cfg) (r : List V → Hp → VK → Prop) (ds es : List D) : Prop := ∀ F H vs, Same F H → RepAs G F H vs ds → ∀ Q : VK, (∀ a ws F' H', Grow F H F' H' → H a = none → F' a = none → H' a = some (.lst ws) → Reps G F' ws es → Q (.ref a) H') → r vs H Q

section
variable {G : Cfg} {te ta tb : TE} {ρ : Rho} {d x y z : D} {ds es : List D} {t u : TT} {b c : Bool}
theorem evd_new (h : EvN G te ρ ds) : EvD G te ρ (.lst ds) := fun F0 H0 F H σ E Q q => h F0 H0 F H σ E Q fun a vs F' H' g h0 hf h1 r =>
  q _ (upd F' a (.lst vs)) H' (g.take E.sub h0 h1) (.lst upd_same (r.mono (same_upd hf)))
theorem evs_new (h : EvN G te ρ ds) : EvS G te ρ ds := fun F0 H0 F H σ E Q q => h F0 H0 F H σ E Q fun a vs F' H' g h0 hf h1 r => q a vs F' H' g h1 r
theorem evs_of (h : EvD G te ρ (.lst ds)) : EvS G te ρ ds := fun F0 H0 F H σ E Q q => h F0 H0 F H σ E Q fun v F' H' g r => by
  cases r with
  | lst h1 h2 => exact q _ _ F' H' g (g.sub _ _ h1) h2
theorem evz_of (h : EvD G te ρ (.lst ds)) : EvZ G te ρ ds := fun F0 H0 F H σ E Q q => h F0 H0 F H σ E Q fun v F' H' g r => by
  cases r with
  | lst h1 h2 => exact q _ _ F' H' g (.inl h1) h2
theorem evz_new (h : EvN G te ρ ds) : EvZ G te ρ ds := evz_of (evd_new h)
theorem evs_z (h : EvZ G te ρ ds) : EvS G te ρ ds := fun F0 H0 F H σ E Q q => h F0 H0 F H σ E Q fun a vs F' H' g h1 r => q a vs F' H' g (by
  rcases h1 with h1 | h1
  · exact g.sub _ _ h1
  · exact g.eh _ _ (E.g.eh _ _ h1)) r
theorem evd_is (h : EvD G te ρ x) (e : x = y) : EvD G te ρ y := e ▸ h
theorem evt_is (h : EvT G t ρ b) (e : b = c) : EvT G t ρ c := e ▸ h
theorem evs_is (h : EvS G te ρ ds) (e : ds = es) : EvS G te ρ es := e ▸ h
theorem evn_is (h : EvN G te ρ ds) (e : ds = es) : EvN G te ρ es := e ▸ h
theorem evd_var {i : Nat} (h : ρ[i]? = some (.im d)) : EvD G (tVar i) ρ d := fun F0 H0 F H σ E Q q => by
  obtain ⟨v, e, r⟩ := E.sl i _ h
  exact ⟨v, e, q v F H (.refl E.sub) r⟩
theorem evs_own {i : Nat} (h : ρ[i]? = some (.own ds)) : EvS G (tVar i) ρ ds := fun F0 H0 F H σ E Q q => by
  obtain ⟨a, vs, e, _, _, h1, r⟩ := E.sl i _ h
  exact ⟨_, e, q a vs F H (.refl E.sub) h1 r⟩
theorem evz_ar {i : Nat} (h : ρ[i]? = some (.ar ds)) : EvZ G (tVar i) ρ ds := fun F0 H0 F H σ E Q q => by
  obtain ⟨a, vs, e, h1, r⟩ := E.sl i _ h
  exact ⟨_, e, q a vs F H (.refl E.sub) (.inr h1) r⟩
theorem evs_ar {i : Nat} (h : ρ[i]? = some (.ar ds)) : EvS G (tVar i) ρ ds := evs_z (evz_ar h)
theorem evd_int {i : Int} : EvD G (tC (.int i)) ρ (.int i) := fun F0 H0 F H σ E Q q => q _ F H (.refl E.sub) (.int i)
theorem evd_bl : EvD G (tC (.bl b)) ρ (.bl b) := fun F0 H0 F H σ E Q q => q _ F H (.refl E.sub) (.bl b)
theorem evd_str {s : Str} : EvD G (tC (.str s)) ρ (.str s) := fun F0 H0 F H σ E Q q => q _ F H (.refl E.sub) (.str s)
theorem evd_non : EvD G (tC .non) ρ .non := fun F0 H0 F H σ E Q q => q _ F H (.refl E.sub) .non
/-! ### operations -/
theorem evd_op {r : R2} (ha : EvD G ta ρ x) (hb : EvD G tb ρ y) (hr : RvD G r x y z) : EvD G (tOp r ta tb) ρ z := fun F0 H0 F H σ E Q q =>
  ha F0 H0 F H σ E _ fun v F1 H1 g1 r1 => hb F0 H0 F1 H1 σ (E.grow g1) _ fun w F2 H2 g2 r2 => hr F2 H2 v w g2.sub (r1.mono g2.ef) r2 Q fun u F3 H3 g3 r3 => q u F3 H3 ((g1.trans g2).trans g3) r3
theorem evd_opL {r : R2} (ha : EvD G ta ρ x) (hb : EvS G tb ρ ds) (hr : RvL G r x ds z) : EvD G (tOp r ta tb) ρ z := fun F0 H0 F H σ E Q q =>
  ha F0 H0 F H σ E _ fun v F1 H1 g1 r1 => hb F0 H0 F1 H1 σ (E.grow g1) _ fun a vs F2 H2 g2 h2 r2 => hr F2 H2 v a vs g2.sub (r1.mono g2.ef) h2 r2 Q fun u F3 H3 g3 r3 => q u F3 H3 ((g1.trans g2).trans g3) r3
theorem evd_opF {r : R2} (ha : EvS G ta ρ ds) (hb : EvD G tb ρ y) (hr : RvF G r ds y z) : EvD G (tOp r ta tb) ρ z := fun F0 H0 F H σ E Q q =>
  ha F0 H0 F H σ E _ fun a vs F1 H1 g1 h1 r1 => hb F0 H0 F1 H1 σ (E.grow g1) _ fun w F2 H2 g2 r2 => hr F2 H2 a vs w g2.sub (g2.eh _ _ h1) (r1.mono g2.ef) r2 Q fun u F3 H3 g3 r3 => q u F3 H3 ((g1.trans g2).trans g3) r3
theorem evd_opLL {r : R2} (ha : EvS G ta ρ ds) (hb : EvS G tb ρ es) (hr : RvLL G r ds es z) : EvD G (tOp r ta tb) ρ z := fun F0 H0 F H σ E Q q =>
  ha F0 H0 F H σ E _ fun a vs F1 H1 g1 h1 r1 => hb F0 H0 F1 H1 σ (E.grow g1) _ fun c ws F2 H2 g2 h2 r2 => hr F2 H2 a vs c ws g2.sub (g2.eh _ _ h1) (r1.mono g2.ef) h2 r2 Q fun u F3 H3 g3 r3 => q u F3 H3 ((g1.trans g2).trans g3) r3
theorem rvd_val {r : R2} {z : D} (h : ∀ F H v w, Rep G F v x → Rep G F w y → ∀ Q : VK, (∀ u, Rep G F u z → Q u H) → r v w H Q) : RvD G r x y z := fun F H v w s rx ry Q q =>
  h F H v w rx ry Q fun u ru => q u F H (.refl s) ru
theorem rv_I0 {g : Int → Int → V} {i j : Int} (h : ∀ F, Rep G F (g i j) z) : RvD G (rI0 g) (.int i) (.int j) z := rvd_val fun F H v w rx ry Q q => by
  cases rx
  cases ry
  exact ⟨i, j, rfl, rfl, q _ (h F)⟩
theorem rv_I {C : Int → Int → Prop} {g : Int → Int → V} {i j : Int} (hc : C i j) (h : ∀ F, Rep G F (g i j) z) : RvD G (rI C g) (.int i) (.int j) z := rvd_val fun F H v w rx ry Q q => by
  cases rx
  cases ry
  exact ⟨i, j, rfl, rfl, hc, q _ (h F)⟩
section
variable {i j : Int}
theorem evd_add (ha : EvD G ta ρ (.int i)) (hb : EvD G tb ρ (.int j)) : EvD G (tOp (rI0 fun i j => .int (i + j)) ta tb) ρ (.int (i + j)) := evd_op ha hb (rv_I0 fun _ => .int _)
theorem evd_sub (ha : EvD G ta ρ (.int i)) (hb : EvD G tb ρ (.int j)) : EvD G (tOp (rI0 fun i j => .int (i - j)) ta tb) ρ (.int (i - j)) := evd_op ha hb (rv_I0 fun _ => .int _)
theorem evd_mul (ha : EvD G ta ρ (.int i)) (hb : EvD G tb ρ (.int j)) (hc : CMul i j) : EvD G (tOp (rI CMul fun i j => .int (i * j)) ta tb) ρ (.int (i * j)) := evd_op ha hb (rv_I hc fun _ => .int _)
theorem evd_mod (ha : EvD G ta ρ (.int i)) (hb : EvD G tb ρ (.int j)) (hc : 0 < j) : EvD G (tOp (rI (fun _ j => 0 < j) fun i j => .int (i % j)) ta tb) ρ (.int (i % j)) := evd_op ha hb (rv_I (C := fun _ j => 0 < j) hc fun _ => .int _)
theorem evd_fdiv (ha : EvD G ta ρ (.int i)) (hb : EvD G tb ρ (.int j)) (hc : CDiv i j) : EvD G (tOp (rI CDiv fun i j => .int (i / j)) ta tb) ρ (.int (i / j)) := evd_op ha hb (rv_I hc fun _ => .int _)
theorem evd_pow (ha : EvD G ta ρ (.int i)) (hb : EvD G tb ρ (.int j)) (hc : CPow i j) : EvD G (tOp (rI CPow fun i j => .int (i ^ j.toNat)) ta tb) ρ (.int (i ^ j.toNat)) := evd_op ha hb (rv_I hc fun _ => .int _)
theorem evd_lt (ha : EvD G ta ρ (.int i)) (hb : EvD G tb ρ (.int j)) : EvD G (tOp (rI0 fun i j => .bl (decide (i < j))) ta tb) ρ (.bl (decide (i < j))) := evd_op ha hb (rv_I0 fun _ => .bl _)
theorem evd_le (ha : EvD G ta ρ (.int i)) (hb : EvD G tb ρ (.int j)) : EvD G (tOp (rI0 fun i j => .bl (decide (i ≤ j))) ta tb) ρ (.bl (decide (i ≤ j))) := evd_op ha hb (rv_I0 fun _ => .bl _)
theorem evd_gt (ha : EvD G ta ρ (.int i)) (hb : EvD G tb ρ (.int j)) : EvD G (tOp (rI0 fun i j => .bl (decide (j < i))) ta tb) ρ (.bl (decide (j < i))) := evd_op ha hb (rv_I0 fun _ => .bl _)
theorem evd_ge (ha : EvD G ta ρ (.int i)) (hb : EvD G tb ρ (.int j)) : EvD G (tOp (rI0 fun i j => .bl (decide (j ≤ i))) ta tb) ρ (.bl (decide (j ≤ i))) := evd_op ha hb (rv_I0 fun _ => .bl _)
theorem evd_eqI (ha : EvD G ta ρ (.int i)) (hb : EvD G tb ρ (.int j)) : EvD G (tOp rEq ta tb) ρ (.bl (decide (i = j))) := evd_op ha hb (rvd_val fun F H v w rx ry Q q => by
  cases rx
  cases ry
  refine ⟨rfl, q _ ?_⟩
  have e : decide (V.int i = V.int j) = decide (i = j) := decide_eq_decide.mpr ⟨fun h => V.int.inj h, fun h => congrArg _ h⟩
  rw [e]
  exact .bl _)
theorem evd_neI (ha : EvD G ta ρ (.int i)) (hb : EvD G tb ρ (.int j)) : EvD G (tOp rNe ta tb) ρ (.bl (!decide (i = j))) := evd_op ha hb (rvd_val fun F H v w rx ry Q q => by
  cases rx
  cases ry
  refine ⟨rfl, q _ ?_⟩
  have e : decide (V.int i = V.int j) = decide (i = j) := decide_eq_decide.mpr ⟨fun h => V.int.inj h, fun h => congrArg _ h⟩
  rw [e]
  exact .bl _)
end
theorem evd_eqB (ha : EvD G ta ρ (.bl b)) (hb : EvD G tb ρ (.bl c)) : EvD G (tOp rEq ta tb) ρ (.bl (b == c)) := evd_op ha hb (rvd_val fun F H v w rx ry Q q => by
  cases rx
  cases ry
  refine ⟨rfl, q _ ?_⟩
  have e : decide (V.bl b = V.bl c) = (b == c) := by cases b <;> cases c <;> decide
  rw [e]
  exact .bl _)
theorem evd_neB (ha : EvD G ta ρ (.bl b)) (hb : EvD G tb ρ (.bl c)) : EvD G (tOp rNe ta tb) ρ (.bl (!(b == c))) := evd_op ha hb (rvd_val fun F H v w rx ry Q q => by
  cases rx
  cases ry
  refine ⟨rfl, q _ ?_⟩
  have e : decide (V.bl b = V.bl c) = (b == c) := by cases b <;> cases c <;> decide
  rw [e]
  exact .bl _)
theorem evd_eqS {s r : Str} (ha : EvD G ta ρ (.str s)) (hb : EvD G tb ρ (.str r)) : EvD G (tOp rEq ta tb) ρ (.bl (decide (s = r))) := evd_op ha hb (rvd_val fun F H v w rx ry Q q => by
  cases rx
  cases ry
  refine ⟨rfl, q _ ?_⟩
  have e : decide (V.str s = V.str r) = decide (s = r) := decide_eq_decide.mpr ⟨fun h => V.str.inj h, fun h => congrArg _ h⟩
  rw [e]
  exact .bl _)
theorem evd_neS {s r : Str} (ha : EvD G ta ρ (.str s)) (hb : EvD G tb ρ (.str r)) : EvD G (tOp rNe ta tb) ρ (.bl (!decide (s = r))) := evd_op ha hb (rvd_val fun F H v w rx ry Q q => by
  cases rx
  cases ry
  refine ⟨rfl, q _ ?_⟩
  have e : decide (V.str s = V.str r) = decide (s = r) := decide_eq_decide.mpr ⟨fun h => V.str.inj h, fun h => congrArg _ h⟩
  rw [e]
  exact .bl _)
theorem evd_addS {s r : Str} (ha : EvD G ta ρ (.str s)) (hb : EvD G tb ρ (.str r)) (hz : s.length + r.length ≤ 100000) :
    EvD G (tOp (fun x y H Q => ∃ i j, x = .str i ∧ y = .str j ∧ i.length + j.length ≤ sizeLine ∧ Q (.str (i ++ j)) H) ta tb) ρ (.str (s ++ r)) := evd_op ha hb (rvd_val fun F H v w rx ry Q q => by
  cases rx
  cases ry
  exact ⟨s, r, rfl, rfl, Nat.le_trans hz (by decide), q _ (.str _)⟩)
theorem evd_neg {i : Int} (ha : EvD G ta ρ (.int i)) : EvD G (tUn (rU fun i => .int (-i)) ta) ρ (.int (-i)) := fun F0 H0 F H σ E Q q => ha F0 H0 F H σ E _ fun v F1 H1 g1 r1 => by
  cases r1
  exact ⟨i, rfl, q _ F1 H1 g1 (.int _)⟩
theorem evd_isN (ha : EvD G ta ρ x) : EvD G (tOp (fun x y H Q => y = .non ∧ Q (.bl (decide (x = .non))) H) ta (tC .non)) ρ (.bl (match x with | .non => true | _ => false)) := fun F0 H0 F H σ E Q q => ha F0 H0 F H σ E _ fun v F1 H1 g1 r1 => by
  refine ⟨rfl, q _ F1 H1 g1 ?_⟩
  cases r1 <;> exact .bl _
theorem evd_notN (ha : EvD G ta ρ x) : EvD G (tOp (fun x y H Q => y = .non ∧ Q (.bl (!decide (x = .non))) H) ta (tC .non)) ρ (.bl (match x with | .non => false | _ => true)) := fun F0 H0 F H σ E Q q => ha F0 H0 F H σ E _ fun v F1 H1 g1 r1 => by
  refine ⟨rfl, q _ F1 H1 g1 ?_⟩
  cases r1 <;> exact .bl _
/-! ### tests -/
theorem evt_test (h : EvD G te ρ (.bl b)) : EvT G (tTest te) ρ b := fun F0 H0 F H σ E Q q => h F0 H0 F H σ E _ fun v F1 H1 g r => by
  cases r
  exact ⟨b, rfl, q F1 H1 g⟩
theorem evt_B (h : EvD G te ρ (.bl b)) : EvT G (tB te) ρ b := fun F0 H0 F H σ E Q q => h F0 H0 F H σ E _ fun v F1 H1 g r => by
  cases r
  exact ⟨b, rfl, q F1 H1 g⟩
theorem evt_not (h : EvT G t ρ b) : EvT G (tNot t) ρ (!b) := fun F0 H0 F H σ E Q q => h F0 H0 F H σ E _ fun F1 H1 g => q F1 H1 g
theorem evt_and (h : EvT G t ρ b) (h2 : b = true → EvT G u ρ c) : EvT G (tAnd t u) ρ (b && c) := fun F0 H0 F H σ E Q q => h F0 H0 F H σ E _ fun F1 H1 g => by
  cases b with
  | true => exact h2 rfl F0 H0 F1 H1 σ (E.grow g) Q fun F2 H2 g2 => q F2 H2 (g.trans g2)
  | false => exact q F1 H1 g
theorem evt_or (h : EvT G t ρ b) (h2 : b = false → EvT G u ρ c) : EvT G (tOr t u) ρ (b || c) := fun F0 H0 F H σ E Q q => h F0 H0 F H σ E _ fun F1 H1 g => by
  cases b with
  | false => exact h2 rfl F0 H0 F1 H1 σ (E.grow g) Q fun F2 H2 g2 => q F2 H2 (g.trans g2)
  | true => exact q F1 H1 g
/-- a list's truth -/
theorem evt_lst (h : EvS G te ρ ds) : EvT G (fun σ H Q => te σ H fun x H' => ∃ k, TruV G.K x H' k ∧ Q k H') ρ (!ds.isEmpty) := fun F0 H0 F H σ E Q q => h F0 H0 F H σ E _ fun a vs F1 H1 g h1 r => by
  refine ⟨_, .inl ⟨vs, SqL.of h1, rfl⟩, ?_⟩
  have e : vs.isEmpty = ds.isEmpty := by cases r <;> rfl
  rw [e]
  exact q F1 H1 g
theorem evt_tru_bl (h : EvD G te ρ (.bl b)) : EvT G (fun σ H Q => te σ H fun x H' => ∃ k, TruV G.K x H' k ∧ Q k H') ρ b := fun F0 H0 F H σ E Q q => h F0 H0 F H σ E _ fun v F1 H1 g r => by
  cases r
  exact ⟨b, rfl, q F1 H1 g⟩
theorem evt_yes : EvT G tYes ρ true := fun F0 H0 F H σ E Q q => q F H (.refl E.sub)
theorem evd_andV (h : EvD G ta ρ (.bl b)) (h2 : b = true → EvD G tb ρ (.bl c)) : EvD G (tAndV ta tb) ρ (.bl (b && c)) := fun F0 H0 F H σ E Q q => h F0 H0 F H σ E _ fun v F1 H1 g r => by
  cases r
  refine ⟨b, rfl, ?_⟩
  cases b with
  | true => exact h2 rfl F0 H0 F1 H1 σ (E.grow g) Q fun v F2 H2 g2 r2 => q v F2 H2 (g.trans g2) r2
  | false => exact q _ F1 H1 g (.bl _)
theorem evd_orV (h : EvD G ta ρ (.bl b)) (h2 : b = false → EvD G tb ρ (.bl c)) : EvD G (tOrV ta tb) ρ (.bl (b || c)) := fun F0 H0 F H σ E Q q => h F0 H0 F H σ E _ fun v F1 H1 g r => by
  cases r
  refine ⟨b, rfl, ?_⟩
  cases b with
  | false => exact h2 rfl F0 H0 F1 H1 σ (E.grow g) Q fun v F2 H2 g2 r2 => q v F2 H2 (g.trans g2) r2
  | true => exact q _ F1 H1 g (.bl _)
theorem evd_notV (h : EvD G ta ρ (.bl b)) : EvD G (tNotV ta) ρ (.bl (!b)) := fun F0 H0 F H σ E Q q => h F0 H0 F H σ E _ fun v F1 H1 g r => by
  cases r
  exact ⟨b, rfl, q _ F1 H1 g (.bl _)⟩
/-! ### arguments, displays -/
theorem eva_nil : EvA G tNil ρ [] := fun F0 H0 F H σ E Q q => q [] F H (.refl E.sub) .nil
theorem RepA.grow {F H F' H' : Hp} {v : V} (g : Grow F H F' H') (h : RepA G F H v d) : RepA G F' H' v d := by
  rcases h with h | ⟨a, vs, ds, rfl, rfl, h1, r⟩
  · exact .inl (h.mono g.ef)
  · exact .inr ⟨a, vs, ds, rfl, rfl, g.eh _ _ h1, r.mono g.ef⟩
theorem eva_cons {tr : TA} (h : EvD G te ρ x) (hr : EvA G tr ρ ds) : EvA G (tCons te tr) ρ (x :: ds) := fun F0 H0 F H σ E Q q =>
  h F0 H0 F H σ E _ fun v F1 H1 g1 r1 => hr F0 H0 F1 H1 σ (E.grow g1) _ fun vs F2 H2 g2 r2 => q _ F2 H2 (g1.trans g2) (.cons (.inl (r1.mono g2.ef)) r2)
theorem eva_consL {tr : TA} (h : EvS G te ρ es) (hr : EvA G tr ρ ds) : EvA G (tCons te tr) ρ (.lst es :: ds) := fun F0 H0 F H σ E Q q =>
  h F0 H0 F H σ E _ fun a vs F1 H1 g1 h1 r1 => hr F0 H0 F1 H1 σ (E.grow g1) _ fun vs F2 H2 g2 r2 => q _ F2 H2 (g1.trans g2) (.cons (.inr ⟨a, _, _, rfl, rfl, g2.eh _ _ h1, r1.mono g2.ef⟩) r2)
/-- arguments that are data -/
def EvAD (G : Cfg) (ta : TA) (ρ : Rho) (ds : List D) : Prop := ∀ F0 H0 F H σ, REnv G F0 H0 F H σ ρ → ∀ Q : List V → Hp → Prop, (∀ vs F' H', Grow F H F' H' → Reps G F' vs ds → Q vs H') → ta σ H Q
theorem evad_nil : EvAD G tNil ρ [] := fun F0 H0 F H σ E Q q => q [] F H (.refl E.sub) .nil
theorem evad_cons {tr : TA} (h : EvD G te ρ x) (hr : EvAD G tr ρ ds) : EvAD G (tCons te tr) ρ (x :: ds) := fun F0 H0 F H σ E Q q =>
  h F0 H0 F H σ E _ fun v F1 H1 g1 r1 => hr F0 H0 F1 H1 σ (E.grow g1) _ fun vs F2 H2 g2 r2 => q _ F2 H2 (g1.trans g2) (.cons (r1.mono g2.ef) r2)
theorem evd_tup {ta : TA} (h : EvAD G ta ρ ds) (hl : ds.length ≤ 1000 := by simp) : EvD G (tTup ta) ρ (.tup ds) := fun F0 H0 F H σ E Q q => h F0 H0 F H σ E _ fun vs F1 H1 g r =>
  ⟨by rw [r.length]; exact Nat.le_trans hl (by decide), fun p hp => q _ _ _ (g.laid hp) (.tup upd_same (r.mono (same_upd (g.sub.free hp))))⟩
theorem evn_lst {ta : TA} (h : EvAD G ta ρ ds) (hl : ds.length ≤ 1000 := by simp) : EvN G (tLst ta) ρ ds := fun F0 H0 F H σ E Q q => h F0 H0 F H σ E _ fun vs F1 H1 g r =>
  ⟨by rw [r.length]; exact Nat.le_trans hl (by decide), fun p hp => q p vs F1 _ (g.fresh hp) (g.eh.free hp) (g.sub.free hp) upd_same r⟩
theorem evd_cb {r : List V → Hp → VK → Prop} {ta : TA} (h : EvA G ta ρ ds) (hr : RcD G r ds z) : EvD G (tCB r ta) ρ z := fun F0 H0 F H σ E Q q => h F0 H0 F H σ E _ fun vs F1 H1 g r =>
  hr F1 H1 vs g.sub r Q fun u F2 H2 g2 r2 => q u F2 H2 (g.trans g2) r2
theorem evn_cb {r : List V → Hp → VK → Prop} {ta : TA} (h : EvA G ta ρ ds) (hr : RcN G r ds es) : EvN G (tCB r ta) ρ es := fun F0 H0 F H σ E Q q => h F0 H0 F H σ E _ fun vs F1 H1 g r =>
  hr F1 H1 vs g.sub r Q fun a ws F2 H2 g2 h0 hf h1 r2 => q a ws F2 H2 (g.trans g2) (g.eh.free h0) hf h1 r2
theorem evo_none : EvO G tNoPart ρ none := fun F0 H0 F H σ E Q q => q F H (.refl E.sub)
theorem evo_some {i : Int} (h : EvD G te ρ (.int i)) : EvO G (tPart te) ρ (some i) := fun F0 H0 F H σ E Q q => h F0 H0 F H σ E _ fun v F1 H1 g r => by
  cases r
  exact ⟨i, rfl, q F1 H1 g⟩
/-! ### calls of one's own defs -/
def mkSp (G : Cfg) (R : List D → Res → Prop) : Sp := fun vs H Q E => ∃ F ds r, Same F H ∧ RepAs G F H vs ds ∧ R ds r ∧ Goes G F H Q E r
variable {R : List D → Res → Prop} {Ex : XK} {ta : TA}
theorem evd_call (h : EvA G ta ρ ds) (hr : R ds (.val z)) : EvD G (tCall (mkSp G R) [] Ex ta) ρ z := fun F0 H0 F H σ E Q q => h F0 H0 F H σ E _ fun vs F1 H1 g r =>
  ⟨F1, ds, .val z, g.sub, by rw [List.append_nil]; exact r, hr, fun v F2 H2 g2 r2 => q v F2 H2 (g.trans g2) r2⟩
theorem evn_call (h : EvA G ta ρ ds) (hr : R ds (.new es)) : EvN G (tCall (mkSp G R) [] Ex ta) ρ es := fun F0 H0 F H σ E Q q => h F0 H0 F H σ E _ fun vs F1 H1 g r =>
  ⟨F1, ds, .new es, g.sub, by rw [List.append_nil]; exact r, hr, fun a ws F2 H2 g2 h0 hf h1 r2 => q a ws F2 H2 (g.trans g2) (g.eh.free h0) hf h1 r2⟩
theorem Goes.after {F H F1 H1 : Hp} {Q : VK} {r : Res} (g : Grow F H F1 H1) (h : Goes G F H Q Ex r) : Goes G F1 H1 Q Ex r := by
  cases r with
  | val d => exact fun v F2 H2 g2 r2 => h v F2 H2 (g.trans g2) r2
  | new ds => exact fun a ws F2 H2 g2 h0 hf h1 r2 => h a ws F2 H2 (g.trans g2) (g.eh.free h0) hf h1 r2
  | trip s W b => exact fun t a F2 H2 g2 t0 a0 tf af ne ht ha => h t a F2 H2 (g.trans g2) (g.eh.free t0) (g.eh.free a0) tf af ne ht ha
  | err e => exact fun F2 H2 g2 => h F2 H2 (g.trans g2)
theorem evx_call {r : Res} (h : EvA G ta ρ ds) (hr : R ds r) : EvX G Ex (tCall (mkSp G R) [] Ex ta) ρ r := fun F0 H0 F H σ E Q q => h F0 H0 F H σ E _ fun vs F1 H1 g rr =>
  ⟨F1, ds, r, g.sub, by rw [List.append_nil]; exact rr, hr, q.after g⟩
theorem evx_val (h : EvD G te ρ z) : EvX G Ex te ρ (.val z) := fun F0 H0 F H σ E Q q => h F0 H0 F H σ E Q q
theorem evx_new (h : EvN G te ρ es) : EvX G Ex te ρ (.new es) := fun F0 H0 F H σ E Q q => h F0 H0 F H σ E Q q
theorem evd_x (h : EvX G Ex te ρ (.val z)) : EvD G te ρ z := fun F0 H0 F H σ E Q q => h F0 H0 F H σ E Q q
theorem evn_x (h : EvX G Ex te ρ (.new es)) : EvN G te ρ es := fun F0 H0 F H σ E Q q => h F0 H0 F H σ E Q q
/-! ### a council's fields and methods -/
theorem Rep.cou_at {F : Hp} {v : V} {n : Int} {told : List (List Int)} (h : Rep G F v (.cou n told)) : ∃ a dx l vs, v = .ref a ∧ F a = some (.ins G.C dx [(("size" : Str), V.int n), (("told" : Str), V.ref l)]) ∧ F l = some (.lst vs) ∧ Reps G F vs (told.map eC) := by
  cases h with
  | cou h1 h2 h3 => exact ⟨_, _, _, _, rfl, h1, h2, h3⟩
theorem no_str {a b : Str} (h : decide (a = b) = false) : (a == b) = false := by simpa using h
theorem lk_size (n : Int) (l : Addr) : ([(("size" : Str), V.int n), (("told" : Str), V.ref l)] : List (Str × V)).lookup ("size" : Str) = some (.int n) := by
  simp [List.lookup]
theorem lk_told (n : Int) (l : Addr) : ([(("size" : Str), V.int n), (("told" : Str), V.ref l)] : List (Str × V)).lookup ("told" : Str) = some (.ref l) := by
  have e : (("told" : Str) == ("size" : Str)) = false := no_str (by decide +kernel)
  simp [List.lookup, e]
theorem lk_no {n : Int} {l : Addr} {m : Str} (h1 : decide (m = "size") = false) (h2 : decide (m = "told") = false) : ([(("size" : Str), V.int n), (("told" : Str), V.ref l)] : List (Str × V)).lookup m = none := by
  simp only [List.lookup, no_str h1, no_str h2]
variable {n : Int} {told : List (List Int)}
theorem evd_size (h : EvD G te ρ (.cou n told)) (c : Cls G.K G.C) (hn : NoAttr G.K G.C "size") : EvD G (tFld G.K te "size") ρ (.int n) := fun F0 H0 F H σ E Q q => h F0 H0 F H σ E _ fun v F1 H1 g r => by
  obtain ⟨a, dx, l, vs, rfl, h1, h2, h3⟩ := r.cou_at
  exact ⟨a, G.C, dx, _, _, rfl, g.sub _ _ h1, c, hn, lk_size n l, q _ F1 H1 g (.int n)⟩
theorem evd_told (h : EvD G te ρ (.cou n told)) (c : Cls G.K G.C) (hn : NoAttr G.K G.C "told") : EvD G (tFld G.K te "told") ρ (.lst (told.map eC)) := fun F0 H0 F H σ E Q q => h F0 H0 F H σ E _ fun v F1 H1 g r => by
  obtain ⟨a, dx, l, vs, rfl, h1, h2, h3⟩ := r.cou_at
  exact ⟨a, G.C, dx, _, _, rfl, g.sub _ _ h1, c, hn, lk_told n l, q _ F1 H1 g (.lst h2 h3)⟩
theorem evx_meth {m : Str} {r : Res} (h : EvD G te ρ (.cou n told)) (ha : EvA G ta ρ ds) (hr : R (.cou n told :: ds) r) (h1 : decide (m = "size") = false := by decide +kernel) (h2 : decide (m = "told") = false := by decide +kernel) :
    EvX G Ex (tMeth G.C m (mkSp G R) [] Ex te ta) ρ r := fun F0 H0 F H σ E Q q => h F0 H0 F H σ E _ fun v F1 H1 g r1 => by
  obtain ⟨a, dx, l, vs, rfl, k1, k2, k3⟩ := id r1.cou_at
  refine ⟨a, dx, _, rfl, g.sub _ _ k1, lk_no h1 h2, ha F0 H0 F1 H1 σ (E.grow g) _ fun vs F2 H2 g2 rr => ?_⟩
  exact ⟨F2, _, r, g2.sub, by rw [List.append_nil]; exact .cons (.inl (r1.mono g2.ef)) rr, hr, (q.after g).after g2⟩
theorem evd_meth {m : Str} (h : EvD G te ρ (.cou n told)) (ha : EvA G ta ρ ds) (hr : R (.cou n told :: ds) (.val z)) (h1 : decide (m = "size") = false := by decide +kernel) (h2 : decide (m = "told") = false := by decide +kernel) :
    EvD G (tMeth G.C m (mkSp G R) [] Ex te ta) ρ z := evd_x (Ex := Ex) (evx_meth h ha hr h1 h2)
theorem evn_meth {m : Str} (h : EvD G te ρ (.cou n told)) (ha : EvA G ta ρ ds) (hr : R (.cou n told :: ds) (.new es)) (h1 : decide (m = "size") = false := by decide +kernel) (h2 : decide (m = "told") = false := by decide +kernel) :
    EvN G (tMeth G.C m (mkSp G R) [] Ex te ta) ρ es := evn_x (Ex := Ex) (evx_meth h ha hr h1 h2)
end
end Vw

namespace Vw
open PySem L2 PySem.Spec PyProof.Rows

/-! ### statements -/
structure Ks where
  nx : Rho → Prop
  rt : Res → Prop
  bk : Rho → Prop := fun _ => False
  ct : Rho → Prop := fun _ => False
  er : Err → Prop := fun _ => False
structure KOk (G : Cfg) (W : WX) (F0 H0 F : Hp) (D : Ends) (k : Ks) : Prop where
  nx : ∀ ρ, k.nx ρ → ∀ F' H' σ', Same F F' → REnv G F0 H0 F' H' σ' ρ → D.nx σ' H'
  bk : ∀ ρ, k.bk ρ → ∀ F' H' σ', Same F F' → REnv G F0 H0 F' H' σ' ρ → D.bk σ' H'
  ct : ∀ ρ, k.ct ρ → ∀ F' H' σ', Same F F' → REnv G F0 H0 F' H' σ' ρ → D.ct σ' H'
  rt : ∀ r, k.rt r → Goes G F0 H0 D.rt (fun _ _ _ => True) r
  er : ∀ e, k.er e → ∀ F' H' σ', Same F F' → Grow F0 H0 F' H' → W (.ref (G.ex e)) none σ' H'
theorem KOk.later {G : Cfg} {W : WX} {F0 H0 F F1 : Hp} {D : Ends} {k : Ks} (K : KOk G W F0 H0 F D k) (s : Same F F1) : KOk G W F0 H0 F1 D k :=
  ⟨fun ρ h F' H' σ' s' => K.nx ρ h F' H' σ' (s.trans s'), fun ρ h F' H' σ' s' => K.bk ρ h F' H' σ' (s.trans s'), fun ρ h F' H' σ' s' => K.ct ρ h F' H' σ' (s.trans s'), K.rt, fun e h F' H' σ' s' => K.er e h F' H' σ' (s.trans s')⟩
def WS (G : Cfg) (W : WX) (ts : TS) (k : Ks) (ρ : Rho) : Prop := ∀ F0 H0 F H σ D, REnv G F0 H0 F H σ ρ → KOk G W F0 H0 F D k → ts D σ H
/-- what is raised leaves the def -/
abbrev wd (E : XK) : WX := fun cls d _ H => E cls d H
def dropR (k : Ks) (ρ : Rho) : Res → Prop
  | .err e => k.er e
  | .val _ => k.nx ρ
  | .new _ => k.nx ρ
  | .trip _ _ _ => k.nx ρ
def retR (k : Ks) : Res → Prop
  | .err e => k.er e
  | .val d => k.rt (.val d)
  | .new ds => k.rt (.new ds)
  | .trip s W b => k.rt (.trip s W b)
def asgR (k : Ks) (ρ : Rho) (i : Nat) : Res → Prop
  | .err e => k.er e
  | .val d => k.nx (ρ.set i (.im d))
  | .new ds => k.nx (ρ.set i (.own ds))
  | .trip _ _ _ => k.nx (ρ.set i .no)
section
variable {G : Cfg} {W : WX} {k : Ks} {ρ : Rho} {t u : TS} {te ta tb : TE} {tt : TT} {d : D} {ds : List D} {b : Bool} {E : XK}
theorem ws_mono {k' : Ks} (h : WS G W t k ρ) (h1 : ∀ ρ, k.nx ρ → k'.nx ρ) (h2 : ∀ r, k.rt r → k'.rt r) (h3 : ∀ ρ, k.bk ρ → k'.bk ρ) (h4 : ∀ ρ, k.ct ρ → k'.ct ρ) (h5 : ∀ e, k.er e → k'.er e) : WS G W t k' ρ := fun F0 H0 F H σ D R K =>
  h F0 H0 F H σ D R ⟨fun ρ z => K.nx ρ (h1 ρ z), fun ρ z => K.bk ρ (h3 ρ z), fun ρ z => K.ct ρ (h4 ρ z), fun r z => K.rt r (h2 r z), fun e z => K.er e (h5 e z)⟩
theorem ws_weak {ρ' : Rho} (w : Weak ρ ρ') (h : WS G W t k ρ') : WS G W t k ρ := fun F0 H0 F H σ D R K => h F0 H0 F H σ D (R.weak w) K
theorem ws_freeze (i : Nat) (hi : ρ[i]? = some (.own ds)) (h : WS G W t k (ρ.set i (.im (.lst ds)))) : WS G W t k ρ := fun F0 H0 F H σ D R K => by
  obtain ⟨F', s, R'⟩ := R.freeze hi
  exact h F0 H0 F' H σ D R' (K.later s)
theorem ws_seq (h : WS G W t { k with nx := fun ρ' => WS G W u k ρ' } ρ) : WS G W (tSeq t u) k ρ := fun F0 H0 F H σ D R K =>
  h F0 H0 F H σ { D with nx := u D } R ⟨fun ρ' z F' H' σ' s R' => z F0 H0 F' H' σ' D R' (K.later s), K.bk, K.ct, K.rt, K.er⟩
theorem ws_next (h : k.nx ρ) : WS G W tNext k ρ := fun F0 H0 F H σ D R K => K.nx ρ h F H σ (Same.refl _) R
theorem ws_break (h : k.bk ρ) : WS G W tBreak k ρ := fun F0 H0 F H σ D R K => K.bk ρ h F H σ (Same.refl _) R
theorem ws_cont (h : k.ct ρ) : WS G W tCont k ρ := fun F0 H0 F H σ D R K => K.ct ρ h F H σ (Same.refl _) R
theorem ws_asgD {i : Nat} (h : EvD G te ρ d) (n : k.nx (ρ.set i (.im d))) : WS G W (tAsg te (gName i)) k ρ := fun F0 H0 F H σ D R K =>
  h F0 H0 F H σ R _ fun v F' H' g r => K.nx _ n F' H' _ g.ef ((R.grow g).setIm r)
theorem ws_asgN {i : Nat} (h : EvN G te ρ ds) (n : k.nx (ρ.set i (.own ds))) : WS G W (tAsg te (gName i)) k ρ := fun F0 H0 F H σ D R K =>
  h F0 H0 F H σ R _ fun a vs F' H' g h0 hf h1 r => K.nx _ n F' H' _ g.ef (R.setOwn g h0 hf h1 r)
theorem ws_ret (h : EvD G te ρ d) (n : k.rt (.val d)) : WS G W (tRet te) k ρ := fun F0 H0 F H σ D R K =>
  h F0 H0 F H σ R _ fun v F' H' g r => K.rt _ n v F' H' (R.g.trans g) r
theorem ws_retN (h : EvN G te ρ ds) (n : k.rt (.new ds)) : WS G W (tRet te) k ρ := fun F0 H0 F H σ D R K =>
  h F0 H0 F H σ R _ fun a vs F' H' g h0 hf h1 r => K.rt _ n a vs F' H' (R.g.trans g) (R.g.eh.free h0) hf h1 r
theorem ws_retOwn {i : Nat} (h : ρ[i]? = some (.own ds)) (n : k.rt (.new ds)) : WS G W (tRet (tVar i)) k ρ := fun F0 H0 F H σ D R K => by
  obtain ⟨a, vs, e, h0, hf, h1, r⟩ := R.sl i _ h
  exact ⟨_, e, K.rt _ n a vs F H R.g h0 hf h1 r⟩
theorem ws_retX {r : Res} (h : EvX G E te ρ r) (n : retR k r) : WS G (wd E) (tRet te) k ρ := fun F0 H0 F H σ D R K =>
  h F0 H0 F H σ R _ (by
    cases r with
    | val d => exact fun v F' H' g r => K.rt _ n v F' H' (R.g.trans g) r
    | new ds => exact fun a vs F' H' g h0 hf h1 r => K.rt _ n a vs F' H' (R.g.trans g) (R.g.eh.free h0) hf h1 r
    | trip s W b => exact fun t a F' H' g t0 a0 tf af ne ht ha => K.rt _ n t a F' H' (R.g.trans g) (R.g.eh.free t0) (R.g.eh.free a0) tf af ne ht ha
    | err e => exact fun F' H' g => K.er e n F' H' σ g.ef (R.g.trans g))
theorem ws_drop (h : EvD G te ρ d) (n : k.nx ρ) : WS G W (tDrop te) k ρ := fun F0 H0 F H σ D R K =>
  h F0 H0 F H σ R _ fun v F' H' g r => K.nx _ n F' H' _ g.ef (R.grow g)
theorem ws_dropX {r : Res} (h : EvX G E te ρ r) (n : dropR k ρ r) : WS G (wd E) (tDrop te) k ρ := fun F0 H0 F H σ D R K =>
  h F0 H0 F H σ R _ (by
    cases r with
    | val d => exact fun v F' H' g r => K.nx _ n F' H' _ g.ef (R.grow g)
    | new ds => exact fun a vs F' H' g h0 hf h1 r => K.nx _ n F' H' _ g.ef (R.grow g)
    | trip s W b => exact fun t a F' H' g t0 a0 tf af ne ht ha => K.nx _ n F' H' _ g.ef (R.grow g)
    | err e => exact fun F' H' g => K.er e n F' H' σ g.ef (R.g.trans g))
theorem ws_asgX {i : Nat} {r : Res} (h : EvX G E te ρ r) (n : asgR k ρ i r) : WS G (wd E) (tAsg te (gName i)) k ρ := fun F0 H0 F H σ D R K =>
  h F0 H0 F H σ R _ (by
    cases r with
    | val d => exact fun v F' H' g r => K.nx _ n F' H' _ g.ef ((R.grow g).setIm r)
    | new ds => exact fun a vs F' H' g h0 hf h1 r => K.nx _ n F' H' _ g.ef (R.setOwn g h0 hf h1 r)
    | trip s W b => exact fun t a F' H' g t0 a0 tf af ne ht ha => K.nx _ n F' H' _ g.ef (R.grow g).setNo
    | err e => exact fun F' H' g => K.er e n F' H' σ g.ef (R.g.trans g))
theorem ws_if (h : EvT G tt ρ b) (h1 : b = true → WS G W t k ρ) (h2 : b = false → WS G W u k ρ) : WS G W (tIfS tt t u) k ρ := fun F0 H0 F H σ D R K =>
  h F0 H0 F H σ R _ fun F' H' g => by
    cases b with
    | true => exact h1 rfl F0 H0 F' H' σ D (R.grow g) (K.later g.ef)
    | false => exact h2 rfl F0 H0 F' H' σ D (R.grow g) (K.later g.ef)
theorem ws_when (h : EvT G tt ρ b) (h1 : b = true → WS G W t k ρ) (h2 : b = false → k.nx ρ) : WS G W (tIfS tt t tNext) k ρ := ws_if h h1 fun e => ws_next (h2 e)
theorem ws_append {i : Nat} (hi : ρ[i]? = some (.own ds)) (h : EvD G te ρ d) (hz : ds.length ≤ 100000) (n : k.nx (ρ.set i (.own (ds ++ [d])))) : WS G W (tDrop (tBM G.K "list" rAppend (tVar i) (tCons te tNil))) k ρ := fun F0 H0 F H σ D R K => by
  obtain ⟨a, vs, e, h0, hf, h1, r⟩ := id (R.sl i _ hi)
  refine ⟨_, e, Or.inl ⟨rfl, vs, SqL.of h1⟩, h F0 H0 F H σ R _ fun v F' H' g rv => ⟨a, vs, v, rfl, rfl, g.eh _ _ h1, ?_, ?_⟩⟩
  · rw [r.length]
    exact Nat.lt_of_le_of_lt hz (by decide)
  · exact K.nx _ n F' _ σ g.ef (R.write g hi e ((r.mono g.ef).append (.one rv)))
theorem ws_extend {i : Nat} {es : List D} (hi : ρ[i]? = some (.own ds)) (h : EvS G te ρ es) (hz : ds.length + es.length ≤ 100000) (n : k.nx (ρ.set i (.own (ds ++ es)))) : WS G W (tDrop (tBM G.K "list" rExtend (tVar i) (tCons te tNil))) k ρ := fun F0 H0 F H σ D R K => by
  obtain ⟨a, vs, e, h0, hf, h1, r⟩ := id (R.sl i _ hi)
  refine ⟨_, e, Or.inl ⟨rfl, vs, SqL.of h1⟩, h F0 H0 F H σ R _ fun c ws F' H' g hc rv => ⟨a, c, vs, ws, rfl, rfl, g.eh _ _ h1, hc, ?_, ?_⟩⟩
  · rw [r.length, rv.length]
    exact Nat.le_trans hz (by decide)
  · exact K.nx _ n F' _ σ g.ef (R.write g hi e ((r.mono g.ef).append rv))
theorem ws_clear {i : Nat} (hi : ρ[i]? = some (.own ds)) (n : k.nx (ρ.set i (.own []))) : WS G W (tDrop (tBM0 G.K "list" rClear (tVar i))) k ρ := fun F0 H0 F H σ D R K => by
  obtain ⟨a, vs, e, h0, hf, h1, r⟩ := id (R.sl i _ hi)
  exact ⟨_, e, Or.inl ⟨rfl, vs, SqL.of h1⟩, a, vs, rfl, rfl, h1, K.nx _ n F _ σ (Same.refl _) (R.write (.refl R.sub) hi e .nil)⟩
/-- f(..).append(e), f(..).clear(): a new list is changed and dropped -/
theorem ws_appendNew (ha : EvN G ta ρ ds) (h : EvD G te ρ d) (hz : ds.length ≤ 100000) (n : k.nx ρ) : WS G W (tDrop (tBM G.K "list" rAppend ta (tCons te tNil))) k ρ := fun F0 H0 F H σ D R K =>
  ha F0 H0 F H σ R _ fun a vs F1 H1 g1 h0 hf h1 r => by
  refine ⟨Or.inl ⟨rfl, vs, SqL.of h1⟩, h F0 H0 F1 H1 σ (R.grow g1) _ fun v F' H' g rv => ⟨a, vs, v, rfl, rfl, g.eh _ _ h1, ?_, ?_⟩⟩
  · rw [r.length]
    exact Nat.lt_of_le_of_lt hz (by decide)
  · have g2 := g1.trans g
    have hf2 : F' a = none := g.new a hf (by rw [h1]; exact fun z => nomatch z)
    refine K.nx _ n F' _ σ g2.ef (R.grow ⟨g2.ef, fun x o q => ?_, fun x o q => ?_, g2.new⟩)
    · rw [upd_ne (ne_of_none q h0)]
      exact g2.eh x o q
    · rw [upd_ne (ne_of_none q hf2)]
      exact g2.sub x o q
theorem ws_clearNew (ha : EvN G ta ρ ds) (n : k.nx ρ) : WS G W (tDrop (tBM0 G.K "list" rClear ta)) k ρ := fun F0 H0 F H σ D R K =>
  ha F0 H0 F H σ R _ fun a vs F1 H1 g1 h0 hf h1 r => by
  refine ⟨Or.inl ⟨rfl, vs, SqL.of h1⟩, a, vs, rfl, rfl, h1, ?_⟩
  refine K.nx _ n F1 _ σ g1.ef (R.grow ⟨g1.ef, fun x o q => ?_, fun x o q => ?_, g1.new⟩)
  · rw [upd_ne (ne_of_none q h0)]
    exact g1.eh x o q
  · rw [upd_ne (ne_of_none q hf)]
    exact g1.sub x o q
/-- x = y, y an own list: it is data from now on -/
theorem ws_move {i j : Nat} (hj : ρ[j]? = some (.own ds)) (n : k.nx ((ρ.set j (.im (.lst ds))).set i (.im (.lst ds)))) : WS G W (tAsg (tVar j) (gName i)) k ρ :=
  ws_freeze j hj (ws_asgD (evd_var (by rw [List.getElem?_set_self (List.getElem?_eq_some_iff.mp hj).1])) n)
theorem ws_setL {i j : Nat} (hi : ρ[i]? = some (.own ds)) (h : EvD G te ρ d) (hb : EvD G tb ρ (.int (j : Int))) (hj : j < ds.length) (n : k.nx (ρ.set i (.own (ds.set j d)))) : WS G W (tAsg te (gSub (tVar i) tb rSetL)) k ρ := fun F0 H0 F H σ D R K =>
  h F0 H0 F H σ R _ fun v F1 H1 g1 rv => by
  obtain ⟨a, vs, e, h0, hf, h1, r⟩ := id ((R.grow g1).sl i _ hi)
  refine ⟨_, e, hb F0 H0 F1 H1 σ (R.grow g1) _ fun w F2 H2 g2 rw_ => ?_⟩
  cases rw_
  refine ⟨a, vs, (j : Int), j, rfl, rfl, g2.eh _ _ h1, ?_, ?_⟩
  · unfold ixN
    have : j < vs.length := by rw [r.length]; exact hj
    rw [if_pos (by omega), if_pos (by omega)]
    simp
  · exact K.nx _ n F2 _ σ (g1.trans g2).ef (R.write (g1.trans g2) hi e (((r.mono g2.ef)).set (rv.mono g2.ef) j))
theorem ws_never (h : False) : WS G W t k ρ := h.elim
/-- raise X("..") -/
theorem ws_raise {e : Err} (h : k.er e) : WS G W (fun _ σ H => W (.ref (G.ex e)) none σ H) k ρ := fun F0 H0 F H σ D R K => K.er e h F H σ (Same.refl _) R.g
end

/-! ### loops -/
inductive Go (S : Type) where
  | go (s : S) | brk (s : S) | stop (r : Res) | err (e : Err)
def foldGo {S α : Type} (step : S → α → Go S) : S → List α → Go S
  | s, [] => .go s
  | s, x :: xs => match step s x with
    | .go s' => foldGo step s' xs
    | g => g
theorem foldGo_take {S α : Type} {step : S → α → Go S} : ∀ {xs : List α} {s s1 : S} {i : Nat} {x : α}, foldGo step s (xs.take i) = .go s1 → xs[i]? = some x → foldGo step s (xs.take (i + 1)) = (match step s1 x with | .go s' => .go s' | g => g)
  | [], _, _, _, _, _, h => by simp at h
  | y :: ys, s, s1, 0, x, h, h2 => by
    simp at h2
    subst h2
    have e : s = s1 := by
      simp [foldGo] at h
      exact h
    subst e
    simp only [List.take_succ_cons, List.take_zero, foldGo]
  | y :: ys, s, s1, i + 1, x, h, h2 => by
    simp only [List.take_succ_cons, foldGo] at h ⊢
    cases q : step s y with
    | go s' =>
      rw [q] at h
      exact foldGo_take h (by simpa using h2)
    | brk s' => rw [q] at h; cases h
    | stop r => rw [q] at h; cases h
    | err r => rw [q] at h; cases h
theorem foldGo_out {S α : Type} {step : S → α → Go S} {g : Go S} : ∀ {xs : List α} {s s1 : S} {i : Nat} {x : α}, foldGo step s (xs.take i) = .go s1 → xs[i]? = some x → step s1 x = g → (∀ s, g ≠ .go s) → foldGo step s xs = g
  | [], _, _, _, _, _, h, _, _ => by simp at h
  | y :: ys, s, s1, 0, x, h, h2, h3, h4 => by
    simp at h2
    subst h2
    have e : s = s1 := by
      simp [foldGo] at h
      exact h
    subst e
    simp only [foldGo]
    rw [h3]
    cases g with
    | go s' => exact absurd rfl (h4 s')
    | brk _ => rfl
    | stop _ => rfl
    | err _ => rfl
  | y :: ys, s, s1, i + 1, x, h, h2, h3, h4 => by
    simp only [List.take_succ_cons, foldGo] at h ⊢
    cases q : step s y with
    | go s' =>
      rw [q] at h
      exact foldGo_out h (by simpa using h2) h3 h4
    | brk s' => rw [q] at h; cases h
    | stop r => rw [q] at h; cases h
    | err r => rw [q] at h; cases h
/-- what a turn is to reach -/
def kTurn {S : Type} (env : S → Rho) (g : Go S) : Ks where
  nx ρ := ∃ s, g = .go s ∧ Weak ρ (env s)
  ct ρ := ∃ s, g = .go s ∧ Weak ρ (env s)
  bk ρ := ∃ s, g = .brk s ∧ Weak ρ (env s)
  rt r := g = .stop r
  er e := g = .err e
def endGo {S : Type} (k : Ks) (env : S → Rho) : Go S → Prop
  | .go s => k.nx (env s)
  | .brk s => k.nx (env s)
  | .stop r => k.rt r
  | .err e => k.er e
section
variable {G : Cfg} {W : WX} {k : Ks} {ρ : Rho} {tb : TS} {tl : TE} {S α : Type} {j : Nat}
/-- the turn, for any walk -/
theorem turn_ok {F0 H0 F1 : Hp} {Dn : Ends} {env : S → Rho} {step : S → α → Go S} {s0 s1 : S} {xs : List α} {enc : α → D} {i : Nat} {x : α} {v : V} {σ : L2.St} {H : Hp} {F : Hp} {tg : TG}
    (K : KOk G W F0 H0 F1 Dn k) (hd : endGo k env (foldGo step s0 xs)) (f : foldGo step s0 (xs.take i) = .go s1) (hx : xs[i]? = some x) (s : Same F1 F) {ρ2 : Rho} {σ2 : L2.St} {H2 F2 : Hp} (s2 : Same F F2) (R2 : REnv G F0 H0 F2 H2 σ2 ρ2)
    (hb : WS G W tb (kTurn env (step s1 x)) ρ2) :
    tb { Dn with nx := (fun σ H => ∃ F s', Same F1 F ∧ foldGo step s0 (xs.take (i + 1)) = .go s' ∧ REnv G F0 H0 F H σ (env s')), ct := (fun σ H => ∃ F s', Same F1 F ∧ foldGo step s0 (xs.take (i + 1)) = .go s' ∧ REnv G F0 H0 F H σ (env s')), bk := Dn.nx } σ2 H2 := by
  refine hb F0 H0 F2 H2 σ2 _ R2 ⟨?_, ?_, ?_, ?_, ?_⟩
  · rintro ρ' ⟨s', e, w⟩ F' H' σ' sm R'
    refine ⟨F', s', (s.trans s2).trans sm, ?_, R'.weak w⟩
    rw [foldGo_take f hx, e]
  · rintro ρ' ⟨s', e, w⟩ F' H' σ' sm R'
    have q := foldGo_out f hx e (fun _ z => nomatch z)
    rw [q] at hd
    exact K.nx _ hd F' H' σ' ((s.trans s2).trans sm) (R'.weak w)
  · rintro ρ' ⟨s', e, w⟩ F' H' σ' sm R'
    refine ⟨F', s', (s.trans s2).trans sm, ?_, R'.weak w⟩
    rw [foldGo_take f hx, e]
  · intro r e
    have q := foldGo_out f hx e (fun _ z => nomatch z)
    rw [q] at hd
    exact K.rt _ hd
  · intro e h F' H' σ' sm g
    have q := foldGo_out f hx h (fun _ z => nomatch z)
    rw [q] at hd
    exact K.er _ hd F' H' σ' ((s.trans s2).trans sm) g
theorem Reps.item {F : Hp} {vs : List V} {xs : List α} {enc : α → D} {i : Nat} {v : V} (r : Reps G F vs (xs.map enc)) (h : vs[i]? = some v) : ∃ x, xs[i]? = some x ∧ Rep G F v (enc x) := by
  obtain ⟨d, h1, h2⟩ := r.get h
  rw [List.getElem?_map] at h1
  cases q : xs[i]? with
  | none => rw [q] at h1; cases h1
  | some x =>
    rw [q] at h1
    cases h1
    exact ⟨x, rfl, h2⟩
theorem end_ok {F0 H0 F1 : Hp} {Dn : Ends} {env : S → Rho} {step : S → α → Go S} {s0 : S} {xs : List α} {n : Nat} (hn : xs.length = n) (K : KOk G W F0 H0 F1 Dn k) (hd : endGo k env (foldGo step s0 xs)) {σ : L2.St} {H : Hp}
    (h : ∃ F s', Same F1 F ∧ foldGo step s0 (xs.take n) = .go s' ∧ REnv G F0 H0 F H σ (env s')) : Dn.nx σ H := by
  obtain ⟨F, s', s, e, R⟩ := h
  rw [← hn, List.take_length] at e
  rw [e] at hd
  exact K.nx _ hd F H σ s R
theorem ws_forL (xs : List α) (enc : α → D) (env : S → Rho) (step : S → α → Go S) (s0 : S) (hl : EvZ G tl ρ (xs.map enc)) (h0 : Weak ρ (env s0))
    (hs : ∀ i s x, xs[i]? = some x → foldGo step s0 (xs.take i) = .go s → WS G W tb (kTurn env (step s x)) ((env s).set j (.im (enc x)))) (hd : endGo k env (foldGo step s0 xs)) : WS G W (tFor (iList G.K tl) (gName j) tb) k ρ := fun F0 H0 F H σ Dn R K =>
  hl F0 H0 F H σ R _ fun a vs F1 H1 g hz r => by
  have st : ∀ F' H', Same F1 F' → (Grow F0 H0 F' H') → H' a = some (.lst vs) := fun F' H' s g' => by
    rcases hz with hz | hz
    · exact g'.sub _ _ (s _ _ hz)
    · exact g'.eh _ _ hz
  have R1 := R.grow g
  have K1 := K.later g.ef
  have hn : xs.length = vs.length := by rw [r.length, List.length_map]
  refine ⟨a, rfl, ⟨vs, SqL.of (st F1 H1 (Same.refl _) R1.g)⟩, for_list (fun i σ H => ∃ F s', Same F1 F ∧ foldGo step s0 (xs.take i) = .go s' ∧ REnv G F0 H0 F H σ (env s')) ⟨F1, s0, Same.refl _, rfl, R1.weak h0⟩ (fun i σ H _ ⟨F, s', s, _, R⟩ => SqL.of (st F H s R.g)) ?_ (fun σ H h => end_ok hn K1 hd h)⟩
  rintro i v σ' H' hv ⟨F', s', s, f, R'⟩
  obtain ⟨x, hx, rx⟩ := r.item hv
  exact turn_ok (enc := enc) (v := v) (tg := gName j) (σ := σ') (H := H') K1 hd f hx s (Same.refl _) (R'.setIm (rx.mono s)) (hs i s' x hx f)
theorem ws_forT (xs : List α) (enc : α → D) (env : S → Rho) (step : S → α → Go S) (s0 : S) (hl : EvD G tl ρ (.tup (xs.map enc))) (h0 : Weak ρ (env s0))
    (hs : ∀ i s x, xs[i]? = some x → foldGo step s0 (xs.take i) = .go s → WS G W tb (kTurn env (step s x)) ((env s).set j (.im (enc x)))) (hd : endGo k env (foldGo step s0 xs)) : WS G W (tFor (iTup G.K tl) (gName j) tb) k ρ := fun F0 H0 F H σ Dn R K =>
  hl F0 H0 F H σ R _ fun v0 F1 H1 g r0 => by
  cases r0 with
  | tup hz r =>
  rename_i a vs
  have st : ∀ F' H', Same F1 F' → (Grow F0 H0 F' H') → H' a = some (.tup vs) := fun F' H' s g' => g'.sub _ _ (s _ _ hz)
  have R1 := R.grow g
  have K1 := K.later g.ef
  have hn : xs.length = vs.length := by rw [r.length, List.length_map]
  refine ⟨a, rfl, ⟨vs, SqT.of (st F1 H1 (Same.refl _) R1.g)⟩, for_tup (fun i σ H => ∃ F s', Same F1 F ∧ foldGo step s0 (xs.take i) = .go s' ∧ REnv G F0 H0 F H σ (env s')) ⟨F1, s0, Same.refl _, rfl, R1.weak h0⟩ (fun i σ H _ ⟨F, s', s, _, R⟩ => SqT.of (st F H s R.g)) ?_ (fun σ H h => end_ok hn K1 hd h)⟩
  rintro i v σ' H' hv ⟨F', s', s, f, R'⟩
  obtain ⟨x, hx, rx⟩ := r.item hv
  exact turn_ok (enc := enc) (v := v) (tg := gName j) (σ := σ') (H := H') K1 hd f hx s (Same.refl _) (R'.setIm (rx.mono s)) (hs i s' x hx f)
/-- for a, b in a list of pairs -/
theorem ws_forP {j2 : Nat} (xs : List α) (e1 e2 : α → D) (env : S → Rho) (step : S → α → Go S) (s0 : S) (hl : EvZ G tl ρ (xs.map fun x => D.tup [e1 x, e2 x])) (h0 : Weak ρ (env s0))
    (hs : ∀ i s x, xs[i]? = some x → foldGo step s0 (xs.take i) = .go s → WS G W tb (kTurn env (step s x)) (((env s).set j (.im (e1 x))).set j2 (.im (e2 x)))) (hd : endGo k env (foldGo step s0 xs)) : WS G W (tFor (iList G.K tl) (gTup G.K 2 (gCons (gName j) (gCons (gName j2) gNil))) tb) k ρ := fun F0 H0 F H σ Dn R K =>
  hl F0 H0 F H σ R _ fun a vs F1 H1 g hz r => by
  have st : ∀ F' H', Same F1 F' → (Grow F0 H0 F' H') → H' a = some (.lst vs) := fun F' H' s g' => by
    rcases hz with hz | hz
    · exact g'.sub _ _ (s _ _ hz)
    · exact g'.eh _ _ hz
  have R1 := R.grow g
  have K1 := K.later g.ef
  have hn : xs.length = vs.length := by rw [r.length, List.length_map]
  refine ⟨a, rfl, ⟨vs, SqL.of (st F1 H1 (Same.refl _) R1.g)⟩, for_list (fun i σ H => ∃ F s', Same F1 F ∧ foldGo step s0 (xs.take i) = .go s' ∧ REnv G F0 H0 F H σ (env s')) ⟨F1, s0, Same.refl _, rfl, R1.weak h0⟩ (fun i σ H _ ⟨F, s', s, _, R⟩ => SqL.of (st F H s R.g)) ?_ (fun σ H h => end_ok hn K1 hd h)⟩
  rintro i v σ' H' hv ⟨F', s', s, f, R'⟩
  obtain ⟨x, hx, rx⟩ := r.item hv
  cases rx with
  | tup hp rp =>
  cases rp with
  | cons r1 rp =>
  cases rp with
  | cons r2 rp =>
  cases rp
  refine ⟨_, _, rfl, SqT.of (R'.g.sub _ _ (s _ _ hp)), rfl, _, _, rfl, _, _, rfl, rfl, ?_⟩
  exact turn_ok (enc := e1) (v := .non) (tg := gName j) (σ := σ') (H := H') K1 hd f hx s (Same.refl _) ((R'.setIm (r1.mono s)).setIm (r2.mono s)) (hs i s' x hx f)
theorem ws_forR1 {ta : TA} {n : Int} (env : S → Rho) (step : S → Nat → Go S) (s0 : S) (hl : EvA G ta ρ [.int n]) (hn : -100000 ≤ n ∧ n ≤ 100000) (h0 : Weak ρ (env s0))
    (hs : ∀ (i : Nat) (s : S), (i : Int) < n → foldGo step s0 ((List.range n.toNat).take i) = .go s → WS G W tb (kTurn env (step s i)) ((env s).set j (.im (.int (i : Int))))) (hd : endGo k env (foldGo step s0 (List.range n.toNat))) : WS G W (tFor (iRng1 ta) (gName j) tb) k ρ := fun F0 H0 F H σ Dn R K =>
  hl F0 H0 F H σ R _ fun vs F1 H1 g r => by
  obtain rfl : vs = [.int n] := by
    cases r with
    | cons r1 r2 =>
      cases r2
      rcases r1 with r1 | ⟨_, _, _, _, e, _⟩
      · cases r1
        rfl
      · cases e
  have R1 := R.grow g
  have K1 := K.later g.ef
  refine ⟨n, rfl, by omega, by omega, for_range (lo := 0) (n := n.toNat) (fun i σ H => ∃ F s', Same F1 F ∧ foldGo step s0 ((List.range n.toNat).take i) = .go s' ∧ REnv G F0 H0 F H σ (env s')) ⟨F1, s0, Same.refl _, rfl, R1.weak h0⟩ ?_ (fun σ H h => end_ok (by simp) K1 hd h)⟩
  rintro i σ' H' hi ⟨F', s', s, f, R'⟩
  have e0 : (0 : Int) + (i : Int) = (i : Int) := Int.zero_add _
  rw [e0]
  have hx : (List.range n.toNat)[i]? = some i := by simp [hi]
  exact turn_ok (enc := fun i : Nat => D.int i) (v := .int i) (tg := gName j) (σ := σ') (H := H') K1 hd f hx s (Same.refl _) (R'.setIm (.int _)) (hs i s' (by omega) f)
theorem ws_forR2 {ta : TA} {lo n : Int} (env : S → Rho) (step : S → Nat → Go S) (s0 : S) (hl : EvA G ta ρ [.int lo, .int n]) (hn : -100000 ≤ lo ∧ lo ≤ 100000 ∧ -100000 ≤ n ∧ n ≤ 100000) (h0 : Weak ρ (env s0))
    (hs : ∀ (i : Nat) (s : S), lo + (i : Int) < n → foldGo step s0 ((List.range (n - lo).toNat).take i) = .go s → WS G W tb (kTurn env (step s i)) ((env s).set j (.im (.int (lo + (i : Int)))))) (hd : endGo k env (foldGo step s0 (List.range (n - lo).toNat))) : WS G W (tFor (iRng2 ta) (gName j) tb) k ρ := fun F0 H0 F H σ Dn R K =>
  hl F0 H0 F H σ R _ fun vs F1 H1 g r => by
  obtain rfl : vs = [.int lo, .int n] := by
    cases r with
    | cons r1 r2 =>
      cases r2 with
      | cons r2 r3 =>
      cases r3
      rcases r1 with r1 | ⟨_, _, _, _, e, _⟩
      · rcases r2 with r2 | ⟨_, _, _, _, e, _⟩
        · cases r1
          cases r2
          rfl
        · cases e
      · cases e
  have R1 := R.grow g
  have K1 := K.later g.ef
  refine ⟨lo, n, rfl, ⟨by omega, by omega, by omega, by omega⟩, for_range (lo := lo) (n := (n - lo).toNat) (fun i σ H => ∃ F s', Same F1 F ∧ foldGo step s0 ((List.range (n - lo).toNat).take i) = .go s' ∧ REnv G F0 H0 F H σ (env s')) ⟨F1, s0, Same.refl _, rfl, R1.weak h0⟩ ?_ (fun σ H h => end_ok (by simp) K1 hd h)⟩
  rintro i σ' H' hi ⟨F', s', s, f, R'⟩
  have hx : (List.range (n - lo).toNat)[i]? = some i := by simp [hi]
  exact turn_ok (enc := fun i : Nat => D.int i) (v := .int i) (tg := gName j) (σ := σ') (H := H') K1 hd f hx s (Same.refl _) (R'.setIm (.int _)) (hs i s' (by omega) f)
end

/-! ### comprehensions -/
def wipeR (ρ : Rho) : List Nat → Rho
  | [] => ρ
  | v :: vs => (wipeR ρ vs).set v .no
theorem REnv.wipe {G : Cfg} {F0 H0 F H : Hp} {σ : L2.St} {ρ : Rho} (E : REnv G F0 H0 F H σ ρ) : ∀ vs : List Nat, REnv G F0 H0 F H (L2.wipe σ vs) (wipeR ρ vs)
  | [] => E
  | v :: vs => (REnv.wipe E vs).setNo
theorem wipe_get (σ : L2.St) (i : Nat) : ∀ vs : List Nat, (L2.wipe σ vs)[i]? = if i ∈ vs ∧ i < σ.length then some none else σ[i]?
  | [] => by simp [L2.wipe]
  | v :: vs => by
    unfold L2.wipe
    rw [get_set, wipe_get σ i vs, wipe_length]
    by_cases h : v = i
    · subst h
      by_cases h2 : v < σ.length
      · simp [h2]
      · simp [h2]
    · have : i ≠ v := fun e => h e.symm
      simp [h, this]
theorem wipe_set {σ : L2.St} {vs : List Nat} {j : Nat} {x : Option V} (hj : j ∈ vs) : L2.wipe ((L2.wipe σ vs).set j x) vs = L2.wipe σ vs := by
  apply List.ext_getElem?
  intro i
  rw [wipe_get, get_set, wipe_get, List.length_set, wipe_length]
  by_cases h : i ∈ vs ∧ i < σ.length
  · rw [if_pos h, if_pos h]
  · rw [if_neg h, if_neg h]
    by_cases h2 : j = i ∧ i < σ.length
    · exact absurd ⟨h2.1 ▸ hj, h2.2⟩ h
    · rw [if_neg h2]
section
variable {G : Cfg} {ρ : Rho} {tl te : TE} {tt : TT} {α : Type} {j : Nat} {vs : List Nat}
/-- what stands within a comprehension's turn -/
def Cmp (G : Cfg) (F0 H0 F1 H1 : Hp) (Dl : Addr) (σ : L2.St) (ρ : Rho) (out : List D) (H : Hp) : Prop :=
  ∃ F acc, Grow F1 H1 F H ∧ Same F0 H0 ∧ H1 Dl = none ∧ F Dl = none ∧ H Dl = some (.lst acc) ∧ Reps G F acc out
theorem filter_yes {α : Type} (xs : List α) : (xs.filter fun _ => true) = xs := List.filter_eq_self.mpr fun _ _ => rfl
theorem filt_take {α : Type} {xs : List α} {i : Nat} {x : α} {p : α → Bool} {g : α → D} (h : xs[i]? = some x) : ((xs.take (i + 1)).filter p).map g = ((xs.take i).filter p).map g ++ (if p x then [g x] else []) := by
  have e : xs.take (i + 1) = xs.take i ++ [x] := by
    rw [List.take_add_one, h]
    rfl
  rw [e, List.filter_append, List.map_append]
  by_cases hp : p x
  · simp [hp]
  · simp [hp]
theorem filt_len {α : Type} {xs : List α} {p : α → Bool} {g : α → D} (i : Nat) : (((xs.take i).filter p).map g).length ≤ xs.length := by
  rw [List.length_map]
  refine Nat.le_trans (List.length_filter_le _ _) ?_
  rw [List.length_take]
  exact Nat.min_le_right _ _
/-- one turn -/
theorem cmp_turn {F0 H0 F1 H1 : Hp} {Dl : Addr} {σ : L2.St} {xs : List α} {p : α → Bool} {g : α → D} {i : Nat} {x : α} {v : V} {d : D} {H : Hp} (R : REnv G F0 H0 F1 H1 σ ρ) (hz : xs.length ≤ 100000) (hx : xs[i]? = some x) (hj : j ∈ vs) (rv : Rep G F1 v d)
    (ht : EvT G tt ((wipeR ρ vs).set j (.im d)) (p x)) (he : p x = true → EvD G te ((wipeR ρ vs).set j (.im d)) (g x)) (c : Cmp G F0 H0 F1 H1 Dl σ ρ (((xs.take i).filter p).map g) H) :
    L2.wipe ((L2.wipe σ vs).set j (some v)) vs = L2.wipe σ vs ∧ tt ((L2.wipe σ vs).set j (some v)) H fun b H3 => if b = true then te ((L2.wipe σ vs).set j (some v)) H3 fun y H4 => ∃ acc, H4 Dl = some (.lst acc) ∧ acc.length < sizeLine ∧ Cmp G F0 H0 F1 H1 Dl σ ρ (((xs.take (i + 1)).filter p).map g) (upd H4 Dl (.lst (acc ++ [y]))) else Cmp G F0 H0 F1 H1 Dl σ ρ (((xs.take (i + 1)).filter p).map g) H3 := by
  obtain ⟨F, acc, gr, s0, n1, nf, hD, r⟩ := c
  refine ⟨wipe_set hj, ?_⟩
  have R' : REnv G F0 H0 F H ((L2.wipe σ vs).set j (some v)) ((wipeR ρ vs).set j (.im d)) := ((R.grow gr).wipe vs).setIm (rv.mono gr.ef)
  rw [filt_take hx]
  refine ht F0 H0 F H _ R' _ fun F3 H3 g3 => ?_
  have keepD : F3 Dl = none := g3.new _ nf (by rw [hD]; exact fun z => nomatch z)
  cases hp : p x with
  | false => exact ⟨F3, acc, gr.trans g3, s0, n1, keepD, g3.eh _ _ hD, by simpa using r.mono g3.ef⟩
  | true =>
    refine he hp F0 H0 F3 H3 _ (R'.grow g3) _ fun y F4 H4 g4 ry => ?_
    have hD4 : H4 Dl = some (.lst acc) := g4.eh _ _ (g3.eh _ _ hD)
    have keepD4 : F4 Dl = none := g4.new _ keepD (by rw [g3.eh _ _ hD]; exact fun z => nomatch z)
    have g14 := (gr.trans g3).trans g4
    refine ⟨acc, hD4, ?_, F4, acc ++ [y], ⟨g14.ef, fun a o q => ?_, fun a o q => ?_, g14.new⟩, s0, n1, keepD4, upd_same, ?_⟩
    · rw [r.length]
      exact Nat.lt_of_le_of_lt (Nat.le_trans (filt_len i) hz) (by decide)
    · rw [upd_ne (ne_of_none q n1)]
      exact g14.eh a o q
    · rw [upd_ne (ne_of_none q keepD4)]
      exact g14.sub a o q
    · simp only [if_true]
      exact ((r.mono (g3.trans g4).ef).append (.one ry))
theorem evn_lcL (xs : List α) (enc : α → D) (p : α → Bool) (g : α → D) (hl : EvS G tl ρ (xs.map enc)) (hz : xs.length ≤ 100000) (hj : j ∈ vs)
    (ht : ∀ x ∈ xs, EvT G tt ((wipeR ρ vs).set j (.im (enc x))) (p x)) (he : ∀ x ∈ xs, p x = true → EvD G te ((wipeR ρ vs).set j (.im (enc x))) (g x)) :
    EvN G (tLc (iList G.K tl) (gName j) tt te vs) ρ ((xs.filter p).map g) := fun F0 H0 F H σ E Q q => hl F0 H0 F H σ E _ fun a ws F1 H1 g1 h1 r => by
  refine ⟨a, rfl, ⟨ws, SqL.of h1⟩, fun Dl hD => ?_⟩
  have hn : xs.length = ws.length := by rw [r.length, List.length_map]
  refine lc_list (xs := ws) (fun i H => Cmp G F0 H0 F1 H1 Dl σ ρ (((xs.take i).filter p).map g) H) ⟨F1, [], (Grow.refl (E.grow g1).sub).fresh hD, E.s0, hD, (E.grow g1).sub.free hD, upd_same, .nil⟩ (fun i H _ ⟨F, acc, gr, _⟩ => SqL.of (gr.eh _ _ h1)) ?_ ?_
  · intro i v H' hv c
    obtain ⟨x, hx, rx⟩ := r.item hv
    have hm : x ∈ xs := List.mem_of_getElem? hx
    exact cmp_turn (E.grow g1) hz hx hj rx (ht x hm) (he x hm) c
  · rintro H' ⟨F', acc, gr, s0, n1, nf, hD', r'⟩
    rw [← hn, List.take_length] at r'
    exact q Dl acc F' H' (g1.trans gr) (g1.eh.free n1) nf hD' r'
theorem evn_lcT (xs : List α) (enc : α → D) (p : α → Bool) (g : α → D) (hl : EvD G tl ρ (.tup (xs.map enc))) (hz : xs.length ≤ 100000) (hj : j ∈ vs)
    (ht : ∀ x ∈ xs, EvT G tt ((wipeR ρ vs).set j (.im (enc x))) (p x)) (he : ∀ x ∈ xs, p x = true → EvD G te ((wipeR ρ vs).set j (.im (enc x))) (g x)) :
    EvN G (tLc (iTup G.K tl) (gName j) tt te vs) ρ ((xs.filter p).map g) := fun F0 H0 F H σ E Q q => hl F0 H0 F H σ E _ fun v0 F1 H1 g1 r0 => by
  cases r0 with
  | tup h1f r =>
  rename_i a ws
  have h1 : H1 a = some (.tup ws) := g1.sub _ _ h1f
  refine ⟨a, rfl, ⟨ws, SqT.of h1⟩, fun Dl hD => ?_⟩
  have hn : xs.length = ws.length := by rw [r.length, List.length_map]
  refine lc_tup (xs := ws) (fun i H => Cmp G F0 H0 F1 H1 Dl σ ρ (((xs.take i).filter p).map g) H) ⟨F1, [], (Grow.refl (E.grow g1).sub).fresh hD, E.s0, hD, (E.grow g1).sub.free hD, upd_same, .nil⟩ (fun i H _ ⟨F, acc, gr, _⟩ => SqT.of (gr.eh _ _ h1)) ?_ ?_
  · intro i v H' hv c
    obtain ⟨x, hx, rx⟩ := r.item hv
    have hm : x ∈ xs := List.mem_of_getElem? hx
    exact cmp_turn (E.grow g1) hz hx hj rx (ht x hm) (he x hm) c
  · rintro H' ⟨F', acc, gr, s0, n1, nf, hD', r'⟩
    rw [← hn, List.take_length] at r'
    exact q Dl acc F' H' (g1.trans gr) (g1.eh.free n1) nf hD' r'
theorem evn_lcR1 {ta : TA} {n : Int} (p : Nat → Bool) (g : Nat → D) (hl : EvA G ta ρ [.int n]) (hz : -100000 ≤ n ∧ n ≤ 100000) (hj : j ∈ vs)
    (ht : ∀ x : Nat, (x : Int) < n → EvT G tt ((wipeR ρ vs).set j (.im (.int x))) (p x)) (he : ∀ x : Nat, (x : Int) < n → p x = true → EvD G te ((wipeR ρ vs).set j (.im (.int x))) (g x)) :
    EvN G (tLc (iRng1 ta) (gName j) tt te vs) ρ (((List.range n.toNat).filter p).map g) := fun F0 H0 F H σ E Q q => hl F0 H0 F H σ E _ fun us F1 H1 g1 r => by
  obtain rfl : us = [.int n] := by
    cases r with
    | cons r1 r2 =>
      cases r2
      rcases r1 with r1 | ⟨_, _, _, _, e, _⟩
      · cases r1
        rfl
      · cases e
  refine ⟨n, rfl, by omega, by omega, fun Dl hD => ?_⟩
  refine lc_range (lo := 0) (n := n.toNat) (fun i H => Cmp G F0 H0 F1 H1 Dl σ ρ ((((List.range n.toNat).take i).filter p).map g) H) ⟨F1, [], (Grow.refl (E.grow g1).sub).fresh hD, E.s0, hD, (E.grow g1).sub.free hD, upd_same, .nil⟩ ?_ ?_
  · intro i H' hi c
    have e0 : (0 : Int) + (i : Int) = (i : Int) := Int.zero_add _
    rw [e0]
    have hx : (List.range n.toNat)[i]? = some i := by simp [hi]
    exact cmp_turn (E.grow g1) (by simp; omega) hx hj (.int _) (ht i (by omega)) (he i (by omega)) c
  · rintro H' ⟨F', acc, gr, s0, n1, nf, hD', r'⟩
    rw [show (List.range n.toNat).take n.toNat = List.range n.toNat from List.take_of_length_le (by simp)] at r'
    exact q Dl acc F' H' (g1.trans gr) (g1.eh.free n1) nf hD' r'
theorem evn_lcR2 {ta : TA} {lo n : Int} (p : Nat → Bool) (g : Nat → D) (hl : EvA G ta ρ [.int lo, .int n]) (hz : -50000 ≤ lo ∧ lo ≤ 50000 ∧ -50000 ≤ n ∧ n ≤ 50000) (hj : j ∈ vs)
    (ht : ∀ x : Nat, lo + (x : Int) < n → EvT G tt ((wipeR ρ vs).set j (.im (.int (lo + x)))) (p x)) (he : ∀ x : Nat, lo + (x : Int) < n → p x = true → EvD G te ((wipeR ρ vs).set j (.im (.int (lo + x)))) (g x)) :
    EvN G (tLc (iRng2 ta) (gName j) tt te vs) ρ (((List.range (n - lo).toNat).filter p).map g) := fun F0 H0 F H σ E Q q => hl F0 H0 F H σ E _ fun us F1 H1 g1 r => by
  obtain rfl : us = [.int lo, .int n] := by
    cases r with
    | cons r1 r2 =>
      cases r2 with
      | cons r2 r3 =>
      cases r3
      rcases r1 with r1 | ⟨_, _, _, _, e, _⟩
      · rcases r2 with r2 | ⟨_, _, _, _, e, _⟩
        · cases r1
          cases r2
          rfl
        · cases e
      · cases e
  refine ⟨lo, n, rfl, ⟨by omega, by omega, by omega, by omega⟩, fun Dl hD => ?_⟩
  refine lc_range (lo := lo) (n := (n - lo).toNat) (fun i H => Cmp G F0 H0 F1 H1 Dl σ ρ ((((List.range (n - lo).toNat).take i).filter p).map g) H) ⟨F1, [], (Grow.refl (E.grow g1).sub).fresh hD, E.s0, hD, (E.grow g1).sub.free hD, upd_same, .nil⟩ ?_ ?_
  · intro i H' hi c
    have hx : (List.range (n - lo).toNat)[i]? = some i := by simp [hi]
    exact cmp_turn (E.grow g1) (by simp; omega) hx hj (.int _) (ht i (by omega)) (he i (by omega)) c
  · rintro H' ⟨F', acc, gr, s0, n1, nf, hD', r'⟩
    rw [show (List.range (n - lo).toNat).take (n - lo).toNat = List.range (n - lo).toNat from List.take_of_length_le (by simp)] at r'
    exact q Dl acc F' H' (g1.trans gr) (g1.eh.free n1) nf hD' r'
end

/-! ### a def -/
def slot (d : D) : Sl := match d with
  | .lst ds => .ar ds
  | d => .im d
/-- the environment at the entry of a def with n names -/
def rho0 (n : Nat) (ds : List D) : Rho := ds.map slot ++ List.replicate (n - ds.length) .no
def kEnd (r : Res) : Ks where
  nx _ := r = .val .non
  rt r' := r' = r
  er e := r = .err e
theorem slot_ok {G : Cfg} {F H : Hp} {v : V} {d : D} (h : RepA G F H v d) (s : Same F H) : SlOk G H F H (slot d) (some (some v)) := by
  rcases h with h | ⟨a, vs, ds, rfl, rfl, h1, r⟩
  · cases h with
    | lst h1 r => exact ⟨_, _, rfl, s _ _ h1, r⟩
    | non => exact ⟨_, rfl, .non⟩
    | bl b => exact ⟨_, rfl, .bl b⟩
    | int b => exact ⟨_, rfl, .int b⟩
    | str b => exact ⟨_, rfl, .str b⟩
    | tup h1 r => exact ⟨_, rfl, .tup h1 r⟩
    | cou h1 h2 r => exact ⟨_, rfl, .cou h1 h2 r⟩
    | scr h => exact ⟨_, rfl, .scr h⟩
    | ptr a => exact ⟨_, rfl, .ptr a⟩
  · exact ⟨a, vs, rfl, h1, r⟩
theorem slot_own {d : D} {es : List D} : slot d ≠ .own es := by
  cases d <;> exact fun z => nomatch z
theorem slots_ok {G : Cfg} {F H : Hp} (s : Same F H) : ∀ {vs : List V} {ds : List D} {i : Nat} {t : Sl}, RepAs G F H vs ds → (ds.map slot)[i]? = some t → SlOk G H F H t ((vs.map some)[i]?)
  | _, _, _, _, .nil, h => by simp at h
  | _, _, 0, _, .cons r _, h => by
    simp at h
    subst h
    exact slot_ok r s
  | _, _, i + 1, _, .cons _ r, h => by
    have z := slots_ok s (i := i) r (by simpa using h)
    simpa using z
theorem renv_start {G : Cfg} {F H : Hp} {vs : List V} {ds : List D} {N : List Str} (s : Same F H) (r : RepAs G F H vs ds) (hl : ds.length ≤ N.length) : REnv G F H F H (L2.start N vs) (rho0 N.length ds) := by
  have len : vs.length = ds.length := Paired.length r
  refine ⟨s, .refl s, ?_, fun i t h => ?_, fun i j ds' es a h1 h2 h3 h4 => ?_⟩
  · unfold L2.start rho0
    simp [len]
  · unfold rho0 at h
    unfold L2.start
    rw [List.getElem?_append] at h ⊢
    by_cases c : i < (ds.map slot).length
    · rw [if_pos c] at h
      rw [if_pos (by rw [List.length_map, len]; rw [List.length_map] at c; exact c)]
      exact slots_ok s r h
    · rw [if_neg c] at h
      rw [List.getElem?_replicate] at h
      split at h
      · cases h
        trivial
      · cases h
  · unfold rho0 at h1
    rw [List.getElem?_append] at h1
    by_cases c : i < (ds.map slot).length
    · rw [if_pos c, List.getElem?_map] at h1
      cases q : ds[i]? with
      | none => rw [q] at h1; cases h1
      | some d =>
        rw [q] at h1
        exact absurd (Option.some.inj h1) slot_own
    · rw [if_neg c, List.getElem?_replicate] at h1
      split at h1 <;> cases h1
/-- a def's body, said over data -/
theorem body_ok {G : Cfg} {t : TS} {N : List Str} {ds : List D} {r : Res} {E : XK} {F H : Hp} {vs : List V} {Q : VK} (hw : WS G (wd E) t (kEnd r) (rho0 N.length ds)) (hl : ds.length ≤ N.length) (s : Same F H) (ra : RepAs G F H vs ds) (g : Goes G F H Q E r) :
    t { nx := fun _ H' => Q .non H', rt := Q } (L2.start N vs) H := by
  refine hw F H F H _ _ (renv_start s ra hl) ⟨?_, ?_, ?_, ?_, ?_⟩
  · rintro ρ e F' H' σ' _ R
    have e' : r = .val .non := e
    rw [e'] at g
    exact g .non F' H' R.g .non
  · exact fun _ z => z.elim
  · exact fun _ z => z.elim
  · intro r' e
    have e' : r' = r := e
    subst e'
    cases r' with
    | val d => exact g
    | new d => exact g
    | trip s W b => exact g
    | err e => exact fun _ _ _ => trivial
  · intro e z F' H' σ' _ g'
    have e' : r = .err e := z
    rw [e'] at g
    exact g F' H' g'
section
variable {P : Program} {w : World} {K : PySem.W.Frag} {mg : Str → Option Value} {base : Heap}
/-- THE RULE for a def that raises nothing -/
theorem okD {G : Cfg} {x qual : Str} {st : Stmt} {f : Addr} {fd : FuncData} {N ps : List Str} {k : Nat} {R : List D → Res → Prop} (F : Fun K x qual st f fd) (S : FnScope N ps (defScope st)) (hlen : ∀ ds r, R ds r → ds.length = ps.length) (hps : ps.length ≤ N.length)
    (hbody : ∀ (cdv : Value) (A : Around) (outer : List Env) (s : Shared) (H : Hp) (E : XK), Room k (A.deeper (envOfC qual (defScope st) s.heap.objs.size f cdv)) →
      ∃ t, PSs (cxOf CX0 P w K mg base N qual (defScope st) f cdv A outer s H E).nox (defBody st) t ∧ ∀ ds r, R ds r → WS G (wd E) t (kEnd r) (rho0 N.length ds)) : FnOk P w K mg base CX0 (k + 1) f fd ps (mkSp G R) := by
  refine F.ok S (fun vs H Q E h => ?_) (fun cdv A outer s H vs Q E hr h => ?_)
  · obtain ⟨F, ds, r, _, ra, hR, _⟩ := h
    rw [Paired.length ra]
    exact hlen ds r hR
  · obtain ⟨t, hp, hw⟩ := hbody cdv A outer s H E hr
    obtain ⟨F, ds, r, sf, ra, hR, g⟩ := h
    exact ⟨t, hp, body_ok (hw ds r hR) (by rw [hlen ds r hR]; exact hps) sf ra g⟩
/-- .. that may raise -/
theorem okX {G : Cfg} {x qual : Str} {st : Stmt} {f : Addr} {fd : FuncData} {N ps : List Str} {k : Nat} {R : List D → Res → Prop} (F : Fun K x qual st f fd) (S : FnScope N ps (defScope st)) (hlen : ∀ ds r, R ds r → ds.length = ps.length) (hps : ps.length ≤ N.length)
    (hbody : ∀ (cdv : Value) (A : Around) (outer : List Env) (s : Shared) (H : Hp) (E : XK), Room k (A.deeper (envOfC qual (defScope st) s.heap.objs.size f cdv)) →
      ∃ t, PSs (cxOf (L2.CX P w) P w K mg base N qual (defScope st) f cdv A outer s H E) (defBody st) t ∧ ∀ ds r, R ds r → WS G (wd E) t (kEnd r) (rho0 N.length ds)) : FnOk P w K mg base (L2.CX P w) (k + 1) f fd ps (mkSp G R) := by
  refine F.okX S (fun vs H Q E h => ?_) (fun cdv A outer s H vs Q E hr h => ?_)
  · obtain ⟨F, ds, r, _, ra, hR, _⟩ := h
    rw [Paired.length ra]
    exact hlen ds r hR
  · obtain ⟨t, hp, hw⟩ := hbody cdv A outer s H E hr
    obtain ⟨F, ds, r, sf, ra, hR, g⟩ := h
    exact ⟨t, hp, body_ok (hw ds r hR) (by rw [hlen ds r hR]; exact hps) sf ra g⟩
end
end Vw

namespace Vw
open PySem L2 PySem.Spec PyProof.Rows

/-! ### set(t), t a tuple of ints -/
def rSetT (w : World) (K : PySem.W.Frag) : List V → Hp → VK → Prop := fun vs H Q => ∃ (a : Addr) (ns : List Int), vs = [V.ref a] ∧ SqT K H a (ns.map V.int) ∧ ns.length ≤ 1000 ∧
  ∀ p c, H p = none → c ≤ ns.length → Q (.ref p) (upd H p (SetO w p (fun j => decide (j ∈ ns)) c))
theorem cr_setT {X : Cx} (hc : X.calm = true) : CallR X (.type "set") (rSetT X.w X.K) := by
  intro pins s σ H vs us Q I r h
  obtain ⟨a, ns, rfl, hq, hl, q⟩ := h
  rw [Vals.ref1 r]
  obtain ⟨its, rv, pt, hz⟩ := I.tuple hq
  have hi : IntsAre its.toArray.toList ns := ints_of_vals rv
  refine call_set_tupI ns (I.ok.hd hc) (show s.heap.IsTuple a its.toArray from pt) hi (by unfold scanBound; omega) fun h' tk c R1 hcn k => ?_
  have hn : H s.heap.objs.size = none := I.hok.fresh (Nat.le_refl _)
  exact ⟨.ref s.heap.objs.size, _, I.laid (t' := tk) k (Nat.le_refl _) (setO_new R1), rfl, q _ c hn hcn⟩

/-! ### rules of built-ins, over data -/
section
variable {G : Cfg} {te ta tb : TE} {ρ : Rho} {d x y z : D} {ds es : List D} {t u : TT} {b c : Bool}
theorem rcd_one {r : List V → Hp → VK → Prop} (h : ∀ F H v, Same F H → RepA G F H v x → ∀ Q : VK, (∀ u F' H', Grow F H F' H' → Rep G F' u z → Q u H') → r [v] H Q) : RcD G r [x] z := fun F H vs s ra Q q => by
  cases ra with
  | cons r1 r2 =>
    cases r2
    exact h F H _ s r1 Q q
theorem rcn_one {r : List V → Hp → VK → Prop} (h : ∀ F H v, Same F H → RepA G F H v x → ∀ Q : VK, (∀ a ws F' H', Grow F H F' H' → H a = none → F' a = none → H' a = some (.lst ws) → Reps G F' ws es → Q (.ref a) H') → r [v] H Q) : RcN G r [x] es := fun F H vs s ra Q q => by
  cases ra with
  | cons r1 r2 =>
    cases r2
    exact h F H _ s r1 Q q
theorem RepA.lst {F H : Hp} {v : V} (s : Same F H) (h : RepA G F H v (.lst ds)) : ∃ a vs, v = .ref a ∧ H a = some (.lst vs) ∧ Reps G F vs ds := by
  rcases h with h | ⟨a, vs, ds', rfl, e, h1, r⟩
  · cases h with
    | lst h1 r => exact ⟨_, _, rfl, s _ _ h1, r⟩
  · cases e
    exact ⟨a, vs, rfl, h1, r⟩
theorem RepA.flat {F H : Hp} {v : V} (h : RepA G F H v x) (hx : ∀ ds, x ≠ .lst ds) : Rep G F v x := by
  rcases h with h | ⟨a, vs, ds', rfl, e, h1, r⟩
  · exact h
  · exact absurd e (hx _)
theorem RepA.tup {F H : Hp} {v : V} (s : Same F H) (h : RepA G F H v (.tup ds)) : ∃ a vs, v = .ref a ∧ F a = some (.tup vs) ∧ H a = some (.tup vs) ∧ Reps G F vs ds := by
  cases h.flat (fun _ z => nomatch z) with
  | tup h1 r => exact ⟨_, _, rfl, h1, s _ _ h1, r⟩
/-- the arguments of a call with one argument -/
theorem ea1 (h : EvD G te ρ x) : EvA G (tCons te tNil) ρ [x] := eva_cons h eva_nil
theorem ea1L (h : EvS G te ρ ds) : EvA G (tCons te tNil) ρ [.lst ds] := eva_consL h eva_nil
theorem ea2 (h : EvD G ta ρ x) (h2 : EvD G tb ρ y) : EvA G (tCons ta (tCons tb tNil)) ρ [x, y] := eva_cons h (ea1 h2)
/-! #### len -/
theorem evd_lenL (h : EvS G te ρ ds) : EvD G (tCB (fun xs H Q => ∃ p ys, xs = [V.ref p] ∧ (SqL G.K H p ys ∨ SqT G.K H p ys) ∧ Q (.int ys.length) H) (tCons te tNil)) ρ (.int ds.length) :=
  evd_cb (ea1L h) (rcd_one fun F H v s r Q q => by
    obtain ⟨a, vs, rfl, h1, rr⟩ := r.lst s
    refine ⟨a, vs, rfl, .inl (SqL.of h1), q _ F H (.refl s) ?_⟩
    rw [rr.length]
    exact .int _)
theorem evd_lenT (h : EvD G te ρ (.tup ds)) : EvD G (tCB (fun xs H Q => ∃ p ys, xs = [V.ref p] ∧ (SqL G.K H p ys ∨ SqT G.K H p ys) ∧ Q (.int ys.length) H) (tCons te tNil)) ρ (.int ds.length) :=
  evd_cb (ea1 h) (rcd_one fun F H v s r Q q => by
    obtain ⟨a, vs, rfl, h1, h2, rr⟩ := r.tup s
    refine ⟨a, vs, rfl, .inr (SqT.of h2), q _ F H (.refl s) ?_⟩
    rw [rr.length]
    exact .int _)
theorem evd_lenScr {ns : List Int} (h : EvD G te ρ (.scr ns)) : EvD G (tCB (fun xs H Q => ∃ p ys, xs = [V.ref p] ∧ (SqL G.K H p ys ∨ SqT G.K H p ys) ∧ Q (.int ys.length) H) (tCons te tNil)) ρ (.int ns.length) :=
  evd_cb (ea1 h) (rcd_one fun F H v s r Q q => by
    cases r.flat (fun _ z => nomatch z) with
    | scr h1 =>
      refine ⟨_, _, rfl, .inl (sq_same s h1), q _ F H (.refl s) ?_⟩
      rw [List.length_map]
      exact .int _)
theorem evd_lenS {s : Str} (h : EvD G te ρ (.str s)) (hz : s.length ≤ 100000) : EvD G (tCB (fun xs H Q => ∃ z, xs = [V.str z] ∧ z.length ≤ sizeLine ∧ Q (.int z.length) H) (tCons te tNil)) ρ (.int s.length) :=
  evd_cb (ea1 h) (rcd_one fun F H v sm r Q q => by
    cases r.flat (fun _ z => nomatch z)
    exact ⟨s, rfl, Nat.le_trans hz (by decide), q _ F H (.refl sm) (.int _)⟩)
/-! #### subscripts -/
theorem evd_ixL {i : Int} {j : Nat} (ha : EvS G ta ρ ds) (hb : EvD G tb ρ (.int i)) (hi : i = j) (hj : ds[j]? = some d) : EvD G (tOp (rIxL G.K) ta tb) ρ d := evd_opF ha hb fun F H a vs w s h1 r rw_ Q q => by
  cases rw_
  subst hi
  obtain ⟨v, hv, rv⟩ := r.getD hj
  exact ⟨a, vs, _, v, rfl, rfl, SqL.of h1, atI_nat hv, q v F H (.refl s) rv⟩
theorem evd_ixT {i : Int} {j : Nat} (ha : EvD G ta ρ (.tup ds)) (hb : EvD G tb ρ (.int i)) (hi : i = j) (hj : ds[j]? = some d) : EvD G (tOp (rIxT G.K) ta tb) ρ d := evd_op ha hb fun F H v w s rv rw_ Q q => by
  cases rw_
  subst hi
  cases rv with
  | tup h1 r =>
    obtain ⟨v, hv, rv⟩ := r.getD hj
    exact ⟨_, _, _, v, rfl, rfl, SqT.of (s _ _ h1), atI_nat hv, q v F H (.refl s) rv⟩
/-- t[-1] -/
theorem evd_ixTlast (ha : EvD G ta ρ (.tup ds)) (hb : EvD G tb ρ (.int (-1))) (hj : ds[ds.length - 1]? = some d) : EvD G (tOp (rIxT G.K) ta tb) ρ d := evd_op ha hb fun F H v w s rv rw_ Q q => by
  cases rw_
  cases rv with
  | tup h1 r =>
    rename_i a vs
    obtain ⟨v, hv, rv⟩ := r.getD hj
    refine ⟨a, vs, -1, v, rfl, rfl, SqT.of (s _ _ h1), ?_, q v F H (.refl s) rv⟩
    have hl := r.length
    have hd : ds.length - 1 < ds.length := (List.getElem?_eq_some_iff.mp hj).1
    unfold atI ixN
    rw [if_neg (by decide), if_pos (by omega)]
    show vs[((-1 : Int) + (vs.length : Int)).toNat]? = some v
    have e : ((-1 : Int) + (vs.length : Int)).toNat = ds.length - 1 := by omega
    rw [e]
    exact hv
theorem evd_ixScr {ns : List Int} {i : Int} {j : Nat} {n : Int} (ha : EvD G ta ρ (.scr ns)) (hb : EvD G tb ρ (.int i)) (hi : i = j) (hj : ns[j]? = some n) : EvD G (tOp (rIxL G.K) ta tb) ρ (.int n) := evd_op ha hb fun F H v w s rv rw_ Q q => by
  cases rw_
  subst hi
  cases rv with
  | scr h1 =>
    refine ⟨_, _, _, .int n, rfl, rfl, sq_same s h1, atI_nat ?_, q _ F H (.refl s) (.int n)⟩
    rw [List.getElem?_map, hj]
    rfl
/-! #### in -/
theorem inV_ints (k : Int) : ∀ ns : List Int, inV (.int k) (ns.map V.int) = decide (k ∈ ns)
  | [] => by simp [inV]
  | n :: ns => by
    have ih := inV_ints k ns
    unfold inV at ih ⊢
    rw [List.map_cons, List.any_cons, ih]
    have e : eqV (V.int n) (V.int k) = decide (k = n) := by
      have h : eqV (V.int n) (V.int k) = (n == k) := rfl
      rw [h]
      by_cases q : n = k
      · subst q; simp
      · have : k ≠ n := fun e => q e.symm
        simp [q, this]
    rw [e]
    by_cases q : k = n
    · simp [q]
    · simp [q]
theorem flat_ints (ns : List Int) : (ns.map V.int).all flatV = true := by
  rw [List.all_eq_true]
  intro v hv
  obtain ⟨n, _, rfl⟩ := List.mem_map.mp hv
  rfl
theorem evd_inT {i : Int} {ns : List Int} (ha : EvD G ta ρ (.int i)) (hb : EvD G tb ρ (.tup (ns.map .int))) : EvD G (tOp (rIn G.K false) ta tb) ρ (.bl (decide (i ∈ ns))) := evd_op ha hb fun F H v w s rv rw_ Q q => by
  cases rv
  cases rw_ with
  | tup h1 r =>
    have e := r.ints
    subst e
    refine ⟨_, _, rfl, .inr (SqT.of (s _ _ h1)), rfl, flat_ints ns, q _ F H (.refl s) ?_⟩
    rw [inV_ints]
    exact .bl _
theorem evd_ninT {i : Int} {ns : List Int} (ha : EvD G ta ρ (.int i)) (hb : EvD G tb ρ (.tup (ns.map .int))) : EvD G (tOp (rIn G.K true) ta tb) ρ (.bl (!decide (i ∈ ns))) := evd_op ha hb fun F H v w s rv rw_ Q q => by
  cases rv
  cases rw_ with
  | tup h1 r =>
    have e := r.ints
    subst e
    refine ⟨_, _, rfl, .inr (SqT.of (s _ _ h1)), rfl, flat_ints ns, q _ F H (.refl s) ?_⟩
    rw [inV_ints]
    exact .bl _
/-! #### sum, min, max, int -/
theorem evd_sum {ns : List Int} (h : EvS G te ρ (ns.map .int)) : EvD G (tCB (rSum G.K) (tCons te tNil)) ρ (.int ns.sum) :=
  evd_cb (ea1L h) (rcd_one fun F H v s r Q q => by
    obtain ⟨a, vs, rfl, h1, rr⟩ := r.lst s
    have e := rr.ints
    subst e
    exact ⟨a, ns, rfl, SqL.of h1, q _ F H (.refl s) (.int _)⟩)
theorem evd_min {ns : List Int} {m : Int} (h : EvS G te ρ (ns.map .int)) (hm : m ∈ ns) (hle : ∀ y ∈ ns, m ≤ y) : EvD G (tCB (rMin G.K) (tCons te tNil)) ρ (.int m) :=
  evd_cb (ea1L h) (rcd_one fun F H v s r Q q => by
    obtain ⟨a, vs, rfl, h1, rr⟩ := r.lst s
    have e := rr.ints
    subst e
    refine ⟨a, ns, rfl, SqL.of h1, List.length_pos_of_mem hm, fun m' hm' hle' => ?_⟩
    have : m' = m := Int.le_antisymm (hle' m hm) (hle m' hm')
    subst this
    exact q _ F H (.refl s) (.int _))
theorem rcd_two {r : List V → Hp → VK → Prop} {i j : Int} {n : Int} (h : ∀ H (Q : VK), Q (.int n) H → r [.int i, .int j] H Q) : RcD G r [.int i, .int j] (.int n) := fun F H vs s ra Q q => by
  cases ra with
  | cons r1 r2 =>
    cases r2 with
    | cons r2 r3 =>
    cases r3
    cases r1.flat (fun _ z => nomatch z)
    cases r2.flat (fun _ z => nomatch z)
    exact h H Q (q _ F H (.refl s) (.int n))
theorem evd_max2 {i j : Int} (ha : EvD G ta ρ (.int i)) (hb : EvD G tb ρ (.int j)) : EvD G (tCB (fun xs H Q => ∃ i j, xs = [V.int i, V.int j] ∧ Q (.int (if j > i then j else i)) H) (tCons ta (tCons tb tNil))) ρ (.int (max i j)) :=
  evd_cb (ea2 ha hb) (rcd_two fun H Q q => ⟨i, j, rfl, by
    have e : (if j > i then j else i) = max i j := by split <;> omega
    rw [e]
    exact q⟩)
theorem evd_min2 {i j : Int} (ha : EvD G ta ρ (.int i)) (hb : EvD G tb ρ (.int j)) : EvD G (tCB (fun xs H Q => ∃ i j, xs = [V.int i, V.int j] ∧ Q (.int (if j < i then j else i)) H) (tCons ta (tCons tb tNil))) ρ (.int (min i j)) :=
  evd_cb (ea2 ha hb) (rcd_two fun H Q q => ⟨i, j, rfl, by
    have e : (if j < i then j else i) = min i j := by split <;> omega
    rw [e]
    exact q⟩)
theorem evd_intB (h : EvD G te ρ (.bl b)) : EvD G (tCB (fun xs H Q => (∃ i, xs = [V.int i] ∧ Q (.int i) H) ∨ ∃ k, xs = [V.bl k] ∧ Q (.int (if k then 1 else 0)) H) (tCons te tNil)) ρ (.int (if b then 1 else 0)) :=
  evd_cb (ea1 h) (rcd_one fun F H v s r Q q => by
    cases r.flat (fun _ z => nomatch z)
    exact .inr ⟨b, rfl, q _ F H (.refl s) (.int _)⟩)
theorem evd_strI {i : Int} (h : EvD G te ρ (.int i)) (hi : i.natAbs.log2 < 1920) : EvD G (tCB (fun xs H Q => ∃ i, xs = [V.int i] ∧ i.natAbs.log2 < 1920 ∧ Q (.str (toString i)) H) (tCons te tNil)) ρ (.str (toString i)) :=
  evd_cb (ea1 h) (rcd_one fun F H v s r Q q => by
    cases r.flat (fun _ z => nomatch z)
    exact ⟨i, rfl, hi, q _ F H (.refl s) (.str _)⟩)
/-! #### tuple(..), list(..), + -/
theorem evd_tupleL (h : EvS G te ρ ds) (hz : ds.length ≤ 100000) : EvD G (tCB (fun xs H Q => ∃ p ys, xs = [V.ref p] ∧ ((SqL G.K H p ys ∧ ∀ l, H l = none → Q (.ref l) (upd H l (.tup ys))) ∨ (SqT G.K H p ys ∧ Q (.ref p) H))) (tCons te tNil)) ρ (.tup ds) :=
  evd_cb (ea1L h) (rcd_one fun F H v s r Q q => by
    obtain ⟨a, vs, rfl, h1, rr⟩ := r.lst s
    exact ⟨a, vs, rfl, .inl ⟨SqL.of h1, fun l hl => q _ _ _ ((Grow.refl s).laid hl) (.tup upd_same (rr.mono (same_upd (s.free hl))))⟩⟩)
theorem evd_tupleT (h : EvD G te ρ (.tup ds)) : EvD G (tCB (fun xs H Q => ∃ p ys, xs = [V.ref p] ∧ ((SqL G.K H p ys ∧ ∀ l, H l = none → Q (.ref l) (upd H l (.tup ys))) ∨ (SqT G.K H p ys ∧ Q (.ref p) H))) (tCons te tNil)) ρ (.tup ds) :=
  evd_cb (ea1 h) (rcd_one fun F H v s r Q q => by
    obtain ⟨a, vs, rfl, h1, h2, rr⟩ := r.tup s
    exact ⟨a, vs, rfl, .inr ⟨SqT.of h2, q _ F H (.refl s) (.tup h1 rr)⟩⟩)
theorem evn_listL (h : EvS G te ρ ds) : EvN G (tCB (fun xs H Q => ∃ p ys, xs = [V.ref p] ∧ (SqL G.K H p ys ∨ SqT G.K H p ys) ∧ ∀ l, H l = none → Q (.ref l) (upd H l (.lst ys))) (tCons te tNil)) ρ ds :=
  evn_cb (ea1L h) (rcn_one fun F H v s r Q q => by
    obtain ⟨a, vs, rfl, h1, rr⟩ := r.lst s
    exact ⟨a, vs, rfl, .inl (SqL.of h1), fun l hl => q l vs _ _ ((Grow.refl s).fresh hl) hl (s.free hl) upd_same rr⟩)
theorem evn_listT (h : EvD G te ρ (.tup ds)) : EvN G (tCB (fun xs H Q => ∃ p ys, xs = [V.ref p] ∧ (SqL G.K H p ys ∨ SqT G.K H p ys) ∧ ∀ l, H l = none → Q (.ref l) (upd H l (.lst ys))) (tCons te tNil)) ρ ds :=
  evn_cb (ea1 h) (rcn_one fun F H v s r Q q => by
    obtain ⟨a, vs, rfl, h1, h2, rr⟩ := r.tup s
    exact ⟨a, vs, rfl, .inr (SqT.of h2), fun l hl => q l vs _ _ ((Grow.refl s).fresh hl) hl (s.free hl) upd_same rr⟩)
theorem evd_catT (ha : EvD G ta ρ (.tup ds)) (hb : EvD G tb ρ (.tup es)) (hz : ds.length + es.length ≤ 100000) : EvD G (tOp (rCatA G.K) ta tb) ρ (.tup (ds ++ es)) := evd_op ha hb fun F H v w s rv rw_ Q q => by
  cases rv with
  | tup h1 r1 =>
    cases rw_ with
    | tup h2 r2 =>
      refine ⟨_, _, _, _, rfl, rfl, SqT.of (s _ _ h1), SqT.of (s _ _ h2), ?_, fun e => ?_, fun _ e => ?_, fun _ _ p hp => ?_⟩
      · rw [r1.length, r2.length]
        exact Nat.le_trans hz (by decide)
      · subst e
        cases r1
        exact q _ F H (.refl s) (.tup h2 r2)
      · subst e
        cases r2
        exact q _ F H (.refl s) (by rw [List.append_nil]; exact .tup h1 r1)
      · exact q _ _ _ ((Grow.refl s).laid hp) (.tup upd_same ((r1.append r2).mono (same_upd (s.free hp))))
theorem evn_cat (ha : EvS G ta ρ ds) (hb : EvS G tb ρ es) (hz : ds.length + es.length ≤ 100000) : EvN G (tOp rCat ta tb) ρ (ds ++ es) := fun F0 H0 F H σ E Q q =>
  ha F0 H0 F H σ E _ fun a vs F1 H1 g1 h1 r1 => hb F0 H0 F1 H1 σ (E.grow g1) _ fun c ws F2 H2 g2 h2 r2 =>
    ⟨a, c, vs, ws, rfl, rfl, g2.eh _ _ h1, h2, by rw [r1.length, r2.length]; exact Nat.le_trans hz (by decide), fun p hp =>
      q p _ F2 _ ((g1.trans g2).fresh hp) ((g1.trans g2).eh.free hp) (g2.sub.free hp) upd_same ((r1.mono g2.ef).append r2)⟩
/-! #### sorted -/
theorem evn_sortedSet {w : World} {ns ms : List Int} (h : EvD G te ρ (.tup (ns.map .int))) (hl : ns.length ≤ 60) (hp : ms.Pairwise (· < ·)) (hm : ∀ k : Int, k ∈ ms ↔ k ∈ ns) :
    EvN G (tCB (rSortedSet w) (tCons (tCB (rSetT w G.K) (tCons te tNil)) tNil)) ρ (ms.map .int) := fun F0 H0 F H σ E Q q =>
  h F0 H0 F H σ E _ fun v F1 H1 g1 r1 => by
  cases r1 with
  | tup h1 r =>
    have e := r.ints
    subst e
    refine ⟨_, ns, rfl, SqT.of (g1.sub _ _ h1), Nat.le_trans hl (by decide), fun p c hp' hc => ?_⟩
    refine ⟨p, _, c, rfl, upd_same, by omega, fun ks l hk hk2 hlen hl' => ?_⟩
    have ek : ks = ms := by
      have : ∀ k, k ∈ ks ↔ k ∈ ms := fun k => by rw [hk2 k, hm k, decide_eq_true_eq]
      have p1 : ks.Perm ms := (List.perm_ext_iff_of_nodup (hk.imp fun {a b} h => Int.ne_of_lt h) (hp.imp fun {a b} h => Int.ne_of_lt h)).mpr this
      exact p1.eq_of_pairwise (fun a b _ _ h1 h2 => by omega) hk hp
    subst ek
    have g2 : Grow F H F1 (upd H1 p (SetO w p (fun j => decide (j ∈ ns)) c)) := g1.fresh hp'
    have l1 : H1 l = none := by
      rw [← hl']
      exact (upd_ne (fun e => by rw [e, upd_same] at hl'; cases hl')).symm
    exact q l _ F1 _ (g2.fresh hl') (g2.eh.free hl') (g2.sub.free hl') upd_same (.ofInts ks)
theorem evn_sortedI {ns ms : List Int} (h : EvS G te ρ (ns.map .int)) (hp : ms.Pairwise (· ≤ ·)) (hm : ms.Perm ns) : EvN G (tCB (rSortedI G.K) (tCons te tNil)) ρ (ms.map .int) :=
  evn_cb (ea1L h) (rcn_one fun F H v s r Q q => by
    obtain ⟨a, vs, rfl, h1, rr⟩ := r.lst s
    have e := rr.ints
    subst e
    refine ⟨a, ns, rfl, SqL.of h1, fun ks p hk hk2 hp' => ?_⟩
    have ek : ks = ms := (hk.trans hm.symm).eq_of_pairwise (fun a b _ _ h1 h2 => by omega) hk2 hp
    subst ek
    exact q p _ F _ ((Grow.refl s).fresh hp') hp' (s.free hp') upd_same (.ofInts ks))
/-! #### slices -/
def cut {α : Type} (xs : List α) (lo hi : Option Int) : List α := (xs.drop (HT.sIx xs.length 0 lo)).take (HT.sIx xs.length xs.length hi - HT.sIx xs.length 0 lo)
theorem Reps.cut {F : Hp} {vs : List V} (r : Reps G F vs ds) (lo hi : Option Int) : Reps G F (cutV vs lo hi) (cut ds lo hi) := by
  unfold cutV Vw.cut
  rw [r.length]
  exact (r.drop _).take _
theorem evn_slL {tl th : TO} {lo hi : Option Int} (h : EvS G te ρ ds) (h1 : EvO G tl ρ lo) (h2 : EvO G th ρ hi) : EvN G (tSl (rSlL G.K) te tl th) ρ (cut ds lo hi) := fun F0 H0 F H σ E Q q =>
  h F0 H0 F H σ E _ fun a vs F1 H1 g1 a1 r1 => h1 F0 H0 F1 H1 σ (E.grow g1) _ fun F2 H2 g2 => h2 F0 H0 F2 H2 σ (E.grow (g1.trans g2)) _ fun F3 H3 g3 =>
    ⟨a, vs, rfl, SqL.of (g3.eh _ _ (g2.eh _ _ a1)), fun p hp => q p _ F3 _ (((g1.trans g2).trans g3).fresh hp) (((g1.trans g2).trans g3).eh.free hp) (g3.sub.free hp) upd_same ((r1.mono (g2.trans g3).ef).cut lo hi)⟩
theorem cut_whole {α : Type} {xs : List α} {lo hi : Option Int} (h : HT.sIx xs.length 0 lo = 0 ∧ HT.sIx xs.length xs.length hi = xs.length) : cut xs lo hi = xs := by
  unfold cut
  rw [h.1, h.2]
  simp
theorem evd_slT {tl th : TO} {lo hi : Option Int} (h : EvD G te ρ (.tup ds)) (h1 : EvO G tl ρ lo) (h2 : EvO G th ρ hi) : EvD G (tSl (rSlA G.K) te tl th) ρ (.tup (cut ds lo hi)) := fun F0 H0 F H σ E Q q =>
  h F0 H0 F H σ E _ fun v F1 H1 g1 r1 => h1 F0 H0 F1 H1 σ (E.grow g1) _ fun F2 H2 g2 => h2 F0 H0 F2 H2 σ (E.grow (g1.trans g2)) _ fun F3 H3 g3 => by
  have g := (g1.trans g2).trans g3
  have rr := r1.mono (g2.trans g3).ef
  cases rr with
  | tup a1 r =>
    rename_i a vs
    refine ⟨a, vs, rfl, SqT.of (g3.sub _ _ a1), fun e => ?_, fun _ p hp => ?_⟩
    · exact q _ F3 H3 g (by rw [cut_whole (by rw [← r.length]; exact e)]; exact .tup a1 r)
    · exact q _ _ _ (g.laid hp) (.tup upd_same ((r.cut lo hi).mono (same_upd (g3.sub.free hp))))
theorem evd_slS {tl th : TO} {lo hi : Option Int} {s : Str} (h : EvD G te ρ (.str s)) (hz : s.length ≤ 100000) (h1 : EvO G tl ρ lo) (h2 : EvO G th ρ hi) : EvD G (tSl rSlS te tl th) ρ (.str (cutS s lo hi)) := fun F0 H0 F H σ E Q q =>
  h F0 H0 F H σ E _ fun v F1 H1 g1 r1 => h1 F0 H0 F1 H1 σ (E.grow g1) _ fun F2 H2 g2 => h2 F0 H0 F2 H2 σ (E.grow (g1.trans g2)) _ fun F3 H3 g3 => by
  cases r1
  exact ⟨s, rfl, Nat.le_trans hz (by decide), q _ F3 H3 ((g1.trans g2).trans g3) (.str _)⟩
theorem evn_rep {n : Int} (ha : EvS G ta ρ ds) (hb : EvD G tb ρ (.int n)) (hn : 0 ≤ n ∧ n ≤ 1000) (hz : ds.length ≤ 100) : EvN G (tOp rRep ta tb) ρ (List.replicate n.toNat ds).flatten := fun F0 H0 F H σ E Q q =>
  ha F0 H0 F H σ E _ fun a vs F1 H1 g1 h1 r1 => hb F0 H0 F1 H1 σ (E.grow g1) _ fun v F2 H2 g2 r2 => by
  cases r2
  refine ⟨a, n, vs, rfl, rfl, g2.eh _ _ h1, by omega, by omega, ?_, ?_⟩
  · rw [r1.length]
    have : ds.length * n.toNat ≤ 100 * 1000 := Nat.mul_le_mul hz (by omega)
    exact Nat.le_trans this (by decide)
  · intro p hp
    refine q p _ F2 _ ((g1.trans g2).fresh hp) ((g1.trans g2).eh.free hp) (g2.sub.free hp) upd_same ?_
    have go : ∀ k : Nat, Reps G F2 (List.replicate k vs).flatten (List.replicate k ds).flatten := fun k => by
      induction k with
      | zero => exact .nil
      | succ k ih =>
        rw [List.replicate_succ, List.replicate_succ, List.flatten_cons, List.flatten_cons]
        exact (r1.mono g2.ef).append ih
    exact go _
end
/-! #### == of data -/
mutual
def py : D → PyData
  | .non => .none
  | .bl b => .bool b
  | .int i => .int i
  | .str x => .str x
  | .lst ds => .list (pys ds)
  | .tup ds => .tuple (pys ds)
  | .cou _ _ => .none
  | .scr _ => .none
  | .ptr _ => .none
def pys : List D → List PyData
  | [] => []
  | d :: ds => py d :: pys ds
end
mutual
def pl : D → Bool
  | .lst ds => pls ds
  | .tup ds => pls ds
  | .cou _ _ => false
  | .scr _ => false
  | .ptr _ => false
  | .non => true
  | .bl _ => true
  | .int _ => true
  | .str _ => true
def pls : List D → Bool
  | [] => true
  | d :: ds => pl d && pls ds
end
mutual
theorem Rep.dp {G : Cfg} {F H : Hp} (s : Same F H) : ∀ {v : V} {d : D}, Rep G F v d → pl d = true → Dp G.K H v (py d)
  | _, _, .non, _ => .non
  | _, _, .bl b, _ => .bl b
  | _, _, .int i, _ => .int i
  | _, _, .str x, _ => .str x
  | _, _, .lst h r, p => .lst (SqL.of (s _ _ h)) (Reps.dp s r (by unfold pl at p; exact p))
  | _, _, .tup h r, p => .tup (SqT.of (s _ _ h)) (Reps.dp s r (by unfold pl at p; exact p))
  | _, _, .cou h1 h2 r, p => by unfold pl at p; cases p
  | _, _, .scr h, p => by unfold pl at p; cases p
  | _, _, .ptr a, p => by unfold pl at p; cases p
theorem Reps.dp {G : Cfg} {F H : Hp} (s : Same F H) : ∀ {vs : List V} {ds : List D}, Reps G F vs ds → pls ds = true → DpAll G.K H vs (pys ds)
  | _, _, .nil, _ => .nil
  | _, _, .cons h r, p => by
    unfold pls at p
    have p' := Bool.and_eq_true_iff.mp p
    exact .cons (Rep.dp s h p'.1) (Reps.dp s r p'.2)
end
structure Enc {α : Type} [DecidableEq α] (e : α → D) (n : Nat) : Prop where
  pl : ∀ a, pl (e a) = true
  lay : ∀ a, PyData.canLay0 (py (e a)) = true
  dep : ∀ a, (py (e a)).depth ≤ n
  eqv : ∀ a b, PyData.eqv (py (e a)) (py (e b)) = decide (a = b)
theorem encI : Enc D.int 0 := ⟨fun _ => rfl, fun _ => rfl, fun _ => by simp [py, PyData.depth], fun a b => by simp only [py, PyData.eqv]; by_cases h : a = b <;> simp [h]⟩
theorem encB : Enc D.bl 0 := ⟨fun _ => rfl, fun _ => rfl, fun _ => by simp [py, PyData.depth], fun a b => by cases a <;> cases b <;> simp [py, PyData.eqv]⟩
theorem Enc.pls {α : Type} [DecidableEq α] {e : α → D} {n : Nat} (h : Enc e n) : ∀ xs : List α, pls (xs.map e) = true
  | [] => rfl
  | x :: xs => by
    rw [List.map_cons]
    unfold Vw.pls
    rw [h.pl x, Enc.pls h xs]
    rfl
theorem Enc.lays {α : Type} [DecidableEq α] {e : α → D} {n : Nat} (h : Enc e n) : ∀ xs : List α, PyData.canLayAll0 (pys (xs.map e)) = true
  | [] => rfl
  | x :: xs => by
    rw [List.map_cons]
    unfold pys PyData.canLayAll0
    rw [h.lay x, Enc.lays h xs]
    rfl
theorem Enc.deps {α : Type} [DecidableEq α] {e : α → D} {n : Nat} (h : Enc e n) : ∀ xs : List α, PyData.depthAll (pys (xs.map e)) ≤ n
  | [] => by simp [pys, PyData.depthAll]
  | x :: xs => by
    rw [List.map_cons]
    unfold pys PyData.depthAll
    exact Nat.max_le.mpr ⟨h.dep x, Enc.deps h xs⟩
theorem Enc.eqvs {α : Type} [DecidableEq α] {e : α → D} {n : Nat} (h : Enc e n) : ∀ xs ys : List α, PyData.eqvAll (pys (xs.map e)) (pys (ys.map e)) = decide (xs = ys)
  | [], [] => by simp [pys, PyData.eqvAll]
  | [], y :: ys => by simp [pys, PyData.eqvAll]
  | x :: xs, [] => by simp [pys, PyData.eqvAll]
  | x :: xs, y :: ys => by
    rw [List.map_cons, List.map_cons]
    unfold pys PyData.eqvAll
    rw [h.eqv x y, Enc.eqvs h xs ys]
    by_cases h1 : x = y
    · by_cases h2 : xs = ys
      · simp [h1, h2]
      · simp [h1, h2]
    · simp [h1]
theorem Enc.tup {α : Type} [DecidableEq α] {e : α → D} {n : Nat} (h : Enc e n) : Enc (fun xs : List α => D.tup (xs.map e)) (n + 1) :=
  ⟨fun a => by unfold Vw.pl; exact h.pls a, fun a => by unfold py PyData.canLay0; exact h.lays a, fun a => by unfold py PyData.depth; exact Nat.succ_le_succ (h.deps a), fun a b => by unfold py PyData.eqv; exact h.eqvs a b⟩
theorem Enc.lst {α : Type} [DecidableEq α] {e : α → D} {n : Nat} (h : Enc e n) : Enc (fun xs : List α => D.lst (xs.map e)) (n + 1) :=
  ⟨fun a => by unfold Vw.pl; exact h.pls a, fun a => by unfold py PyData.canLay0; exact h.lays a, fun a => by unfold py PyData.depth; exact Nat.succ_le_succ (h.deps a), fun a b => by unfold py PyData.eqv; exact h.eqvs a b⟩
theorem Enc.pair {α β : Type} [DecidableEq α] [DecidableEq β] {e : α → D} {f : β → D} {n : Nat} (h : Enc e n) (h2 : Enc f n) : Enc (fun p : α × β => D.tup [e p.1, f p.2]) (n + 1) :=
  ⟨fun a => by simp [Vw.pl, Vw.pls, h.pl, h2.pl], fun a => by simp [py, pys, PyData.canLay0, PyData.canLayAll0, h.lay, h2.lay], fun a => by
    simp only [py, pys, PyData.depth, PyData.depthAll]
    have := h.dep a.1
    have := h2.dep a.2
    omega, fun a b => by
    obtain ⟨a1, a2⟩ := a
    obtain ⟨b1, b2⟩ := b
    simp only [py, pys, PyData.eqv, PyData.eqvAll, h.eqv, h2.eqv, Bool.and_true]
    by_cases h1 : a1 = b1
    · by_cases h2 : a2 = b2
      · simp [h1, h2]
      · simp [h1, h2]
    · simp [h1]⟩
theorem encC : Enc (fun xs : List Int => D.tup (xs.map D.int)) 1 := encI.tup
theorem enc_eC : Enc eC 1 := encC
theorem Enc.shaped {α : Type} [DecidableEq α] {e : α → D} {n : Nat} (h : Enc e n) (hn : n ≤ 60) (a : α) : SeqAt.shaped (py (e a)) = true := by
  unfold SeqAt.shaped
  rw [h.lay a]
  exact decide_eq_true (Nat.le_trans (h.dep a) (by omega))
theorem Enc.shapedL {α : Type} [DecidableEq α] {e : α → D} {n : Nat} (h : Enc e n) (hn : n ≤ 59) (xs : List α) : SeqAt.shaped (.list (pys (xs.map e))) = true := by
  have z := h.lst.shaped (Nat.succ_le_succ hn) xs
  unfold py at z
  exact z
section
variable {G : Cfg} {te ta tb : TE} {ρ : Rho} {α : Type} [DecidableEq α] {e : α → D} {n : Nat}
theorem evd_eqE {a b : α} (h : Enc e n) (ha : EvD G ta ρ (e a)) (hb : EvD G tb ρ (e b)) (hn : n ≤ 60 := by decide) : EvD G (tOp (rEqD G.K) ta tb) ρ (.bl (decide (a = b))) := evd_op ha hb fun F H v w s rv rw_ Q q =>
  ⟨_, _, rv.dp s (h.pl a), rw_.dp s (h.pl b), h.shaped hn a, h.shaped hn b, q _ F H (.refl s) (by rw [h.eqv]; exact .bl _)⟩
theorem evd_neE {a b : α} (h : Enc e n) (ha : EvD G ta ρ (e a)) (hb : EvD G tb ρ (e b)) (hn : n ≤ 60 := by decide) : EvD G (tOp (rNeD G.K) ta tb) ρ (.bl (!decide (a = b))) := evd_op ha hb fun F H v w s rv rw_ Q q =>
  ⟨_, _, rv.dp s (h.pl a), rw_.dp s (h.pl b), h.shaped hn a, h.shaped hn b, q _ F H (.refl s) (by rw [h.eqv]; exact .bl _)⟩
theorem evd_eqL {a b : List α} (h : Enc e n) (ha : EvS G ta ρ (a.map e)) (hb : EvS G tb ρ (b.map e)) (hn : n ≤ 59 := by decide) : EvD G (tOp (rEqD G.K) ta tb) ρ (.bl (decide (a = b))) := evd_opLL ha hb fun F H x vs y ws s h1 r1 h2 r2 Q q =>
  ⟨_, _, .lst (SqL.of h1) (r1.dp s (h.pls a)), .lst (SqL.of h2) (r2.dp s (h.pls b)), h.shapedL hn a, h.shapedL hn b, q _ F H (.refl s) (by unfold PyData.eqv; rw [h.eqvs]; exact .bl _)⟩
theorem evd_neL {a b : List α} (h : Enc e n) (ha : EvS G ta ρ (a.map e)) (hb : EvS G tb ρ (b.map e)) (hn : n ≤ 59 := by decide) : EvD G (tOp (rNeD G.K) ta tb) ρ (.bl (!decide (a = b))) := evd_opLL ha hb fun F H x vs y ws s h1 r1 h2 r2 Q q =>
  ⟨_, _, .lst (SqL.of h1) (r1.dp s (h.pls a)), .lst (SqL.of h2) (r2.dp s (h.pls b)), h.shapedL hn a, h.shapedL hn b, q _ F H (.refl s) (by unfold PyData.eqv; rw [h.eqvs]; exact .bl _)⟩
/-- crowds -/
theorem evd_eqC {a b : List Int} (ha : EvD G ta ρ (.tup (a.map .int))) (hb : EvD G tb ρ (.tup (b.map .int))) : EvD G (tOp (rEqD G.K) ta tb) ρ (.bl (decide (a = b))) := evd_eqE (e := fun xs : List Int => D.tup (xs.map D.int)) encC ha hb
theorem evd_neC {a b : List Int} (ha : EvD G ta ρ (.tup (a.map .int))) (hb : EvD G tb ρ (.tup (b.map .int))) : EvD G (tOp (rNeD G.K) ta tb) ρ (.bl (!decide (a = b))) := evd_neE (e := fun xs : List Int => D.tup (xs.map D.int)) encC ha hb
end
end Vw

namespace Vw
open PySem L2 PySem.Spec PyProof.Rows

/-! ### sorted of rows (n, (k1, k2, ..)) -/
theorem lexLt_irr : ∀ xs : List Int, HT.lexLt xs xs = false
  | [] => rfl
  | x :: xs => by rw [HT.lexLt_cons, if_pos rfl]; exact lexLt_irr xs
theorem lexLt_asym : ∀ xs ys : List Int, HT.lexLt xs ys = true → HT.lexLt ys xs = false
  | [], [], h => by cases h
  | [], _ :: _, _ => rfl
  | _ :: _, [], h => by cases h
  | x :: xs, y :: ys, h => by
    rw [HT.lexLt_cons] at h ⊢
    by_cases e : x = y
    · subst e
      rw [if_pos rfl] at h ⊢
      exact lexLt_asym xs ys h
    · rw [if_neg e] at h
      rw [if_neg (fun q => e q.symm)]
      have := of_decide_eq_true h
      exact decide_eq_false (by omega)
theorem lexLt_tr : ∀ xs ys zs : List Int, HT.lexLt ys xs = false → HT.lexLt zs ys = false → HT.lexLt zs xs = false
  | [], [], zs, _, h => h
  | [], _ :: _, [], _, h => by cases h
  | [], _ :: _, _ :: _, _, _ => rfl
  | _ :: _, [], _, h, _ => by cases h
  | _ :: _, _ :: _, [], _, h => by cases h
  | x :: xs, y :: ys, z :: zs, h1, h2 => by
    rw [HT.lexLt_cons] at h1 h2 ⊢
    by_cases e1 : y = x
    · subst e1
      rw [if_pos rfl] at h1
      by_cases e2 : z = y
      · subst e2
        rw [if_pos rfl] at h2 ⊢
        exact lexLt_tr xs ys zs h1 h2
      · rw [if_neg e2] at h2 ⊢
        exact h2
    · rw [if_neg e1] at h1
      have a1 := of_decide_eq_false h1
      by_cases e2 : z = y
      · subst e2
        rw [if_neg e1]
        exact decide_eq_false a1
      · rw [if_neg e2] at h2
        have a2 := of_decide_eq_false h2
        have e3 : z ≠ x := fun q => by omega
        rw [if_neg e3]
        exact decide_eq_false (by omega)
theorem lexLt_tot : ∀ xs ys : List Int, HT.lexLt xs ys = false → HT.lexLt ys xs = false → xs = ys
  | [], [], _, _ => rfl
  | [], _ :: _, h, _ => by cases h
  | _ :: _, [], _, h => by cases h
  | x :: xs, y :: ys, h1, h2 => by
    rw [HT.lexLt_cons] at h1 h2
    by_cases e : x = y
    · subst e
      rw [if_pos rfl] at h1 h2
      rw [lexLt_tot xs ys h1 h2]
    · rw [if_neg e] at h1
      rw [if_neg (fun q => e q.symm)] at h2
      have a1 := of_decide_eq_false h1
      have a2 := of_decide_eq_false h2
      omega
def lexR (p q : Int × List Int) : Bool := if p.1 = q.1 then HT.lexLt p.2 q.2 else decide (p.1 < q.1)
theorem lexR_asym (p q : Int × List Int) (h : lexR p q = true) : lexR q p = false := by
  unfold lexR at h ⊢
  by_cases e : p.1 = q.1
  · rw [if_pos e] at h
    rw [if_pos e.symm]
    exact lexLt_asym _ _ h
  · rw [if_neg e] at h
    rw [if_neg (fun z => e z.symm)]
    have := of_decide_eq_true h
    exact decide_eq_false (by omega)
theorem lexR_tr (x y z : Int × List Int) (h1 : lexR y x = false) (h2 : lexR z y = false) : lexR z x = false := by
  unfold lexR at h1 h2 ⊢
  by_cases e1 : y.1 = x.1
  · rw [if_pos e1] at h1
    by_cases e2 : z.1 = y.1
    · rw [if_pos e2] at h2
      rw [if_pos (e2.trans e1)]
      exact lexLt_tr _ _ _ h1 h2
    · rw [if_neg e2] at h2
      rw [if_neg (fun q => e2 (q.trans e1.symm))]
      have := of_decide_eq_false h2
      exact decide_eq_false (by omega)
  · rw [if_neg e1] at h1
    have a1 := of_decide_eq_false h1
    by_cases e2 : z.1 = y.1
    · rw [if_neg (fun q => e1 (e2.symm.trans q))]
      exact decide_eq_false (by omega)
    · rw [if_neg e2] at h2
      have a2 := of_decide_eq_false h2
      rw [if_neg (fun q => by omega)]
      exact decide_eq_false (by omega)
theorem lexR_tot (p q : Int × List Int) (h1 : lexR p q = false) (h2 : lexR q p = false) : p = q := by
  unfold lexR at h1 h2
  by_cases e : p.1 = q.1
  · rw [if_pos e] at h1
    rw [if_pos e.symm] at h2
    exact Prod.ext e (lexLt_tot _ _ h1 h2)
  · rw [if_neg e] at h1
    rw [if_neg (fun z => e z.symm)] at h2
    have a1 := of_decide_eq_false h1
    have a2 := of_decide_eq_false h2
    omega
theorem swo_R {α : Type} (k : α → Int × List Int) : SrtO.Swo fun v u => lexR (k v) (k u) := ⟨fun x y h => lexR_asym _ _ h, fun x y z h1 h2 => lexR_tr _ _ _ h1 h2⟩

def IsRow (h : Heap) (v : Value) (x : Int) (ns : List Int) : Prop := ∃ a o t b its n, v = .ref a ∧ h.get? a = some o ∧ o.cls = .type "tuple" ∧ o.data = .seq #[.int x t, .ref b] n ∧ IsTup h b its ∧ IntsAre its.toList ns
theorem IsRow.keeps {h h' : Heap} {v : Value} {x : Int} {ns : List Int} (p : IsRow h v x ns) (k : ∀ b o, h.get? b = some o → o.cls = .type "tuple" → h'.get? b = some o) : IsRow h' v x ns := by
  obtain ⟨a, o, t, b, its, n, e, ho, hc, hd, ⟨o2, ho2, hc2, hd2⟩, hi⟩ := p
  exact ⟨a, o, t, b, its, n, e, k _ _ ho hc, hc, hd, ⟨o2, k _ _ ho2 hc2, hc2, hd2⟩, hi⟩
theorem rowsfirsts {h : Heap} : ∀ {vs : List Value}, (∀ v ∈ vs, ∃ x y, IsRow h v x y) → ∃ fs : List Value, PySem.W.KatTups h vs fs ∧ fs.length = vs.length ∧ ∀ f ∈ fs, ∃ x t, f = Value.int x t
  | [], _ => ⟨[], PySem.W.KatTups.nil, rfl, fun _ hm => by simp at hm⟩
  | v :: vs, hp => by
    obtain ⟨fs, h1, h2, h3⟩ := rowsfirsts (vs := vs) fun v' hm => hp v' (List.mem_cons_of_mem _ hm)
    obtain ⟨x, y, a, o, t, b, its, n, e, ho, hc, hd, _⟩ := hp v (List.mem_cons_self ..)
    subst e
    refine ⟨.int x t :: fs, PySem.W.KatTups.cons ho hc hd rfl h1, by rw [List.length_cons, List.length_cons, h2], fun f hm => ?_⟩
    rcases List.mem_cons.mp hm with rfl | hm
    · exact ⟨x, t, rfl⟩
    · exact h3 f hm
theorem readsInts {h : Heap} : ∀ {us : List Value} {ns : List Int}, IntsAre us ns → ∃ as, ReadsAll h us (pys (ns.map D.int)) as
  | _, _, .nil => ⟨_, .nil⟩
  | _, _, .cons n t r => by
    obtain ⟨as, z⟩ := readsInts (h := h) r
    exact ⟨_, .cons (.int n t) z⟩
section
variable {prog : Program} {w : World} {A : Around} {E : Value → Shared → Prop} {s : Shared}
theorem eqAt_rows {a b : Addr} {xs ys : Array Value} {ns ms : List Int} (hx : IsTup s.heap a xs) (hy : IsTup s.heap b ys) (ix : IntsAre xs.toList ns) (iy : IntsAre ys.toList ms) (hu : A.units + 64 < cLine) : SeqAt.EqAt A s (.ref a) (.ref b) (decide (ns = ms)) := by
  obtain ⟨o1, h1, c1, n1, d1⟩ := hx
  obtain ⟨o2, h2, c2, n2, d2⟩ := hy
  obtain ⟨as, r1⟩ := readsInts (h := s.heap) ix
  obtain ⟨bs, r2⟩ := readsInts (h := s.heap) iy
  have R1' := Reads.tuple h1 c1 d1 r1
  have R2' := Reads.tuple h2 c2 d2 r2
  have p1 : py (.tup (ns.map D.int)) = .tuple (pys (ns.map D.int)) := by unfold py; rfl
  have p2 : py (.tup (ms.map D.int)) = .tuple (pys (ms.map D.int)) := by unfold py; rfl
  rw [← p1] at R1'
  rw [← p2] at R2'
  have R1 := R1'
  have R2 := R2'
  have z := SeqAt.eqAt_reads _ _ A s _ _ _ _ R1 R2 (encC.lay ns) (encC.lay ms) (by have := encC.dep ns; omega)
  rw [encC.eqv] at z
  exact z
theorem row_cmp {vs : List Value} {k : Value → Int × List Int} (hu : A.units + 64 < cLine) (hp : ∀ v ∈ vs, IsRow s.heap v (k v).1 (k v).2) : SrtO.Cmp prog w A s (tuples' true) (fun p => p.1 ∈ vs) (SrtO.lt2 fun v u => lexR (k v) (k u)) := by
  intro p q hm hm'
  have h1 := hp _ hm
  have h2 := hp _ hm'
  show wpAny (model prog w) A (keyLt' (tuples' true) p.1 q.1) (fun r s' => s' = s ∧ r = lexR (k p.1) (k q.1)) (fun _ _ => False) s
  unfold lexR
  generalize (k p.1).1 = x at h1 ⊢
  generalize (k p.1).2 = ns at h1 ⊢
  generalize (k q.1).1 = x' at h2 ⊢
  generalize (k q.1).2 = ms at h2 ⊢
  obtain ⟨a, o, t, b, its, n, e, ho, hc, hd, tb, ib⟩ := h1
  obtain ⟨a', o', t', b', its', n', e', ho', hc', hd', tb', ib'⟩ := h2
  rw [e, e']
  refine PySem.W.kat_lt ho hd ho' hd' ?_
  show PySem.W.KatLex prog w A true (decide (2 < 2)) _ [(.int x t, .int x' t'), (.ref b, .ref b')] 0 s
  refine PySem.W.kat_cons (SeqAt.EqAt.int_int x t x' t' prog w _ _ ?_)
  refine PySem.W.kat_go (fun e1 => ?_) (fun e1 => ?_)
  · have ex : x = x' := by simpa using e1
    refine PySem.W.kat_yes (PySem.W.kat_cons (eqAt_rows tb tb' ib ib' hu prog w _ _ ?_))
    refine PySem.W.kat_go (fun e2 => ?_) (fun e2 => ?_)
    · have ey : ns = ms := of_decide_eq_true e2
      have e3 : (if x = x' then HT.lexLt ns ms else decide (x < x')) = false := by
        rw [if_pos ex, ey]
        exact lexLt_irr ms
      exact PySem.W.kat_yes (PySem.W.kat_nil ⟨rfl, e3.symm⟩)
    · have e3 : (if x = x' then HT.lexLt ns ms else decide (x < x')) = HT.lexLt ns ms := if_pos ex
      refine PySem.W.kat_no (PySem.W.kat_one _ _ (HT.lt_tupInts tb tb' ib ib' (by omega) ?_))
      exact (show s = s ∧ HT.lexLt ns ms = (if x = x' then HT.lexLt ns ms else decide (x < x')) from ⟨rfl, e3.symm⟩)
  · have ex : ¬ x = x' := by simpa using e1
    have e3 : (if x = x' then HT.lexLt ns ms else decide (x < x')) = decide (x < x') := if_neg ex
    exact PySem.W.kat_no (oneLt_int ⟨rfl, e3.symm⟩)
theorem rows_sortable {a : Addr} {vs : List Value} {k : Value → Int × List Int} (hu : A.units + 64 < cLine) (h0 : 0 < vs.length) (hp : ∀ v ∈ vs, IsRow s.heap v (k v).1 (k v).2) (ha : ∀ o, s.heap.get? a = some o → o.cls ≠ .type "tuple") : SrtO.SortableO prog w A s a vs fun v u => lexR (k v) (k u) := by
  intro h' keep
  have hp' : ∀ v ∈ vs, IsRow h' v (k v).1 (k v).2 := fun v hm => (hp v hm).keeps fun b o e c => keep b o (fun z => by subst z; exact ha o e c) e
  obtain ⟨fs, h1, h2, h3⟩ := rowsfirsts fun v hm => ⟨_, _, hp' v hm⟩
  refine ⟨tuples' true, fun Q E hq => ?_, row_cmp hu hp'⟩
  refine PySem.W.kat_kind (T := .type "int") h1 (by omega) (fun f hm => ?_) (by rfl) ?_
  · obtain ⟨x, t, rfl⟩ := h3 f hm
    exact PySem.W.Looks.now
  · have e : (Value.type "int" != Value.type "tuple") = true := by first | decide +kernel | rfl | decide
    rw [e]
    exact hq
theorem sorted_rows {l : Addr} {vs : List Value} {k : Value → Int × List Int} {Q : Value → Shared → Prop} (hu : A.units + 100 < cLine) (hl : s.heap.IsList l vs.toArray) (hz : vs.length ≤ sizeLine) (hp : ∀ v ∈ vs, IsRow s.heap v (k v).1 (k v).2)
    (h : ∀ (h' : Heap) (d : Addr) (out : List Value), SrtO.Srtd (fun v u => lexR (k v) (k u)) out → SrtO.Stb (fun v u => lexR (k v) (k u)) out vs → (∀ b o, s.heap.get? b = some o → h'.get? b = some o) → s.heap.objs.size ≤ d → (∃ n, h'.get? d = some (seqObj "list" out.toArray n)) → Q (.ref d) { s with heap := h' }) :
    wpAny (model prog w) A (call (.builtin "sorted") [.ref l]) Q E s := by
  refine SrtO.sorted_ord (swo_R k) hl hz (fun h2 h₁ a ha kk => ?_) fun out hs hb => ?_
  · refine rows_sortable (s := { s with heap := h₁ }) (by show A.units + 1 + 1 + 64 < cLine; omega) (by omega) (fun v hm => (hp v hm).keeps fun b o e _ => (kk b o e).2) fun o e => ?_
    have e' : some o = some (seqObj "list" vs.toArray 0) := e.symm.trans ha
    cases e'
    intro c
    exact absurd (Value.type.inj c) (by decide)
  · exact h _ _ out hs hb (fun b o e => sortedAll_old e) (Nat.le_succ _) (sortedAll_at s.heap vs out.toArray)
end
abbrev ltW (k : V → Int × List Int) (x y : V) : Bool := lexR (k x) (k y)
def rSortedW (K : PySem.W.Frag) : List V → Hp → VK → Prop := fun vs H Q => ∃ (a : Addr) (xs : List V) (k : V → Int × List Int), vs = [V.ref a] ∧ SqL K H a xs ∧ (∀ x ∈ xs, ∃ t u, x = V.ref t ∧ H t = some (.tup [.int (k x).1, .ref u]) ∧ H u = some (.tup ((k x).2.map V.int))) ∧
  ∀ ys p, SrtO.Srtd (ltW k) ys → ys.Perm xs → H p = none → Q (.ref p) (upd H p (.lst ys))
theorem cr_sortedW {X : Cx} (hu : X.A.units + 100 < cLine) : CallR X (.builtin "sorted") (rSortedW X.K) := by
  intro pins s σ H vs us Q I r h
  obtain ⟨a, xs, k, rfl, hs, hx, q⟩ := h
  obtain ⟨its, rv, hl, hz⟩ := I.list hs
  obtain ⟨u, rfl, ru⟩ := vals1 r
  obtain rfl : u = Value.ref a := ru
  obtain ⟨e1, e2⟩ := refs_back rv fun x m => by
    obtain ⟨t, _, e, _⟩ := hx x m
    exact ⟨t, e⟩
  refine sorted_rows (k := fun u => k (backV u)) hu hl.isList (by rw [← rv.length]; exact hz) (fun v hv => ?_) fun h' d out h1 h2 kp hd hn => ?_
  · obtain ⟨t, rfl⟩ := e2 v hv
    have hm : V.ref t ∈ xs := by rw [e1]; exact List.mem_map.mpr ⟨_, hv, rfl⟩
    obtain ⟨t', u', e, ht, hu'⟩ := hx _ hm
    cases e
    obtain ⟨_, its2, r2, o, ho, hc, n, hd⟩ := I.hok _ _ ht
    obtain ⟨_, its3, r3, tup3⟩ := I.hok _ _ hu'
    obtain ⟨u1, u2, rfl, ri, rj⟩ := vals2 r2
    obtain ⟨t1, rfl⟩ := ri
    cases (show u2 = Value.ref u' from rj)
    exact ⟨t, o, t1, u', its3.toArray, n, rfl, ho, hc, hd, tup3, ints_of_vals r3⟩
  · have h3 : ∀ u ∈ out, ∃ a, u = Value.ref a := fun u hu => e2 u (h2.perm.mem_iff.mp hu)
    obtain ⟨n, hn⟩ := hn
    have hb : (out.map backV).Perm xs := by
      rw [e1]
      exact h2.perm.map backV
    refine ⟨.ref d, upd H d (.lst (out.map backV)), I.laid (t' := s.toks) kp hd ⟨?_, out, n, vals_back h3, hn⟩, rfl, q _ d (SrtO.srtd_map h1) hb (I.hok.fresh hd)⟩
    rw [hb.length_eq]
    exact hz
/-- over data: rows without a double, sorted -/
theorem reps_perm {G : Cfg} {F : Hp} {α : Type} (e : α → D) : ∀ {vs ws : List V} {xs : List α}, Reps G F vs (xs.map e) → ws.Perm vs → ∃ ys : List α, ys.Perm xs ∧ Reps G F ws (ys.map e) := by
  intro vs ws xs r p
  induction p generalizing xs with
  | nil => exact ⟨xs, .refl _, r⟩
  | cons x p ih =>
    cases xs with
    | nil => cases r
    | cons y ys =>
      cases r with
      | cons r1 r2 =>
        obtain ⟨zs, p2, r3⟩ := ih r2
        exact ⟨y :: zs, .cons y p2, .cons r1 r3⟩
  | swap x y l =>
    cases xs with
    | nil => cases r
    | cons a ys =>
      cases r with
      | cons r1 r2 =>
        cases ys with
        | nil => cases r2
        | cons b zs =>
          cases r2 with
          | cons r2 r3 => exact ⟨b :: a :: zs, .swap a b zs, .cons r2 (.cons r1 r3)⟩
  | trans p1 p2 ih1 ih2 =>
    obtain ⟨ys, q1, r1⟩ := ih2 r
    obtain ⟨zs, q2, r2⟩ := ih1 r1
    exact ⟨zs, q2.trans q1, r2⟩
def eRow (p : Int × List Int) : D := .tup [.int p.1, .tup (p.2.map .int)]
theorem ints_inj : ∀ {a b : List Int}, a.map V.int = b.map V.int → a = b
  | [], [], _ => rfl
  | [], _ :: _, h => by cases h
  | _ :: _, [], h => by cases h
  | x :: xs, y :: ys, h => by
    simp only [List.map_cons, List.cons.injEq, V.int.injEq] at h
    rw [h.1, ints_inj h.2]
open Classical in
theorem evn_sortedW {G : Cfg} {te : TE} {ρ : Rho} {xs ys : List (Int × List Int)} (h : EvS G te ρ (xs.map eRow)) (hp : ys.Perm xs) (hs : ys.Pairwise fun a b => lexR b a = false) : EvN G (tCB (rSortedW G.K) (tCons te tNil)) ρ (ys.map eRow) :=
  evn_cb (ea1L h) (rcn_one fun F H v s r Q q => by
    obtain ⟨a, vs, rfl, h1, rr⟩ := r.lst s
    -- the key of a value: what it represents
    have key : ∀ x : V, ∃ p : Int × List Int, ∀ p', Rep G F x (eRow p') → p' = p := fun x => by
      by_cases hx : ∃ p, Rep G F x (eRow p)
      · obtain ⟨p, hp⟩ := hx
        refine ⟨p, fun p' hp' => ?_⟩
        cases hp with
        | tup a1 b1 =>
          cases hp' with
          | tup a2 b2 =>
            rw [a1] at a2
            cases a2
            cases b1 with
            | cons c1 d1 =>
              cases b2 with
              | cons c2 d2 =>
                cases d1 with
                | cons c3 d3 =>
                  cases d2 with
                  | cons c4 d4 =>
                    cases c1
                    obtain ⟨p1, p2⟩ := p
                    obtain ⟨q1, q2⟩ := p'
                    cases c2
                    cases c3 with
                    | tup f1 g1 =>
                      cases c4 with
                      | tup f2 g2 =>
                        rw [f1] at f2
                        cases f2
                        have e1 := g1.ints
                        have e2 := g2.ints
                        rw [e1] at e2
                        simp only at e2
                        rw [ints_inj e2]
      · exact ⟨(0, []), fun p' hp' => absurd ⟨p', hp'⟩ hx⟩
    let k : V → Int × List Int := fun x => (key x).choose
    have hk : ∀ x p, Rep G F x (eRow p) → k x = p := fun x p hp => ((key x).choose_spec p hp).symm
    refine ⟨a, vs, k, rfl, SqL.of h1, fun x hx => ?_, fun ws p hw hpw hp' => ?_⟩
    · obtain ⟨i, hi⟩ := List.getElem?_of_mem hx
      obtain ⟨y, _, ry⟩ := rr.item hi
      have e := hk x y ry
      rw [e]
      cases ry with
      | tup a1 b1 =>
        cases b1 with
        | cons c1 d1 =>
          cases d1 with
          | cons c3 d3 =>
            cases d3
            cases c1
            cases c3 with
            | tup f1 g1 =>
              have e1 := g1.ints
              subst e1
              exact ⟨_, _, rfl, s _ _ a1, s _ _ f1⟩
    · obtain ⟨zs, pz, rz⟩ := reps_perm eRow rr hpw
      have hz : zs.Pairwise fun a b => lexR b a = false := by
        have go : ∀ {us : List V} {zs : List (Int × List Int)}, Reps G F us (zs.map eRow) → SrtO.Srtd (ltW k) us → zs.Pairwise fun a b => lexR b a = false := by
          intro us zs
          induction zs generalizing us with
          | nil => intro _ _; exact .nil
          | cons z zs ih =>
            intro r1 r2
            cases r1 with
            | cons r1 r3 =>
              have q2 := List.pairwise_cons.mp r2
              refine .cons (fun y hy => ?_) (ih r3 q2.2)
              obtain ⟨i, hi⟩ := List.getElem?_of_mem hy
              obtain ⟨u, hu1, hu2⟩ := r3.getD (i := i) (d := eRow y) (by rw [List.getElem?_map, hi]; rfl)
              have q3 := q2.1 u (List.mem_of_getElem? hu1)
              unfold ltW at q3
              rw [hk _ _ r1, hk _ _ hu2] at q3
              exact q3
        exact go rz hw
      have ez : zs = ys := (pz.trans hp.symm).eq_of_pairwise (fun a b _ _ h1 h2 => lexR_tot _ _ h2 h1) hz hs
      subst ez
      exact q p _ F _ ((Grow.refl s).fresh hp') hp' (s.free hp') upd_same rz)
end Vw

namespace Vw
open PySem L2 PySem.Spec PyProof.Rows

theorem call_sorted_tup {prog : Program} {w : World} {A : Around} {E : Value → Shared → Prop} {s : Shared} {t : Addr} {vs : List Value} {ns : List Int} {Q : Value → Shared → Prop} (ht : IsTup s.heap t vs.toArray) (hi : IntsAre vs ns) (hz : vs.length ≤ sizeLine)
    (h : ∀ (h1 h' : Heap) (d : Addr) (out : List Value) (ms : List Int), IntsAre out ms → ms.Perm ns → ms.Pairwise (· ≤ ·) → (∀ b o, s.heap.get? b = some o → h1.get? b = some o) → (∀ b o, h1.get? b = some o → h'.get? b = some o) → h1.objs.size ≤ d → (∃ n, h'.get? d = some (seqObj "list" out.toArray n)) → Q (.ref d) { s with heap := h' }) :
    wpAny (model prog w) A (call (.builtin "sorted") [.ref t]) Q E s := by
  obtain ⟨o, ho, hc, n, hd⟩ := ht
  refine Calls.call_function_entry kind_sorted plain_sorted entry_sorted (args_sorted1 _) ?_
  unfold Builtin.«sorted»
  refine wpAny_bind (m := checkCount "sorted" 1 1 _) (wpAny_pure ?_)
  refine wpAny_bind (wpAny_collect_seq t (.inr rfl) ho hc hd (fun h1 k1 => ?_) (by simpa using hz))
  have ev : vs.toArray.toList = vs := by simp
  rw [ev]
  refine wpAny_bind (wpAny_newList ?_ hz)
  show wpAny _ _ _ _ _ { s with heap := h1.push (seqObj "list" vs.toArray 0) }
  have hoL : (h1.push (seqObj "list" vs.toArray 0)).get? h1.objs.size = some (seqObj "list" vs.toArray 0) := Heap.get?_push_size _ rfl
  have old : ∀ (out : Array Value) (b : Addr) (x : Obj), h1.get? b = some x → (sortedHeap (h1.push (seqObj "list" vs.toArray 0)) h1.objs.size vs out).get? b = some x := fun out b x q => by
    have hb := Heap.lt_size q
    rw [sortedHeap_old (Nat.ne_of_lt hb) (by rw [Heap.size_push]; exact Nat.lt_succ_of_lt hb)]
    exact Heap.get?_push_of_some _ q
  refine wpAny_bind (wpAny_holding (wpAny_call_entry slot_list_sort ⟨_, hoL, rfl⟩ entry_list_sort (SrtO.list_sort_ord SrtO.swo_int hoL hz (fun h2 => SrtO.ints_sortable hi h2) fun out g1 g2 => ⟨_, rfl, ?_⟩) (args_list_sort _)))
  obtain ⟨q1, q2, q3⟩ := SrtO.ints_out hi g1 g2
  exact wpAny_pure ⟨_, rfl, h h1 _ h1.objs.size out _ q1 q2 q3 k1 (old out.toArray) (Nat.le_refl _) (sortedHeap_at hoL)⟩
def rSortedIT (K : PySem.W.Frag) : List V → Hp → VK → Prop := fun vs H Q => ∃ (a : Addr) (ns : List Int), vs = [V.ref a] ∧ SqT K H a (ns.map V.int) ∧ ∀ (ms : List Int) (p : Addr), ms.Perm ns → ms.Pairwise (· ≤ ·) → H p = none → Q (.ref p) (upd H p (.lst (ms.map V.int)))
theorem k_sortedIT {X : Cx} (K : PySem.W.Frag) (hK : X.K = K := by rfl) : CallR X (.builtin "sorted") (rSortedIT K) := by
  subst hK
  intro pins s σ H vs us Q I r h
  obtain ⟨a, ns, rfl, hs, q⟩ := h
  obtain ⟨its, rv, ht, hz⟩ := I.tuple hs
  rw [Vals.ref1 r]
  have hi : IntsAre its ns := rv.ints
  have hlen := rv.length
  rw [List.length_map] at hlen hz
  refine call_sorted_tup ht hi (by omega) fun h1 h' d out ms g1 g2 g3 keep1 keep hd hn => ?_
  obtain ⟨n, hn⟩ := hn
  exact ⟨.ref d, upd H d (.lst (ms.map V.int)), (I.kept (t' := s.toks) keep1).laid (t' := s.toks) keep hd ⟨by rw [List.length_map, g2.length_eq]; exact hz, out, n, vals_of_ints g1, hn⟩, rfl, q ms d g2 g3 ((I.kept (t' := s.toks) keep1).hok.fresh hd)⟩
theorem evn_sortedIT {G : Cfg} {te : TE} {ρ : Rho} {ns ms : List Int} (h : EvD G te ρ (.tup (ns.map .int))) (hp : ms.Pairwise (· ≤ ·)) (hm : ms.Perm ns) : EvN G (tCB (rSortedIT G.K) (tCons te tNil)) ρ (ms.map .int) :=
  evn_cb (ea1 h) (rcn_one fun F H v s r Q q => by
    obtain ⟨a, vs, rfl, h1, h2, rr⟩ := r.tup s
    have e := rr.ints
    subst e
    refine ⟨a, ns, rfl, SqT.of h2, fun ks p hk hk2 hp' => ?_⟩
    have ek : ks = ms := (hk.trans hm.symm).eq_of_pairwise (fun a b _ _ h1 h2 => by omega) hk2 hp
    subst ek
    exact q p _ F _ ((Grow.refl s).fresh hp') hp' (s.free hp') upd_same (.ofInts ks))
theorem ws_while {G : Cfg} {W : WX} {k : Ks} {ρ : Rho} {c : TT} {tb : TS} {S : Type} (env : S → Rho) (μ : S → Nat) (Inv : S → Prop) (s0 : S) (h0 : Weak ρ (env s0)) (hi : Inv s0)
    (hs : ∀ s, Inv s → ∃ b, EvT G c (env s) b ∧ (b = true → ∃ s', μ s' < μ s ∧ Inv s' ∧ WS G W tb { nx := fun ρ' => Weak ρ' (env s'), ct := fun ρ' => Weak ρ' (env s'), rt := fun _ => False } (env s)) ∧ (b = false → k.nx (env s))) : WS G W (tWhile c tb) k ρ := fun F0 H0 F H σ Dn R K => by
  refine ⟨fun m σ' H' => ∃ F' s, Same F F' ∧ REnv G F0 H0 F' H' σ' (env s) ∧ Inv s ∧ μ s = m, ⟨μ s0, F, s0, .refl _, R.weak h0, hi, rfl⟩, ?_⟩
  rintro m σ' H' ⟨F', s, sm, R', hi', rfl⟩
  obtain ⟨b, hb, h1, h2⟩ := hs s hi'
  refine hb F0 H0 F' H' σ' R' _ fun F1 H1 g => ?_
  cases b with
  | false => exact K.nx _ (h2 rfl) F1 H1 σ' (sm.trans g.ef) (R'.grow g)
  | true =>
    obtain ⟨s', hlt, hi2, hw⟩ := h1 rfl
    refine ⟨fun σ2 H2 => ∃ F2, Same F F2 ∧ REnv G F0 H0 F2 H2 σ2 (env s'), fun σ2 H2 ⟨F2, q1, q2⟩ => ⟨μ s', hlt, F2, s', q1, q2, hi2, rfl⟩, ?_⟩
    exact hw F0 H0 F1 H1 σ' _ (R'.grow g) ⟨fun ρ' w F2 H2 σ2 q1 q2 => ⟨F2, (sm.trans g.ef).trans q1, q2.weak w⟩, fun _ z => z.elim, fun ρ' w F2 H2 σ2 q1 q2 => ⟨F2, (sm.trans g.ef).trans q1, q2.weak w⟩, fun _ z => z.elim, fun _ z => z.elim⟩
end Vw

namespace Vw
open PySem L2 PySem.Spec PyProof.Rows

/-! ### loops as functions -/
theorem fold_all {α : Type} {p : α → Bool} {r : Res} : ∀ xs : List α, foldGo (fun (_ : Unit) x => if p x then Go.go () else .stop r) () xs = if xs.all p then .go () else .stop r
  | [] => rfl
  | x :: xs => by
    simp only [foldGo, List.all_cons]
    by_cases h : p x
    · simp only [h, if_true, Bool.true_and]
      exact fold_all xs
    · simp [h]
theorem fold_allG {α : Type} {p : α → Bool} {g : Go Unit} (hg : ∀ s, g ≠ .go s) : ∀ xs : List α, foldGo (fun (_ : Unit) x => if p x then Go.go () else g) () xs = if xs.all p then .go () else g
  | [] => rfl
  | x :: xs => by
    simp only [foldGo, List.all_cons]
    by_cases h : p x
    · simp only [h, if_true, Bool.true_and]
      exact fold_allG hg xs
    · cases g with
      | go s => exact absurd rfl (hg s)
      | brk _ => simp [h]
      | stop _ => simp [h]
      | err _ => simp [h]
theorem fold_any {α : Type} {p : α → Bool} {r : Res} : ∀ xs : List α, foldGo (fun (_ : Unit) x => if p x then Go.stop r else .go ()) () xs = if xs.any p then .stop r else .go ()
  | [] => rfl
  | x :: xs => by
    simp only [foldGo, List.any_cons]
    by_cases h : p x
    · simp [h]
    · simp only [h, Bool.false_or]
      exact fold_any xs
theorem fold_go {α S : Type} {f : S → α → S} : ∀ (xs : List α) (s : S), foldGo (fun s x => Go.go (f s x)) s xs = .go (xs.foldl f s)
  | [], _ => rfl
  | x :: xs, s => by
    simp only [foldGo, List.foldl_cons]
    exact fold_go xs (f s x)
theorem fold_go_take {α S : Type} {f : S → α → S} {xs : List α} {s s' : S} {i : Nat} (h : foldGo (fun s x => Go.go (f s x)) s (xs.take i) = .go s') : s' = (xs.take i).foldl f s := by
  rw [fold_go] at h
  exact (Go.go.inj h).symm

/-! ### what the top has written -/
structure Txt (G : Cfg) (mg : Str → Option Value) : Prop where
  cl : Cls G.K G.C
  nS : NoAttr G.K G.C "size"
  nT : NoAttr G.K G.C "told"
  g_Council : mg "Council" = some (.ref G.C)
  len : mg "len" = none
  range : mg "range" = none
  tuple : mg "tuple" = none
  sorted : mg "sorted" = none
  set : mg "set" = none
  sum : mg "sum" = none
  max : mg "max" = none
  min : mg "min" = none
  int : mg "int" = none
  str : mg "str" = none
  list : mg "list" = none
  isinstance : mg "isinstance" = none
  all : mg "all" = none
  bool : mg "bool" = none
  reversed : mg "reversed" = none
/-- an own exception's class -/
structure ExT (G : Cfg) (mg : Str → Option Value) (nm : Str) (C : Addr) : Prop where
  g : mg nm = some (.ref C)
  x : PySem.W.excIn G.K C [.type "ValueError", .type "Exception", .type "BaseException", .type "object"] "ValueError.__new__" = true
  k : PySem.W.keepIn G.K (.ref C) = true
  b : PySem.W.subIn G.K (.ref C) (.type "BaseException") = some true
  t : PySem.W.typeIn G.K (.ref C) = some (.type "type")
structure Fn (G : Cfg) (P : Program) (w : World) (mg : Str → Option Value) (base : Heap) (x : Str) (k : Nat) (ps : List Str) (R : List D → Res → Prop) : Prop where
  ex : ∃ (CX : CXT) (f : Addr) (fd : FuncData), (CX = CX0 ∨ CX = L2.CX P w) ∧ FnOk P w G.K mg base CX k f fd ps (mkSp G R) ∧ mg x = some (.ref f) ∧ PySem.W.keepIn G.K (.ref f) = true ∧ Binds G.K fd ps []
/-- a method -/
structure Mt (G : Cfg) (P : Program) (w : World) (mg : Str → Option Value) (base : Heap) (m : Str) (k : Nat) (ps : List Str) (R : List D → Res → Prop) : Prop where
  ex : ∃ (CX : CXT) (f : Addr) (fd : FuncData), (CX = CX0 ∨ CX = L2.CX P w) ∧ FnOk P w G.K mg base CX k f fd ps (mkSp G R) ∧ Meth G.K G.C m f ∧ Binds G.K fd ps []
section
variable {X : Cx} {G : Cfg} {x m : Str} {k : Nat} {ps : List Str} {R : List D → Res → Prop} {e o : Expr} {es : List Expr} {p pos apos : Pos} {ta : TA} {te : TE} {W : WX} {E : XK}
theorem pass_of {CX : CXT} (h : CX = CX0 ∨ CX = L2.CX X.prog X.w) : Passes CX X E0 := by
  rcases h with h | h
  · subst h
    exact pass0
  · subst h
    exact passL
theorem pass_x {CX : CXT} (h : CX = CX0 ∨ CX = L2.CX X.prog X.w) (tk : Takes X (wd E)) : Passes CX X E := by
  rcases h with h | h
  · subst h
    exact fun _ _ _ _ _ _ _ h => h.elim
  · subst h
    exact passes_call tk fun _ _ _ _ h => h
theorem pe_callF (H : Fn G X.prog X.w X.mg X.base x k ps R) (hr : Room k X.A) (hg : Gl X x) (ha : PA X (e :: es) ta) (hK : G.K = X.K := by rfl) (hdb : (x == ("__debug__" : Str)) = false := by decide)
    (he : starEach (e :: es) X.env = (false, eval e X.env) :: starEach es X.env := by rfl) (hpl : (backTo pos (starEach es X.env)).any (·.1) = false := by rfl) :
    PE X (.Call (.Name x p) (e :: es) [] pos) (tCall (mkSp G R) [] E0 ta) := by
  obtain ⟨CX, f, fd, hx, hf, hm, hk, hb⟩ := H.ex
  rw [hK] at hf hk hb
  exact pe_call hf hr hg hm hk hb .nil (pass_of hx) ha hdb he hpl
theorem pe_callX (H : Fn G X.prog X.w X.mg X.base x k ps R) (hr : Room k X.A) (hg : Gl X x) (tk : Takes X (wd E)) (ha : PA X (e :: es) ta) (hK : G.K = X.K := by rfl) (hdb : (x == ("__debug__" : Str)) = false := by decide)
    (he : starEach (e :: es) X.env = (false, eval e X.env) :: starEach es X.env := by rfl) (hpl : (backTo pos (starEach es X.env)).any (·.1) = false := by rfl) :
    PE X (.Call (.Name x p) (e :: es) [] pos) (tCall (mkSp G R) [] E ta) := by
  obtain ⟨CX, f, fd, hx, hf, hm, hk, hb⟩ := H.ex
  rw [hK] at hf hk hb
  exact pe_call hf hr hg hm hk hb .nil (pass_x hx tk) ha hdb he hpl
theorem pe_methF {pl : Sem Bool} (he : PE X o te) (c : Cls G.K G.C) (H : Mt G X.prog X.w X.mg X.base m k ps R) (hr : Room k X.A) (ha : PA X (e :: es) ta) (hK : G.K = X.K := by rfl)
    (hst : starEach (e :: es) X.env = (false, eval e X.env) :: starEach es X.env := by rfl) (hpl : (backTo pos (starEach es X.env)).any (·.1) = false := by rfl)
    (ht : eval (.Call (.Attribute o m apos) (e :: es) [] pos) X.env = (do
      let ov ← eval o X.env
      standAt apos.atName
      let (f, first) ← holding [ov] (getMethod ov m pl)
      callWith pos f first (backTo pos (starEach (e :: es) X.env)) (backToKw pos (keywordEach [] X.env))) := by rfl) :
    PE X (.Call (.Attribute o m apos) (e :: es) [] pos) (tMeth G.C m (mkSp G R) [] E0 te ta) := by
  obtain ⟨CX, f, fd, hx, hf, hm, hb⟩ := H.ex
  rw [hK] at hf hm hb c
  exact pe_meth (pl := pl) he c hm hf hr hb .nil (pass_of hx) ha hst hpl ht
theorem pe_methX {pl : Sem Bool} (he : PE X o te) (c : Cls G.K G.C) (H : Mt G X.prog X.w X.mg X.base m k ps R) (hr : Room k X.A) (tk : Takes X (wd E)) (ha : PA X (e :: es) ta) (hK : G.K = X.K := by rfl)
    (hst : starEach (e :: es) X.env = (false, eval e X.env) :: starEach es X.env := by rfl) (hpl : (backTo pos (starEach es X.env)).any (·.1) = false := by rfl)
    (ht : eval (.Call (.Attribute o m apos) (e :: es) [] pos) X.env = (do
      let ov ← eval o X.env
      standAt apos.atName
      let (f, first) ← holding [ov] (getMethod ov m pl)
      callWith pos f first (backTo pos (starEach (e :: es) X.env)) (backToKw pos (keywordEach [] X.env))) := by rfl) :
    PE X (.Call (.Attribute o m apos) (e :: es) [] pos) (tMeth G.C m (mkSp G R) [] E te ta) := by
  obtain ⟨CX, f, fd, hx, hf, hm, hb⟩ := H.ex
  rw [hK] at hf hm hb c
  exact pe_meth (pl := pl) he c hm hf hr hb .nil (pass_x hx tk) ha hst hpl ht
theorem pe_methF0 {pl : Sem Bool} (he : PE X o te) (c : Cls G.K G.C) (H : Mt G X.prog X.w X.mg X.base m k ps R) (hr : Room k X.A) (hK : G.K = X.K := by rfl)
    (ht : eval (.Call (.Attribute o m apos) [] [] pos) X.env = (do
      let ov ← eval o X.env
      standAt apos.atName
      let (f, first) ← holding [ov] (getMethod ov m pl)
      callWith pos f first (backTo pos (starEach [] X.env)) (backToKw pos (keywordEach [] X.env))) := by rfl) :
    PE X (.Call (.Attribute o m apos) [] [] pos) (tMeth G.C m (mkSp G R) [] E0 te tNil) := by
  obtain ⟨CX, f, fd, hx, hf, hm, hb⟩ := H.ex
  rw [hK] at hf hm hb c
  exact pe_meth0 (pl := pl) he c hm hf hr hb .nil (pass_of hx) ht

/-! ### Council(many, crowds) -/
/-- the refusal of a list of crowds, or what is told -/
def goodFrom (n : Int) : Int → List Int → Bool
  | _, [] => true
  | last, m :: c => if m ≤ last ∨ m ≥ n then false else goodFrom n m c
def crowdOk (n : Int) (c : List Int) : Bool := goodFrom n (-1) c
def couRes (n : Int) (cs : List (List Int)) : Res := if n < 1 ∨ n > 5 then .err .size else if cs.all (crowdOk n) then .val (.cou n cs) else .err .crowd
def spInit (G : Cfg) : Sp := fun vs H Q E => ∃ (F : Hp) (x dx : Addr) (n : Int) (a : Addr) (cvs : List V) (cs : List (List Int)), vs = [.ref x, .int n, .ref a] ∧ Same F H ∧ F x = none ∧ F dx = none ∧ H x = some (.ins G.C dx []) ∧
  H a = some (.lst cvs) ∧ Reps G F cvs (cs.map eC) ∧ cs.length ≤ 10000 ∧ (match couRes n cs with
  | .err e => ∀ H', Same H H' → E (.ref (G.ex e)) none H'
  | _ => ∀ (l : Addr) (F' H' : Hp), Same F F' → (∀ b, F b = none → H b ≠ none → F' b = none) → H l = none → F' l = none → (∀ b o, H b = some o → b ≠ x → H' b = some o) → (∀ b o, F' b = some o → H' b = some o) →
      H' x = some (.ins G.C dx [(("size" : Str), V.int n), (("told" : Str), V.ref l)]) → (∃ ws, H' l = some (.lst ws) ∧ Reps G F' ws (cs.map eC)) → Q .non H')
structure Ini (G : Cfg) (P : Program) (w : World) (mg : Str → Option Value) (base : Heap) (k : Nat) : Prop where
  ex : ∃ (CX : CXT) (f : Addr) (fd : FuncData), (CX = CX0 ∨ CX = L2.CX P w) ∧ FnOk P w G.K mg base CX k f fd ["self", "many", "crowds"] (spInit G) ∧ Mk G.K G.C f ∧ mg "Council" = some (.ref G.C) ∧ Binds G.K fd ["self", "many", "crowds"] []
theorem pe_makeF (H : Ini G X.prog X.w X.mg X.base k) (hr : Room (k + 1) X.A) (hg : Gl X "Council") (ha : PA X (e :: es) ta) (hK : G.K = X.K := by rfl)
    (he : starEach (e :: es) X.env = (false, eval e X.env) :: starEach es X.env := by rfl) (hpl : (backTo pos (starEach es X.env)).any (·.1) = false := by rfl) :
    PE X (.Call (.Name "Council" p) (e :: es) [] pos) (tMake G.C (spInit G) [] E0 ta) := by
  obtain ⟨CX, f, fd, hx, hf, hm, hc, hb⟩ := H.ex
  rw [hK] at hf hm hb
  exact pe_make hm hf hr hg hc hb .nil (pass_of hx) ha (by decide) he hpl
theorem pe_makeX (H : Ini G X.prog X.w X.mg X.base k) (hr : Room (k + 1) X.A) (hg : Gl X "Council") (tk : Takes X (wd E)) (ha : PA X (e :: es) ta) (hK : G.K = X.K := by rfl)
    (he : starEach (e :: es) X.env = (false, eval e X.env) :: starEach es X.env := by rfl) (hpl : (backTo pos (starEach es X.env)).any (·.1) = false := by rfl) :
    PE X (.Call (.Name "Council" p) (e :: es) [] pos) (tMake G.C (spInit G) [] E ta) := by
  obtain ⟨CX, f, fd, hx, hf, hm, hc, hb⟩ := H.ex
  rw [hK] at hf hm hb
  exact pe_make hm hf hr hg hc hb .nil (pass_x hx tk) ha (by decide) he hpl
end
section
variable {G : Cfg} {ρ : Rho} {n : Int} {cs : List (List Int)} {E : XK} {ta : TA}
theorem evx_make (h : EvA G ta ρ [.int n, .lst (cs.map eC)]) (hz : cs.length ≤ 10000) : EvX G E (tMake G.C (spInit G) [] E ta) ρ (couRes n cs) := fun F0 H0 F H σ R Q q =>
  h F0 H0 F H σ R _ fun vs F1 H1 g r => by
  intro x dx nx ndx nex
  cases r with
  | cons r1 r2 =>
  cases r2 with
  | cons r2 r3 =>
  cases r3
  cases r1.flat (fun _ z => nomatch z)
  obtain ⟨a, cvs, rfl, ha, rc⟩ := r2.lst g.sub
  have f1x : F1 x = none := g.sub.free nx
  have f1d : F1 dx = none := g.sub.free ndx
  have s1 : Same H1 (upd (upd H1 dx (.own x)) x (.ins G.C dx [])) := fun b o e => by
    rw [upd_ne (ne_of_none e nx), upd_ne (ne_of_none e ndx)]
    exact e
  refine ⟨F1, x, dx, n, a, cvs, cs, rfl, g.sub.trans s1, f1x, f1d, upd_same, s1 _ _ ha, rc, hz, ?_⟩
  cases e : couRes n cs with
  | err er =>
    show ∀ H', _ → _
    intro H' s
    rw [e] at q
    exact q F1 H' (g.trans ⟨.refl _, s1.trans s, (g.sub.trans s1).trans s, fun _ h _ => h⟩)
  | new ds =>
    unfold couRes at e
    split at e
    · cases e
    · split at e <;> cases e
  | trip s W b =>
    unfold couRes at e
    split at e
    · cases e
    · split at e <;> cases e
  | val d =>
    show ∀ (l : Addr) (F' H' : Hp), _
    intro l F' H' sF nF hl fl kp sub hx ⟨ws, hw, rw_⟩
    have ed : d = .cou n cs := by
      unfold couRes at e
      split at e
      · cases e
      · split at e
        · cases e
          rfl
        · cases e
    subst ed
    rw [e] at q
    refine ⟨rfl, ?_⟩
    have l1 : H1 l = none := s1.free hl
    have nlx : l ≠ x := by
      intro e
      subst e
      rw [upd_same] at hl
      cases hl
    have nxl : x ≠ l := fun z => nlx z.symm
    have fx : F' x = none := nF x f1x (by rw [upd_same]; exact fun z => nomatch z)
    -- the council and its list are data from now on
    have F2 : Same F' (upd (upd F' l (.lst ws)) x (.ins G.C dx [(("size" : Str), V.int n), (("told" : Str), V.ref l)])) := fun b o e => by
      rw [upd_ne (ne_of_none e fx), upd_ne (ne_of_none e fl)]
      exact e
    refine q (.ref x) (upd (upd F' l (.lst ws)) x (.ins G.C dx [(("size" : Str), V.int n), (("told" : Str), V.ref l)])) H' (g.trans ⟨sF.trans F2, fun b o e => ?_, fun b o e => ?_, fun b e e' => ?_⟩) ?_
    · exact kp b o (s1 b o e) (ne_of_none e nx)
    · by_cases q1 : b = x
      · subst q1
        rw [upd_same] at e
        cases e
        exact hx
      · rw [upd_ne q1] at e
        by_cases q2 : b = l
        · subst q2
          rw [upd_same] at e
          cases e
          exact hw
        · rw [upd_ne q2] at e
          exact sub b o e
    · have q1 : b ≠ x := by
        intro z
        subst z
        exact e' nx
      have q2 : b ≠ l := by
        intro z
        subst z
        exact e' l1
      rw [upd_ne q1, upd_ne q2]
      exact nF b e (some_ne s1 e')
    · exact .cou upd_same (by rw [upd_ne nlx, upd_same]) (rw_.mono F2)
end
end Vw
/-! ### the rules with the written part named (within a comprehension's block it can't be read off) -/
namespace Vw
open PySem L2 PySem.Spec PyProof.Rows
section
variable {X : Cx} (K : PySem.W.Frag)
theorem k_catA (h : X.K = K := by rfl) : OpR X (binaryOp .Add) (rCatA K) := h ▸ op_catA
theorem k_in (h : X.K = K := by rfl) : OpR X (compareOp .In) (rIn K false) := h ▸ op_in_seq
theorem k_notIn (h : X.K = K := by rfl) : OpR X (compareOp .NotIn) (rIn K true) := h ▸ op_notIn_seq
theorem k_eqD (hu : X.A.units + 64 < cLine) (h : X.K = K := by rfl) : OpR X (compareOp .Eq) (rEqD K) := h ▸ op_eqD hu
theorem k_neD (hu : X.A.units + 64 < cLine) (h : X.K = K := by rfl) : OpR X (compareOp .NotEq) (rNeD K) := h ▸ op_neD hu
theorem k_ixL (h : X.K = K := by rfl) : IxR X (rIxL K) := h ▸ ix_list
theorem k_ixT (h : X.K = K := by rfl) : IxR X (rIxT K) := h ▸ ix_tup
theorem k_slL (h : X.K = K := by rfl) : SlR X (rSlL K) := h ▸ sl_list
theorem k_slT (h : X.K = K := by rfl) : SlR X (rSlA K) := h ▸ sl_tupA
theorem k_len (h : X.K = K := by rfl) : CallR X (.builtin "len") (fun xs H Q => ∃ p ys, xs = [.ref p] ∧ (SqL K H p ys ∨ SqT K H p ys) ∧ Q (.int ys.length) H) := h ▸ call_len_seq
theorem k_list (h : X.K = K := by rfl) : CallR X (.type "list") (fun xs H Q => ∃ p ys, xs = [.ref p] ∧ (SqL K H p ys ∨ SqT K H p ys) ∧ ∀ l, H l = none → Q (.ref l) (upd H l (.lst ys))) := h ▸ call_list_of
theorem k_tuple (h : X.K = K := by rfl) : CallR X (.type "tuple") (fun xs H Q => ∃ p ys, xs = [.ref p] ∧ ((SqL K H p ys ∧ ∀ l, H l = none → Q (.ref l) (upd H l (.tup ys))) ∨ (SqT K H p ys ∧ Q (.ref p) H))) := h ▸ call_tuple_of
theorem k_sum (hc : X.calm = true) (h : X.K = K := by rfl) : CallR X (.builtin "sum") (rSum K) := h ▸ cr_sum hc
theorem k_min (hc : X.calm = true) (h : X.K = K := by rfl) : CallR X (.builtin "min") (rMin K) := h ▸ cr_min hc
theorem k_all (hc : X.calm = true) (h : X.K = K := by rfl) : CallR X (.builtin "all") (rAll K) := h ▸ cr_all hc
theorem k_sortedI (h : X.K = K := by rfl) : CallR X (.builtin "sorted") (rSortedI K) := h ▸ cr_sortedI
theorem k_sortedPO (h : X.K = K := by rfl) : CallR X (.builtin "sorted") (rSortedPO K) := h ▸ cr_sortedPO
theorem k_sortedW (hu : X.A.units + 100 < cLine) (h : X.K = K := by rfl) : CallR X (.builtin "sorted") (rSortedW K) := h ▸ cr_sortedW hu
theorem k_sortedSet (w : World) (hc : X.calm = true) (h : X.w = w := by rfl) : CallR X (.builtin "sorted") (rSortedSet w) := h ▸ cr_sortedSet hc
theorem hu100 {k : Nat} {A : Around} (hr : Room k A) : A.units + 100 < cLine := by have := hr.un; omega
theorem k_setT (w : World) (hc : X.calm = true) (h1 : X.w = w := by rfl) (h : X.K = K := by rfl) : CallR X (.type "set") (rSetT w K) := by
  have z := cr_setT (X := X) hc
  rw [h1, h] at z
  exact z
theorem k_isi (h : X.K = K := by rfl) : CallR X (.builtin "isinstance") (rIsi K) := h ▸ call_isi
theorem k_pl {tg l : Expr} {tl : TE} (hl : PE X l tl) (h : X.K = K := by rfl) : PI X tg l (iList K tl) := h ▸ pi_list hl
theorem k_pt {tg l : Expr} {tl : TE} (hl : PE X l tl) (h : X.K = K := by rfl) : PI X tg l (iTup K tl) := h ▸ pi_tup hl
theorem k_truth {a : Expr} {ta : TE} (ha : PE X a ta) (he : ∀ whole, isTrue a X.env whole = (do let v ← whole; standAt a.pos; holding [v] (truthy v))) (h : X.K = K := by rfl) :
    PT X a (fun σ H Q => ta σ H fun x H' => ∃ k, TruV K x H' k ∧ Q k H') := h ▸ pt_truth ha he
theorem k_fld {o : Expr} {ta : TE} {f : Str} {pos : Pos} (ha : PE X o ta) (hb : attributeBase o f X.env (eval o X.env) = eval o X.env) (h : X.K = K := by rfl) : PE X (.Attribute o f pos) (tFld K ta f) := h ▸ pe_fld ha hb
end
/-- the law's: at most 63 ints are handed in, True comes out -/
def spLaw (K : PySem.W.Frag) : Sp := fun vs H Q _ => ∃ (a : Addr) (ns : List Int), vs = [.ref a] ∧ SqL K H a (ns.map V.int) ∧ ns.length ≤ 63 ∧ ∀ H', Q (.bl true) H'
end Vw

namespace Vw
open PySem L2 PySem.Spec PyProof.Rows
/-! ### isinstance -/
def tyD : D → Option String
  | .int _ => some "int"
  | .bl _ => some "bool"
  | .str _ => some "str"
  | .lst _ => some "list"
  | .tup _ => some "tuple"
  | _ => none
section
variable {G : Cfg} {te : TE} {ρ : Rho} {x : D} {ds : List D} {a b : String} {r : Bool}
theorem tyX_of {F H : Hp} {v : V} (s : Same F H) (h : Rep G F v x) (hx : tyD x = some a) : TyX G.K H v (.type a) := by
  cases h with
  | non => cases hx
  | bl b => cases hx; exact .base (.bl b)
  | int i => cases hx; exact .base (.int i)
  | str i => cases hx; exact .base (.str i)
  | lst h1 _ => cases hx; exact .base (.lst (s _ _ h1))
  | tup h1 _ => cases hx; exact .base (.tup (s _ _ h1))
  | cou _ _ _ => cases hx
  | scr _ => cases hx
  | ptr _ => cases hx
theorem evd_isi (h : EvD G te ρ x) (hx : tyD x = some a) (hk : kitB a b = some r) : EvD G (tCB (rIsi G.K) (tCons te (tCons (tC (.ty b)) tNil))) ρ (.bl r) := fun F0 H0 F H σ E Q q =>
  h F0 H0 F H σ E _ fun v F1 H1 g r1 => ⟨v, .ty b, .type a, .type b, r, rfl, .ty b, tyX_of g.sub r1 hx, kit_ty hk, q _ F1 H1 g (.bl r)⟩
theorem evd_isiL (h : EvS G te ρ ds) (hk : kitB "list" b = some r) : EvD G (tCB (rIsi G.K) (tCons te (tCons (tC (.ty b)) tNil))) ρ (.bl r) := fun F0 H0 F H σ E Q q =>
  h F0 H0 F H σ E _ fun c vs F1 H1 g h1 r1 => ⟨.ref c, .ty b, .type "list", .type b, r, rfl, .ty b, .base (.lst h1), kit_ty hk, q _ F1 H1 g (.bl r)⟩
end
theorem kit_ii : kitB "int" "int" = some true := by decide +kernel
theorem kit_ib : kitB "int" "bool" = some false := by decide +kernel
theorem kit_bb : kitB "bool" "bool" = some true := by decide +kernel
theorem kit_ll : kitB "list" "list" = some true := by decide +kernel
theorem kit_tt : kitB "tuple" "tuple" = some true := by decide +kernel
theorem kit_ss : kitB "str" "str" = some true := by decide +kernel
/-! ### list(range(n)), tuple(range(n)) -/
section
variable {G : Cfg} {te : TE} {ρ : Rho}
theorem reps_rg (F : Hp) (n : Int) : Reps G F (rgV 0 n) ((List.range n.toNat).map fun k : Nat => D.int (k : Int)) := by
  have e : n - 0 = n := by omega
  unfold rgV
  rw [e]
  have go : ∀ l : List Nat, Reps G F (l.map fun i : Nat => V.int (0 + (i : Int))) (l.map fun k : Nat => D.int (k : Int)) := by
    intro l
    induction l with
    | nil => exact .nil
    | cons x l ih =>
      rw [List.map_cons, List.map_cons, Int.zero_add]
      exact .cons (.int _) ih
  exact go _
theorem evn_listRg {n : Int} (h : EvD G te ρ (.int n)) (hn : 0 ≤ n ∧ n ≤ 1000) : EvN G (tLstRg (tRg1 te)) ρ ((List.range n.toNat).map fun k : Nat => D.int (k : Int)) := fun F0 H0 F H σ E Q q => h F0 H0 F H σ E _ fun v F1 H1 g r => by
  cases r
  exact ⟨n, rfl, .of_le (by omega) (by omega) (by omega) (by omega), fun p hp => q p _ F1 _ (g.fresh hp) (g.eh.free hp) (g.sub.free hp) upd_same (reps_rg F1 n)⟩
theorem evd_tupRg {n : Int} (h : EvD G te ρ (.int n)) (hn : 0 ≤ n ∧ n ≤ 1000) : EvD G (tTupRg (tRg1 te)) ρ (.tup ((List.range n.toNat).map fun k : Nat => D.int (k : Int))) := fun F0 H0 F H σ E Q q => h F0 H0 F H σ E _ fun v F1 H1 g r => by
  cases r
  exact ⟨n, rfl, .of_le (by omega) (by omega) (by omega) (by omega), fun p hp => q _ _ _ (g.laid hp) (.tup upd_same ((reps_rg F1 n).mono (same_upd (g.sub.free hp))))⟩
end
def eO : Option Int → D
  | none => .non
  | some i => .int i
def vO : Option Int → V
  | none => .non
  | some i => .int i
def rCntO (K : PySem.W.Frag) : V → List V → Hp → VK → Prop := fun x xs H Q => ∃ (p : Addr) (os : List (Option Int)) (k : Int), x = .ref p ∧ xs = [.int k] ∧ SqL K H p (os.map vO) ∧ Q (.int (os.count (some k) : Nat)) H
theorem cntO_gives {A : Around} {s : Shared} {k : Int} {t : Tok} (hu : A.units < cLine) : ∀ {os : List (Option Int)} {us : List Value}, Vals (os.map vO) us → (∀ y ∈ us, SeqAt.EqAt A s y (.int k t) (eqk k y)) ∧ us.countP (eqk k) = os.count (some k)
  | [], _, .nil => ⟨fun y hy => absurd hy (by simp), rfl⟩
  | o :: os, u :: us, .cons r rr => by
    obtain ⟨h1, h2⟩ := cntO_gives (k := k) (t := t) hu rr
    refine ⟨fun y hy => ?_, ?_⟩
    · rcases List.mem_cons.mp hy with e | e
      · rw [e]
        cases o with
        | none =>
          cases (show u = Value.none from r)
          exact SeqAt.eqAt_reads .none (.int k) A s _ _ _ _ Reads.none (Reads.int k t) rfl rfl (by show A.units + min 0 0 < cLine; omega)
        | some i =>
          obtain ⟨t', e2⟩ := (show ∃ t', u = Value.int i t' from r)
          cases e2
          exact (MeetsSeq.EqGives.int i k t' t).at A s
      · exact h1 y e
    · rw [List.countP_cons, List.count_cons, h2]
      cases o with
      | none =>
        cases (show u = Value.none from r)
        rfl
      | some i =>
        obtain ⟨t', e2⟩ := (show ∃ t', u = Value.int i t' from r)
        cases e2
        show _ + (if (i == k) = true then 1 else 0) = _ + (if (some i == some k) = true then 1 else 0)
        have : (some i == some k) = (i == k) := rfl
        rw [this]
theorem mt_countO {X : Cx} (hu : X.A.units + 64 < cLine) : MtR X "list.count" (rCntO X.K) := by
  intro pins s σ H x xs v us Q I rx rxs h
  obtain ⟨p, os, k, rfl, rfl, hs, q⟩ := h
  cases rx
  obtain ⟨u, rfl, ru⟩ := rxs.one
  obtain ⟨t, rfl⟩ := ru
  obtain ⟨its, rv, ⟨⟨cls, dd, data, sl⟩, n, ho, hc, hdn, hd⟩, hlen⟩ := I.list hs
  simp only at hc hd
  subst hc hd
  refine call_meets PySem.F.slot_list_count ⟨_, ho, rfl⟩ PySem.F.entry_list_count (PySem.F.args_list_count_2 _ _) (SeqAt.list_countAt p its.toArray n dd sl (.int k t) (eqk k)) ⟨ho, fun y hy => (cntO_gives (by first | (show X.A.units + 1 < cLine; omega) | (show X.A.units < cLine; omega)) rv).1 y (by simpa using hy), ?_⟩
  have ec : its.toArray.toList.countP (eqk k) = os.count (some k) := (cntO_gives (A := X.A) (s := s) (t := t) (by omega) rv).2
  rw [ec]
  exact ⟨.int (os.count (some k) : Nat), H, I.tok _, ⟨s.toks, rfl⟩, q⟩
theorem k_count {X : Cx} (K : PySem.W.Frag) (hu : X.A.units + 64 < cLine) (h : X.K = K := by rfl) : MtR X "list.count" (rCntO K) := h ▸ mt_countO hu
theorem reps_O {G : Cfg} {F : Hp} : ∀ {vs : List V} {os : List (Option Int)}, Reps G F vs (os.map eO) → vs = os.map vO
  | _, [], .nil => rfl
  | _, o :: os, .cons h r => by
    rw [reps_O r]
    cases o with
    | none => cases h; rfl
    | some i => cases h; rfl
theorem evd_count {G : Cfg} {te tk : TE} {ρ : Rho} {os : List (Option Int)} {k : Int} (h : EvS G te ρ (os.map eO)) (hk : EvD G tk ρ (.int k)) : EvD G (tBM G.K "list" (rCntO G.K) te (tCons tk tNil)) ρ (.int (os.count (some k) : Nat)) := fun F0 H0 F H σ E Q q =>
  h F0 H0 F H σ E _ fun a vs F1 H1 g1 h1 r1 => by
  refine ⟨Or.inl ⟨rfl, vs, SqL.of h1⟩, hk F0 H0 F1 H1 σ (E.grow g1) _ fun v F2 H2 g2 r2 => ?_⟩
  cases r2
  have e := reps_O r1
  subst e
  exact ⟨a, os, k, rfl, rfl, SqL.of (g2.eh _ _ h1), q _ F2 H2 (g1.trans g2) (.int _)⟩
end Vw

/-! the mathematics: what the defs compute -/
namespace Vw
abbrev Crowd := List Int
def liesIn (a b : Crowd) : Bool := a.all fun m => decide (m ∈ b)
def bears (told : List Crowd) (c : Crowd) : Bool := told.any fun t => liesIn t c
def firstOf (c : Crowd) : Int := c.getLastD (-1) + 1
def longer (n : Nat) (c : Crowd) : List Crowd := (List.range ((n : Int) - firstOf c).toNat).map fun (k : Nat) => c ++ [firstOf c + (k : Int)]
def crowdsSt (n : Nat) : Nat → List Crowd × List Crowd
  | 0 => ([[]], [[]])
  | k + 1 => ((crowdsSt n k).1 ++ (crowdsSt n k).2.flatMap (longer n), (crowdsSt n k).2.flatMap (longer n))
def crowdsOf (n : Nat) : List Crowd := (crowdsSt n n).1
theorem crowdsSt_len : ∀ n < 6, ∀ k < 6, (crowdsSt n k).1.length ≤ 32 ∧ (crowdsSt n k).2.length ≤ 32 ∧ ((crowdsSt n k).2.flatMap (longer n)).length ≤ 32 := by decide +kernel
theorem crowdsSt_first : ∀ n < 6, ∀ k < 6, ∀ c ∈ (crowdsSt n k).2, 0 ≤ firstOf c ∧ firstOf c ≤ 6 := by decide +kernel
theorem crowdsSt_clen : ∀ n < 6, ∀ k < 6, ∀ c ∈ (crowdsSt n k).2, c.length ≤ 6 := by decide +kernel
theorem crowdsOf_len {n : Nat} (h : n ≤ 5) : (crowdsOf n).length ≤ 32 := (crowdsSt_len n (by omega) n (by omega)).1
theorem crowdsOf_good : ∀ n < 6, ∀ c ∈ crowdsOf n, crowdOk (n : Int) c = true := by decide +kernel
theorem crowdsOf_clen : ∀ n < 6, ∀ c ∈ crowdsOf n, c.length ≤ 5 := by decide +kernel
def leastStep (told : List Crowd) (found : List Crowd) (c : Crowd) : List Crowd := if bears told c && !(found.any fun one => liesIn one c) then found ++ [c] else found
def least (n : Nat) (told : List Crowd) : List Crowd := (crowdsOf n).foldl (leastStep told) []
theorem leastStep_len (told : List Crowd) : ∀ (cs found : List Crowd), (cs.foldl (leastStep told) found).length ≤ found.length + cs.length
  | [], found => by simp
  | c :: cs, found => by
    rw [List.foldl_cons]
    have h := leastStep_len told cs (leastStep told found c)
    have h2 : (leastStep told found c).length ≤ found.length + 1 := by
      unfold leastStep
      split <;> simp
    rw [List.length_cons]
    omega
theorem least_len {n : Nat} (h : n ≤ 5) (told : List Crowd) : (least n told).length ≤ 32 := by
  have := leastStep_len told (crowdsOf n) []
  have := crowdsOf_len h
  unfold least
  simp at *
  omega
/-! ### the script -/
def cell (ns : List Int) (k : Nat) : Int := ns.getD k 0
def bitStep (s : Crowd × Int) (k : Nat) : Crowd × Int := (if s.2 % 2 = 1 then s.1 ++ [(k : Int)] else s.1, s.2 / 2)
def bits (x : Int) (m : Nat) : Crowd := ((List.range m).foldl bitStep ([], x)).1
theorem bitStep_len : ∀ (ks : List Nat) (s : Crowd × Int), (ks.foldl bitStep s).1.length ≤ s.1.length + ks.length
  | [], s => by simp
  | k :: ks, s => by
    rw [List.foldl_cons]
    have h := bitStep_len ks (bitStep s k)
    have h2 : (bitStep s k).1.length ≤ s.1.length + 1 := by
      unfold bitStep
      simp only
      split <;> simp
    rw [List.length_cons]
    omega
theorem bits_len (x : Int) (m : Nat) : (bits x m).length ≤ m := by
  have := bitStep_len (List.range m) ([], x)
  simp at this
  exact this
def rowOf (c : Crowd) : Int × List Int := ((c.length : Int), c)
def lawCrowds (n : Nat) : List Crowd := crowdsOf n
def powOf (n : Nat) : Nat := [1, 2, 4, 8, 16, 32].getD n 1
theorem lawCrowds_perm : ∀ n < 6, ((crowdsOf n).map rowOf).Perm (((List.range (powOf n)).map fun (k : Nat) => bits (k : Int) n).map rowOf) := by decide +kernel
theorem lawCrowds_sorted : ∀ n < 6, ((crowdsOf n).map rowOf).Pairwise (fun a b => lexR b a = false) := by decide +kernel
def manyOf (x : Int) : Nat := [5, 1, 2, 3, 4, 5, 4, 5].getD (x % 8).toNat 5
theorem manyOf_le (x : Int) : 1 ≤ manyOf x ∧ manyOf x ≤ 5 := by
  unfold manyOf
  have h1 : 0 ≤ x % 8 := Int.emod_nonneg x (by decide)
  have h2 : x % 8 < 8 := Int.emod_lt_of_pos x (by decide)
  generalize x % 8 = y at h1 h2
  have h : y.toNat < 8 := by omega
  generalize y.toNat = k at h
  revert k
  decide
def some' (ns : List Int) (start m count : Nat) : List Crowd := (List.range count).map fun (k : Nat) => bits (cell ns (start + k) % 32) m
def wts (ns : List Int) (start m : Nat) : List Int := (List.range m).map fun (k : Nat) => cell ns (start + k) % 7
def weigh (ws : List Int) (c : Crowd) : Int := (c.map fun i => ws.getD i.toNat 0).sum
def weighedCrowds (ns : List Int) (start m : Nat) : List Crowd := (crowdsOf m).filter fun c => decide (1 + cell ns (start + m) % max 1 (wts ns start m).sum ≤ weigh (wts ns start m) c)
def evens (m : Nat) (size : Int) : List Crowd := (crowdsOf m).filter fun c => decide ((c.length : Int) = size)
def toldOf (ns : List Int) (start m : Nat) : List Crowd :=
  let way := cell ns start % 5
  if way = 0 then some' ns (start + 2) m (cell ns (start + 1) % 7).toNat
  else if way = 1 then weighedCrowds ns (start + 2) m
  else if way = 3 then
    let ev := evens m (2 + cell ns (start + 1) % 2)
    let out := bits (cell ns (start + 2) % 1024 * (if 0 < cell ns (start + 3) % 3 then 1 else 0)) 10
    ((List.range ev.length).filter fun (k : Nat) => !decide ((k : Int) ∈ out)).map fun (k : Nat) => ev.getD k []
  else (some' ns (start + 2) m (2 + (cell ns (start + 1) % 6).toNat)).filter fun c => decide (1 < (c.length : Int)) || decide (way = 2)
def lawLeast (told : List Crowd) (n : Nat) : List Crowd :=
  let carrying := (crowdsOf n).filter (bears told)
  carrying.filter fun c => decide ((carrying.filter fun one => !decide (one = c) && liesIn one c).length = 0)
end Vw

/-! plain laws -/
namespace Vw
theorem liesIn_iff {a b : Crowd} : liesIn a b = true ↔ ∀ m ∈ a, m ∈ b := by
  unfold liesIn
  rw [List.all_eq_true]
  simp
theorem liesIn_trans {a b c : Crowd} (h1 : liesIn a b = true) (h2 : liesIn b c = true) : liesIn a c = true := liesIn_iff.mpr fun m hm => liesIn_iff.mp h2 m (liesIn_iff.mp h1 m hm)
theorem liesIn_refl (a : Crowd) : liesIn a a = true := liesIn_iff.mpr fun _ h => h
theorem bears_mono {told : List Crowd} {c d : Crowd} (h : bears told c = true) (hl : liesIn c d = true) : bears told d = true := by
  unfold bears at h ⊢
  obtain ⟨t, ht, hc⟩ := List.any_eq_true.mp h
  exact List.any_eq_true.mpr ⟨t, ht, liesIn_trans hc hl⟩
theorem crowdsOf_order' : ∀ n < 6, ∀ j < 33, ∀ i < 33, (match (crowdsOf n)[i]?, (crowdsOf n)[j]? with | some d, some c => !liesIn d c || decide (d = c) || decide (i < j) | _, _ => true) = true := by decide +kernel
theorem crowdsOf_nodup : ∀ n < 6, (crowdsOf n).Nodup := by decide +kernel
theorem crowdsOf_order {n : Nat} (hn : n ≤ 5) {i j : Nat} {d c : Crowd} (hi : (crowdsOf n)[i]? = some d) (hj : (crowdsOf n)[j]? = some c) (hl : liesIn d c = true) (hne : d ≠ c) : i < j := by
  have hl1 := crowdsOf_len hn
  have h1 : i < 33 := by have := (List.getElem?_eq_some_iff.mp hi).1; omega
  have h2 : j < 33 := by have := (List.getElem?_eq_some_iff.mp hj).1; omega
  have h := crowdsOf_order' n (by omega) j h2 i h1
  rw [hi, hj] at h
  simpa [hl, hne] using h
/-- c carries, and no other crowd that carries lies in it -/
def isLeast (told : List Crowd) (n : Nat) (c : Crowd) : Bool := bears told c && (crowdsOf n).all fun one => !bears told one || decide (one = c) || !liesIn one c
theorem isLeast_iff {told : List Crowd} {n : Nat} {c : Crowd} : isLeast told n c = true ↔ bears told c = true ∧ ∀ one ∈ crowdsOf n, bears told one = true → one ≠ c → liesIn one c = false := by
  unfold isLeast
  rw [Bool.and_eq_true, List.all_eq_true]
  constructor
  · rintro ⟨h1, h2⟩
    refine ⟨h1, fun one ho hb hne => ?_⟩
    have := h2 one ho
    simpa [hb, hne] using this
  · rintro ⟨h1, h2⟩
    refine ⟨h1, fun one ho => ?_⟩
    cases hb : bears told one with
    | false => rfl
    | true =>
      by_cases hne : one = c
      · simp [hne]
      · simp [h2 one ho hb hne]
theorem least_below {told : List Crowd} {n : Nat} (hn : n ≤ 5) : ∀ (i : Nat) (c : Crowd), (crowdsOf n)[i]? = some c → bears told c = true → ∃ j d, j ≤ i ∧ (crowdsOf n)[j]? = some d ∧ isLeast told n d = true ∧ liesIn d c = true := by
  intro i
  induction i using Nat.strongRecOn with
  | ind i ih =>
    intro c hc hb
    by_cases h : isLeast told n c = true
    · exact ⟨i, c, Nat.le_refl _, hc, h, liesIn_refl c⟩
    · have : ∃ one ∈ crowdsOf n, bears told one = true ∧ one ≠ c ∧ liesIn one c = true := by
        apply Classical.byContradiction
        intro no
        refine h (isLeast_iff.mpr ⟨hb, fun one ho hbo hne => ?_⟩)
        cases q : liesIn one c with
        | false => rfl
        | true => exact absurd ⟨one, ho, hbo, hne, q⟩ no
      obtain ⟨one, ho, hbo, hne, hl⟩ := this
      obtain ⟨k, hk⟩ := List.getElem?_of_mem ho
      have hki : k < i := crowdsOf_order hn hk hc hl hne
      obtain ⟨j, d, hj, hd, hm, hl2⟩ := ih k hki one hk hbo
      exact ⟨j, d, by omega, hd, hm, liesIn_trans hl2 hl⟩
theorem least_prefix {told : List Crowd} {n : Nat} (hn : n ≤ 5) : ∀ i, ((crowdsOf n).take i).foldl (leastStep told) [] = ((crowdsOf n).take i).filter (isLeast told n)
  | 0 => rfl
  | i + 1 => by
    have ih := least_prefix (told := told) hn i
    cases hc : (crowdsOf n)[i]? with
    | none =>
      have hl : (crowdsOf n).length ≤ i := List.getElem?_eq_none_iff.mp hc
      rw [List.take_of_length_le (by omega)]
      rw [List.take_of_length_le hl] at ih
      exact ih
    | some c =>
      rw [List.take_add_one, hc]
      simp only [Option.toList_some]
      rw [List.foldl_append, ih, List.filter_append, List.foldl_cons, List.foldl_nil]
      have key : (bears told c && !(((crowdsOf n).take i).filter (isLeast told n)).any fun one => liesIn one c) = isLeast told n c := by
        cases h : isLeast told n c with
        | true =>
          obtain ⟨h1, h2⟩ := isLeast_iff.mp h
          rw [h1, Bool.true_and, Bool.not_eq_true']
          refine List.any_eq_false.mpr fun one hone => ?_
          obtain ⟨m1, m2⟩ := List.mem_filter.mp hone
          have hcs : one ∈ crowdsOf n := List.mem_of_mem_take m1
          have hne : one ≠ c := by
            intro e
            subst e
            obtain ⟨k, hk⟩ := List.getElem?_of_mem m1
            have hki : k < i := by
              have := (List.getElem?_eq_some_iff.mp hk).1
              rw [List.length_take] at this
              omega
            rw [List.getElem?_take_of_lt hki] at hk
            obtain ⟨hk1, hk2⟩ := List.getElem?_eq_some_iff.mp hk
            obtain ⟨hc1, hc2⟩ := List.getElem?_eq_some_iff.mp hc
            have := (List.getElem_inj (crowdsOf_nodup n (by omega))).mp (hk2.trans hc2.symm)
            omega
          have := h2 one hcs (isLeast_iff.mp m2).1 hne
          rw [this]
          decide
        | false =>
          cases hb : bears told c with
          | false => rfl
          | true =>
            rw [Bool.true_and, Bool.not_eq_false']
            obtain ⟨j, d, hj, hd, hm, hl⟩ := least_below hn i c hc hb
            have hji : j < i := by
              rcases Nat.lt_or_ge j i with q | q
              · exact q
              · have : j = i := by omega
                subst this
                rw [hc] at hd
                cases hd
                rw [h] at hm
                cases hm
            refine List.any_eq_true.mpr ⟨d, List.mem_filter.mpr ⟨?_, hm⟩, hl⟩
            exact List.mem_of_getElem? (i := j) (by rw [List.getElem?_take_of_lt hji]; exact hd)
      unfold leastStep
      rw [key]
      cases h : isLeast told n c with
      | true => simp [h]
      | false => simp [h]
theorem least_eq {told : List Crowd} {n : Nat} (hn : n ≤ 5) : least n told = (crowdsOf n).filter (isLeast told n) := by
  have h := least_prefix (told := told) hn (crowdsOf n).length
  rw [List.take_length] at h
  exact h
theorem lawLeast_eq {told : List Crowd} {n : Nat} : lawLeast told n = (crowdsOf n).filter (isLeast told n) := by
  unfold lawLeast
  simp only
  rw [List.filter_filter]
  refine List.filter_congr fun c hc => ?_
  rw [Bool.and_comm]
  unfold isLeast
  cases hb : bears told c with
  | false => rfl
  | true =>
    rw [Bool.true_and, Bool.true_and, Bool.eq_iff_iff, decide_eq_true_eq, List.all_eq_true, List.length_eq_zero_iff, List.filter_eq_nil_iff]
    constructor
    · intro h one ho
      cases hbo : bears told one with
      | false => rfl
      | true =>
        have := h one (List.mem_filter.mpr ⟨ho, hbo⟩)
        by_cases e : one = c
        · simp [e]
        · simpa [e] using this
    · intro h one ho
      obtain ⟨h1, h2⟩ := List.mem_filter.mp ho
      have := h one h1
      by_cases e : one = c
      · simp [e]
      · simpa [e, h2] using this
theorem least_lawLeast {told : List Crowd} {n : Nat} (hn : n ≤ 5) : least n told = lawLeast told n := by rw [least_eq hn, lawLeast_eq]
/-! ### the crowds told are crowds -/
theorem bits_good' : ∀ m : Nat, m < 6 → ∀ x : Nat, x < 32 → crowdOk (m : Int) (bits (x : Int) m) = true ∧ (bits (x : Int) m).length ≤ 5 := by decide +kernel
theorem bits_good {m : Nat} (hm : m ≤ 5) (x : Int) : crowdOk (m : Int) (bits (x % 32) m) = true ∧ (bits (x % 32) m).length ≤ 5 := by
  have h1 : 0 ≤ x % 32 := Int.emod_nonneg x (by decide)
  have h2 : x % 32 < 32 := Int.emod_lt_of_pos x (by decide)
  have h := bits_good' m (by omega) (x % 32).toNat (by omega)
  rw [Int.toNat_of_nonneg h1] at h
  exact h
theorem some_good {ns : List Int} {start m count : Nat} (hm : m ≤ 5) : ∀ c ∈ some' ns start m count, crowdOk (m : Int) c = true ∧ c.length ≤ 5 := fun c hc => by
  obtain ⟨k, _, rfl⟩ := List.mem_map.mp hc
  exact bits_good hm _
theorem cs_good {m : Nat} (hm : m ≤ 5) {c : Crowd} (hc : c ∈ crowdsOf m) : crowdOk (m : Int) c = true ∧ c.length ≤ 5 := ⟨crowdsOf_good m (by omega) c hc, crowdsOf_clen m (by omega) c hc⟩
theorem told_good {ns : List Int} {start m : Nat} (hm : m ≤ 5) : ∀ c ∈ toldOf ns start m, crowdOk (m : Int) c = true ∧ c.length ≤ 5 := by
  intro c hc
  unfold toldOf at hc
  simp only at hc
  split at hc
  · exact some_good hm c hc
  · split at hc
    · exact cs_good hm (List.mem_filter.mp hc).1
    · split at hc
      · obtain ⟨k, hk, rfl⟩ := List.mem_map.mp hc
        have hk2 := List.mem_range.mp (List.mem_filter.mp hk).1
        have : (evens m (2 + cell ns (start + 1) % 2)).getD k [] ∈ evens m (2 + cell ns (start + 1) % 2) := by
          rw [List.getD_eq_getElem?_getD, List.getElem?_eq_getElem hk2]
          exact List.getElem_mem hk2
        exact cs_good hm (List.mem_filter.mp this).1
      · exact some_good hm c (List.mem_filter.mp hc).1
theorem told_len {ns : List Int} {start m : Nat} (hm : m ≤ 5) : (toldOf ns start m).length ≤ 32 := by
  unfold toldOf
  simp only
  split
  · simp [some']
    have : cell ns (start + 1) % 7 < 7 := Int.emod_lt_of_pos _ (by decide)
    omega
  · split
    · exact Nat.le_trans (List.length_filter_le _ _) (crowdsOf_len hm)
    · split
      · rw [List.length_map]
        refine Nat.le_trans (List.length_filter_le _ _) ?_
        rw [List.length_range]
        exact Nat.le_trans (List.length_filter_le _ _) (crowdsOf_len hm)
      · refine Nat.le_trans (List.length_filter_le _ _) ?_
        simp [some']
        have : cell ns (start + 1) % 6 < 6 := Int.emod_lt_of_pos _ (by decide)
        omega
theorem cut_mem {α : Type} {xs : List α} {lo hi : Option Int} {x : α} (h : x ∈ cut xs lo hi) : x ∈ xs := List.mem_of_mem_drop (List.mem_of_mem_take h)
theorem cut_len {α : Type} {xs : List α} {lo hi : Option Int} : (cut xs lo hi).length ≤ xs.length := by
  unfold cut
  rw [List.length_take, List.length_drop]
  omega
theorem cut_map {α β : Type} (f : α → β) (xs : List α) (lo hi : Option Int) : (cut xs lo hi).map f = cut (xs.map f) lo hi := by
  unfold cut
  rw [List.map_take, List.map_drop, List.length_map]
theorem couRes_ok {m : Nat} {cs : List Crowd} (h1 : 1 ≤ m) (h5 : m ≤ 5) (h : ∀ c ∈ cs, crowdOk (m : Int) c = true) : couRes (m : Int) cs = .val (.cou m cs) := by
  unfold couRes
  rw [if_neg (by omega), if_pos (List.all_eq_true.mpr h)]
end Vw

/-! members: with them, vetoes, idle ones, who can do all -/
namespace Vw
def insU (x : Int) : List Int → List Int
  | [] => [x]
  | y :: ys => if x < y then x :: y :: ys else if x = y then y :: ys else y :: insU x ys
def sortU : List Int → List Int
  | [] => []
  | x :: xs => insU x (sortU xs)
theorem insU_mem {x k : Int} : ∀ {ys : List Int}, k ∈ insU x ys ↔ k = x ∨ k ∈ ys
  | [] => by simp [insU]
  | y :: ys => by
    unfold insU
    split
    · simp
    · split
      · rename_i h
        subst h
        simp
      · rw [List.mem_cons, insU_mem, List.mem_cons]
        constructor
        · rintro (h | h | h)
          · exact .inr (.inl h)
          · exact .inl h
          · exact .inr (.inr h)
        · rintro (h | h | h)
          · exact .inr (.inl h)
          · exact .inl h
          · exact .inr (.inr h)
theorem insU_sorted {x : Int} : ∀ {ys : List Int}, ys.Pairwise (· < ·) → (insU x ys).Pairwise (· < ·)
  | [], _ => by simp [insU]
  | y :: ys, h => by
    have h' := List.pairwise_cons.mp h
    unfold insU
    split
    · rename_i q
      refine List.pairwise_cons.mpr ⟨fun a ha => ?_, h⟩
      rcases List.mem_cons.mp ha with e | ha
      · rw [e]
        exact q
      · have := h'.1 a ha
        omega
    · split
      · exact h
      · rename_i q1 q2
        refine List.pairwise_cons.mpr ⟨fun a ha => ?_, insU_sorted h'.2⟩
        rcases insU_mem.mp ha with e | ha
        · omega
        · exact h'.1 a ha
theorem sortU_mem {k : Int} : ∀ {xs : List Int}, k ∈ sortU xs ↔ k ∈ xs
  | [] => by simp [sortU]
  | x :: xs => by
    unfold sortU
    rw [insU_mem, sortU_mem, List.mem_cons]
theorem sortU_sorted : ∀ xs : List Int, (sortU xs).Pairwise (· < ·)
  | [] => .nil
  | x :: xs => insU_sorted (sortU_sorted xs)
theorem insU_len {x : Int} : ∀ ys : List Int, (insU x ys).length ≤ ys.length + 1
  | [] => by simp [insU]
  | y :: ys => by
    unfold insU
    split
    · simp
    · split
      · simp
      · have := insU_len (x := x) ys
        simp
        omega
theorem sortU_len : ∀ xs : List Int, (sortU xs).length ≤ xs.length
  | [] => by simp [sortU]
  | x :: xs => by
    unfold sortU
    have := insU_len (x := x) (sortU xs)
    have := sortU_len xs
    simp
    omega
/-- two rising lists of the same members are one -/
theorem sorted_ext {a b : List Int} (ha : a.Pairwise (· < ·)) (hb : b.Pairwise (· < ·)) (h : ∀ k, k ∈ a ↔ k ∈ b) : a = b := by
  have p : a.Perm b := (List.perm_ext_iff_of_nodup (ha.imp fun {a b} h => Int.ne_of_lt h) (hb.imp fun {a b} h => Int.ne_of_lt h)).mpr h
  exact p.eq_of_pairwise (fun a b _ _ h1 h2 => by omega) ha hb
def withThem (c more : Crowd) : Crowd := sortU (c ++ more)
theorem withThem_mem {c more : Crowd} {k : Int} : k ∈ withThem c more ↔ k ∈ c ∨ k ∈ more := by
  unfold withThem
  rw [sortU_mem, List.mem_append]
theorem withThem_len (c more : Crowd) : (withThem c more).length ≤ c.length + more.length := by
  unfold withThem
  have := sortU_len (c ++ more)
  rw [List.length_append] at this
  exact this
theorem good_sorted {n : Int} : ∀ {c : List Int} {last : Int}, goodFrom n last c = true → c.Pairwise (· < ·)
  | [], _, _ => .nil
  | x :: c, last, h => by
    unfold goodFrom at h
    split at h
    · cases h
    · refine .cons (fun m hm => ?_) (good_sorted h)
      have go : ∀ {c : List Int} {last : Int}, goodFrom n last c = true → ∀ m ∈ c, last < m := by
        intro c
        induction c with
        | nil => intro _ _ m hm; simp at hm
        | cons y c ih =>
          intro last h m hm
          unfold goodFrom at h
          split at h
          · cases h
          · rename_i q
            rcases List.mem_cons.mp hm with e | hm
            · omega
            · have := ih h m hm
              omega
      exact go h m hm
theorem good_of {n : Int} : ∀ {c : List Int} {last : Int}, c.Pairwise (· < ·) → (∀ m ∈ c, last < m ∧ m < n) → goodFrom n last c = true
  | [], _, _, _ => rfl
  | x :: c, last, h, hb => by
    have h' := List.pairwise_cons.mp h
    have hx := hb x (List.mem_cons_self ..)
    unfold goodFrom
    rw [if_neg (by omega)]
    exact good_of h'.2 fun m hm => ⟨h'.1 m hm, (hb m (List.mem_cons_of_mem _ hm)).2⟩
theorem good_bounds {n : Int} : ∀ {c : List Int} {last : Int}, goodFrom n last c = true → ∀ m ∈ c, last < m ∧ m < n
  | [], _, _, m, hm => by simp at hm
  | x :: c, last, h, m, hm => by
    unfold goodFrom at h
    split at h
    · cases h
    · rename_i q
      rcases List.mem_cons.mp hm with e | hm
      · omega
      · have := good_bounds h m hm
        omega
theorem crowdOk_iff {n : Int} {c : Crowd} : crowdOk n c = true ↔ c.Pairwise (· < ·) ∧ ∀ m ∈ c, 0 ≤ m ∧ m < n := by
  unfold crowdOk
  constructor
  · intro h
    exact ⟨good_sorted h, fun m hm => by have := good_bounds h m hm; omega⟩
  · rintro ⟨h1, h2⟩
    exact good_of h1 fun m hm => by have := h2 m hm; omega
theorem with_ok {n : Int} {c : Crowd} {m : Int} (h : crowdOk n c = true) (h0 : 0 ≤ m) (h1 : m < n) : crowdOk n (withThem c [m]) = true := by
  rw [crowdOk_iff] at h ⊢
  refine ⟨sortU_sorted _, fun k hk => ?_⟩
  rcases withThem_mem.mp hk with q | q
  · exact h.2 k q
  · have : k = m := by simpa using q
    omega
theorem crowdOk_mem {n : Int} {c : Crowd} (h : crowdOk n c = true) : ∀ m ∈ c, 0 ≤ m ∧ m < n := (crowdOk_iff.mp h).2
theorem foldl_pick {α β : Type} (p : α → Bool) (f : α → β) : ∀ (xs : List α) (acc : List β), xs.foldl (fun acc x => if p x = true then acc ++ [f x] else acc) acc = acc ++ (xs.filter p).map f
  | [], acc => by simp
  | x :: xs, acc => by
    rw [List.foldl_cons, foldl_pick p f xs, List.filter_cons]
    split <;> simp
theorem foldl_pick_len {α β : Type} (p : α → Bool) (f : α → β) (xs : List α) (i : Nat) : ((xs.take i).foldl (fun acc x => if p x = true then acc ++ [f x] else acc) []).length ≤ xs.length := by
  rw [foldl_pick, List.nil_append, List.length_map]
  refine Nat.le_trans (List.length_filter_le _ _) ?_
  rw [List.length_take]
  exact Nat.min_le_right _ _
def rng (n : Nat) : List Int := (List.range n).map fun (k : Nat) => (k : Int)
def isVeto (n : Nat) (told : List Crowd) (m : Nat) : Bool := decide ((crowdsOf n).filter (fun c => !decide ((m : Int) ∈ c) && bears told c) = [])
def vetoesOf (n : Nat) (told : List Crowd) : List Int := ((List.range n).filter (isVeto n told)).map fun (k : Nat) => (k : Int)
def isIdle (n : Nat) (told : List Crowd) (m : Nat) : Bool := !!((least n told).filter fun c => decide ((m : Int) ∈ c)).isEmpty
def idleOf (n : Nat) (told : List Crowd) : List Int := ((List.range n).filter (isIdle n told)).map fun (k : Nat) => (k : Int)
def canStep (told : List Crowd) (a b : Int) (c : Crowd) : Bool := !(!decide (a ∈ c) && !decide (b ∈ c)) || !(bears told (withThem c [b]) && !bears told (withThem c [a]))
def canAll (n : Nat) (told : List Crowd) (a b : Int) : Bool := (crowdsOf n).all (canStep told a b)
theorem canAll_self (n : Nat) (told : List Crowd) (a : Int) : canAll n told a a = true := by
  unfold canAll
  rw [List.all_eq_true]
  intro c _
  unfold canStep
  cases decide (a ∈ c) <;> cases bears told (withThem c [a]) <;> rfl
end Vw

/-! swings, orders, powers -/
namespace Vw
def fact : Nat → Nat
  | 0 => 1
  | n + 1 => fact n * (n + 1)
def swings1 (told : List Crowd) (m : Int) (c : Crowd) : Bool := !decide (m ∈ c) && (!bears told c && bears told (withThem c [m]))
def swingsOf (n : Nat) (told : List Crowd) (m : Int) : List Crowd := (crowdsOf n).filter (swings1 told m)
def swingCounts (n : Nat) (told : List Crowd) : List Int := (List.range n).map fun (m : Nat) => ((swingsOf n told m).length : Int)
def topOf (n : Nat) (told : List Crowd) (m : Int) : Nat := ((swingsOf n told m).map fun c => fact c.length * fact (n - 1 - c.length)).sum
def lowestOf (a b : Nat) : Int × Int := (((a / Nat.gcd a b : Nat) : Int), ((b / Nat.gcd a b : Nat) : Int))
def powersOf (n : Nat) (told : List Crowd) : List (Int × Int) := (List.range n).map fun (m : Nat) => lowestOf (topOf n told m) (fact n)
def ordersOf : Nat → List Int → List (List Int)
  | 0, _ => [[]]
  | d + 1, ms => if ms = [] then [[]] else ms.flatMap fun m => (ordersOf d (ms.filter fun one => !decide (one = m))).map fun o => m :: o
def swing (told : List Crowd) (c : Crowd) (m : Int) : Bool := !bears told c && bears told (withThem c [m])
def swaysAux (told : List Crowd) : List Int → List Int → Option Int
  | _, [] => none
  | ahead, x :: xs => if swing told (sortU ahead) x = true then some x else swaysAux told (ahead ++ [x]) xs
def swaysOf (told : List Crowd) (o : List Int) : Option Int := swaysAux told [] o
theorem swaysAux_mem {told : List Crowd} {m : Int} : ∀ {xs ahead : List Int}, swaysAux told ahead xs = some m → m ∈ xs
  | [], _, h => by cases h
  | x :: xs, ahead, h => by
    unfold swaysAux at h
    split at h
    · cases h
      exact List.mem_cons_self ..
    · exact List.mem_cons_of_mem _ (swaysAux_mem h)
theorem bears_sub {told : List Crowd} {c d : Crowd} (h : bears told c = true) (hs : ∀ k ∈ c, k ∈ d) : bears told d = true := bears_mono h (liesIn_iff.mpr hs)
theorem swaysAux_iff {told : List Crowd} {m : Int} : ∀ {xs ahead : List Int}, (ahead ++ xs).Nodup → m ∈ xs → (swaysAux told ahead xs = some m ↔ swing told (sortU (ahead ++ xs.takeWhile fun x => !decide (x = m))) m = true)
  | [], _, _, h => by simp at h
  | x :: xs, ahead, nd, h => by
    unfold swaysAux
    by_cases e : x = m
    · subst e
      have et : (x :: xs).takeWhile (fun y => !decide (y = x)) = [] := by simp
      rw [et, List.append_nil]
      constructor
      · intro q
        split at q
        · assumption
        · have := swaysAux_mem q
          have nd2 := (List.nodup_append.mp nd).2.1
          exact absurd this (List.nodup_cons.mp nd2).1
      · intro q
        rw [if_pos q]
    · have et : (x :: xs).takeWhile (fun y => !decide (y = m)) = x :: xs.takeWhile fun y => !decide (y = m) := by simp [e]
      have hm : m ∈ xs := by
        rcases List.mem_cons.mp h with q | q
        · exact absurd q.symm e
        · exact q
      rw [et, show ahead ++ x :: xs.takeWhile (fun y => !decide (y = m)) = (ahead ++ [x]) ++ xs.takeWhile fun y => !decide (y = m) by simp]
      have ih := swaysAux_iff (told := told) (m := m) (xs := xs) (ahead := ahead ++ [x]) (by simpa using nd) hm
      split
      · rename_i q
        constructor
        · intro z
          cases z
          exact absurd rfl e
        · intro z
          unfold swing at q z
          have b1 : bears told (withThem (sortU ahead) [x]) = true := (Bool.and_eq_true_iff.mp q).2
          have b2 := (Bool.and_eq_true_iff.mp z).1
          have b3 := bears_sub (d := sortU ((ahead ++ [x]) ++ xs.takeWhile fun y => !decide (y = m))) b1 fun k hk => by
            rw [sortU_mem]
            rcases withThem_mem.mp hk with p | p
            · rw [sortU_mem] at p
              simp [p]
            · simp at p
              simp [p]
          rw [b3] at b2
          cases b2
      · exact ih
def predOf (m : Int) (o : List Int) : Crowd := sortU (o.takeWhile fun x => !decide (x = m))
theorem orders_mem : ∀ n < 6, ∀ o ∈ ordersOf n (rng n), (sortU o = rng n) ∧ o.length = n := by decide +kernel
theorem orders_len : ∀ n < 6, (ordersOf n (rng n)).length = fact n := by decide +kernel
theorem orders_small : ∀ n < 6, fact n ≤ 120 := by decide
theorem orders_pred : ∀ n < 6, ∀ m < n, ∀ c ∈ crowdsOf n, ((ordersOf n (rng n)).map (predOf (m : Int))).count c = if (m : Int) ∈ c then 0 else fact c.length * fact (n - 1 - c.length) := by decide +kernel
theorem orders_predin : ∀ n < 6, ∀ m < n, ∀ o ∈ ordersOf n (rng n), predOf (m : Int) o ∈ crowdsOf n := by decide +kernel
theorem orders_nodup : ∀ n < 6, ∀ o ∈ ordersOf n (rng n), o.Nodup := by decide +kernel
theorem sum_bump {c : Crowd} (f : Crowd → Nat) : ∀ {cs : List Crowd}, cs.Nodup → (cs.map fun x => f x + if x = c then 1 else 0).sum = (cs.map f).sum + if c ∈ cs then 1 else 0
  | [], _ => by simp
  | y :: ys, nd => by
    have nd' := List.nodup_cons.mp nd
    rw [List.map_cons, List.map_cons, List.sum_cons, List.sum_cons, sum_bump f nd'.2]
    by_cases e : y = c
    · subst e
      simp [nd'.1]
      omega
    · have : c ≠ y := fun q => e q.symm
      simp [e, this]
      omega
theorem countP_sum (p : Crowd → Bool) {cs : List Crowd} (nd : cs.Nodup) : ∀ L : List Crowd, (∀ x ∈ L, x ∈ cs) → L.countP p = ((cs.filter p).map fun c => L.count c).sum
  | [], _ => by
    have go : ∀ l : List Crowd, (l.map fun c => ([] : List Crowd).count c).sum = 0 := fun l => by
      induction l with
      | nil => rfl
      | cons a l ih => rw [List.map_cons, List.sum_cons, ih]; rfl
    rw [go]
    rfl
  | x :: L, h => by
    have ih := countP_sum p nd L fun y hy => h y (List.mem_cons_of_mem _ hy)
    have e : ((cs.filter p).map fun c => (x :: L).count c) = (cs.filter p).map fun c => L.count c + if c = x then 1 else 0 := by
      refine List.map_congr_left fun c _ => ?_
      rw [List.count_cons]
      by_cases q : c = x
      · subst q
        simp
      · have : x ≠ c := fun z => q z.symm
        simp [q, this]
    rw [e, sum_bump _ (nd.filter p), List.countP_cons, ih]
    have hx := h x (List.mem_cons_self ..)
    by_cases q : p x = true
    · rw [if_pos q, if_pos (List.mem_filter.mpr ⟨hx, q⟩)]
    · rw [if_neg q, if_neg (fun z => q (List.mem_filter.mp z).2)]
theorem sum_filter (q : Crowd → Bool) (f : Crowd → Nat) : ∀ l : List Crowd, (l.map fun c => if q c = true then 0 else f c).sum = ((l.filter fun c => !q c).map f).sum
  | [] => rfl
  | c :: l => by
    rw [List.map_cons, List.sum_cons, sum_filter q f l, List.filter_cons]
    cases q c <;> simp
theorem mem_rng {n : Nat} {m : Nat} (h : m < n) : (m : Int) ∈ rng n := List.mem_map.mpr ⟨m, List.mem_range.mpr h, rfl⟩
theorem sways_count {n : Nat} (hn : n ≤ 5) (told : List Crowd) {m : Nat} (hm : m < n) : ((ordersOf n (rng n)).map (swaysOf told)).count (some (m : Int)) = topOf n told m := by
  have e1 : ((ordersOf n (rng n)).map (swaysOf told)).count (some (m : Int)) = (ordersOf n (rng n)).countP fun o => swing told (predOf (m : Int) o) m := by
    unfold List.count
    rw [List.countP_map]
    refine List.countP_congr fun o ho => ?_
    have h1 := orders_mem n (by omega) o ho
    have h2 := orders_nodup n (by omega) o ho
    have h3 : (m : Int) ∈ o := by
      have := mem_rng hm
      rw [← h1.1, sortU_mem] at this
      exact this
    have h4 := swaysAux_iff (told := told) (m := (m : Int)) (xs := o) (ahead := []) (by simpa using h2) h3
    show (swaysOf told o == some (m : Int)) = true ↔ _
    rw [beq_iff_eq]
    unfold swaysOf
    rw [h4]
    rfl
  have e2 : ((ordersOf n (rng n)).countP fun o => swing told (predOf (m : Int) o) m) = ((ordersOf n (rng n)).map (predOf (m : Int))).countP fun c => swing told c m := by
    rw [List.countP_map]
    rfl
  rw [e1, e2, countP_sum _ (crowdsOf_nodup n (by omega)) _ (fun c hc => by
    obtain ⟨o, ho, rfl⟩ := List.mem_map.mp hc
    exact orders_predin n (by omega) m hm o ho)]
  have e3 : (((crowdsOf n).filter fun c => swing told c m).map fun c => ((ordersOf n (rng n)).map (predOf (m : Int))).count c) = ((crowdsOf n).filter fun c => swing told c m).map fun c => if decide ((m : Int) ∈ c) = true then 0 else fact c.length * fact (n - 1 - c.length) := by
    refine List.map_congr_left fun c hc => ?_
    rw [orders_pred n (by omega) m hm c (List.mem_filter.mp hc).1]
    by_cases q : (m : Int) ∈ c <;> simp [q]
  rw [e3, sum_filter, List.filter_filter]
  rfl
theorem topOf_le {n : Nat} (hn : n ≤ 5) (told : List Crowd) {m : Nat} (hm : m < n) : topOf n told m ≤ fact n := by
  rw [← sways_count hn told hm, ← orders_len n (by omega)]
  have := List.count_le_length (a := some (m : Int)) (l := (ordersOf n (rng n)).map (swaysOf told))
  rw [List.length_map] at this
  exact this
theorem fact_pos : ∀ n, 0 < fact n
  | 0 => by decide
  | n + 1 => Nat.mul_pos (fact_pos n) (Nat.succ_pos n)
theorem lowest_cross {a b : Nat} (hb : 0 < b) : (lowestOf a b).1 * (b : Int) = (a : Int) * (lowestOf a b).2 := by
  unfold lowestOf
  have hg := Nat.gcd_pos_of_pos_right a hb
  have h1 : a / Nat.gcd a b * Nat.gcd a b = a := Nat.div_mul_cancel (Nat.gcd_dvd_left a b)
  have h2 : b / Nat.gcd a b * Nat.gcd a b = b := Nat.div_mul_cancel (Nat.gcd_dvd_right a b)
  show ((a / Nat.gcd a b : Nat) : Int) * (b : Int) = (a : Int) * ((b / Nat.gcd a b : Nat) : Int)
  have : a / Nat.gcd a b * b = a * (b / Nat.gcd a b) := by
    generalize Nat.gcd a b = g at h1 h2 ⊢
    generalize a / g = x at h1 ⊢
    generalize b / g = y at h2 ⊢
    rw [← h1, ← h2, Nat.mul_comm y g, Nat.mul_assoc]
  exact_mod_cast this
theorem lowest_bottom {a b : Nat} (hb : 0 < b) : 1 ≤ (lowestOf a b).2 ∧ (lowestOf a b).2 ≤ b := by
  unfold lowestOf
  have hg := Nat.gcd_pos_of_pos_right a hb
  have h1 : 0 < b / Nat.gcd a b := Nat.div_pos (Nat.le_of_dvd hb (Nat.gcd_dvd_right a b)) hg
  have h2 : b / Nat.gcd a b ≤ b := Nat.div_le_self _ _
  constructor
  · show (1 : Int) ≤ ((b / Nat.gcd a b : Nat) : Int)
    omega
  · show ((b / Nat.gcd a b : Nat) : Int) ≤ (b : Int)
    omega
theorem lowest_top {a b : Nat} : 0 ≤ (lowestOf a b).1 ∧ (lowestOf a b).1 ≤ a := by
  unfold lowestOf
  have h2 : a / Nat.gcd a b ≤ a := Nat.div_le_self _ _
  constructor
  · exact Int.natCast_nonneg _
  · show ((a / Nat.gcd a b : Nat) : Int) ≤ (a : Int)
    omega
theorem lowest_coprime {a b : Nat} (hb : 0 < b) (d : Nat) (hd : 2 ≤ d) : ¬ ((lowestOf a b).1 % (d : Int) = 0 ∧ (lowestOf a b).2 % (d : Int) = 0) := by
  rintro ⟨h1, h2⟩
  unfold lowestOf at h1 h2
  have hg := Nat.gcd_pos_of_pos_right a hb
  have d1 : d ∣ a / Nat.gcd a b := by
    have : ((d : Nat) : Int) ∣ ((a / Nat.gcd a b : Nat) : Int) := Int.dvd_of_emod_eq_zero h1
    exact_mod_cast this
  have d2 : d ∣ b / Nat.gcd a b := by
    have : ((d : Nat) : Int) ∣ ((b / Nat.gcd a b : Nat) : Int) := Int.dvd_of_emod_eq_zero h2
    exact_mod_cast this
  have hc : Nat.gcd (a / Nat.gcd a b) (b / Nat.gcd a b) = 1 := by rw [Nat.gcd_div (Nat.gcd_dvd_left a b) (Nat.gcd_dvd_right a b), Nat.div_self hg]
  have : d ∣ 1 := hc ▸ Nat.dvd_gcd d1 d2
  have := Nat.le_of_dvd (by decide) this
  omega
theorem crowds_room : ∀ n < 6, ∀ m < n, ∀ c ∈ crowdsOf n, (m : Int) ∉ c → c.length ≤ n - 1 := by decide +kernel
end Vw

namespace Vw
open PySem L2 PySem.Spec PyProof.Rows
/-! ### try .. except, isinstance of a council and of an exception -/
structure CouT (K : PySem.W.Frag) (C : Addr) : Prop where
  ha : PySem.W.findIn K (.ref C) "__class__" = some (some (.builtin "object.__class__"))
  hn : PySem.W.specialIn K (.builtin "object.__class__") "__get__" = some (some (.builtin "getset_descriptor.__get__"))
  ht : PySem.W.takesIn K (.builtin "object.__class__") = some true
  hm : PySem.W.mroIn K C (.type "object") = some true
theorem evd_isiC {G : Cfg} {te : TE} {ρ : Rho} {n : Int} {told : List (List Int)} (h : EvD G te ρ (.cou n told)) (c : CouT G.K G.C) (cl : Cls G.K G.C) : EvD G (tCB (rIsi G.K) (tCons te (tCons (tC (.ref G.C)) tNil))) ρ (.bl true) := fun F0 H0 F H σ E Q q =>
  h F0 H0 F H σ E _ fun v F1 H1 g r1 => by
  obtain ⟨a, dx, l, vs, rfl, h1, _, _⟩ := r1.cou_at
  exact ⟨.ref a, .ref G.C, .ref G.C, .ref G.C, true, rfl, .own G.C, .base (.ins (g.sub _ _ h1) cl c.ha c.hn c.ht c.hm), by show (if (Value.ref G.C == Value.ref G.C) = true then _ else _) = _; rw [if_pos (by simp)], q _ F1 H1 g (.bl true)⟩
/-- what is known of an exception's class: V the class of all refusals -/
structure ExK (G : Cfg) (V : Addr) (e : Err) (ts : List Err) : Prop where
  c : ExcC G.K (G.ex e)
  m : PySem.W.exmOne G.K (.ref (G.ex e)) (.ref V) = some true
  k : ∀ x : Err, x ∈ ts → PySem.W.kitOne G.K (.ref (G.ex e)) (.ref (G.ex x)) = some (decide (e = x))
  v : PySem.W.kitOne G.K (.ref (G.ex e)) (.type "ValueError") = some true
theorem kit_self {K : PySem.W.Frag} {E : Addr} : PySem.W.kitOne K (.ref E) (.ref E) = some true := by
  show (if (Value.ref E == Value.ref E) = true then _ else _) = _
  rw [if_pos (by simp)]
theorem kit_other {K : PySem.W.Frag} {E Y : Addr} (hd : PySem.W.hasDictIn K Y = true) (ht : PySem.W.typeIn K (.ref Y) = some (.type "type")) (hs : PySem.W.subIn K (.ref E) (.ref Y) = some false) (hE : PySem.W.subIn K (.ref E) (.ref E) = some true) : PySem.W.kitOne K (.ref E) (.ref Y) = some false := by
  have ne : ¬ (Value.ref E == Value.ref Y) = true := fun z => by
    have e : Value.ref E = Value.ref Y := beq_iff_eq.mp z
    rw [← e, hE] at hs
    cases hs
  obtain ⟨cd, hc, _⟩ := PySem.W.any_some hd
  show (if _ then _ else PySem.W.kitCls K _ _) = _
  rw [if_neg ne]
  show (if ((PySem.W.clsIn K Y).isSome && PySem.W.typeIn K (.ref Y) == some (.type "type")) = true then _ else none) = _
  rw [hc, ht, if_pos (by simp), hs]
theorem kit_ve {K : PySem.W.Frag} {E : Addr} (hs : PySem.W.subIn K (.ref E) (.type "ValueError") = some true) : PySem.W.kitOne K (.ref E) (.type "ValueError") = some true := by
  show (if (Value.ref E == Value.type "ValueError") = true then _ else PySem.W.kitCls K _ _) = _
  rw [if_neg (by simp)]
  show (if PySem.W.kitMeta "ValueError" = true then _ else none) = _
  rw [hs]
  exact if_pos (show PySem.W.kitMeta "ValueError" = true by decide +kernel)
def rIsEx (K : PySem.W.Frag) (cls : Value) (d : Option Addr) (a : Addr) : List V → Hp → VK → Prop := fun xs H Q => d = none ∧ ∃ D, cls = .ref D ∧ ExcC K D ∧ rIsE K D a xs H Q
theorem k_isE {X : Cx} {K : PySem.W.Frag} {a : Addr} {cls : Value} {oe : Obj} {d : Option Addr} {pn : List (Addr × Obj)} (hz : Zc cls d oe) (hf : ∃ vs, oe.data = .fields vs) (hK : X.K = K := by rfl) : CallR (X.suite a ((a, oe) :: pn)) (.builtin "isinstance") (rIsEx K cls d a) := by
  subst hK
  intro pins s σ H xs us Q I r h
  obtain ⟨rfl, D, rfl, c, h⟩ := h
  exact call_isE c hz hf pins s σ H xs us Q I r h
section
variable {X : Cx} {G : Cfg} {x m : Str} {k : Nat} {ps : List Str} {R : List D → Res → Prop} {e o : Expr} {es : List Expr} {p pos apos : Pos} {ta : TA} {te : TE} {W : WX}
theorem passS {CX : CXT} (h : CX = CX0 ∨ CX = L2.CX X.prog X.w) (tk : Takes X W) (σ : L2.St) : PassesAt CX X σ (WE W σ) := by
  rcases h with h | h
  · subst h
    exact fun _ _ _ _ _ _ h => h.elim
  · subst h
    exact passAt tk σ
theorem pe_callS' (H : Fn G X.prog X.w X.mg X.base x k ps R) (hr : Room k X.A) (hg : Gl X x) (tk : Takes X W) (ha : PA X (e :: es) ta) (hK : G.K = X.K := by rfl) (hdb : (x == ("__debug__" : Str)) = false := by decide)
    (he : starEach (e :: es) X.env = (false, eval e X.env) :: starEach es X.env := by rfl) (hpl : (backTo pos (starEach es X.env)).any (·.1) = false := by rfl) :
    PE X (.Call (.Name x p) (e :: es) [] pos) (tCallS (mkSp G R) (WE W) ta) := by
  obtain ⟨CX, f, fd, hx, hf, hm, hk, hb⟩ := H.ex
  rw [hK] at hf hk hb
  exact pe_callS hf hr hg hm hk hb (fun σ => passS hx tk σ) ha hdb he hpl
def tMethW (C : Addr) (m : Str) (sp : Sp) (E : L2.St → XK) (ta : TE) (t : TA) : TE := fun σ H Q => ta σ H fun x H1 => ∃ a dx fs, x = .ref a ∧ H1 a = some (.ins C dx fs) ∧ fs.lookup m = none ∧
  t σ H1 fun vs H2 => sp (x :: vs) H2 Q (E σ)
theorem pe_methS' {pl : Sem Bool} (he : PE X o te) (c : Cls G.K G.C) (H : Mt G X.prog X.w X.mg X.base m k ps R) (hr : Room k X.A) (tk : Takes X W) (ha : PA X (e :: es) ta) (hK : G.K = X.K := by rfl)
    (hst : starEach (e :: es) X.env = (false, eval e X.env) :: starEach es X.env := by rfl) (hpl : (backTo pos (starEach es X.env)).any (·.1) = false := by rfl)
    (ht : eval (.Call (.Attribute o m apos) (e :: es) [] pos) X.env = (do
      let ov ← eval o X.env
      standAt apos.atName
      let (f, first) ← holding [ov] (getMethod ov m pl)
      callWith pos f first (backTo pos (starEach (e :: es) X.env)) (backToKw pos (keywordEach [] X.env))) := by rfl) :
    PE X (.Call (.Attribute o m apos) (e :: es) [] pos) (tMethW G.C m (mkSp G R) (WE W) te ta) := by
  obtain ⟨CX, f, fd, hx, hf, hm, hb⟩ := H.ex
  rw [hK] at hf hm hb c
  refine ⟨fun pins s σ H Q I h => ?_⟩
  refine PySem.W.methodCall_KW (pl := pl) (thn (he.run pins s σ H _ I h) fun u s1 ⟨x, H1, I1, rx, a, dx, fs, ex, ea, l, q⟩ => ?_) ht
  subst ex
  obtain rfl : u = Value.ref a := rx
  refine getmeth_ok I1 ea c hm l ?_
  refine PySem.W.callWith_K (first := [.ref a]) (h₀ := X.base) I.ok.mod.kin hm.kp (thn (ha.run pos pins s1 σ H1 _ I1 q) fun us s2 ⟨vs, H2, I2, r, q2⟩ => ⟨I2.kIn, ?_⟩) hst hpl
  exact run_fnS (us := .ref a :: us) (vs := .ref a :: vs) (E := WE W) hf hr hb (passS hx tk σ) I2 (.cons rfl r) q2
def tMakeW (C : Addr) (sp : Sp) (E : L2.St → XK) (t : TA) : TE := fun σ H Q => t σ H fun vs H1 => ∀ x dx, H1 x = none → H1 dx = none → dx ≠ x →
  sp (.ref x :: vs) (upd (upd H1 dx (.own x)) x (.ins C dx [])) (fun v H2 => v = .non ∧ Q (.ref x) H2) (E σ)
theorem run_makeS {CX : CXT} {C f : Addr} {fd : FuncData} {sp : Sp} {E : L2.St → XK} {pins : List (Addr × Obj)} {σ : L2.St} {H : Hp} {s : Shared} {Q : VK} {us : List Value} {vs : List V} (M : Mk X.K C f) (F : FnOk X.prog X.w X.K X.mg X.base CX k f fd ps sp) (hr : Room (k + 1) X.A) (hb : Binds X.K fd ps [])
    (hx : PassesAt CX X σ (E σ)) (I : Inv X pins σ H s) (r : Vals vs us)
    (h : ∀ x dx, H x = none → H dx = none → dx ≠ x → sp (.ref x :: vs) (upd (upd H dx (.own x)) x (.ins C dx [])) (fun v H2 => v = .non ∧ Q (.ref x) H2) (E σ)) :
    wpAny (model X.prog X.w) X.A (call (.ref C) us) (EP X pins σ Q) X.xe s := by
  have hq := h (s.heap.objs.size + 1) s.heap.objs.size (I.hok.fresh (Nat.le_succ _)) (I.hok.fresh (Nat.le_refl _)) (Nat.ne_of_lt (Nat.lt_succ_self _))
  have I2 := Inv.made (C := C) I
  have r2 : Vals (V.ref (s.heap.objs.size + 1) :: vs) (Value.ref (s.heap.objs.size + 1) :: us) := .cons rfl r
  have hl : (Value.ref (s.heap.objs.size + 1) :: us ++ []).length = ps.length := by
    have e := r2.length
    rw [F.len _ _ _ _ hq] at e
    rw [List.append_nil]
    exact e.symm
  have hb2 := hb _ (Value.ref (s.heap.objs.size + 1) :: us) I2.kIn hl
  rw [List.append_nil] at hb2
  refine wpAny_call (make_map (f := f) I.kIn M.makes M.init (beq_iff_eq.mp M.fn) (codeAny_mono (F.run _ X.stack _ _ ⟨Value.ref (s.heap.objs.size + 1) :: us, []⟩ (Value.ref (s.heap.objs.size + 1) :: us) _ _ (E σ) (hr.make C us [])
    (I2.env0.make C us []) hb2 r2 hq) fun r s' hq' => ?_))
  cases r with
  | error e => exact hx pins _ _ e s' I2 hq'
  | ok fl =>
    cases fl with
    | ret u =>
      obtain ⟨v, H', I3, rv, ev, q3⟩ := I2.after hq'
      subst ev
      exact ⟨rv, ⟨V.ref (s.heap.objs.size + 1), H', I3, rfl, q3⟩⟩
    | next => exact False.elim hq'
    | brk => exact False.elim hq'
    | cont => exact False.elim hq'
theorem pe_makeS' (H : Ini G X.prog X.w X.mg X.base k) (hr : Room (k + 1) X.A) (hg : Gl X "Council") (tk : Takes X W) (ha : PA X (e :: es) ta) (hK : G.K = X.K := by rfl)
    (he : starEach (e :: es) X.env = (false, eval e X.env) :: starEach es X.env := by rfl) (hpl : (backTo pos (starEach es X.env)).any (·.1) = false := by rfl) :
    PE X (.Call (.Name "Council" p) (e :: es) [] pos) (tMakeW G.C (spInit G) (WE W) ta) := by
  obtain ⟨CX, f, fd, hx, hf, hm, hc, hb⟩ := H.ex
  rw [hK] at hf hm hb
  refine ⟨fun pins s σ H Q I h => ?_⟩
  refine wpAny_Call_Name_kw (ld_glob I hg hc ?_ (by decide))
  refine PySem.W.callWith_K (h₀ := X.base) I.ok.mod.kin hm.kp (thn (ha.run pos pins s σ H _ I h) fun us s1 ⟨vs, H1, I1, r, q⟩ => ⟨I1.kIn, ?_⟩) he hpl
  exact run_makeS (E := WE W) hm hf hr hb (passS hx tk σ) I1 r q
end
/-! ### the readings -/
theorem evx_is {G : Cfg} {E : XK} {te : TE} {ρ : Rho} {r r' : Res} (h : EvX G E te ρ r) (e : r = r') : EvX G E te ρ r' := e ▸ h

def TryQ (G : Cfg) (W' : WX) (D : Ends) (σ : L2.St) (F H : Hp) : Res → Prop
  | .err e => ∀ F' H', Grow F H F' H' → W' (.ref (G.ex e)) none σ H'
  | .val _ => ∀ F' H', Grow F H F' H' → D.nx σ H'
  | .new _ => ∀ F' H', Grow F H F' H' → D.nx σ H'
  | .trip _ _ _ => ∀ F' H', Grow F H F' H' → D.nx σ H'
def TryB (G : Cfg) (tb : WX → TS) (ρ : Rho) (r : Res) : Prop := ∀ F0 H0 F H σ, REnv G F0 H0 F H σ ρ → ∀ (W' : WX) (D : Ends), TryQ G W' D σ F H r → tb W' D σ H
section
variable {G : Cfg} {ρ : Rho} {ta : TA} {te : TE} {tt : TT} {t u : WX → TS} {r : Res} {b : Bool} {R : List D → Res → Prop} {ds : List D} {n : Int} {told cs : List (List Int)} {m : Str}
theorem Goes.dropped {F H F1 H1 : Hp} {W' : WX} {D : Ends} {σ : L2.St} (g : Grow F H F1 H1) (q : TryQ G W' D σ F H r) : Goes G F1 H1 (fun _ H' => D.nx σ H') (WE W' σ) r := by
  cases r with
  | val d => exact fun _ F' H' g' _ => q F' H' (g.trans g')
  | new ds => exact fun _ _ F' H' g' _ _ _ _ => q F' H' (g.trans g')
  | trip s W b => exact fun _ _ F' H' g' _ _ _ _ _ _ _ => q F' H' (g.trans g')
  | err e => exact fun F' H' g' => q F' H' (g.trans g')
theorem tryb_call (h : EvA G ta ρ ds) (hr : R ds r) : TryB G (fun W => tDrop (tCallS (mkSp G R) (WE W) ta)) ρ r := fun F0 H0 F H σ E W' D q =>
  h F0 H0 F H σ E _ fun vs F1 H1 g rr => ⟨F1, ds, r, g.sub, rr, hr, Goes.dropped g q⟩
theorem tryb_meth (h : EvD G te ρ (.cou n told)) (ha : EvA G ta ρ ds) (hr : R (.cou n told :: ds) r) (h1 : decide (m = "size") = false := by decide +kernel) (h2 : decide (m = "told") = false := by decide +kernel) : TryB G (fun W => tDrop (tMethW G.C m (mkSp G R) (WE W) te ta)) ρ r := fun F0 H0 F H σ E W' D q =>
  h F0 H0 F H σ E _ fun v F1 H1 g r1 => by
  obtain ⟨a, dx, l, vs, rfl, h3, h4, h5⟩ := r1.cou_at
  refine ⟨a, dx, _, rfl, g.sub _ _ h3, lk_no h1 h2, ha F0 H0 F1 H1 σ (E.grow g) _ fun ws F2 H2 g2 r2 => ⟨F2, .cou n told :: ds, r, g2.sub, .cons (.inl (r1.mono g2.ef)) r2, hr, Goes.dropped (g.trans g2) q⟩⟩
theorem tryb_make (h : EvA G ta ρ [.int n, .lst (cs.map eC)]) (hz : cs.length ≤ 10000) : TryB G (fun W => tDrop (tMakeW G.C (spInit G) (WE W) ta)) ρ (couRes n cs) := fun F0 H0 F H σ E W' D q => by
  have := evx_make (G := G) (E := WE W' σ) h hz F0 H0 F H σ E (fun _ H' => D.nx σ H') (Goes.dropped (.refl E.sub) q)
  unfold tMake at this
  simp only [List.append_nil] at this
  exact this
theorem tryb_if (h : EvT G tt ρ b) (h1 : b = true → TryB G t ρ r) (h2 : b = false → TryB G u ρ r) : TryB G (fun W => tIfS tt (t W) (u W)) ρ r := fun F0 H0 F H σ E W' D q =>
  h F0 H0 F H σ E _ fun F1 H1 g => by
  have q' : TryQ G W' D σ F1 H1 r := by
    cases r with
    | val d => exact fun F' H' g' => q F' H' (g.trans g')
    | new ds => exact fun F' H' g' => q F' H' (g.trans g')
    | trip s W b => exact fun F' H' g' => q F' H' (g.trans g')
    | err e => exact fun F' H' g' => q F' H' (g.trans g')
  cases b with
  | true =>
    rw [if_pos rfl]
    exact h1 rfl F0 H0 F1 H1 σ (E.grow g) W' D q'
  | false =>
    rw [if_neg (by decide)]
    exact h2 rfl F0 H0 F1 H1 σ (E.grow g) W' D q'
/-- behind the suite the exception's name is gone -/
def kSuite (k : Ks) (i : Nat) : Ks where
  nx ρ := k.nx (ρ.set i .no)
  rt := k.rt
  bk ρ := k.bk (ρ.set i .no)
  ct ρ := k.ct (ρ.set i .no)
def tTryAs (K : PySem.W.Frag) (c : Value) (i : Nat) (tb : WX → TS) (ts : Addr → Value → Option Addr → TS) (Wout : WX) : TS := fun D σ H => tb (wAs K c i ts Wout D) D σ H
def tTryOnly (K : PySem.W.Frag) (c : Value) (tb : WX → TS) (ts : Addr → Value → Option Addr → TS) (Wout : WX) : TS := fun D σ H => tb (wOnly K c ts Wout D) D σ H
def TryS (G : Cfg) (V : Addr) (k : Ks) (i : Nat) (ts : Addr → Value → Option Addr → TS) (ρ : Rho) : Res → Prop
  | .err e => PySem.W.exmOne G.K (.ref (G.ex e)) (.ref V) = some true ∧ ∀ a, WS G (fun _ _ _ _ => True) (ts a (.ref (G.ex e)) none) (kSuite k i) (ρ.set i (.im (.ptr a)))
  | .val _ => k.nx ρ
  | .new _ => k.nx ρ
  | .trip _ _ _ => k.nx ρ
theorem ws_tryAs {W Wout : WX} {k : Ks} {tb : WX → TS} {ts : Addr → Value → Option Addr → TS} {V : Addr} {i : Nat} (h : TryB G tb ρ r)
    (hm : TryS G V k i ts ρ r) :
    WS G W (tTryAs G.K (.ref V) i tb ts Wout) k ρ := fun F0 H0 F H σ D E K => by
  refine h F0 H0 F H σ E _ D ?_
  cases r with
  | val d => exact fun F' H' g' => K.nx ρ hm F' H' σ g'.ef (E.grow g')
  | new ds => exact fun F' H' g' => K.nx ρ hm F' H' σ g'.ef (E.grow g')
  | trip s W b => exact fun F' H' g' => K.nx ρ hm F' H' σ g'.ef (E.grow g')
  | err e =>
    refine fun F' H' g' => ⟨true, hm.1, fun _ a _ => ?_, fun z => nomatch z⟩
    refine hm.2 a F0 H0 F' H' _ _ ((E.grow g').setIm (.ptr a)) ⟨fun ρ' hn F2 H2 σ2 s2 R2 => K.nx _ hn F2 H2 _ (g'.ef.trans s2) R2.setNo, fun ρ' hn F2 H2 σ2 s2 R2 => K.bk _ hn F2 H2 _ (g'.ef.trans s2) R2.setNo, fun ρ' hn F2 H2 σ2 s2 R2 => K.ct _ hn F2 H2 _ (g'.ef.trans s2) R2.setNo, K.rt, fun _ z => z.elim⟩
theorem ws_tryOnly {W Wout : WX} {k : Ks} {tb : WX → TS} {ts : Addr → Value → Option Addr → TS} {V : Addr} (h : TryB G tb ρ r)
    (hm : match r with | .err e => PySem.W.exmOne G.K (.ref (G.ex e)) (.ref V) = some true ∧ ∀ a, WS G (fun _ _ _ _ => True) (ts a (.ref (G.ex e)) none) { k with er := fun _ => False } ρ | _ => k.nx ρ) :
    WS G W (tTryOnly G.K (.ref V) tb ts Wout) k ρ := fun F0 H0 F H σ D E K => by
  refine h F0 H0 F H σ E _ D ?_
  cases r with
  | val d => exact fun F' H' g' => K.nx ρ hm F' H' σ g'.ef (E.grow g')
  | new ds => exact fun F' H' g' => K.nx ρ hm F' H' σ g'.ef (E.grow g')
  | trip s W b => exact fun F' H' g' => K.nx ρ hm F' H' σ g'.ef (E.grow g')
  | err e =>
    refine fun F' H' g' => ⟨true, hm.1, fun _ a _ => ?_, fun z => nomatch z⟩
    exact hm.2 a F0 H0 F' H' _ _ (E.grow g') ⟨fun ρ' hn F2 H2 σ2 s2 R2 => K.nx _ hn F2 H2 _ (g'.ef.trans s2) R2, fun ρ' hn F2 H2 σ2 s2 R2 => K.bk _ hn F2 H2 _ (g'.ef.trans s2) R2, fun ρ' hn F2 H2 σ2 s2 R2 => K.ct _ hn F2 H2 _ (g'.ef.trans s2) R2, K.rt, fun _ z => z.elim⟩
/-- isinstance(e, x), e in slot i -/
theorem evd_isE {a V : Addr} {e : Err} {x : Err} {ts : List Err} (k : ExK G V e ts) (h : EvD G te ρ (.ptr a)) (hx : x ∈ ts := by decide) : EvD G (tCB (rIsEx G.K (.ref (G.ex e)) none a) (tCons te (tCons (tC (.ref (G.ex x))) tNil))) ρ (.bl (decide (e = x))) := fun F0 H0 F H σ E Q q =>
  h F0 H0 F H σ E _ fun v F1 H1 g r1 => by
    cases r1
    exact ⟨rfl, _, rfl, k.c, .ref (G.ex x), .ref (G.ex x), _, rfl, fun u hu => hu, k.k x hx, q _ F1 H1 g (.bl _)⟩
theorem evd_isEV {a V : Addr} {e : Err} {ts : List Err} (k : ExK G V e ts) (h : EvD G te ρ (.ptr a)) : EvD G (tCB (rIsEx G.K (.ref (G.ex e)) none a) (tCons te (tCons (tC (.ty "ValueError")) tNil))) ρ (.bl true) := fun F0 H0 F H σ E Q q =>
  h F0 H0 F H σ E _ fun v F1 H1 g r1 => by
    cases r1
    exact ⟨rfl, _, rfl, k.c, .ty "ValueError", .type "ValueError", _, rfl, fun u hu => hu, k.v, q _ F1 H1 g (.bl _)⟩
end
section
variable {X : Cx} {K : PySem.W.Frag} {x n : Str} {c : Value} {i : Nat} {body suite : List Stmt} {b₀ : Stmt} {np pos pos' : Pos} {tb : WX → TS} {ts : Addr → Value → Option Addr → TS} {Wout : WX}
theorem ps_tryAs (hs : X.stack = X.env :: X.outer) (hf : X.env.frame = some X.env.locals) (hN : X.N.Nodup) (hi : X.N[i]? = some n) (hln : X.env.kindOf n = some .local) (hc : Names X x c) (tk : Takes X Wout)
    (hb : ∀ (W : WX) (pn : List (Addr × Obj)) (xe : Value → Shared → Prop), Takes (X.tr pn xe) W → PassesOwn (model X.prog X.w) X.A X.env xe → PSs (X.tr pn xe) body (tb W))
    (hsu : ∀ (a : Addr) (oe : Obj) (cls : Value) (d : Option Addr) (pn : List (Addr × Obj)), Zc cls d oe → (∃ vs, oe.data = .fields vs) → PSs (X.suite a ((a, oe) :: pn)) (b₀ :: suite) (ts a cls d)) (hK : X.K = K := by rfl) :
    PS X (.Try body [.ExceptHandler (some (.Name x np)) (some n) (b₀ :: suite) pos'] [] [] pos) (tTryAs K c i tb ts Wout) := by
  subst hK
  exact ps_try_as hs hf hN hi hln hc tk hb hsu
theorem ps_tryOnly (hs : X.stack = X.env :: X.outer) (hf : X.env.frame = some X.env.locals) (hc : Names X x c) (tk : Takes X Wout)
    (hb : ∀ (W : WX) (pn : List (Addr × Obj)) (xe : Value → Shared → Prop), Takes (X.tr pn xe) W → PassesOwn (model X.prog X.w) X.A X.env xe → PSs (X.tr pn xe) body (tb W))
    (hsu : ∀ (a : Addr) (oe : Obj) (cls : Value) (d : Option Addr) (pn : List (Addr × Obj)), Zc cls d oe → (∃ vs, oe.data = .fields vs) → PSs (X.suite a ((a, oe) :: pn)) (b₀ :: suite) (ts a cls d)) (hK : X.K = K := by rfl) :
    PS X (.Try body [.ExceptHandler (some (.Name x np)) none (b₀ :: suite) pos'] [] [] pos) (tTryOnly K c tb ts Wout) := by
  subst hK
  exact ps_try_only hs hf hc tk hb hsu
end
end Vw

/-! councils made of others, or told by weights -/
namespace Vw
def Mono (n : Nat) (P : Crowd → Bool) : Prop := ∀ c ∈ crowdsOf n, ∀ d ∈ crowdsOf n, liesIn c d = true → P c = true → P d = true
theorem bears_filter {n : Nat} {P : Crowd → Bool} (hP : Mono n P) {c : Crowd} (hc : c ∈ crowdsOf n) : bears ((crowdsOf n).filter P) c = P c := by
  cases h : P c with
  | true => exact List.any_eq_true.mpr ⟨c, List.mem_filter.mpr ⟨hc, h⟩, liesIn_refl c⟩
  | false =>
    refine List.any_eq_false.mpr fun t ht hl => ?_
    obtain ⟨h1, h2⟩ := List.mem_filter.mp ht
    rw [hP t h1 c hc hl h2] at h
    cases h
theorem mono_bears (n : Nat) (told : List Crowd) : Mono n (bears told) := fun c _ d _ hl h => bears_mono h hl
theorem bears_append (a b : List Crowd) (c : Crowd) : bears (a ++ b) c = (bears a c || bears b c) := List.any_append ..
theorem bears_least {n : Nat} (hn : n ≤ 5) {told : List Crowd} {c : Crowd} (hc : c ∈ crowdsOf n) : bears (least n told) c = bears told c := by
  rw [least_eq hn]
  cases h : bears told c with
  | true =>
    obtain ⟨i, hi⟩ := List.getElem?_of_mem hc
    obtain ⟨j, d, _, hd, hm, hl⟩ := least_below hn i c hi h
    exact List.any_eq_true.mpr ⟨d, List.mem_filter.mpr ⟨List.mem_of_getElem? hd, hm⟩, hl⟩
  | false =>
    refine List.any_eq_false.mpr fun t ht hl => ?_
    have := (isLeast_iff.mp (List.mem_filter.mp ht).2).1
    rw [bears_mono this hl] at h
    cases h
/-- all crowds of n are listed -/
theorem all_crowds' : ∀ n < 6, ∀ x < 32, bits ((x : Nat) : Int) n ∈ crowdsOf n := by decide +kernel
theorem sub_sorted {a b : List Int} (ha : a.Pairwise (· < ·)) (hb : b.Pairwise (· < ·)) (h : ∀ k ∈ a, k ∈ b) : a.Sublist b := by
  induction b generalizing a with
  | nil =>
    cases a with
    | nil => exact .slnil
    | cons x a => exact absurd (h x (List.mem_cons_self ..)) (by simp)
  | cons y b ih =>
    cases a with
    | nil => exact List.nil_sublist _
    | cons x a =>
      have hb' := List.pairwise_cons.mp hb
      have ha' := List.pairwise_cons.mp ha
      by_cases e : x = y
      · subst e
        refine List.Sublist.cons_cons x (ih ha'.2 hb'.2 fun k hk => ?_)
        rcases List.mem_cons.mp (h k (List.mem_cons_of_mem _ hk)) with q | q
        · have := ha'.1 k hk
          omega
        · exact q
      · have hx : x ∈ b := by
          rcases List.mem_cons.mp (h x (List.mem_cons_self ..)) with q | q
          · exact absurd q e
          · exact q
        have hy := hb'.1 x hx
        refine List.Sublist.cons y (ih ha hb'.2 fun k hk => ?_)
        rcases List.mem_cons.mp (h k hk) with q | q
        · rcases List.mem_cons.mp hk with q2 | q2
          · omega
          · have := ha'.1 k q2
            omega
        · exact q
def allSubs : List Int → List (List Int)
  | [] => [[]]
  | x :: l => allSubs l ++ (allSubs l).map fun s => x :: s
theorem mem_allSubs {l s : List Int} (h : s.Sublist l) : s ∈ allSubs l := by
  induction h with
  | slnil => exact List.mem_singleton.mpr rfl
  | cons a _ ih => exact List.mem_append.mpr (.inl ih)
  | cons_cons a _ ih => exact List.mem_append.mpr (.inr (List.mem_map.mpr ⟨_, ih, rfl⟩))
theorem allSubs_crowds : ∀ n < 6, ∀ s ∈ allSubs (rng n), s ∈ crowdsOf n := by decide +kernel
theorem rng_sorted (n : Nat) : (rng n).Pairwise (· < ·) := by
  unfold rng
  refine List.Pairwise.map _ (fun a b h => ?_) List.pairwise_lt_range
  show (a : Int) < (b : Int)
  omega
theorem mem_rng_iff {n : Nat} {k : Int} : k ∈ rng n ↔ 0 ≤ k ∧ k < n := by
  unfold rng
  rw [List.mem_map]
  constructor
  · rintro ⟨m, hm, rfl⟩
    have := List.mem_range.mp hm
    omega
  · rintro ⟨h0, h1⟩
    exact ⟨k.toNat, List.mem_range.mpr (by omega), by omega⟩
theorem crowd_listed {n : Nat} (hn : n ≤ 5) {c : Crowd} (h : crowdOk (n : Int) c = true) : c ∈ crowdsOf n := by
  obtain ⟨h1, h2⟩ := crowdOk_iff.mp h
  exact allSubs_crowds n (by omega) c (mem_allSubs (sub_sorted h1 (rng_sorted n) fun k hk => mem_rng_iff.mpr (h2 k hk)))
/-! ### weights -/
def byCrowds (ws : List Int) (bar : Int) : List Crowd := (crowdsOf ws.length).filter fun c => decide (bar ≤ weigh ws c)
def byWeights (ws : List Int) (bar : Int) : Res := if ws.length < 1 ∨ ws.length > 5 then .err .size else if bar < 0 ∨ (ws.any fun x => decide (x < 0)) = true then .err .weights else .val (.cou ws.length (byCrowds ws bar))
theorem ex_min : ∀ {ws : List Int}, ws ≠ [] → ∃ m ∈ ws, ∀ y ∈ ws, m ≤ y
  | [], h => absurd rfl h
  | [x], _ => ⟨x, List.mem_cons_self .., fun y hy => by simp at hy; omega⟩
  | x :: z :: ws, _ => by
    obtain ⟨m, h1, h2⟩ := ex_min (ws := z :: ws) (by simp)
    by_cases q : x ≤ m
    · exact ⟨x, List.mem_cons_self .., fun y hy => by
        rcases List.mem_cons.mp hy with e | e
        · omega
        · have := h2 y e
          omega⟩
    · exact ⟨m, List.mem_cons_of_mem _ h1, fun y hy => by
        rcases List.mem_cons.mp hy with e | e
        · omega
        · exact h2 y e⟩
theorem min_neg {ws : List Int} {m : Int} (h1 : m ∈ ws) (h2 : ∀ y ∈ ws, m ≤ y) : decide (m < 0) = ws.any fun x => decide (x < 0) := by
  rw [Bool.eq_iff_iff, List.any_eq_true]
  constructor
  · intro h
    exact ⟨m, h1, h⟩
  · rintro ⟨x, hx, h⟩
    have := h2 x hx
    have h' := of_decide_eq_true h
    exact decide_eq_true (by omega)
theorem getD_nonneg {ws : List Int} (h : ∀ x ∈ ws, 0 ≤ x) (i : Nat) : 0 ≤ ws.getD i 0 := by
  rw [List.getD_eq_getElem?_getD]
  cases q : ws[i]? with
  | none => exact Int.le_refl 0
  | some x => exact h x (List.mem_of_getElem? q)
theorem weigh_sub {ws : List Int} (h : ∀ x ∈ ws, 0 ≤ x) {a b : Crowd} (hs : a.Sublist b) : weigh ws a ≤ weigh ws b := by
  unfold weigh
  induction hs with
  | slnil => exact Int.le_refl _
  | cons x _ ih =>
    rw [List.map_cons, List.sum_cons]
    have := getD_nonneg h x.toNat
    omega
  | cons_cons x _ ih =>
    rw [List.map_cons, List.map_cons, List.sum_cons, List.sum_cons]
    omega
theorem cs_sorted {n : Nat} (hn : n ≤ 5) {c : Crowd} (h : c ∈ crowdsOf n) : c.Pairwise (· < ·) := (crowdOk_iff.mp (cs_good hn h).1).1
theorem mono_weigh {n : Nat} (hn : n ≤ 5) {ws : List Int} (h : ∀ x ∈ ws, 0 ≤ x) (bar : Int) : Mono n fun c => decide (bar ≤ weigh ws c) := fun c hc d hd hl hw => by
  have := weigh_sub h (sub_sorted (cs_sorted hn hc) (cs_sorted hn hd) (liesIn_iff.mp hl))
  have hw' := of_decide_eq_true hw
  exact decide_eq_true (by omega)
theorem by_good {ws : List Int} {bar : Int} (h5 : ws.length ≤ 5) : ∀ c ∈ byCrowds ws bar, crowdOk (ws.length : Int) c = true := fun c hc => (cs_good h5 (List.mem_filter.mp hc).1).1
theorem byCrowds_len {ws : List Int} {bar : Int} (h5 : ws.length ≤ 5) : (byCrowds ws bar).length ≤ 32 := Nat.le_trans (List.length_filter_le _ _) (crowdsOf_len h5)
/-! ### both, either, turned, without -/
def bothOf (n : Nat) (a b : List Crowd) : List Crowd := (crowdsOf n).filter fun c => bears a c && bears b c
def eitherOf (n : Nat) (a b : List Crowd) : List Crowd := least n a ++ least n b
def lessThem (c gone : Crowd) : Crowd := c.filter fun m => !decide (m ∈ gone)
def turnedOf (n : Nat) (told : List Crowd) : List Crowd := (crowdsOf n).filter fun c => !bears told (lessThem (rng n) c)
theorem bears_both {n : Nat} {a b : List Crowd} {c : Crowd} (hc : c ∈ crowdsOf n) : bears (bothOf n a b) c = (bears a c && bears b c) :=
  bears_filter (fun c _ d _ hl h => by
    rw [Bool.and_eq_true] at h ⊢
    exact ⟨bears_mono h.1 hl, bears_mono h.2 hl⟩) hc
theorem bears_either {n : Nat} (hn : n ≤ 5) {a b : List Crowd} {c : Crowd} (hc : c ∈ crowdsOf n) : bears (eitherOf n a b) c = (bears a c || bears b c) := by
  unfold eitherOf
  rw [bears_append, bears_least hn hc, bears_least hn hc]
theorem less_mem {c gone : Crowd} {k : Int} : k ∈ lessThem c gone ↔ k ∈ c ∧ k ∉ gone := by
  unfold lessThem
  rw [List.mem_filter]
  simp
theorem less_ok {n : Nat} (c : Crowd) : crowdOk (n : Int) (lessThem (rng n) c) = true := crowdOk_iff.mpr ⟨(rng_sorted n).filter _, fun m hm => mem_rng_iff.mp (less_mem.mp hm).1⟩
theorem less_len {n : Nat} (c : Crowd) : (lessThem (rng n) c).length ≤ n := by
  have := List.length_filter_le (fun m => !decide (m ∈ c)) (rng n)
  unfold lessThem
  simp [rng] at *
  exact this
theorem bears_turned {n : Nat} {told : List Crowd} {c : Crowd} (hc : c ∈ crowdsOf n) : bears (turnedOf n told) c = !bears told (lessThem (rng n) c) :=
  bears_filter (P := fun c => !bears told (lessThem (rng n) c)) (fun c _ d _ hl h => by
    rw [Bool.not_eq_true'] at h ⊢
    cases q : bears told (lessThem (rng n) d) with
    | false => rfl
    | true =>
      rw [bears_mono q (d := lessThem (rng n) c) (liesIn_iff.mpr fun m hm => by
        have := less_mem.mp hm
        exact less_mem.mpr ⟨this.1, fun z => this.2 (liesIn_iff.mp hl m z)⟩)] at h
      cases h) hc
theorem both_len {n : Nat} (hn : n ≤ 5) (a b : List Crowd) : (bothOf n a b).length ≤ 32 := Nat.le_trans (List.length_filter_le _ _) (crowdsOf_len hn)
theorem turned_len {n : Nat} (hn : n ≤ 5) (a : List Crowd) : (turnedOf n a).length ≤ 32 := Nat.le_trans (List.length_filter_le _ _) (crowdsOf_len hn)
theorem either_len {n : Nat} (hn : n ≤ 5) (a b : List Crowd) : (eitherOf n a b).length ≤ 64 := by
  unfold eitherOf
  have h1 := least_len hn a
  have h2 := least_len hn b
  rw [List.length_append]
  omega
theorem filter_good {n : Nat} (hn : n ≤ 5) (P : Crowd → Bool) : ∀ c ∈ (crowdsOf n).filter P, crowdOk (n : Int) c = true := fun c hc => (cs_good hn (List.mem_filter.mp hc).1).1
theorem least_good {n : Nat} (hn : n ≤ 5) (told : List Crowd) : ∀ c ∈ least n told, c ∈ crowdsOf n := fun c hc => by
  rw [least_eq hn] at hc
  exact (List.mem_filter.mp hc).1
theorem either_good {n : Nat} (hn : n ≤ 5) (a b : List Crowd) : ∀ c ∈ eitherOf n a b, crowdOk (n : Int) c = true := fun c hc => by
  rcases List.mem_append.mp hc with h | h
  · exact (cs_good hn (least_good hn _ c h)).1
  · exact (cs_good hn (least_good hn _ c h)).1
/-- a member leaves -/
def elder0 (m : Int) (c : Crowd) : Crowd := c.map fun one => one + if one ≥ m then 1 else 0
def elder (m : Int) (carried : Bool) (c : Crowd) : Crowd := if carried = true then withThem (elder0 m c) [m] else elder0 m c
def withoutOf (n : Nat) (told : List Crowd) (m : Int) (carried : Bool) : List Crowd := (crowdsOf (n - 1)).filter fun c => bears told (elder m carried c)
theorem elder0_sorted {m : Int} {c : Crowd} (h : c.Pairwise (· < ·)) : (elder0 m c).Pairwise (· < ·) := by
  unfold elder0
  refine List.Pairwise.map _ (fun a b hab => ?_) h
  show a + _ < b + _
  split <;> split <;> omega
theorem elder0_mem {m k : Int} {c : Crowd} : k ∈ elder0 m c ↔ ∃ one ∈ c, k = one + if one ≥ m then 1 else 0 := by
  unfold elder0
  rw [List.mem_map]
  constructor
  · rintro ⟨a, h1, h2⟩
    exact ⟨a, h1, h2.symm⟩
  · rintro ⟨a, h1, h2⟩
    exact ⟨a, h1, h2.symm⟩
theorem elder0_not {m : Int} (c : Crowd) : m ∉ elder0 m c := fun h => by
  obtain ⟨one, _, e⟩ := elder0_mem.mp h
  split at e <;> omega
theorem elder0_ok {n : Nat} (h1 : 1 ≤ n) {m : Int} {c : Crowd} (hc : crowdOk ((n - 1 : Nat) : Int) c = true) (hm : 0 ≤ m ∧ m < n) : crowdOk (n : Int) (elder0 m c) = true := by
  obtain ⟨p, q⟩ := crowdOk_iff.mp hc
  refine crowdOk_iff.mpr ⟨elder0_sorted p, fun k hk => ?_⟩
  obtain ⟨one, ho, rfl⟩ := elder0_mem.mp hk
  have := q one ho
  split <;> omega
theorem elder_ok {n : Nat} (h1 : 1 ≤ n) {m : Int} {c : Crowd} (carried : Bool) (hc : crowdOk ((n - 1 : Nat) : Int) c = true) (hm : 0 ≤ m ∧ m < n) : crowdOk (n : Int) (elder m carried c) = true := by
  unfold elder
  split
  · exact with_ok (elder0_ok h1 hc hm) hm.1 hm.2
  · exact elder0_ok h1 hc hm
theorem elder_in {m : Int} {carried : Bool} {c d : Crowd} (h : liesIn c d = true) : liesIn (elder m carried c) (elder m carried d) = true := by
  have h0 : liesIn (elder0 m c) (elder0 m d) = true := liesIn_iff.mpr fun k hk => by
    obtain ⟨one, ho, e⟩ := elder0_mem.mp hk
    exact elder0_mem.mpr ⟨one, liesIn_iff.mp h one ho, e⟩
  unfold elder
  split
  · refine liesIn_iff.mpr fun k hk => ?_
    rcases withThem_mem.mp hk with q | q
    · exact withThem_mem.mpr (.inl (liesIn_iff.mp h0 k q))
    · exact withThem_mem.mpr (.inr q)
  · exact h0
theorem bears_without {n : Nat} {told : List Crowd} {m : Int} {carried : Bool} {c : Crowd} (hc : c ∈ crowdsOf (n - 1)) : bears (withoutOf n told m carried) c = bears told (elder m carried c) :=
  bears_filter (P := fun c => bears told (elder m carried c)) (fun c _ d _ hl h => bears_mono h (elder_in hl)) hc
theorem without_len {n : Nat} (hn : n ≤ 5) (told : List Crowd) (m : Int) (carried : Bool) : (withoutOf n told m carried).length ≤ 32 := Nat.le_trans (List.length_filter_le _ _) (crowdsOf_len (by omega))
/-! ### flags -/
def flagsBy (xs : List Err) (e : Err) : List Bool := (xs.map fun x => decide (e = x)) ++ [true]
end Vw

/-! powers as a whole -/
namespace Vw
theorem bears_ext {told : List Crowd} {c d : Crowd} (h : ∀ k, k ∈ c ↔ k ∈ d) : bears told c = bears told d := by
  cases q : bears told c with
  | true => exact (bears_sub q fun k hk => (h k).mp hk).symm
  | false =>
    cases q2 : bears told d with
    | false => rfl
    | true =>
      rw [bears_sub q2 fun k hk => (h k).mpr hk] at q
      cases q
theorem sum_subset {α : Type} [DecidableEq α] (w : α → Nat) : ∀ {A B : List α}, A.Nodup → (∀ x ∈ A, x ∈ B) → (A.map w).sum ≤ (B.map w).sum
  | [], _, _, _ => Nat.zero_le _
  | x :: A, B, nd, h => by
    have nd' := List.nodup_cons.mp nd
    have hx := h x (List.mem_cons_self ..)
    have hp : (B.map w).sum = w x + ((B.erase x).map w).sum := by
      have := ((List.perm_cons_erase hx).map w).sum_nat
      rw [List.map_cons, List.sum_cons] at this
      exact this
    have ih := sum_subset w (A := A) (B := B.erase x) nd'.2 fun y hy => by
      have hne : y ≠ x := fun e => nd'.1 (e ▸ hy)
      exact (List.mem_erase_of_ne hne).mpr (h y (List.mem_cons_of_mem _ hy))
    rw [List.map_cons, List.sum_cons, hp]
    omega
theorem inj_le {A B : List Crowd} (f : Crowd → Crowd) (w : Crowd → Nat) (hA : A.Nodup) (hi : ∀ x ∈ A, ∀ y ∈ A, f x = f y → x = y) (hm : ∀ x ∈ A, f x ∈ B) (hw : ∀ x ∈ A, w (f x) = w x) : (A.map w).sum ≤ (B.map w).sum := by
  have e : A.map w = (A.map f).map w := by
    rw [List.map_map]
    exact List.map_congr_left fun x hx => (hw x hx).symm
  rw [e]
  refine sum_subset w ?_ fun x hx => ?_
  · exact List.pairwise_map.mpr (hA.imp_of_mem fun {x y} hx hy hne e => hne (hi x hx y hy e))
  · obtain ⟨y, hy, rfl⟩ := List.mem_map.mp hx
    exact hm y hy
def wOf (n : Nat) (c : Crowd) : Nat := fact c.length * fact (n - 1 - c.length)
theorem topOf_eq (n : Nat) (told : List Crowd) (m : Int) : topOf n told m = ((swingsOf n told m).map (wOf n)).sum := rfl
theorem len_sum (l : List Crowd) : l.length = (l.map fun _ => 1).sum := by
  induction l with
  | nil => rfl
  | cons x l ih =>
    rw [List.length_cons, List.map_cons, List.sum_cons, ih]
    omega
theorem swings_nodup {n : Nat} (hn : n ≤ 5) (told : List Crowd) (m : Int) : (swingsOf n told m).Nodup := (crowdsOf_nodup n (by omega)).filter _
theorem mem_swings {n : Nat} {told : List Crowd} {m : Int} {c : Crowd} : c ∈ swingsOf n told m ↔ c ∈ crowdsOf n ∧ m ∉ c ∧ bears told c = false ∧ bears told (withThem c [m]) = true := by
  unfold swingsOf swings1
  rw [List.mem_filter]
  simp
/-! ### all powers together -/
theorem sways_none {told : List Crowd} : ∀ {xs ahead : List Int}, bears told (sortU ahead) = true → swaysAux told ahead xs = none
  | [], _, _ => rfl
  | x :: xs, ahead, h => by
    unfold swaysAux
    rw [if_neg (by unfold swing; rw [h]; simp)]
    exact sways_none (bears_sub h fun k hk => by rw [sortU_mem] at hk ⊢; simp [hk])
theorem sways_some {told : List Crowd} : ∀ {xs ahead : List Int}, bears told (sortU ahead) = false → (swaysAux told ahead xs).isSome = bears told (sortU (ahead ++ xs))
  | [], ahead, h => by
    rw [List.append_nil, h]
    rfl
  | x :: xs, ahead, h => by
    have e : bears told (withThem (sortU ahead) [x]) = bears told (sortU (ahead ++ [x])) := bears_ext fun k => by
      rw [withThem_mem, sortU_mem, sortU_mem, List.mem_append]
    unfold swaysAux
    cases q : bears told (sortU (ahead ++ [x])) with
    | true =>
      rw [if_pos (by unfold swing; rw [h, e, q]; rfl)]
      exact (bears_sub q fun k hk => by rw [sortU_mem] at hk ⊢; simp at hk ⊢; rcases hk with hk | hk <;> simp [hk]).symm
    | false =>
      rw [if_neg (by unfold swing; rw [e, q]; simp), sways_some (ahead := ahead ++ [x]) q]
      simp
theorem count_sum (n : Nat) : ∀ L : List (Option Int), (∀ x, some x ∈ L → x ∈ rng n) → ((List.range n).map fun (m : Nat) => L.count (some (m : Int))).sum = L.countP fun o => o.isSome
  | [], _ => by
    have : ∀ l : List Nat, (l.map fun (m : Nat) => ([] : List (Option Int)).count (some (m : Int))).sum = 0 := fun l => by
      induction l with
      | nil => rfl
      | cons a l ih => rw [List.map_cons, List.sum_cons, ih]; rfl
    rw [this]
    rfl
  | o :: L, h => by
    have ih := count_sum n L fun x hx => h x (List.mem_cons_of_mem _ hx)
    cases o with
    | none =>
      have e : ((List.range n).map fun (m : Nat) => (none :: L).count (some (m : Int))) = (List.range n).map fun (m : Nat) => L.count (some (m : Int)) := List.map_congr_left fun m _ => by rw [List.count_cons]; simp
      rw [e, ih, List.countP_cons]
      simp
    | some x =>
      have hx := mem_rng_iff.mp (h x (List.mem_cons_self ..))
      obtain ⟨z, rfl⟩ : ∃ z : Nat, (z : Int) = x := ⟨x.toNat, by omega⟩
      have hz : z < n := by omega
      have go : ∀ (l : List Nat), l.Nodup → (l.map fun (m : Nat) => (some (z : Int) :: L).count (some (m : Int))).sum = (l.map fun (m : Nat) => L.count (some (m : Int))).sum + if z ∈ l then 1 else 0 := by
        intro l
        induction l with
        | nil => intro _; rfl
        | cons a l ihl =>
          intro nd
          have nd' := List.nodup_cons.mp nd
          rw [List.map_cons, List.map_cons, List.sum_cons, List.sum_cons, ihl nd'.2, List.count_cons]
          by_cases q : z = a
          · subst q
            simp [nd'.1]
            omega
          · have q2 : ¬ (z : Int) = (a : Int) := by omega
            simp [q, q2]
            omega
      rw [go _ List.nodup_range, ih, List.countP_cons, if_pos (List.mem_range.mpr hz)]
      simp
theorem sum_tops {n : Nat} (hn : n ≤ 5) (told : List Crowd) : ((List.range n).map fun (m : Nat) => topOf n told m).sum = if bears told (rng n) = true ∧ bears told [] = false then fact n else 0 := by
  have e : ((List.range n).map fun (m : Nat) => topOf n told m) = (List.range n).map fun (m : Nat) => ((ordersOf n (rng n)).map (swaysOf told)).count (some (m : Int)) := List.map_congr_left fun m hm => (sways_count hn told (List.mem_range.mp hm)).symm
  rw [e, count_sum n _ fun x hx => by
    obtain ⟨o, ho, hs⟩ := List.mem_map.mp hx
    have := swaysAux_mem hs
    rw [← (orders_mem n (by omega) o ho).1, sortU_mem]
    exact this]
  rw [List.countP_map]
  by_cases h0 : bears told [] = true
  · rw [if_neg (by rw [h0]; simp)]
    refine List.countP_eq_zero.mpr fun o _ => ?_
    show ¬ (swaysAux told [] o).isSome = true
    rw [sways_none (show bears told (sortU []) = true from h0)]
    decide
  · have h0' : bears told [] = false := by
      cases q : bears told [] with
      | true => exact absurd q h0
      | false => rfl
    have hs : ∀ o ∈ ordersOf n (rng n), (swaysAux told [] o).isSome = bears told (rng n) := fun o ho => by
      rw [sways_some (show bears told (sortU []) = false from h0'), List.nil_append, (orders_mem n (by omega) o ho).1]
    cases q : bears told (rng n) with
    | true =>
      rw [if_pos ⟨rfl, h0'⟩, ← orders_len n (by omega)]
      refine List.countP_eq_length.mpr fun o ho => ?_
      show (swaysAux told [] o).isSome = true
      rw [hs o ho, q]
    | false =>
      rw [if_neg (by simp)]
      refine List.countP_eq_zero.mpr fun o ho => ?_
      show ¬ (swaysAux told [] o).isSome = true
      rw [hs o ho, q]
      decide
/-! ### a member who can do all that another one can -/
def swapAB (a b : Int) (c : Crowd) : Crowd := if a ∈ c then withThem (lessThem c [a]) [b] else c
def swapOk (n : Nat) (a b : Int) (c : Crowd) : Bool :=
  decide (swapAB a b c ∈ crowdsOf n) && (decide (a ∉ swapAB a b c) && (decide ((swapAB a b c).length = c.length) && (decide (withThem (swapAB a b c) [a] = withThem c [b]) &&
    (decide (lessThem c [a] ∈ crowdsOf n) && (decide (a ∉ lessThem c [a]) && (decide (b ∉ lessThem c [a]) && (decide (withThem (lessThem c [a]) [a] = c) && (decide (b ∈ swapAB a b c) && decide (swapAB b a (swapAB a b c) = c)))))))))
theorem swap_all : ∀ n < 6, ∀ a < n, ∀ b < n, ∀ c ∈ crowdsOf n, (decide (a = b) || (decide ((b : Int) ∈ c) || (!decide ((a : Int) ∈ c) || swapOk n a b c))) = true := by decide +kernel
theorem swap_facts (n : Nat) (hn : n < 6) (a : Nat) (ha : a < n) (b : Nat) (hb : b < n) (c : Crowd) (hc : c ∈ crowdsOf n) (hab : a ≠ b) (hbc : (b : Int) ∉ c) (hac : (a : Int) ∈ c) :
    swapAB a b c ∈ crowdsOf n ∧ (a : Int) ∉ swapAB a b c ∧ (swapAB a b c).length = c.length ∧ withThem (swapAB a b c) [(a : Int)] = withThem c [(b : Int)] ∧
    lessThem c [(a : Int)] ∈ crowdsOf n ∧ (a : Int) ∉ lessThem c [(a : Int)] ∧ (b : Int) ∉ lessThem c [(a : Int)] ∧ withThem (lessThem c [(a : Int)]) [(a : Int)] = c ∧ (b : Int) ∈ swapAB a b c ∧ swapAB b a (swapAB a b c) = c := by
  have h := swap_all n hn a ha b hb c hc
  rw [decide_eq_false hab, decide_eq_false hbc, decide_eq_true hac, Bool.false_or, Bool.false_or, Bool.not_true, Bool.false_or] at h
  unfold swapOk at h
  simpa only [Bool.and_eq_true, decide_eq_true_eq] using h
theorem can_step {n : Nat} {told : List Crowd} {a b : Int} (h : canAll n told a b = true) {c : Crowd} (hc : c ∈ crowdsOf n) (ha : a ∉ c) (hb : b ∉ c) (hw : bears told (withThem c [b]) = true) : bears told (withThem c [a]) = true := by
  have := List.all_eq_true.mp h c hc
  unfold canStep at this
  rw [hw] at this
  simp [ha, hb] at this
  exact this
theorem can_sums {n : Nat} (hn : n ≤ 5) {told : List Crowd} {a b : Nat} (ha : a < n) (hb : b < n) (h : canAll n told a b = true) (w : Crowd → Nat) (hw : ∀ c d : Crowd, c.length = d.length → w c = w d) : ((swingsOf n told b).map w).sum ≤ ((swingsOf n told a).map w).sum := by
  by_cases hab : a = b
  · rw [hab]
    exact Nat.le_refl _
  have key : ∀ c ∈ swingsOf n told b, swapAB a b c ∈ swingsOf n told a ∧ (swapAB a b c).length = c.length ∧ ((a : Int) ∈ c → (b : Int) ∈ swapAB a b c ∧ swapAB b a (swapAB a b c) = c) := fun c hc => by
    obtain ⟨c1, c2, c3, c4⟩ := mem_swings.mp hc
    by_cases q : (a : Int) ∈ c
    · obtain ⟨f1, f2, f3, f4, f5, f6, f7, f8, f9, f10⟩ := swap_facts n (by omega) a ha b hb c c1 hab c2 q
      refine ⟨mem_swings.mpr ⟨f1, f2, ?_, by rw [f4]; exact c4⟩, f3, fun _ => ⟨f9, f10⟩⟩
      cases z : bears told (swapAB a b c) with
      | false => rfl
      | true =>
        have e : swapAB a b c = withThem (lessThem c [(a : Int)]) [(b : Int)] := by unfold swapAB; rw [if_pos q]
        rw [e] at z
        have := can_step h f5 f6 f7 z
        rw [f8, c3] at this
        cases this
    · have e : swapAB a b c = c := by unfold swapAB; rw [if_neg q]
      rw [e]
      exact ⟨mem_swings.mpr ⟨c1, q, c3, can_step h c1 q c2 c4⟩, rfl, fun z => absurd z q⟩
  refine inj_le (swapAB a b) w (swings_nodup hn told b) (fun x hx y hy e => ?_) (fun x hx => (key x hx).1) (fun x hx => hw _ _ (key x hx).2.1)
  have bx := (mem_swings.mp hx).2.1
  have by_ := (mem_swings.mp hy).2.1
  by_cases qx : (a : Int) ∈ x
  · by_cases qy : (a : Int) ∈ y
    · rw [← ((key x hx).2.2 qx).2, ← ((key y hy).2.2 qy).2, e]
    · have ey : swapAB a b y = y := by unfold swapAB; rw [if_neg qy]
      have := ((key x hx).2.2 qx).1
      rw [e, ey] at this
      exact absurd this by_
  · have ex : swapAB a b x = x := by unfold swapAB; rw [if_neg qx]
    by_cases qy : (a : Int) ∈ y
    · have := ((key y hy).2.2 qy).1
      rw [← e, ex] at this
      exact absurd this bx
    · have ey : swapAB a b y = y := by unfold swapAB; rw [if_neg qy]
      rw [ex, ey] at e
      exact e
theorem can_top {n : Nat} (hn : n ≤ 5) {told : List Crowd} {a b : Nat} (ha : a < n) (hb : b < n) (h : canAll n told a b = true) : topOf n told b ≤ topOf n told a :=
  can_sums hn ha hb h (wOf n) fun c d e => by unfold wOf; rw [e]
theorem can_swings {n : Nat} (hn : n ≤ 5) {told : List Crowd} {a b : Nat} (ha : a < n) (hb : b < n) (h : canAll n told a b = true) : (swingsOf n told b).length ≤ (swingsOf n told a).length := by
  rw [len_sum, len_sum (swingsOf n told a)]
  exact can_sums hn ha hb h (fun _ => 1) fun _ _ _ => rfl
/-! ### idle members -/
theorem with_listed {n : Nat} (hn : n ≤ 5) {c : Crowd} {m : Nat} (hc : c ∈ crowdsOf n) (hm : m < n) : withThem c [(m : Int)] ∈ crowdsOf n := crowd_listed hn (with_ok (cs_good hn hc).1 (by omega) (by omega))
theorem idle_swings {n : Nat} (hn : n ≤ 5) {told : List Crowd} {m : Nat} (hm : m < n) (h : isIdle n told m = true) : swingsOf n told m = [] := by
  refine List.eq_nil_iff_forall_not_mem.mpr fun c hc => ?_
  obtain ⟨c1, c2, c3, c4⟩ := mem_swings.mp hc
  obtain ⟨i, hi⟩ := List.getElem?_of_mem (with_listed hn c1 hm)
  obtain ⟨j, d, _, hd, hl, hin⟩ := least_below hn i _ hi c4
  have hdl : d ∈ least n told := by rw [least_eq hn]; exact List.mem_filter.mpr ⟨List.mem_of_getElem? hd, hl⟩
  have hnd : (m : Int) ∉ d := fun z => by
    unfold isIdle at h
    have : d ∈ (least n told).filter fun c => decide ((m : Int) ∈ c) := List.mem_filter.mpr ⟨hdl, by simpa using z⟩
    cases q : (least n told).filter fun c => decide ((m : Int) ∈ c) with
    | nil => rw [q] at this; cases this
    | cons x l => rw [q] at h; cases h
  have hb := (isLeast_iff.mp hl).1
  rw [bears_sub hb fun k hk => by
    rcases withThem_mem.mp (liesIn_iff.mp hin k hk) with q | q
    · exact q
    · have : k = (m : Int) := by simpa using q
      subst this
      exact absurd hk hnd] at c3
  cases c3
theorem lowest_nought {b : Nat} (hb : 0 < b) : lowestOf 0 b = (0, 1) := by
  unfold lowestOf
  rw [Nat.gcd_zero_left, Nat.zero_div, Nat.div_self hb]
  rfl
/-! ### turned -/
theorem swings_congr {n : Nat} (hn : n ≤ 5) {t1 t2 : List Crowd} (h : ∀ c ∈ crowdsOf n, bears t1 c = bears t2 c) {m : Nat} (hm : m < n) : swingsOf n t1 m = swingsOf n t2 m := by
  unfold swingsOf
  refine List.filter_congr fun c hc => ?_
  unfold swings1
  rw [h c hc, h _ (with_listed hn hc hm)]
def mirror (n : Nat) (m : Int) (c : Crowd) : Crowd := lessThem (rng n) (withThem c [m])
theorem less_facts : ∀ n < 6, ∀ c ∈ crowdsOf n, lessThem (rng n) c ∈ crowdsOf n ∧ lessThem (rng n) (lessThem (rng n) c) = c := by decide +kernel
set_option synthInstance.maxSize 4000 in
set_option synthInstance.maxHeartbeats 4000000 in
theorem mirror_facts : ∀ n < 6, ∀ m < n, ∀ c ∈ crowdsOf n, (m : Int) ∉ c → mirror n m c ∈ crowdsOf n ∧ (m : Int) ∉ mirror n m c ∧ (mirror n m c).length = n - 1 - c.length ∧ withThem (mirror n m c) [(m : Int)] = lessThem (rng n) c ∧ mirror n m (mirror n m c) = c ∧ c.length ≤ n - 1 := by decide +kernel
theorem turned_twice {n : Nat} (hn : n ≤ 5) (told : List Crowd) : ∀ c ∈ crowdsOf n, bears (turnedOf n (turnedOf n told)) c = bears told c := fun c hc => by
  have h1 := (less_facts n (by omega) c hc)
  rw [bears_turned hc, bears_turned h1.1, h1.2, Bool.not_not]
theorem turned_sums {n : Nat} (hn : n ≤ 5) (told : List Crowd) {m : Nat} (hm : m < n) (w : Crowd → Nat) (hw : ∀ c d : Crowd, d.length = n - 1 - c.length → c.length ≤ n - 1 → w d = w c) : ((swingsOf n (turnedOf n told) m).map w).sum ≤ ((swingsOf n told m).map w).sum := by
  refine inj_le (mirror n m) w (swings_nodup hn _ m) (fun x hx y hy e => ?_) (fun c hc => ?_) (fun c hc => ?_)
  · have fx := mirror_facts n (by omega) m hm x (mem_swings.mp hx).1 (mem_swings.mp hx).2.1
    have fy := mirror_facts n (by omega) m hm y (mem_swings.mp hy).1 (mem_swings.mp hy).2.1
    rw [← fx.2.2.2.2.1, ← fy.2.2.2.2.1, e]
  · obtain ⟨c1, c2, c3, c4⟩ := mem_swings.mp hc
    obtain ⟨f1, f2, f3, f4, f5, f6⟩ := mirror_facts n (by omega) m hm c c1 c2
    rw [bears_turned c1] at c3
    rw [bears_turned (with_listed hn c1 hm)] at c4
    exact mem_swings.mpr ⟨f1, f2, by unfold mirror; simpa using c4, by rw [f4]; simpa using c3⟩
  · obtain ⟨c1, c2, c3, c4⟩ := mem_swings.mp hc
    obtain ⟨f1, f2, f3, f4, f5, f6⟩ := mirror_facts n (by omega) m hm c c1 c2
    exact hw _ _ f3 f6
theorem turned_same {n : Nat} (hn : n ≤ 5) (told : List Crowd) {m : Nat} (hm : m < n) (w : Crowd → Nat) (hw : ∀ c d : Crowd, d.length = n - 1 - c.length → c.length ≤ n - 1 → w d = w c) : ((swingsOf n (turnedOf n told) m).map w).sum = ((swingsOf n told m).map w).sum := by
  have h1 := turned_sums hn told hm w hw
  have h2 := turned_sums hn (turnedOf n told) hm w hw
  rw [swings_congr hn (turned_twice hn told) hm] at h2
  omega
theorem turned_powers {n : Nat} (hn : n ≤ 5) (told : List Crowd) : powersOf n (turnedOf n told) = powersOf n told := by
  unfold powersOf
  refine List.map_congr_left fun m hm => ?_
  have : topOf n (turnedOf n told) m = topOf n told m := turned_same hn told (List.mem_range.mp hm) (wOf n) fun c d e h => by
    unfold wOf
    rw [e, show n - 1 - (n - 1 - c.length) = c.length by omega, Nat.mul_comm]
  rw [this]
theorem turned_counts {n : Nat} (hn : n ≤ 5) (told : List Crowd) : swingCounts n (turnedOf n told) = swingCounts n told := by
  unfold swingCounts
  refine List.map_congr_left fun m hm => ?_
  have : (swingsOf n (turnedOf n told) m).length = (swingsOf n told m).length := by
    rw [len_sum, len_sum (swingsOf n told m)]
    exact turned_same hn told (List.mem_range.mp hm) (fun _ => 1) fun _ _ _ _ => rfl
  rw [this]
/-! ### fractions -/
theorem fact_divides : ∀ n < 6, 120 % fact n = 0 := by decide
theorem lowest_back {a b : Nat} (hb : 0 < b) : ((lowestOf a b).1 * (Nat.gcd a b : Nat) = a) ∧ ((lowestOf a b).2 * (Nat.gcd a b : Nat) = b) ∧ 0 < Nat.gcd a b := by
  unfold lowestOf
  have h1 : a / Nat.gcd a b * Nat.gcd a b = a := Nat.div_mul_cancel (Nat.gcd_dvd_left a b)
  have h2 : b / Nat.gcd a b * Nat.gcd a b = b := Nat.div_mul_cancel (Nat.gcd_dvd_right a b)
  refine ⟨?_, ?_, Nat.gcd_pos_of_pos_right a hb⟩
  · show ((a / Nat.gcd a b : Nat) : Int) * (Nat.gcd a b : Nat) = a
    exact_mod_cast h1
  · show ((b / Nat.gcd a b : Nat) : Int) * (Nat.gcd a b : Nat) = b
    exact_mod_cast h2
theorem part_of {a b : Nat} (hb : 0 < b) (hd : 120 % b = 0) : (120 : Int) / (lowestOf a b).2 * (lowestOf a b).1 = ((120 / b * a : Nat) : Int) := by
  unfold lowestOf
  have hg := Nat.gcd_pos_of_pos_right a hb
  have h1 : a / Nat.gcd a b * Nat.gcd a b = a := Nat.div_mul_cancel (Nat.gcd_dvd_left a b)
  have h2 : b / Nat.gcd a b * Nat.gcd a b = b := Nat.div_mul_cancel (Nat.gcd_dvd_right a b)
  have h3 : 120 / b * b = 120 := Nat.div_mul_cancel (Nat.dvd_of_mod_eq_zero hd)
  show (120 : Int) / ((b / Nat.gcd a b : Nat) : Int) * ((a / Nat.gcd a b : Nat) : Int) = _
  have hq : 0 < b / Nat.gcd a b := Nat.div_pos (Nat.le_of_dvd hb (Nat.gcd_dvd_right a b)) hg
  generalize Nat.gcd a b = g at *
  generalize a / g = p at *
  generalize b / g = q at *
  generalize 120 / b = t at *
  have : 120 / q = t * g := by
    refine Nat.div_eq_of_eq_mul_left hq ?_
    rw [Nat.mul_assoc, Nat.mul_comm g q, h2, h3]
  have e : (120 : Int) / (q : Int) = ((120 / q : Nat) : Int) := by push_cast; rfl
  rw [e, this, ← h1]
  push_cast
  rw [Int.mul_assoc, Int.mul_comm (g : Int) (p : Int)]
theorem mine_theirs {a1 a2 b : Nat} (hb : 0 < b) (h : a2 ≤ a1) : (lowestOf a2 b).1 * (lowestOf a1 b).2 ≤ (lowestOf a1 b).1 * (lowestOf a2 b).2 := by
  obtain ⟨e1, f1, g1⟩ := lowest_back (a := a1) hb
  obtain ⟨e2, f2, g2⟩ := lowest_back (a := a2) hb
  generalize (lowestOf a1 b).1 = p1 at *
  generalize (lowestOf a1 b).2 = q1 at *
  generalize (lowestOf a2 b).1 = p2 at *
  generalize (lowestOf a2 b).2 = q2 at *
  generalize Nat.gcd a1 b = x at *
  generalize Nat.gcd a2 b = y at *
  have hx : (0 : Int) < (x : Int) * (y : Int) := Int.mul_pos (by omega) (by omega)
  refine Int.le_of_mul_le_mul_right ?_ hx
  have l1 : p2 * q1 * ((x : Int) * y) = (p2 * y) * (q1 * x) := by
    rw [Int.mul_comm (x : Int) y, Int.mul_assoc, ← Int.mul_assoc q1, Int.mul_comm q1 y, Int.mul_assoc (y : Int), ← Int.mul_assoc p2]
  have l2 : p1 * q2 * ((x : Int) * y) = (p1 * x) * (q2 * y) := by
    rw [Int.mul_assoc, ← Int.mul_assoc q2, Int.mul_comm q2 x, Int.mul_assoc (x : Int), ← Int.mul_assoc p1]
  rw [l1, l2, e1, e2, f1, f2]
  exact Int.mul_le_mul_of_nonneg_right (by omega) (by omega)
end Vw

namespace Vw
open PySem L2 PySem.Spec PyProof.Rows
/-! ### texts, over lists of code points -/
def st (l : List Nat) : Str := ⟨l.toArray⟩
theorem st_inj {a b : List Nat} : st a = st b ↔ a = b := by
  constructor
  · intro h
    have h2 := congrArg (fun s : Str => s.cps.toList) h
    simpa [st] using h2
  · intro h
    rw [h]
theorem st_len (l : List Nat) : (st l).length = l.length := by show l.toArray.size = _; simp
theorem st_cps (l : List Nat) : (st l).cps.toList = l := by show l.toArray.toList = l; simp
theorem st_of (s : Str) : s = st s.cps.toList := by
  cases s
  simp [st]
theorem st_app (a b : List Nat) : st a ++ st b = st (a ++ b) := by
  show (⟨a.toArray ++ b.toArray⟩ : Str) = ⟨(a ++ b).toArray⟩
  simp
def joinL (sep : List Nat) : List (List Nat) → List Nat
  | [] => []
  | [x] => x
  | x :: y :: r => x ++ sep ++ joinL sep (y :: r)
theorem joinEq (y : Str) (parts : List Str) : Txt.join y parts = Str.join y parts := StrLaws.glued_eq_join y parts
theorem join_st (sep : List Nat) : ∀ ps : List (List Nat), Txt.join (st sep) (ps.map st) = st (joinL sep ps) := by
  intro ps
  rw [joinEq]
  induction ps with
  | nil => rfl
  | cons x r ih =>
    cases r with
    | nil => rfl
    | cons y r =>
      show st x ++ st sep ++ Str.join (st sep) (List.map st (y :: r)) = _
      rw [ih, st_app, st_app]
      rfl
def splitL (c : Nat) : List Nat → List (List Nat)
  | [] => [[]]
  | x :: l => if x = c then [] :: splitL c l else match splitL c l with
    | [] => [[x]]
    | p :: ps => (x :: p) :: ps
theorem splitL_cons (c x : Nat) (l : List Nat) : splitL c (x :: l) = if x = c then [] :: splitL c l else match splitL c l with | [] => [[x]] | p :: ps => (x :: p) :: ps := rfl
theorem splitL_ne (c : Nat) : ∀ l, splitL c l ≠ []
  | [] => by simp [splitL]
  | x :: l => by
    unfold splitL
    split
    · simp
    · split <;> simp
theorem splitL_pre (c : Nat) {p : List Nat} (hp : c ∉ p) (l : List Nat) : splitL c (p ++ c :: l) = p :: splitL c l := by
  induction p with
  | nil =>
    show (if c = c then _ else _) = _
    rw [if_pos rfl]
  | cons x p ih =>
    have hx : x ≠ c := fun e => hp (by rw [e]; exact List.mem_cons_self ..)
    rw [List.cons_append, splitL_cons, if_neg hx, ih fun z => hp (List.mem_cons_of_mem _ z)]
theorem splitL_free (c : Nat) {p : List Nat} (hp : c ∉ p) : splitL c p = [p] := by
  induction p with
  | nil => rfl
  | cons x p ih =>
    have hx : x ≠ c := fun e => hp (by rw [e]; exact List.mem_cons_self ..)
    rw [splitL_cons, if_neg hx, ih fun z => hp (List.mem_cons_of_mem _ z)]
theorem split_join (c : Nat) : ∀ ps : List (List Nat), ps ≠ [] → (∀ p ∈ ps, c ∉ p) → splitL c (joinL [c] ps) = ps
  | [], h, _ => absurd rfl h
  | [x], _, h => splitL_free c (h x (List.mem_cons_self ..))
  | x :: y :: r, _, h => by
    show splitL c (x ++ [c] ++ joinL [c] (y :: r)) = _
    rw [List.append_assoc]
    show splitL c (x ++ c :: joinL [c] (y :: r)) = _
    rw [splitL_pre c (h x (List.mem_cons_self ..)), split_join c (y :: r) (by simp) fun p hp => h p (List.mem_cons_of_mem _ hp)]
theorem split_st (c : Nat) (l : List Nat) : Txt.split (st l) (st [c]) = (splitL c l).map st := by
  obtain ⟨ps, hps⟩ : ∃ ps : List (List Nat), Txt.split (st l) (st [c]) = ps.map st := ⟨(Txt.split (st l) (st [c])).map fun s => s.cps.toList, by
    rw [List.map_map]
    conv => lhs; rw [← List.map_id (Txt.split (st l) (st [c]))]
    exact List.map_congr_left fun s _ => st_of s⟩
  have h1 := StrLaws.join_split (st l) (st [c])
  rw [← joinEq, hps, join_st, st_inj] at h1
  have hne : ps ≠ [] := fun e => by
    have := split_pos (st l) (st [c])
    rw [hps, e] at this
    simp at this
  have hfree : ∀ p ∈ ps, c ∉ p := fun p hp hc => by
    refine StrLaws.split_free (st l) c (st p) ?_ (by rw [st_cps]; exact hc)
    show st p ∈ Txt.split (st l) (st [c])
    rw [hps]
    exact List.mem_map.mpr ⟨p, hp, rfl⟩
  rw [hps, ← h1, split_join c ps hne hfree]
theorem splitL_len (c : Nat) : ∀ l, (splitL c l).length ≤ l.length + 1
  | [] => by simp [splitL]
  | x :: l => by
    have ih := splitL_len c l
    unfold splitL
    split
    · simp; omega
    · split
      · simp
      · rename_i p ps e
        rw [e] at ih
        simp at *
        omega
theorem splitL_each (c : Nat) : ∀ l, ∀ p ∈ splitL c l, p.length ≤ l.length
  | [], p, h => by
    have : p = [] := by simpa [splitL] using h
    rw [this]
    exact Nat.le_refl _
  | x :: l, p, h => by
    have ih := splitL_each c l
    unfold splitL at h
    split at h
    · rcases List.mem_cons.mp h with e | e
      · subst e
        exact Nat.zero_le _
      · have := ih p e
        simp
        omega
    · split at h
      · have : p = [x] := by simpa using h
        subst this
        simp
      · rename_i q qs e
        rcases List.mem_cons.mp h with e2 | e2
        · subst e2
          have := ih q (by rw [e]; exact List.mem_cons_self ..)
          simp
          omega
        · have := ih p (by rw [e]; exact List.mem_cons_of_mem _ e2)
          simp
          omega
theorem cut_st (l : List Nat) (lo hi : Option Int) : cutS (st l) lo hi = st (cut l lo hi) := by
  unfold cutS cut
  rw [st_cps, st_len]
  rfl
theorem cut_take {α : Type} (l : List α) (k : Nat) : cut l none (some (k : Int)) = l.take k := by
  unfold cut
  rw [HT.sIx_none, HT.sIx_nat, List.drop_zero, Nat.sub_zero]
  by_cases h : k ≤ l.length
  · rw [Nat.min_eq_left h]
  · rw [Nat.min_eq_right (by omega), List.take_of_length_le (Nat.le_refl _), List.take_of_length_le (by omega)]
theorem cut_drop {α : Type} (l : List α) (k : Nat) : cut l (some (k : Int)) none = l.drop k := by
  unfold cut
  rw [HT.sIx_none, HT.sIx_nat, List.take_of_length_le (by rw [List.length_drop]; exact Nat.le_refl _)]
  by_cases h : k ≤ l.length
  · rw [Nat.min_eq_left h]
  · rw [Nat.min_eq_right (by omega), List.drop_eq_nil_of_le (Nat.le_refl _), List.drop_eq_nil_of_le (by omega)]
theorem cut_mid {α : Type} (l : List α) (j k : Nat) (h : j ≤ k) : cut l (some (j : Int)) (some (k : Int)) = (l.drop j).take (k - j) := by
  unfold cut
  rw [HT.sIx_nat, HT.sIx_nat]
  by_cases h1 : k ≤ l.length
  · rw [Nat.min_eq_left h1, Nat.min_eq_left (by omega)]
  · rw [Nat.min_eq_right (by omega : l.length ≤ k)]
    by_cases h2 : j ≤ l.length
    · rw [Nat.min_eq_left h2, List.take_of_length_le (by rw [List.length_drop]; exact Nat.le_refl _), List.take_of_length_le (by rw [List.length_drop]; omega)]
    · rw [Nat.min_eq_right (by omega), List.drop_eq_nil_of_le (Nat.le_refl _), List.drop_eq_nil_of_le (by omega), List.take_nil, List.take_nil]
/-! ### readings of texts -/
section
variable {G : Cfg} {ρ : Rho} {ta tb te : TE}
theorem reps_strs {F : Hp} : ∀ {vs : List V} {ys : List Str}, Reps G F vs (ys.map D.str) → vs = ys.map V.str
  | _, [], .nil => rfl
  | _, y :: ys, .cons h r => by
    cases h
    rw [reps_strs r]
    rfl
theorem Reps.ofStrs {F : Hp} : ∀ (ys : List Str), Reps G F (ys.map V.str) (ys.map D.str)
  | [] => .nil
  | y :: ys => .cons (.str y) (Reps.ofStrs ys)
def rJoin (K : PySem.W.Frag) : V → List V → Hp → VK → Prop := fun x xs H Q => ∃ a p, ∃ ys : List Str, x = .str a ∧ xs = [.ref p] ∧ (SqL K H p (ys.map V.str) ∨ SqT K H p (ys.map V.str)) ∧
  (ys.map (·.length)).sum + ys.length * a.length ≤ 16777216 ∧ Q (.str (Txt.join a ys)) H
def rSplit : V → List V → Hp → VK → Prop := fun x xs H Q => ∃ a b, x = .str a ∧ xs = [.str b] ∧ (b.length == 0) = false ∧ a.length + 2 ≤ sizeLine ∧ rNewStrs (Txt.split a b) H Q
def rIndexS : V → List V → Hp → VK → Prop := fun x xs H Q => ∃ a b i rest, x = .str a ∧ xs = [.str b] ∧ Builtin.Str.occurrences a b 0 a.length 1 = i :: rest ∧ Q (.int (i : Nat)) H
theorem evd_join {sep : List Nat} {ps : List (List Nat)} (h : EvD G ta ρ (.str (st sep))) (hl : EvS G tb ρ (ps.map fun p => .str (st p))) (hz : (ps.map List.length).sum + ps.length * sep.length ≤ 100000) : EvD G (tM1 (rJoin G.K) ta tb) ρ (.str (st (joinL sep ps))) := fun F0 H0 F H σ E Q q =>
  h F0 H0 F H σ E _ fun v F1 H1 g1 r1 => by
  cases r1
  refine ⟨⟨_, rfl⟩, hl F0 H0 F1 H1 σ (E.grow g1) _ fun a vs F2 H2 g2 h2 r2 => ?_⟩
  have e2 : (ps.map fun p => D.str (st p)) = (ps.map st).map D.str := by rw [List.map_map]; rfl
  rw [e2] at r2
  have e := reps_strs r2
  subst e
  refine ⟨st sep, a, ps.map st, rfl, rfl, .inl (SqL.of h2), ?_, ?_⟩
  · have e3 : ((ps.map st).map fun s : Str => s.length) = ps.map List.length := by
      rw [List.map_map]
      exact List.map_congr_left fun p _ => st_len p
    rw [e3, List.length_map, st_len]
    omega
  · rw [join_st]
    exact q _ F2 H2 (g1.trans g2) (.str _)
theorem evn_split {c : Nat} {l : List Nat} (h : EvD G ta ρ (.str (st l))) (hb : EvD G tb ρ (.str (st [c]))) (hz : l.length ≤ 100000) : EvN G (tM1 rSplit ta tb) ρ ((splitL c l).map fun p => .str (st p)) := fun F0 H0 F H σ E Q q =>
  h F0 H0 F H σ E _ fun v F1 H1 g1 r1 => by
  cases r1
  refine ⟨⟨_, rfl⟩, hb F0 H0 F1 H1 σ (E.grow g1) _ fun u F2 H2 g2 r2 => ?_⟩
  cases r2
  refine ⟨st l, st [c], rfl, rfl, rfl, ?_, fun p hp => ?_⟩
  · have e : sizeLine = 9007199254740991 ∨ 200000 ≤ sizeLine := .inr (by decide)
    rw [st_len]
    rcases e with e | e <;> omega
  · have g := g1.trans g2
    refine q p _ F2 _ (g.fresh hp) (g.eh.free hp) (g.sub.free hp) upd_same ?_
    rw [split_st]
    have e2 : ((splitL c l).map fun p => D.str (st p)) = ((splitL c l).map st).map D.str := by rw [List.map_map]; rfl
    rw [e2]
    exact .ofStrs _
theorem evd_inS {c : Nat} {l : List Nat} (ha : EvD G ta ρ (.str (st [c]))) (hb : EvD G tb ρ (.str (st l))) : EvD G (tOp (fun x y H Q => ∃ i j, x = .str i ∧ y = .str j ∧ Q (.bl (!(Builtin.Str.occurrences j i 0 j.length 1).isEmpty)) H) ta tb) ρ (.bl (decide (c ∈ l))) := evd_op ha hb (rvd_val fun F H v w rx ry Q q => by
  cases rx
  cases ry
  refine ⟨_, _, rfl, rfl, ?_⟩
  have e := StrLaws.found_one (st l) c
  rw [st_cps] at e
  show Q (.bl (!(Builtin.Str.occurrences (st l) ⟨#[c]⟩ 0 (st l).length 1).isEmpty)) H
  rw [e]
  exact q _ (.bl _))
theorem evd_ninS {c : Nat} {l : List Nat} (ha : EvD G ta ρ (.str (st [c]))) (hb : EvD G tb ρ (.str (st l))) : EvD G (tOp (fun x y H Q => ∃ i j, x = .str i ∧ y = .str j ∧ Q (.bl (!(!(Builtin.Str.occurrences j i 0 j.length 1).isEmpty))) H) ta tb) ρ (.bl (!decide (c ∈ l))) := evd_op ha hb (rvd_val fun F H v w rx ry Q q => by
  cases rx
  cases ry
  refine ⟨_, _, rfl, rfl, ?_⟩
  have e := StrLaws.found_one (st l) c
  rw [st_cps] at e
  show Q (.bl (!(!(Builtin.Str.occurrences (st l) ⟨#[c]⟩ 0 (st l).length 1).isEmpty))) H
  rw [e]
  exact q _ (.bl _))
theorem evd_indexS {a b : Str} {i : Nat} {rest : List Nat} (ha : EvD G ta ρ (.str a)) (hb : EvD G tb ρ (.str b)) (ho : Builtin.Str.occurrences a b 0 a.length 1 = i :: rest) : EvD G (tM1 rIndexS ta tb) ρ (.int i) := fun F0 H0 F H σ E Q q =>
  ha F0 H0 F H σ E _ fun v F1 H1 g1 r1 => by
  cases r1
  refine ⟨⟨_, rfl⟩, hb F0 H0 F1 H1 σ (E.grow g1) _ fun u F2 H2 g2 r2 => ?_⟩
  cases r2
  exact ⟨a, b, i, rest, rfl, rfl, ho, q _ F2 H2 (g1.trans g2) (.int _)⟩
theorem evd_cutS {tl th : TO} {lo hi : Option Int} {l : List Nat} (h : EvD G te ρ (.str (st l))) (hz : l.length ≤ 100000) (h1 : EvO G tl ρ lo) (h2 : EvO G th ρ hi) : EvD G (tSl rSlS te tl th) ρ (.str (st (cut l lo hi))) :=
  evd_is (evd_slS h (by rw [st_len]; exact hz) h1 h2) (by rw [cut_st])
theorem evd_lenSt {l : List Nat} (h : EvD G te ρ (.str (st l))) (hz : l.length ≤ 100000) : EvD G (tCB (fun xs H Q => ∃ z, xs = [V.str z] ∧ z.length ≤ sizeLine ∧ Q (.int z.length) H) (tCons te tNil)) ρ (.int l.length) :=
  evd_is (evd_lenS h (by rw [st_len]; exact hz)) (by rw [st_len])
theorem evd_eqSt {a b : List Nat} (ha : EvD G ta ρ (.str (st a))) (hb : EvD G tb ρ (.str (st b))) : EvD G (tOp rEq ta tb) ρ (.bl (decide (a = b))) := evd_is (evd_eqS ha hb) (by rw [decide_eq_decide.mpr st_inj])
theorem evd_neSt {a b : List Nat} (ha : EvD G ta ρ (.str (st a))) (hb : EvD G tb ρ (.str (st b))) : EvD G (tOp rNe ta tb) ρ (.bl (!decide (a = b))) := evd_is (evd_neS ha hb) (by rw [decide_eq_decide.mpr st_inj])
theorem evd_addSt {a b : List Nat} (ha : EvD G ta ρ (.str (st a))) (hb : EvD G tb ρ (.str (st b))) (hz : a.length + b.length ≤ 100000) : EvD G (tOp (fun x y H Q => ∃ i j, x = .str i ∧ y = .str j ∧ i.length + j.length ≤ sizeLine ∧ Q (.str (i ++ j)) H) ta tb) ρ (.str (st (a ++ b))) :=
  evd_is (evd_addS ha hb (by rw [st_len, st_len]; exact hz)) (by rw [st_app])
theorem evd_lit {s : Str} {l : List Nat} (h : s = st l) : EvD G (tC (.str s)) ρ (.str (st l)) := evd_is evd_str (by rw [h])
end
theorem lit_plus : Str.ofString "+" = st [43] := by decide +kernel
theorem lit_colon : Str.ofString ":" = st [58] := by decide +kernel
theorem lit_comma : Str.ofString "," = st [44] := by decide +kernel
theorem lit_blank : Str.ofString " " = st [32] := by decide +kernel
theorem lit_dash : Str.ofString "-" = st [45] := by decide +kernel
theorem lit_bdash : Str.ofString " -" = st [32, 45] := by decide +kernel
theorem lit_empty : Str.ofString "" = st [] := by decide +kernel
theorem dig_str : ∀ k < 10, Str.ofString (toString ((k : Nat) : Int)) = st [48 + k] := by decide +kernel
section
variable {X : Cx} {o e : Expr} {to te : TE} {K : PySem.W.Frag} {apos pos : Pos}
theorem k_join (ho : PE X o to) (he : PE X e te) (hK : X.K = K := by rfl) (hs : starEach [e] X.env = [(false, eval e X.env)] := by rfl) (hbase : attributeBase o "join" X.env (eval o X.env) = eval o X.env := by rfl) (hline : (apos.endLine == pos.line) = true := by rfl) :
    PE X (.Call (.Attribute o "join" apos) [e] [] pos) (tM1 (rJoin K) to te) := by
  subst hK
  exact pe_m1 F.slot_str_join F.type_str_join mt_join ho he hs hbase hline
theorem k_split (ho : PE X o to) (he : PE X e te) (hs : starEach [e] X.env = [(false, eval e X.env)] := by rfl) (hbase : attributeBase o "split" X.env (eval o X.env) = eval o X.env := by rfl) (hline : (apos.endLine == pos.line) = true := by rfl) :
    PE X (.Call (.Attribute o "split" apos) [e] [] pos) (tM1 rSplit to te) :=
  pe_m1 F.slot_str_split F.type_str_split mt_split ho he hs hbase hline
theorem k_indexS (ho : PE X o to) (he : PE X e te) (hs : starEach [e] X.env = [(false, eval e X.env)] := by rfl) (hbase : attributeBase o "index" X.env (eval o X.env) = eval o X.env := by rfl) (hline : (apos.endLine == pos.line) = true := by rfl) :
    PE X (.Call (.Attribute o "index" apos) [e] [] pos) (tM1 rIndexS to te) :=
  pe_m1 F.slot_str_index F.type_str_index mt_sindex ho he hs hbase hline
end
end Vw

/-! councils as texts -/
namespace Vw
open PySem
def digL (m : Int) : List Nat := [48 + m.toNat]
def bareL (c : Crowd) : List Nat := joinL [43] (c.map digL)
def wordL (c : Crowd) : List Nat := if c = [] then [32, 45] else 32 :: bareL c
def showL (n : Nat) (cs : List Crowd) : List Nat := (48 + n) :: 58 :: joinL [44] (cs.map wordL)
def numL : List Nat → Option Int
  | [c] => if 48 ≤ c ∧ c ≤ 57 then some ((c - 48 : Nat) : Int) else none
  | _ => none
def optAll {α β : Type} (f : α → Option β) : List α → Option (List β)
  | [] => some []
  | x :: xs => match f x, optAll f xs with
    | some a, some b => some (a :: b)
    | _, _ => none
theorem optAll_some {α β : Type} {f : α → Option β} (d : β) : ∀ {xs : List α} {ys : List β}, optAll f xs = some ys → (∀ x ∈ xs, f x = some ((f x).getD d)) ∧ ys = xs.map fun x => (f x).getD d
  | [], ys, h => by
    cases h
    exact ⟨fun x hx => absurd hx (by simp), rfl⟩
  | x :: xs, ys, h => by
    unfold optAll at h
    cases q : f x with
    | none => rw [q] at h; cases h
    | some a =>
      cases q2 : optAll f xs with
      | none => rw [q, q2] at h; cases h
      | some b =>
        rw [q, q2] at h
        cases h
        obtain ⟨h1, h2⟩ := optAll_some d q2
        refine ⟨fun y hy => ?_, ?_⟩
        · rcases List.mem_cons.mp hy with e | e
          · subst e
            rw [q]
            rfl
          · exact h1 y e
        · rw [List.map_cons, q, h2]
          rfl
theorem optAll_map {α β γ : Type} {f : β → Option γ} {g : α → β} {h : α → γ} : ∀ {xs : List α}, (∀ x ∈ xs, f (g x) = some (h x)) → optAll f (xs.map g) = some (xs.map h)
  | [], _ => rfl
  | x :: xs, hx => by
    rw [List.map_cons, List.map_cons]
    unfold optAll
    rw [hx x (List.mem_cons_self ..), optAll_map fun y hy => hx y (List.mem_cons_of_mem _ hy)]
def crowdL (w : List Nat) : Option Crowd := if w = [32, 45] then some [] else if w.take 1 = [32] then optAll numL (splitL 43 (w.drop 1)) else none
theorem numL_dig {m : Int} (h : 0 ≤ m ∧ m < 10) : numL (digL m) = some m := by
  show (if 48 ≤ 48 + m.toNat ∧ 48 + m.toNat ≤ 57 then some ((48 + m.toNat - 48 : Nat) : Int) else none) = some m
  rw [if_pos (by omega)]
  congr 1
  omega
theorem dig_free {m : Int} (c : Nat) (h : c < 48) : c ∉ digL m := by
  unfold digL
  simp
  omega
theorem joinL_mem {sep : List Nat} {x : Nat} : ∀ {ps : List (List Nat)}, x ∈ joinL sep ps → x ∈ sep ∨ ∃ p ∈ ps, x ∈ p
  | [], h => by cases h
  | [p], h => .inr ⟨p, List.mem_cons_self .., h⟩
  | p :: q :: r, h => by
    rcases List.mem_append.mp (show x ∈ (p ++ sep) ++ joinL sep (q :: r) from h) with h | h
    · rcases List.mem_append.mp h with h | h
      · exact .inr ⟨p, List.mem_cons_self .., h⟩
      · exact .inl h
    · rcases joinL_mem h with h | ⟨y, hy, h⟩
      · exact .inl h
      · exact .inr ⟨y, List.mem_cons_of_mem _ hy, h⟩
theorem joinL_len (sep : List Nat) : ∀ ps : List (List Nat), (joinL sep ps).length ≤ (ps.map List.length).sum + ps.length * sep.length
  | [] => Nat.zero_le _
  | [p] => by
    show p.length ≤ _
    simp
  | p :: q :: r => by
    have ih := joinL_len sep (q :: r)
    show ((p ++ sep) ++ joinL sep (q :: r)).length ≤ _
    rw [List.length_append, List.length_append, List.map_cons, List.sum_cons, List.length_cons, Nat.succ_mul]
    omega
theorem word_free {c : Crowd} : 44 ∉ wordL c := by
  unfold wordL
  split
  · simp
  · intro h
    rcases List.mem_cons.mp h with e | e
    · cases e
    · rcases joinL_mem e with e | ⟨p, hp, e⟩
      · simp at e
      · obtain ⟨m, _, rfl⟩ := List.mem_map.mp hp
        exact dig_free 44 (by decide) e
theorem crowdL_word {c : Crowd} (h : ∀ m ∈ c, 0 ≤ m ∧ m < 10) : crowdL (wordL c) = some c := by
  unfold crowdL wordL
  by_cases e : c = []
  · subst e
    rfl
  · have hne : c.map digL ≠ [] := by simpa using e
    have hsp : splitL 43 (bareL c) = c.map digL := split_join 43 _ hne fun p hp => by
      obtain ⟨m, _, rfl⟩ := List.mem_map.mp hp
      exact dig_free 43 (by decide)
    rw [if_neg e, if_neg ?_, if_pos (show List.take 1 (32 :: bareL c) = [32] from rfl)]
    · show optAll numL (splitL 43 (bareL c)) = _
      rw [hsp, optAll_map (h := fun m => m) fun m hm => numL_dig (h m hm), List.map_id']
    · intro z
      have z2 : bareL c = [45] := (List.cons.inj z).2
      rw [z2] at hsp
      have : splitL 43 [45] = [[45]] := by decide
      rw [this] at hsp
      cases c with
      | nil => exact e rfl
      | cons m r =>
        have := (List.cons.inj hsp).1
        unfold digL at this
        have := (List.cons.inj this).1
        omega
/-- the digits' count -/
theorem bare_len (c : Crowd) : (bareL c).length ≤ 2 * c.length := by
  have h := joinL_len [43] (c.map digL)
  have e : ((c.map digL).map List.length).sum = c.length := by
    induction c with
    | nil => rfl
    | cons m r ih =>
      rw [List.map_cons, List.map_cons, List.sum_cons, List.length_cons, ih (joinL_len _ _)]
      show 1 + _ = _
      omega
  unfold bareL
  rw [e, List.length_map] at h
  simp at h
  omega
theorem word_len (c : Crowd) : (wordL c).length ≤ 2 * c.length + 2 := by
  unfold wordL
  split
  · simp
  · have := bare_len c
    rw [List.length_cons]
    omega
theorem words_len {cs : List Crowd} (h : ∀ c ∈ cs, c.length ≤ 5) : ((cs.map wordL).map List.length).sum ≤ 12 * cs.length := by
  induction cs with
  | nil => exact Nat.le_refl _
  | cons c cs ih =>
    rw [List.map_cons, List.map_cons, List.sum_cons, List.length_cons]
    have h1 := word_len c
    have h2 := h c (List.mem_cons_self ..)
    have h3 := ih fun d hd => h d (List.mem_cons_of_mem _ hd)
    omega
theorem joined_len {cs : List Crowd} (h : ∀ c ∈ cs, c.length ≤ 5) : (joinL [44] (cs.map wordL)).length ≤ 13 * cs.length := by
  have h1 := joinL_len [44] (cs.map wordL)
  have h2 := words_len h
  rw [List.length_map] at h1
  have h3 : cs.length * [44].length = cs.length := by simp
  rw [h3] at h1
  omega
theorem show_len {n : Nat} {cs : List Crowd} (h : ∀ c ∈ cs, c.length ≤ 5) : (showL n cs).length ≤ 13 * cs.length + 2 := by
  have := joined_len h
  unfold showL
  rw [List.length_cons, List.length_cons]
  omega
theorem least_clen {n : Nat} (hn : n ≤ 5) (told : List Crowd) : ∀ c ∈ least n told, c.length ≤ 5 := fun c hc => (cs_good hn (least_good hn told c hc)).2
theorem least_congr {n : Nat} (hn : n ≤ 5) {a b : List Crowd} (h : ∀ c ∈ crowdsOf n, bears a c = bears b c) : least n a = least n b := by
  rw [least_eq hn, least_eq hn]
  refine List.filter_congr fun c hc => ?_
  unfold isLeast
  rw [h c hc]
  congr 1
  rw [Bool.eq_iff_iff, List.all_eq_true, List.all_eq_true]
  constructor
  · intro q x hx
    have := q x hx
    rw [h x hx] at this
    exact this
  · intro q x hx
    have := q x hx
    rw [← h x hx] at this
    exact this
theorem least_least {n : Nat} (hn : n ≤ 5) (told : List Crowd) : least n (least n told) = least n told := least_congr hn fun c hc => bears_least hn hc
theorem words_split {cs : List Crowd} (h : cs ≠ []) : splitL 44 (joinL [44] (cs.map wordL)) = cs.map wordL := split_join 44 _ (by simpa using h) fun p hp => by
  obtain ⟨c, _, rfl⟩ := List.mem_map.mp hp
  exact word_free
theorem dig_int {m : Int} (h : 0 ≤ m ∧ m < 10) : Str.ofString (toString m) = st (digL m) := by
  obtain ⟨k, rfl⟩ : ∃ k : Nat, (k : Int) = m := ⟨m.toNat, by omega⟩
  have := dig_str k (by omega)
  rw [this]
  rfl
theorem log_small : ∀ k < 10, Nat.log2 k < 1920 := by decide
theorem dig_log {m : Int} (h : 0 ≤ m ∧ m < 10) : m.natAbs.log2 < 1920 := log_small _ (by omega)
theorem joinL_snoc (sep p : List Nat) : ∀ ps : List (List Nat), joinL sep (ps ++ [p]) = if ps = [] then p else joinL sep ps ++ sep ++ p
  | [] => rfl
  | [x] => rfl
  | x :: y :: r => by
    have ih := joinL_snoc sep p (y :: r)
    rw [if_neg (by simp)] at ih ⊢
    show (x ++ sep) ++ joinL sep ((y :: r) ++ [p]) = _
    rw [ih]
    show _ = ((x ++ sep) ++ joinL sep (y :: r)) ++ sep ++ p
    simp
def textStep (cs : List Crowd) (t : List Nat) (k : Nat) : List Nat := (if 0 < k then t ++ [44] else t) ++ wordL (cs.getD k [])
theorem text_fold (n : Nat) (cs : List Crowd) : ∀ k, k ≤ cs.length → (List.range k).foldl (textStep cs) [48 + n, 58] = showL n (cs.take k)
  | 0, _ => rfl
  | k + 1, h => by
    rw [List.range_succ, List.foldl_append, text_fold n cs k (by omega), List.foldl_cons, List.foldl_nil]
    have e : cs.take (k + 1) = cs.take k ++ [cs.getD k []] := by
      rw [List.take_add_one, List.getD_eq_getElem?_getD, List.getElem?_eq_getElem (by omega)]
      rfl
    rw [e]
    unfold textStep showL
    rw [List.map_append, List.map_cons, List.map_nil, joinL_snoc]
    by_cases hk : k = 0
    · subst hk
      rw [if_neg (by omega), if_pos (by simp)]
      rfl
    · rw [if_pos (by omega), if_neg (by
        intro z
        have := congrArg List.length z
        rw [List.length_map, List.length_take, List.length_nil] at this
        omega)]
      simp
theorem bare_nil {c : Crowd} : bareL c = [] ↔ c = [] := by
  constructor
  · intro h
    cases c with
    | nil => rfl
    | cons m r =>
      unfold bareL at h
      rw [List.map_cons] at h
      cases r with
      | nil => cases h
      | cons x r => cases h
  · intro h
    subst h
    rfl
theorem word_bare (c : Crowd) : wordL c = [32] ++ bareL c ++ if bareL c = [] then [45] else [] := by
  unfold wordL
  by_cases h : c = []
  · subst h
    rfl
  · rw [if_neg h, if_neg (fun z => h (bare_nil.mp z))]
    simp
section
open L2 PySem.Spec PyProof.Rows
variable {G : Cfg} {ρ : Rho} {te : TE}
theorem evd_dig {m : Int} (h : EvD G te ρ (.int m)) (hm : 0 ≤ m ∧ m < 10) : EvD G (tCB (fun xs H Q => ∃ i, xs = [V.int i] ∧ i.natAbs.log2 < 1920 ∧ Q (.str (toString i)) H) (tCons te tNil)) ρ (.str (st (digL m))) :=
  evd_is (evd_strI h (dig_log hm)) (congrArg D.str (dig_int hm))
end
theorem foldl_snoc {α β : Type} (f : α → β) : ∀ (l : List α) (acc : List β), l.foldl (fun acc x => acc ++ [f x]) acc = acc ++ l.map f
  | [], acc => by simp
  | x :: l, acc => by
    rw [List.foldl_cons, foldl_snoc f l]
    simp
end Vw

namespace Vw
open PySem L2 PySem.Spec PyProof.Rows L2H
/-! ### a def called inside an except suite, the exception its argument -/
abbrev SpE := Addr → Value → Option Addr → List V → Hp → VK → Prop
structure FnE (P : Program) (w : World) (K : PySem.W.Frag) (mg : Str → Option Value) (base : Heap) (k : Nat) (f : Addr) (fd : FuncData) (ps : List Str) (sp : SpE) : Prop where
  len : ∀ a c d vs H Q, sp a c d vs H Q → vs.length = ps.length
  run : ∀ (A : Around) (outer : List Env) (s : Shared) (H : Hp) (args : Args) (us : List Value) (vs : List V) (Q : VK) (a : Addr) (oe : Obj) (c : Value) (d : Option Addr), RoomH k A → PinOk outer H s (a, oe) → Zc c d oe → (∃ x, oe.data = .fields x) →
    Env0 P w K mg base A outer s H → BindsTo s fd args (ps.zip us) → Vals vs us → sp a c d vs H Q → codeAny (model P w) A (.call (.ref f) args) (CR CX0 outer P w H s Q E0) s
theorem fn_mkE {P : Program} {w : World} {K : PySem.W.Frag} {mg : Str → Option Value} {base : Heap} {x qual : Str} {ss : Stmt} {k : Nat} {f : Addr} {fd : FuncData} {N ps : List Str} {sp : SpE} (F : Fun K x qual ss f fd) (S : FnScope N ps (defScope ss))
    (len : ∀ a c d vs H Q, sp a c d vs H Q → vs.length = ps.length)
    (hbody : ∀ (cdv : Value) (A : Around) (outer : List Env) (s : Shared) (H : Hp) (vs : List V) (Q : VK) (a : Addr) (oe : Obj) (c : Value) (d : Option Addr), RoomH k (A.deeper (envOfC qual (defScope ss) s.heap.objs.size f cdv)) → Zc c d oe → (∃ x, oe.data = .fields x) → sp a c d vs H Q →
      ∃ t, PSs (cxH CX0 P w K mg base N qual (defScope ss) f cdv A outer s H E0 (a, oe)) (defBody ss) t ∧ t { nx := fun _ H' => Q .non H', rt := Q } (L2.start N vs) H) : FnE P w K mg base (k + 1) f fd ps sp := by
  obtain ⟨oc, od, kV, doc, pm, an, cdv, ct, osl, rfl, lk, hcd⟩ := F.ex
  refine ⟨len, fun A outer s H args us vs Q a oe c d hr hpin hz hf e0 hb r hsp => ?_⟩
  have hlen := len _ _ _ _ _ _ hsp
  have inK : K.In s.heap := e0.mod.kin.keeps fun b o z => (e0.bs b o z).1
  have noLim : s.heap.NoLimit := e0.mod.nolimit.keeps fun b o z => (e0.bs b o z).1
  have kinds : ∀ y ∈ ps.zip us, (defScope ss).names.lookup y.1 = some .local ∨ ((defScope ss).names.lookup y.1 = some .cell ∧ ((cellsFrom (s.heap.objs.size + 1) (defScope ss).names []).lookup y.1).isSome = true) := by
    rintro ⟨n, v⟩ hy
    cases S.par n (List.of_mem_zip hy).1 with
    | inl q => exact .inl q
    | inr q => exact .inr ⟨q, PySem.W.cellsFrom_some _ _ _ (.inl q)⟩
  refine codeAny_call_function hr.depth (inK _ _ lk) rfl S.co S.gen rfl (PySem.W.codeRec_of inK hcd) (hb _ _ _ _ (wpAny_newFunctionEnv_cells S.kind kinds fun env he s1 made => ?_))
  subst he
  refine ⟨noLim.keeps made.toInCall.keep, codeAny_func ?_⟩
  obtain ⟨t, ht, hq⟩ := hbody cdv A outer s H vs Q a oe c d (hr.deeper _) hz hf hsp
  have I0 : Inv (cxH CX0 P w K mg base N qual (defScope ss) f cdv A outer s H E0 (a, oe)) [] (L2.start N vs) H s1 := inv_startH S hpin e0 hlen r made
  refine wpAny_mono (ht.run [] s1 (L2.start N vs) H _ I0 hq) (fun fl s' hs => ?_) fun e s' hs => hs
  cases fl with
  | ret u =>
    obtain ⟨v, σ', H', J, rv, q⟩ := hs
    exact ⟨v, H', J.os, J.bare, J.base, J.hok, rv, q⟩
  | next =>
    obtain ⟨σ', H', J, q⟩ := hs
    exact ⟨V.non, H', J.os, J.bare, J.base, J.hok, rfl, q⟩
  | brk =>
    obtain ⟨_, _, _, z⟩ := hs
    exact z.elim
  | cont =>
    obtain ⟨_, _, _, z⟩ := hs
    exact z.elim
structure FnEx (G : Cfg) (P : Program) (w : World) (mg : Str → Option Value) (base : Heap) (x : Str) (k : Nat) (ps : List Str) (sp : SpE) : Prop where
  ex : ∃ (f : Addr) (fd : FuncData), FnE P w G.K mg base k f fd ps sp ∧ mg x = some (.ref f) ∧ PySem.W.keepIn G.K (.ref f) = true ∧ Binds G.K fd ps []
def tCallE (sp : SpE) (a : Addr) (c : Value) (d : Option Addr) (t : TA) : TE := fun σ H Q => t σ H fun vs H1 => sp a c d vs H1 Q
theorem pe_callE {X : Cx} {G : Cfg} {x : Str} {k : Nat} {ps : List Str} {sp : SpE} {e : Expr} {es : List Expr} {p pos : Pos} {ta : TA} {a : Addr} {c : Value} {d : Option Addr} {oe : Obj} {pn : List (Addr × Obj)} (H : FnEx G X.prog X.w X.mg X.base x k ps sp) (hr : Room k X.A)
    (hz : Zc c d oe) (hf : ∃ x, oe.data = .fields x) (hg : Gl X x) (ha : PA (X.suite a ((a, oe) :: pn)) (e :: es) ta) (hK : G.K = X.K := by rfl) (hdb : (x == ("__debug__" : Str)) = false := by decide)
    (he : starEach (e :: es) (X.suite a ((a, oe) :: pn)).env = (false, eval e (X.suite a ((a, oe) :: pn)).env) :: starEach es (X.suite a ((a, oe) :: pn)).env := by rfl) (hpl : (backTo pos (starEach es (X.suite a ((a, oe) :: pn)).env)).any (·.1) = false := by rfl) :
    PE (X.suite a ((a, oe) :: pn)) (.Call (.Name x p) (e :: es) [] pos) (tCallE sp a c d ta) := by
  obtain ⟨f, fd, F, hm, hk, hb⟩ := H.ex
  rw [hK] at F hk hb
  refine ⟨fun pins s σ H Q I h => ?_⟩
  refine wpAny_Call_Name_kw (ld_glob (X := X.suite a ((a, oe) :: pn)) I hg hm ?_ hdb)
  refine PySem.W.callWith_K (h₀ := X.base) I.ok.mod.kin hk (thn (ha.run pos pins s σ H _ I h) fun us s1 hh => ?_) he hpl
  obtain ⟨vs, H1, I1, r, q⟩ := hh
  refine ⟨I1.kIn, ?_⟩
  have hl : us.length = ps.length := by rw [← r.length]; exact F.len _ _ _ _ _ _ q
  have b := hb s1 us I1.kIn (by rw [List.append_nil]; exact hl)
  rw [List.append_nil] at b
  have P1 := I1.pin (a, oe) (List.mem_append_left _ (List.mem_cons_self ..))
  have hpin : PinOk X.stack H1 s1 (a, oe) := ⟨P1.1, P1.2.1, fun hm => (List.mem_cons.mp (I1.stkSub a hm)).elim P1.2.2.1 P1.2.2.2.1, P1.2.2.2.2⟩
  refine wpAny_call (codeAny_mono (F.run (X.A.mark (some (.ref a))) X.stack s1 H1 ⟨us, []⟩ us vs Q a oe c d ⟨hr.dp, hr.un⟩ hpin hz hf I1.env0 b r q) fun r s' hq => ?_)
  cases r with
  | error e => exact hq.elim
  | ok fl =>
    cases fl with
    | ret u => exact I1.after hq
    | next => exact False.elim hq
    | brk => exact False.elim hq
    | cont => exact False.elim hq
/-- isinstance(e, c) in such a def -/
theorem k_isEp {X : Cx} {K : PySem.W.Frag} {a : Addr} {cls : Value} {oe : Obj} {d : Option Addr} (hm : (a, oe) ∈ X.pn) (hz : Zc cls d oe) (hf : ∃ vs, oe.data = .fields vs) (hK : X.K = K := by rfl) : CallR X (.builtin "isinstance") (rIsEx K cls d a) := by
  subst hK
  intro pins s σ H xs us Q I r h
  obtain ⟨rfl, D, rfl, C, c, cv, b, rfl, hcv, e, q⟩ := h
  cases r with
  | cons rx rr =>
  cases rr with
  | cons rt rr =>
  cases rr
  cases rx
  have ec := hcv _ rt
  subst ec
  have hget := (I.pin (a, oe) (List.mem_append_left _ hm)).1
  obtain ⟨vs, hv⟩ := hf
  obtain ⟨oc, od, oda, osl⟩ := oe
  obtain ⟨h1, h2⟩ := hz
  dsimp only at h1 h2 hv
  subst h1 h2 hv
  have J : PySem.W.InstAt s.heap a _ D none := ⟨hget, rfl, rfl, trivial⟩
  exact PySem.W.kia_one (PySem.W.handS_kitx_exc C.hg C.hk C.hs C.hd C.ha C.hn C.ht C.hm) I.kIn J e (fun z => nomatch z) fun tk => ⟨.bl b, H, I.kept (t' := tk) fun _ _ z => z, rfl, q⟩
/-- what a def promises that makes a list of flags of the exception -/
def spFl (G : Cfg) (V : Addr) (ts : List Err) : SpE := fun a c d vs H Q => ∃ (F : Hp) (e : Err), c = .ref (G.ex e) ∧ d = none ∧ ExK G V e ts ∧ vs = [.ref a] ∧ Same F H ∧
  ∀ b ws F' H', Grow F H F' H' → H b = none → F' b = none → H' b = some (.lst ws) → Reps G F' ws ((flagsBy ts e).map .bl) → Q (.ref b) H'
theorem evn_callE {G : Cfg} {V : Addr} {ts : List Err} {te : TE} {ρ : Rho} {a : Addr} {e : Err} (K : ExK G V e ts) (h : EvD G te ρ (.ptr a)) : EvN G (tCallE (spFl G V ts) a (.ref (G.ex e)) none (tCons te tNil)) ρ ((flagsBy ts e).map .bl) := fun F0 H0 F H σ E Q q =>
  h F0 H0 F H σ E _ fun v F1 H1 g r1 => by
  cases r1
  exact ⟨F1, e, rfl, rfl, K, rfl, g.sub, fun b ws F' H' g' n1 n2 h1 r => q b ws F' H' (g.trans g') (g.eh.free n1) n2 h1 r⟩
end Vw

/-! an exception that leaves a list comprehension -/
namespace Vw
open PySem L2 PySem.Spec PyProof.Rows
section
variable {M : Model} {A : Around} {Ex : Value → Shared → Prop} {s : Shared} {env : Env}
/-- what is wanted behind the block: its variables' table at C may change once more; the list goes where it is used -/
def OkP (M : Model) (A : Around) (Ex : Value → Shared → Prop) (Q : Value → Shared → Prop) (acc : Value) (C : Addr) : Option (Value → Sem Unit) → Shared → Prop
  | none, t => ∃ m, t.heap.Ns C m ∧ ∀ h', Heap.SameBut C t.heap h' → Q acc { t with heap := h' }
  | some u, t => wpAny M A (u acc) (fun _ t2 => ∃ m, t2.heap.Ns C m ∧ ∀ h', Heap.SameBut C t2.heap h' → Q .none { t2 with heap := h' }) Ex t
def OutP (M : Model) (A : Around) (Ex : Value → Shared → Prop) (Q : Value → Shared → Prop) (use : Option (Value → Sem Unit)) (acc : Value) (C : Addr) (fr : Option Addr) : Result → Shared → Prop
  | .ok _, t => OkP M A Ex Q acc C use t
  | .error x, t => ∃ m, t.heap.Ns C m ∧ ∀ h', Heap.SameBut C t.heap h' → ∀ ce : Env, ce.frame = fr → wpAny M A (passOn "comprehension.variables-let-go" x ce : Sem Value) (fun _ _ => False) Ex { t with heap := h' }
theorem comp_out {e : Expr} {scope : Scope} {pos : Pos} {mk first : Sem Value} {g : Comprehension} {gs : List Comprehension} {cl : List (Str × Addr)} {use : Option (Value → Sem Unit)} {Q : Value → Shared → Prop} (hcl : clausesOf e = g :: gs) (hs : ∀ x, foldedSetIterable g.iter env x = pure x) (hclos : closureFor scope env = pure cl)
    (hkind : scope.kind = .function) (hnames : ∀ x ∈ scope.names, x.2 = .local → scope.names.lookup x.1 = some .local)
    (h : wpAny M A first (fun x s1 => wpAny M A (pyIter x) (fun it s2 => wpAny M A mk (fun acc s3 => wpAny M A (newFunctionEnv scope env.globals cl [] env.qual none .none (some env)) (fun ce s4 =>
      codeAny M A (.compStart e 0 it acc { ce with scope := relabel scope env }) (OutP M A Ex Q use acc ce.locals ce.frame) s4) Ex s3) Ex s2) Ex s1) Ex s) :
    wpAny M A (comprehension e scope env pos mk false first use) Q Ex s := by
  unfold comprehension
  rw [hclos, hcl]
  refine wpAny_bind (thn h fun x s1 h1 => wpAny_bind (wpAny_standAt (wpAny_bind (wpAny_of_eq (hs x) (wpAny_bind (wpAny_holding (thn h1 fun it s2 h2 =>
    wpAny_standIf (wpAny_bind (thn h2 fun acc s3 h3 => wpAny_bind (wpAny_pure (wpAny_bind (thn h3 fun ce s4 h4 => ?_))))))))))))
  dsimp only
  have loc : ∀ x ∈ (scope.names.filter fun x => (x.2 == .local || x.2 == .cell) && x.1 != (".0" : Str)).reverse, x.2 = .local → Env.kindOf { ce with scope := relabel scope env } x.1 = some .local :=
    fun x hx hl => lookup_relabel_local (hnames x (List.mem_filter.mp (List.mem_reverse.mp hx)).1 hl)
  refine wpAny_holding (wpAny_bind (wpAny_attempt (wpAny_holding (wpAny_run (codeAny_mono h4 fun r t hr => ?_)))))
  cases r with
  | ok f =>
    cases use with
    | none =>
      obtain ⟨m, hn, hr⟩ := hr
      exact wpAny_bind (wpAny_holding (wpAny_comp_letGo (cenv := { ce with scope := relabel scope env }) hkind _ t m loc hn fun h' m' _ hs' => wpAny_pure (hr h' hs')))
    | some u =>
      refine wpAny_bind (wpAny_rule (wpAny_bind (wpAny_holding (thn hr fun _ t2 ⟨m, hn, hr2⟩ => ?_))))
      refine wpAny_bind (wpAny_comp_letGo (cenv := { ce with scope := relabel scope env }) hkind _ t2 m (fun x hx => ?_) hn fun h' m' _ hs' => wpAny_pure (hr2 h' hs'))
      rcases List.mem_append.mp hx with z | z
      · exact loc x (List.mem_of_mem_drop z)
      · exact loc x (List.mem_of_mem_take z)
  | error x =>
    have hr' : OutP M A Ex Q use acc ce.locals ce.frame (.error x) t := hr
    obtain ⟨m, hn, hr2⟩ := hr'
    cases use <;> exact wpAny_bind (wpAny_holding (wpAny_comp_letGo (cenv := { ce with scope := relabel scope env }) hkind _ t m loc hn fun h' m' _ hs' => wpAny_mono (hr2 h' hs' { ce with scope := relabel scope env } rfl) (fun _ _ f => f.elim) fun _ _ y => y))
theorem note_frame {ce : Env} {u : Value} (h : ce.frame = env.frame) : noteFrame u ce = noteFrame u env := by
  unfold PySem.noteFrame PySem.frameOf
  rw [h]
end
/-- the block's context, its wish about exceptions told -/
abbrev blkX (X : Cx) (s : Shared) (H : Hp) (scope : Scope) (ce : Env) (fp : List Addr) (xe : Value → Shared → Prop) : Cx := { X.blk s H scope ce fp with xe := xe }
theorem Inv.toX {X : Cx} {pins : List (Addr × Obj)} {σ : L2.St} {H : Hp} {s : Shared} (xe : Value → Shared → Prop) (I : L2.Inv X pins σ H s) : L2.Inv { X with xe := xe } pins σ H s :=
  ⟨⟨I.ok.mod, I.ok.kind, I.ok.glob, I.ok.blt, I.ok.above, I.ok.inj, I.ok.has, I.ok.cab, I.ok.hd, I.ok.frames, I.ok.stk, I.ok.exf, I.ok.bs, I.ok.bsz, I.ok.noex, I.ok.exfs, I.ok.funs, I.ok.frf⟩, I.os, I.bare, I.base, I.loc, I.cell, I.free, I.freeC, I.pin, I.hok, I.len⟩
theorem frames_to {B B' h h' : Heap} : ∀ {l : List Env}, h.FunFrames B l → (∀ b ∈ frs l, ∀ o, h.get? b = some o → (∀ vs, o.data ≠ .fields vs) → h'.get? b = some o) → (∀ b ∈ frs l, B'.get? b = none) → h'.FunFrames B' l
  | [], _, _, _ => trivial
  | env :: l, h0, hk, hn => by
    obtain ⟨k, ⟨L, o, hf, _, ho, hd⟩, hr⟩ := h0
    have up : ∀ b ∈ frs l, b ∈ frs (env :: l) := fun b hb => by
      unfold frs
      rw [List.filterMap_cons, hf]
      exact List.mem_cons_of_mem _ hb
    have hL : L ∈ frs (env :: l) := by
      unfold frs
      rw [List.filterMap_cons, hf]
      exact List.mem_cons_self
    exact ⟨k, ⟨L, o, hf, hn L hL, hk L hL o ho hd, hd⟩, frames_to hr (fun b hb => hk b (up b hb)) fun b hb => hn b (up b hb)⟩
section
variable {X : Cx} {W : WX} {E : XK} {pins pins' : List (Addr × Obj)} {σ σ' : L2.St} {H3 H : Hp} {s3 s s' : Shared} {scope : Scope} {ce : Env} {fp : List Addr} {xe : Value → Shared → Prop} {u : Value} {Q : Value → Shared → Prop} {use : Option (Value → Sem Unit)} {acc : Value} {Ee : Value → Shared → Prop}
theorem block_out (hs : X.stack = X.env :: X.outer) (hf : X.env.frame = some X.env.locals) (tk : Takes X W) (hW : ∀ cls d H', E cls d H' → W cls d σ H') (I3 : L2.Inv X pins σ H3 s3) (f3 : ∀ b ∈ fp, FpOk X pins H3 b ∧ b < s3.heap.objs.size)
    (hcf : ce.frame = X.env.frame) (hC : ce.locals = s3.heap.objs.size) (I : L2.Inv (blkX X s3 H3 scope ce fp xe) pins' σ' H s) (c : L2.CX X.prog X.w X.stack H s E u s') :
    wpAny (model X.prog X.w) X.A (noteFrame u ce) (fun _ s2 => OutP (model X.prog X.w) X.A X.xe Q use acc ce.locals ce.frame (.error u) s2) Ee s' := by
  obtain ⟨a, B, H', cls, d, rfl, fl, hok, ub, na, os, ag, hE⟩ := c
  have hfr : X.A.frames = some (X.env :: X.outer) := by rw [I3.ok.frames, hs]
  have hlt : ∀ b ∈ frs X.stack, b < s3.heap.objs.size := fun b hb => by
    obtain ⟨_, o, ho, _⟩ := I3.stack.mem hb
    exact Heap.lt_size ho
  have nC : ce.locals ∉ frs X.stack := fun hb => Nat.lt_irrefl _ (by have := hlt _ hb; rw [hC] at this; exact this)
  have cfree : H ce.locals = none := I.free
  have base : Un (frs X.stack) fp H3 H s3.heap s.heap := I.base
  obtain ⟨m, hn, _⟩ := I.loc
  have hn : s.heap.Ns ce.locals m := hn
  obtain ⟨oC, es, ep, hoC, hdC, hr⟩ := hn
  have BC : B.get? ce.locals = some oC := ub.keep _ oC hoC cfree nC
  have HC : H' ce.locals = none := ub.free _ oC hoC cfree
  rw [note_frame hcf]
  rw [hs] at fl
  refine HandSPX.looks_onZ Zc.steady hfr hf fl fun h1 hh up1 => ?_
  obtain ⟨st1, ha, hl1, oe, vs, T, oT, ts, he, hz, hd, h1', hnT, hTe, hT, hdT, h3'⟩ := hh
  refine ⟨m, ⟨oC, es, ep, st1 _ oC BC, hdC, hr⟩, fun h2 sb ce' hce => ?_⟩
  have c1 : h1.get? ce.locals = some oC := st1 _ oC BC
  have aC : a ≠ ce.locals := fun e => by
    rw [e, c1] at he
    cases he
    rw [hdC] at hd
    cases hd
  have TC : T ≠ ce.locals := fun e => by
    rw [e, c1] at hT
    cases hT
    rw [hdC] at hdT
    cases hdT
  obtain ⟨B', hB'⟩ : ∃ B', B' = PySem.W.hideAll B [ce.locals] := ⟨_, rfl⟩
  have b1 : ∀ b o, B'.get? b = some o → B.get? b = some o ∧ b ≠ ce.locals := fun b o e => by
    rw [hB'] at e
    refine ⟨PySem.W.of_hideAll _ e, fun z => ?_⟩
    rw [PySem.W.hideAll_none _ (by rw [z]; exact List.mem_cons_self)] at e
    cases e
  have b2 : ∀ b o, B.get? b = some o → b ≠ ce.locals → B'.get? b = some o := fun b o e ne => by
    rw [hB']
    exact PySem.W.hideAll_get _ e (by simpa using ne)
  have bn : ∀ b, B.get? b = none → B'.get? b = none := fun b e => by
    cases q : B'.get? b with
    | none => rfl
    | some o =>
      rw [(b1 b o q).1] at e
      cases e
  have st2 : B'.StaysIn h2 := fun b o e => (sb.2 b (b1 b o e).2).trans (st1 b o (b1 b o e).1)
  have hl2 : h2.FunFrames B' (X.env :: X.outer) := frames_to hl1 (fun b hb o e _ => (sb.2 b fun z => nC (by rw [← z, hs]; exact hb)).trans e) fun b hb => bn b (hl1.mem hb).1
  have tr2 : HandSPX.TracedZ h2 B' a (Zc cls d) (rawInt X.env.locals) := ⟨oe, vs, T, oT, ts, (sb.2 a aC).trans he, hz, hd, h1', bn T hnT, hTe, (sb.2 T TC).trans hT, hdT, h3'⟩
  unfold PySem.passOn
  refine wpAny_bind (wpAny_field ((sb.2 a aC).trans he) hd h1' ?_)
  rw [if_neg (show ¬ ((Value.ref T == Value.none) = true) from by simp)]
  refine wpAny_bind (HandSPX.setFlight_anyZ (s := { s' with heap := h2 }) st2 hl2 tr2 fun h4 st4 hl4 tr4 up4 => wpAny_throw (tk _ _ ?_))
  have efl : (ce'.frame.elim Value.none fun f => rawInt f) = rawInt X.env.locals := by rw [hce, hcf, hf]; rfl
  rw [efl] at tr4
  -- the state without the exception
  obtain ⟨K, g1, g2⟩ := restrict h4 fun b => (B'.get? b).isSome || decide (b ∈ frs X.stack)
  have gB : ∀ b o, B'.get? b = some o → K.get? b = some o := fun b o e => by
    rw [g1 b (by simp [e])]
    exact st4 b o e
  have gF : ∀ b, b ∈ frs X.stack → K.get? b = h4.get? b := fun b hb => g1 b (by simp [hb])
  have og : ∀ b o, K.get? b = some o → h4.get? b = some o ∧ ((B'.get? b).isSome = true ∨ b ∈ frs X.stack) := fun b o e => by
    cases q : ((B'.get? b).isSome || decide (b ∈ frs X.stack)) with
    | false => rw [g2 b q] at e; cases e
    | true =>
      rw [g1 b q] at e
      exact ⟨e, by simpa [Bool.or_eq_true] using q⟩
  have nfp : ∀ b, b ∉ ce.locals :: fp → b ∉ fp ∧ b ≠ ce.locals := fun b hb => ⟨fun z => hb (List.mem_cons_of_mem _ z), fun z => hb (by rw [z]; exact List.mem_cons_self)⟩
  have fslot : ∀ b o, s3.heap.get? b = some o → H3 b = none → b ∈ frs X.stack → b ∉ fp → ∃ sl, K.get? b = some { o with slots := sl } := fun b o e n hb hx => by
    obtain ⟨_, o0, e0, hnf⟩ := I3.stack.mem hb
    rw [e] at e0
    cases e0
    obtain ⟨sl1, e1⟩ := base.slot b o e n hb hx
    obtain ⟨sl2, e2⟩ := ub.slot b _ e1 hb
    obtain ⟨sl3, e3⟩ := up1 b _ e2 hnf
    have e4 : h2.get? b = some { o with slots := sl3 } := (sb.2 b fun z => nC (by rw [← z]; exact hb)).trans e3
    obtain ⟨sl5, e5⟩ := up4 b _ e4 hnf
    exact ⟨sl5, by rw [gF b hb]; exact e5⟩
  have kn : ∀ b ∈ frs X.stack, H3 b = none := I3.stkFree
  refine ⟨a, B', { s3 with heap := K, gens := s'.gens, drawn := s'.drawn, toks := s'.toks }, pins, σ, H', cls, d, rfl, ?_, fun b o e hb => ?_, Heap.UpToSlots.of_keeps fun b o e => (og b o e).1,
    .inr (.inr ⟨st4, bn a ha, by rw [hs]; exact hl4, tr4⟩), na, os.trans I.os, ag, hW _ _ _ hE⟩
  · refine I3.call (ch := ce.locals :: fp) ⟨fun b o e n hb hx => ?_, fun b o e n hb hx => fslot b o e n hb (nfp b hx).1, fun b o e n hx => ?_, fun b o e hx => ?_, fun b xs q => ub.tups b xs (base.tups b xs q), fun b o xs q => ub.frzs b o xs (base.frzs b o xs q), fun b ps q => ?_⟩ (fun b o q => ?_) ag (fun b hb => ?_)
    · exact gB b o (b2 b o (ub.keep b o (base.keep b o e n hb (nfp b hx).1) (base.free b o e n (nfp b hx).1) hb) (nfp b hx).2)
    · obtain ⟨o', e'⟩ := base.there b o e (nfp b hx).1
      exact ub.free b o' e' (base.free b o e n (nfp b hx).1)
    · by_cases hb : b ∈ frs X.stack
      · obtain ⟨sl, q⟩ := fslot b o e (kn b hb) hb (nfp b hx).1
        exact ⟨_, q⟩
      · obtain ⟨o', e'⟩ := base.there b o e (nfp b hx).1
        obtain ⟨o2, e2⟩ := ub.there b o' e' hb
        exact ⟨o2, gB b o2 (b2 b o2 e2 (nfp b hx).2)⟩
    · obtain ⟨m1, e1⟩ := base.tbls b ps q
      obtain ⟨m2, e2⟩ := ub.tbls b _ e1
      exact ⟨m1 ++ m2, by rw [e2, Array.append_assoc]⟩
    · refine (hok b o q).stay (fun x v hc r => gB x v (b2 x v r fun z => ?_)) (fun _ r => r) fun _ _ r => r
      rw [z] at hc
      rcases hc with hc | hc
      · rw [← hc, HC] at q
        cases q
      · rw [HC] at hc
        cases hc
    · rcases List.mem_cons.mp hb with e | hb
      · rw [e, hC]
        have z := I3.fpOk (H' := H') (Nat.le_refl _) (by rw [← hC]; exact HC)
        exact ⟨z.2.2.2.1, z.2.1, z.2.2.2.2.1, z.2.2.2.2.2⟩
      · have z := (f3 b hb).1
        exact ⟨z.2.2.2.1, z.2.1, z.2.2.2.2.1, z.2.2.2.2.2⟩
  · obtain ⟨e', h⟩ := og b o e
    rcases h with h | h
    · obtain ⟨o', q⟩ := Option.isSome_iff_exists.mp h
      have z := st4 b o' q
      rw [e'] at z
      cases z
      exact q
    · exact absurd h hb
end

/-- [elt for target in iter], the element may raise: as the reading of its element says -/
theorem lc_out {X : Cx} {E : XK} {elt tg iter : Expr} {scope : Scope} {own : List (Str × Nat)} {pos pos' : Pos} {wi : TI} {g : TG} {te : TE} {pins : List (Addr × Obj)} {s : Shared} {σ : L2.St} {H : Hp} {Q : VK} {use : Option (Value → Sem Unit)} {Qf : Value → Shared → Prop} (hc : X.calm = true) (hN : X.N.Nodup)
    (hs : X.stack = X.env :: X.outer) (hf : X.env.frame = some X.env.locals) (tk : Takes X (wd E)) (I : L2.Inv X pins σ H s) (hi : PI X tg iter wi)
    (ok : BlkOk X.N X.env.scope scope own) (hg : ∀ (s : Shared) (H : Hp) (C : Addr) (cl : List (Str × Addr)) (fp : List Addr) (xe : Value → Shared → Prop), PG (blkX X s H scope (compEnvC scope cl C X.env) fp xe) tg g)
    (he : ∀ (s : Shared) (H : Hp) (C : Addr) (cl : List (Str × Addr)) (fp : List Addr) (xe : Value → Shared → Prop), (∀ CX, (CX = CX0 ∨ CX = L2.CX X.prog X.w) → Passes CX (blkX X s H scope (compEnvC scope cl C X.env) fp xe) E) → PE (blkX X s H scope (compEnvC scope cl C X.env) fp xe) elt te)
    (hfs : ∀ x, foldedSetIterable iter X.env x = pure x) (h : tLc wi g tYes te (own.map (·.2)) σ H Q)
    (hRR : ∀ D C s' m H', L2.Inv X pins σ H' s' → Q (.ref D) H' → s'.heap.Ns C m → FpOk X pins H' C → OkP (model X.prog X.w) X.A X.xe Qf (.ref D) C use s') :
    wpAny (model X.prog X.w) X.A (comprehension (.ListComp elt [⟨tg, iter, [], 0⟩] scope pos) scope X.env pos' (newList []) false (eval iter X.env) use) Qf X.xe s := by
  have hfree : ∀ y ∈ scope.names, y.2 = .free → ∃ c, X.env.cells.lookup y.1 = some c := fun y hy e => by
    rcases ok.free y hy e with k | k
    · exact I.ok.has _ (.inl k)
    · exact I.ok.has _ (.inr k)
  refine comp_out rfl hfs (closure_ok hfree) ok.kind (fun y hy e => by rw [ok.uniq y hy, e]) (thn (hi.run pins s σ H _ I h) fun _ s1 hx => thn hx fun _ s2 ⟨it, fp, tn, J, H2, e, I2, T, st2, f2, q⟩ => ?_)
  subst e
  refine wpAny_newObj_type (newEnv_comp ?_) (by show 0 ≤ sizeLine; decide)
  -- the new list, at D
  obtain ⟨D, hD⟩ : ∃ D, s2.heap.objs.size = D := ⟨_, rfl⟩
  obtain ⟨W, ⟨m0, w0⟩, turn⟩ := q D (I2.hok.fresh (Nat.le_of_eq hD))
  have I3 := I2.laid (a := D) (o := .lst []) (t' := s2.toks) (h' := s2.heap.push { cls := .type "list", data := .seq ([] : List Value).toArray }) (fun b o e => Heap.get?_push_of_some _ e) (Nat.le_of_eq hD)
    ⟨Nat.zero_le _, [], 0, .nil, by rw [← hD]; exact Heap.get?_push_size _ rfl⟩
  obtain ⟨s3, hs3⟩ : ∃ s3 : Shared, s3 = { s2 with heap := s2.heap.push { cls := .type "list", data := .seq ([] : List Value).toArray }, toks := s2.toks } := ⟨_, rfl⟩
  rw [← hs3] at I3
  have h3 : s3.heap = s2.heap.push { cls := .type "list", data := .seq ([] : List Value).toArray } := by rw [hs3]
  have k3 : ∀ b o, s2.heap.get? b = some o → s3.heap.get? b = some o := fun b o e => by
    rw [h3]
    exact Heap.get?_push_of_some _ e
  have f3 : ∀ b ∈ fp, FpOk X pins (upd H2 D (.lst [])) b ∧ b < s3.heap.objs.size := fun b hb => by
    obtain ⟨o, e, _⟩ := T.obj _ _ st2 b hb
    have lt := Heap.lt_size e
    exact ⟨⟨by rw [upd_ne (by rw [← hD]; exact Nat.ne_of_lt lt)]; exact (f2 b hb).1, (f2 b hb).2⟩, Heap.lt_size (k3 b o e)⟩
  have st3 : tn 0 s3.heap := T.keep _ _ _ st2 fun b _ o e => k3 b o e
  show codeAny _ _ (.compStart (.ListComp elt [⟨tg, iter, [], 0⟩] scope pos) 0 (.ref it) (.ref s2.heap.objs.size) (compEnvC scope (cellsFrom ((s2.heap.push { cls := .type "list", data := .seq ([] : List Value).toArray }).objs.size + 1) scope.names (cloFrom X.env.cells scope.names [])) (s2.heap.push { cls := .type "list", data := .seq ([] : List Value).toArray }).objs.size X.env)) _ _
  rw [hD, ← h3]
  have I4 := block_start I3 ok hN f3
  obtain ⟨ce, hce⟩ : ∃ ce, ce = compEnvC scope (cellsFrom (s3.heap.objs.size + 1) scope.names (cloFrom X.env.cells scope.names [])) s3.heap.objs.size X.env := ⟨_, rfl⟩
  obtain ⟨s4, hs4⟩ : ∃ s4 : Shared, s4 = { s3 with heap := pushCells (s3.heap.push { cls := .type "dict", data := .dict #[] }) scope.names } := ⟨_, rfl⟩
  rw [← hs4, ← hce] at I4
  have e4 : ({ ({ s2 with heap := s2.heap.push { cls := .type "list", data := .seq ([] : List Value).toArray } } : Shared) with heap := pushCells (s3.heap.push { cls := .type "dict", data := .dict #[] }) scope.names } : Shared) = s4 := by rw [hs4, hs3]
  rw [← hce]
  have cL : ce.locals = s3.heap.objs.size := by rw [hce]; rfl
  have cF : ce.frame = X.env.frame := by rw [hce]; rfl
  obtain ⟨R, hR⟩ : ∃ R, R = OutP (model X.prog X.w) X.A X.xe Qf use (.ref D) ce.locals ce.frame := ⟨_, rfl⟩
  obtain ⟨xe, hxe⟩ : ∃ xe, xe = notedBy (model X.prog X.w) X.A ce (fun e t => R (.error e) t) := ⟨_, rfl⟩
  have pass : ∀ CX, (CX = CX0 ∨ CX = L2.CX X.prog X.w) → Passes CX (blkX X s3 (upd H2 D (.lst [])) scope ce fp xe) E := fun CX hCX pins' σ' H' t u t' I' hx => by
    rcases hCX with z | z
    · subst z
      exact hx.elim
    · subst z
      show xe u t'
      rw [hxe, hR]
      exact block_out (W := wd E) (pins := pins) (σ := σ) hs hf tk (fun _ _ _ h => h) I3 f3 cF cL I' hx
  have pg : PG (blkX X s3 (upd H2 D (.lst [])) scope ce fp xe) tg g := by rw [hce]; exact hg _ _ _ _ _ _
  have pe : PE (blkX X s3 (upd H2 D (.lst [])) scope ce fp xe) elt te := by
    rw [hce] at pass ⊢
    exact he _ _ _ _ _ _ pass
  have main : codeAny (model X.prog X.w) X.A (.compStart (.ListComp elt [⟨tg, iter, [], 0⟩] scope pos) 0 (.ref it) (.ref D) ce) R s4 := by
    have st4 : tn 0 s4.heap := T.keep _ _ _ st3 fun b _ o e => by
      rw [hs4]
      exact pushCells_keeps _ _ _ _ (Heap.get?_push_of_some _ e)
    have stat : ∀ {σ' : L2.St} {H' : Hp} {t : Shared}, L2.Inv (blkX X s3 (upd H2 D (.lst [])) scope ce fp xe) [] σ' H' t → (∀ b ∈ fp, H' b = none) → ∀ b ∈ fp, FpOk (blkX X s3 (upd H2 D (.lst [])) scope ce fp xe) [] H' b := fun {σ' H' t} J hn b hb =>
      ⟨hn b hb, (J.ok.exf b hb).1, J.ok.exfs b hb, .inl hb, fun x c e => (J.ok.exf b hb).2 x c e, fun p hp => absurd (show p ∈ ([] : List (Addr × Obj)) ++ [] from hp) (by simp)⟩
    have loop : codeAny (model X.prog X.w) X.A (.compLoop (.ListComp elt [⟨tg, iter, [], 0⟩] scope pos) 0 (.ref it) (.ref D) ce) R s4 := by
      refine compLoop_any (fun n t => ∃ i H', L2.Inv (blkX X s3 (upd H2 D (.lst [])) scope ce fp xe) [] (wipe σ (own.map (·.2))) H' t ∧ tn i t.heap ∧ (∀ b ∈ fp, H' b = none) ∧ W i n H') ?_ m0 ⟨0, _, Inv.toX xe I4, st4, fun b hb => (f3 b hb).1.1, w0⟩
      rw [← hxe]
      rintro n s5 ⟨i, H5, I5, st5, n5, w5⟩
      rcases turn i n H5 w5 with ⟨stop, qq⟩ | ⟨go, Nx, hNx, step⟩
      · refine thn (T.done (blkX X s3 (upd H2 D (.lst [])) scope ce fp xe) rfl rfl rfl hc i [] s5 _ H5 xe I5 (stat I5 n5) st5 stop) fun r s6 ⟨hr, I6⟩ => ?_
        subst hr
        show R (.ok .next) s6
        have I7 : L2.Inv X pins σ H5 s6 := I3.call' (ch := fp) I6.os I6.base I6.hok I6.bare fun b hb => ⟨(f3 b hb).1.2.2.2.1, (f3 b hb).1.2.1, (f3 b hb).1.2.2.2.2.1, (f3 b hb).1.2.2.2.2.2⟩
        have nC : H5 ce.locals = none := I6.free
        obtain ⟨m, hn, _⟩ := I6.loc
        have hn : s6.heap.Ns ce.locals m := hn
        rw [hR]
        exact hRR D ce.locals s6 m H5 I7 qq hn (I3.fpOk (by rw [cL]; exact Nat.le_refl _) nC)
      · refine thn (T.item (blkX X s3 (upd H2 D (.lst [])) scope ce fp xe) rfl rfl rfl hc i [] s5 _ H5 xe I5 (stat I5 n5) st5 go) fun r s6 ⟨u, hr, h6⟩ => ?_
        subst hr
        refine thn h6 fun _ s7 ⟨x, H7, I7, r7, y7, st7, n7⟩ => ?_
        have I7' := I7.pinned (stat I7 n7) (T.obj _ _ st7)
        refine thn (pg.run _ s7 _ H7 x u _ I7' r7 (step x H7 y7)) fun _ s8 ⟨σ8, H8, I8, hw8, q8⟩ => ?_
        refine wpAny_tests_nil ?_
        simp only [if_true]
        refine thn (pe.run _ s8 σ8 H8 _ I8 q8) fun z s10 ⟨yv, H10, I10, r10, acc, hD10, hz10, nx⟩ => ?_
        refine app_ok (X := blkX X s3 (upd H2 D (.lst [])) scope ce fp xe) I10 hD10 hz10 r10 fun s11 I11 => ?_
        obtain ⟨m', hm, w'⟩ := hNx _ nx
        have pin' : ∀ b ∈ fp, ∀ o, s7.heap.get? b = some o → s11.heap.get? b = some o ∧ upd H10 D (.lst (acc ++ [yv])) b = none := fun b hb o e =>
          let z := I11.pin (b, o) (List.mem_append_right _ (List.mem_append_right _ (mem_pinsAt hb e)))
          ⟨z.1, z.2.1⟩
        refine ⟨m', hm, i + 1, _, (I11.unpinned (pins := [])).weak (by rw [← hw8, wipe_length]) (fun j v e => ?_), T.keep _ _ _ st7 fun b hb o e => (pin' b hb o e).1, fun b hb => ?_, w'⟩
        · rw [← hw8] at e
          exact (wipe_some e).1
        · obtain ⟨o, e, _⟩ := T.obj _ _ st7 b hb
          exact (pin' b hb o e).2
    exact codeAny_compStart_list loop (T.self X.A 0 _ _ _ st4 loop)
  subst hR hs4 hce hs3
  exact main
section
variable {X : Cx} {E : XK} {elt tg iter : Expr} {scope : Scope} {own : List (Str × Nat)} {pos spos : Pos} {wi : TI} {g : TG} {te : TE}
theorem pe_lcX (hc : X.calm = true) (hN : X.N.Nodup) (hs : X.stack = X.env :: X.outer) (hf : X.env.frame = some X.env.locals) (tk : Takes X (wd E)) (hi : PI X tg iter wi)
    (ok : BlkOk X.N X.env.scope scope own) (hg : ∀ (s : Shared) (H : Hp) (C : Addr) (cl : List (Str × Addr)) (fp : List Addr) (xe : Value → Shared → Prop), PG (blkX X s H scope (compEnvC scope cl C X.env) fp xe) tg g)
    (he : ∀ (s : Shared) (H : Hp) (C : Addr) (cl : List (Str × Addr)) (fp : List Addr) (xe : Value → Shared → Prop), (∀ CX, (CX = CX0 ∨ CX = L2.CX X.prog X.w) → Passes CX (blkX X s H scope (compEnvC scope cl C X.env) fp xe) E) → PE (blkX X s H scope (compEnvC scope cl C X.env) fp xe) elt te)
    (hfs : ∀ x, foldedSetIterable iter X.env x = pure x := by intro _; rfl) : PE X (.ListComp elt [⟨tg, iter, [], 0⟩] scope pos) (tLc wi g tYes te (own.map (·.2))) := by
  refine ⟨fun pins s σ H Q I h => ?_⟩
  rw [eval_ListComp]
  refine lc_out hc hN hs hf tk I hi ok hg he hfs h fun D C s' m H' I' q hn f => ⟨m, hn, fun h' sb => ?_⟩
  obtain ⟨p0, p1, p2, p3, p4, p5⟩ := f
  exact ⟨.ref D, H', I'.turned (t' := s'.toks) (fun b o hb e => (sb.2 b hb).trans e) p0 p1 p3 p4 p5, rfl, q⟩
theorem ps_setLcX {i : Nat} {y : Str} {py : Pos} (hc : X.calm = true) (hN : X.N.Nodup) (hy : X.N[i]? = some y) (hyl : X.env.scope.names.lookup y = some .local) (hsw : swapsWith (.ListComp elt [⟨tg, iter, [], 0⟩] scope pos) (some (.Name y py)) spos.line X.env = pure true)
    (hs : X.stack = X.env :: X.outer) (hf : X.env.frame = some X.env.locals) (tk : Takes X (wd E)) (hi : PI X tg iter wi)
    (ok : BlkOk X.N X.env.scope scope own) (hg : ∀ (s : Shared) (H : Hp) (C : Addr) (cl : List (Str × Addr)) (fp : List Addr) (xe : Value → Shared → Prop), PG (blkX X s H scope (compEnvC scope cl C X.env) fp xe) tg g)
    (he : ∀ (s : Shared) (H : Hp) (C : Addr) (cl : List (Str × Addr)) (fp : List Addr) (xe : Value → Shared → Prop), (∀ CX, (CX = CX0 ∨ CX = L2.CX X.prog X.w) → Passes CX (blkX X s H scope (compEnvC scope cl C X.env) fp xe) E) → PE (blkX X s H scope (compEnvC scope cl C X.env) fp xe) elt te)
    (hfs : ∀ x, foldedSetIterable iter X.env x = pure x := by intro _; rfl) : PS X (.Assign [.Name y py] (.ListComp elt [⟨tg, iter, [], 0⟩] scope pos) spos) (tAsg (tLc wi g tYes te (own.map (·.2))) (gName i)) := by
  refine ⟨fun pins s σ H D I h => ?_⟩
  rw [exec_Assign_Name_used _ _ _ _ hsw]
  refine wpAny_bind (wpAny_standAt (wpAny_bind ?_))
  have h : tLc wi g tYes te (own.map (·.2)) σ H (fun x H1 => gName i x σ H1 D.nx) := h
  show wpAny _ X.A (do let _ ← comprehension (.ListComp elt [⟨tg, iter, [], 0⟩] scope pos) scope X.env (firstIterPos [⟨tg, iter, [], 0⟩] pos) (newList []) false (eval iter X.env) (some (assign (.Name y py) X.env))) _ _ s
  refine wpAny_bind (thn (lc_out (Qf := fun _ s' => SP X pins D .next s') hc hN hs hf tk I hi ok hg he hfs h fun L C s' m H' I' q hn f => ?_) fun _ s' hq => wpAny_pure (wpAny_pure hq))
  show wpAny _ _ (assign (.Name y py) X.env (.ref L)) _ _ _
  refine wpAny_assign_Name (store_ok2 (v := V.ref L) I' hN hy (.inl hyl) rfl (fun s2 I2 ⟨a, sb, ha⟩ => ?_) (.inr hyl))
  obtain ⟨p0, p1, p2, p3, p4, p5⟩ := f
  have ne : C ≠ a := by
    rcases ha with z | z
    · rw [z]
      exact p1
    · exact fun e => p4 y a z e.symm
  exact ⟨m, hn.sameBut sb ne, fun h3 sb3 => ⟨_, H', I2.turned (t' := s2.toks) (fun b o hb e => (sb3.2 b hb).trans e) p0 p1 p3 p4 p5, q⟩⟩
end
/-- an own def called within the block -/
theorem pe_callB' {G : Cfg} {Y : Cx} {E : XK} {x : Str} {k : Nat} {ps : List Str} {R : List D → Res → Prop} {e : Expr} {es : List Expr} {p pos : Pos} {ta : TA} (H : Fn G Y.prog Y.w Y.mg Y.base x k ps R) (hr : Room k Y.A) (hg : Gl Y x) (pass : ∀ CX, (CX = CX0 ∨ CX = L2.CX Y.prog Y.w) → Passes CX Y E)
    (ha : PA Y (e :: es) ta) (hK : G.K = Y.K := by rfl) (hdb : (x == ("__debug__" : Str)) = false := by decide)
    (he : starEach (e :: es) Y.env = (false, eval e Y.env) :: starEach es Y.env := by rfl) (hpl : (backTo pos (starEach es Y.env)).any (·.1) = false := by rfl) :
    PE Y (.Call (.Name x p) (e :: es) [] pos) (tCall (mkSp G R) [] E ta) := by
  obtain ⟨CX, f, fd, hx, hf, hm, hk, hb⟩ := H.ex
  rw [hK] at hf hk hb
  exact pe_call hf hr hg hm hk hb .nil (pass CX hx) ha hdb he hpl
/-! ### the same, over plain data -/
def optR (e : Err) : Option D → Res
  | some d => .val d
  | none => .err e
def optRL (e : Err) : Option (List D) → Res
  | some ds => .new ds
  | none => .err e
theorem optAll_none {α β : Type} {f : α → Option β} : ∀ {xs : List α} {x : α}, x ∈ xs → f x = none → optAll f xs = none
  | y :: ys, x, hx, h => by
    unfold optAll
    rcases List.mem_cons.mp hx with e | hm
    · subst e
      rw [h]
    · rw [optAll_none hm h]
      cases f y <;> rfl
theorem optAll_snoc {α β : Type} {f : α → Option β} {x : α} {b : β} (h : f x = some b) : ∀ {xs : List α} {ys : List β}, optAll f xs = some ys → optAll f (xs ++ [x]) = some (ys ++ [b])
  | [], ys, q => by
    cases q
    show optAll f [x] = some [b]
    unfold optAll
    rw [h]
    rfl
  | y :: xs, ys, q => by
    rw [List.cons_append]
    unfold optAll at q ⊢
    cases q1 : f y with
    | none => rw [q1] at q; cases q
    | some a =>
      cases q2 : optAll f xs with
      | none => rw [q1, q2] at q; cases q
      | some as =>
        rw [q1, q2] at q
        cases q
        rw [optAll_snoc h q2]
        rfl
theorem if_true_of {A B : Prop} (h : A) : if true = true then A else B := by
  rw [if_pos rfl]
  exact h
section
variable {G : Cfg} {ρ : Rho} {tl te : TE} {α : Type} {j : Nat} {vs : List Nat} {Ex : XK}
theorem evx_lcL (xs : List α) (enc : α → D) (f : α → Option D) (e : Err) (hl : EvS G tl ρ (xs.map enc)) (hz : xs.length ≤ 100000) (hj : j ∈ vs) (he : ∀ x ∈ xs, EvX G Ex te ((wipeR ρ vs).set j (.im (enc x))) (optR e (f x))) :
    EvX G Ex (tLc (iList G.K tl) (gName j) tYes te vs) ρ (optRL e (optAll f xs)) := fun F0 H0 F H σ E Q q => hl F0 H0 F H σ E _ fun a ws F1 H1 g1 h1 r => by
  refine ⟨a, rfl, ⟨ws, SqL.of h1⟩, fun Dl hD => ?_⟩
  have hn : xs.length = ws.length := by rw [r.length, List.length_map]
  refine lc_list (xs := ws) (fun i H => ∃ out, optAll f (xs.take i) = some out ∧ out.length ≤ i ∧ Cmp G F0 H0 F1 H1 Dl σ ρ out H) ⟨[], rfl, Nat.le_refl _, F1, [], (Grow.refl (E.grow g1).sub).fresh hD, E.s0, hD, (E.grow g1).sub.free hD, upd_same, .nil⟩
    (fun i H _ ⟨_, _, _, F, acc, gr, _⟩ => SqL.of (gr.eh _ _ h1)) ?_ ?_
  · rintro i v H' hv ⟨out, ho, hlen, F', acc, gr, s0, n1, nf, hD', r'⟩
    obtain ⟨x, hx, rx⟩ := r.item hv
    have hm : x ∈ xs := List.mem_of_getElem? hx
    have hi : i < xs.length := (List.getElem?_eq_some_iff.mp hx).1
    refine ⟨wipe_set hj, ?_⟩
    dsimp only [tYes]
    refine if_true_of ?_
    have R' : REnv G F0 H0 F' H' ((L2.wipe σ vs).set j (some v)) ((wipeR ρ vs).set j (.im (enc x))) := (((E.grow g1).grow gr).wipe vs).setIm (rx.mono gr.ef)
    refine he x hm F0 H0 F' H' _ R' _ ?_
    cases hf : f x with
    | none =>
      rw [optAll_none hm hf] at q
      exact fun F2 H2 g2 => q F2 H2 ((g1.trans gr).trans g2)
    | some d =>
      refine fun y F4 H4 g4 ry => ?_
      have hD4 : H4 Dl = some (.lst acc) := g4.eh _ _ hD'
      have keepD4 : F4 Dl = none := g4.new _ nf (by rw [hD']; exact fun z => nomatch z)
      have g14 := gr.trans g4
      refine ⟨acc, hD4, ?_, out ++ [d], ?_, ?_, F4, acc ++ [y], ⟨g14.ef, fun b o z => ?_, fun b o z => ?_, g14.new⟩, s0, n1, keepD4, upd_same, ?_⟩
      · rw [r'.length]
        exact Nat.lt_of_le_of_lt (Nat.le_trans (Nat.le_of_lt (Nat.lt_of_le_of_lt hlen hi)) hz) (by decide)
      · have et : xs.take (i + 1) = xs.take i ++ [x] := by
          rw [List.take_add_one, hx]
          rfl
        rw [et]
        exact optAll_snoc hf ho
      · rw [List.length_append]
        exact Nat.succ_le_succ hlen
      · rw [upd_ne (ne_of_none z n1)]
        exact g14.eh b o z
      · rw [upd_ne (ne_of_none z keepD4)]
        exact g14.sub b o z
      · exact (r'.mono g4.ef).append (.one ry)
  · rintro H' ⟨out, ho, _, F', acc, gr, s0, n1, nf, hD', r'⟩
    rw [← hn, List.take_length] at ho
    rw [ho] at q
    exact q Dl acc F' H' (g1.trans gr) (g1.eh.free n1) nf hD' r'
end
end Vw

/-! a try of two clauses whose suites may raise; defs whose exceptions have no context -/
namespace Vw
open PySem L2 PySem.Spec PyProof.Rows L2H HotX
section
variable {X : Cx} {σ : L2.St} {H : Hp} {D : Ends} {pins : List (Addr × Obj)} {a : Addr} {B h3 : Heap} {sI s' : Shared} {cls : Value} {d : Option Addr} {Wout : WX}
/-- an exception stands before the clauses -/
structure Cought (X : Cx) (pins : List (Addr × Obj)) (σ : L2.St) (H : Hp) (a : Addr) (B h3 : Heap) (sI s' : Shared) (cls : Value) (d : Option Addr) : Prop where
  inv : L2.Inv X pins σ H sI
  nb : ∀ b o, sI.heap.get? b = some o → b ∉ frs X.stack → B.get? b = some o
  up : sI.heap.UpToSlots h3
  fl : HandSPX.FlyingZ B (X.env :: X.outer) a (L2N.Zn cls d) h3
  na : H a = none
  os : s'.os = sI.os
  ag : AllBare s'.gens
/-- no clause is left: it goes on -/
theorem Cought.on (c : Cought X pins σ H a B h3 sI s' cls d) (hs : X.stack = X.env :: X.outer) (hf : X.env.frame = some X.env.locals) (tk : L2.Takes X Wout) (w : Wout cls d σ H) : wpAny (model X.prog X.w) X.A (handleBy (.ref a) X.env []) (SP X pins D) X.xe { s' with heap := h3 } := by
  refine wpAny_handleBy_nil ?_
  have fl := flyingZ_imp (fun o z => z.zc) c.fl
  obtain ⟨k1, k2, k3, oe, vs, T, oT, ts', he, hz, hd, h1, hr⟩ := id fl
  have fin : wpAny (model X.prog X.w) X.A (setFlight (.ref a) X.env.frame) (fun _ s4 => wpAny (model X.prog X.w) X.A (throw (.ref a) : Sem Flow) (SP X pins D) X.xe s4) X.xe { s' with heap := h3 } := by
    rw [hf]
    exact HandSPX.setFlight_upZ fl fun h4 hh4 up4 => wpAny_throw (tk _ _ ⟨a, B, sI, pins, σ, H, cls, d, rfl, c.inv, c.nb, c.up.trans up4, .inr (.inr (by rw [hs]; exact hh4)), c.na, c.os, c.ag, w⟩)
  unfold PySem.passOn
  refine wpAny_bind (wpAny_field he hd h1 ?_)
  rw [if_neg (show ¬ ((Value.ref T == Value.none) = true) from by simp)]
  first
    | exact wpAny_bind (wpAny_pure (wpAny_bind fin))
    | exact wpAny_bind fin
/-- one clause; the next ones -/
theorem Cought.clause {x : Str} {v : Value} {np pos' : Pos} {b₀ : Stmt} {suite : List Stmt} {ts : Addr → Value → Option Addr → TS} {hds : List ExceptHandler} (c : Cought X pins σ H a B h3 sI s' cls d) (hs : X.stack = X.env :: X.outer) (hf : X.env.frame = some X.env.locals) (hc : Names X x v)
    (hpa : ∀ hd : Option Value, PassesOwnAt (model X.prog X.w) (X.A.mark hd) X.A X.env X.xe) (tk : L2.Takes X Wout)
    (hsu : ∀ (a : Addr) (oe : Obj) (cls : Value) (d : Option Addr) (pn : List (Addr × Obj)), L2N.Zn cls d oe → (∃ vs, oe.data = .fields vs) → L2.Takes (suiteX X a ((a, oe) :: pn)) Wout → HotC (suiteX X a ((a, oe) :: pn)) → PSs (suiteX X a ((a, oe) :: pn)) (b₀ :: suite) (ts a cls d))
    {b : Bool} (hb : PySem.W.exmOne X.K cls v = some b) (hyes : b = true → ∀ a, H a = none → ts a cls d D σ H) (hno : b = false → wpAny (model X.prog X.w) X.A (handleBy (.ref a) X.env hds) (SP X pins D) X.xe { s' with heap := h3 }) :
    wpAny (model X.prog X.w) X.A (handleBy (.ref a) X.env (.ExceptHandler (some (.Name x np)) none (b₀ :: suite) pos' :: hds)) (SP X pins D) X.xe { s' with heap := h3 } := by
  have ok := c.inv.ok
  have J3 : L2.Inv X pins σ H { s' with heap := h3 } := c.inv.landed (s' := { s' with heap := h3 }) c.nb c.fl.1 c.up c.os c.ag
  obtain ⟨oe3, vs3, he3, hz3, hd3⟩ := c.fl.there
  have nfr : a ∉ frs (X.env :: X.outer) := fun hm => by
    obtain ⟨_, o', e', hnf⟩ := c.fl.2.2.1.mem hm
    rw [he3] at e'
    cases e'
    exact hnf _ hd3
  have nL : a ≠ X.env.locals := fun z => nfr (List.mem_filterMap.mpr ⟨X.env, List.mem_cons_self, by rw [hf, z]⟩)
  have nF : a ∉ X.fs := fun hm => by
    obtain ⟨e, he, q⟩ := List.mem_filterMap.mp hm
    exact nfr (List.mem_filterMap.mpr ⟨e, List.mem_cons_of_mem _ he, q⟩)
  have S3 := J3.suite he3 hd3 c.na nL nF
  have test : ∀ {Q : Value → Shared → Prop} {E : Value → Shared → Prop}, Q v { s' with heap := h3 } → wpAny (model X.prog X.w) (X.A.mark (some (.ref a))) (eval (.Name x np) X.env) Q E { s' with heap := h3 } := fun {Q E} q => by
    obtain ⟨hg, hdbg, hm | ⟨hm, hv, hnn⟩⟩ := hc
    · exact ld_glob (X := X.suite a ((a, oe3) :: (X.pn ++ pins))) S3 hg hm q hdbg
    · exact ld_blt (X := X.suite a ((a, oe3) :: (X.pn ++ pins))) S3 hg hm hv q hnn hdbg
  have LT : PySem.W.Looks (model X.prog X.w) h3 (typeOf (.ref a)) cls := fun A Q E s k q => wpAny_typeOf_ref (k _ _ he3) (by rw [hz3.1]; exact q)
  refine wpAny_handleBy_cons (codeAny_handlers_test ?_) (by intro q; cases q)
  refine test ((PySem.W.exm_one (M := model X.prog X.w) J3.kIn LT hb).here ?_)
  cases b with
  | false => exact hno rfl
  | true =>
    refine codeAny_handlers_suite ?_
    refine HandSPX.lands_againZ (s := { s' with heap := h3 }) c.fl fun h4 fl4 up4 => ?_
    have J4 : L2.Inv X pins σ H { s' with heap := h4 } := c.inv.landed (s' := { s' with heap := h4 }) c.nb fl4.1 (c.up.trans up4) c.os c.ag
    obtain ⟨oe4, vs4, he4, hz4, hd4⟩ := fl4.there
    have S4 := J4.suite he4 hd4 c.na nL nF
    have tkS : L2.Takes (suiteX X a ((a, oe4) :: (X.pn ++ pins))) Wout := fun u2 s2 ⟨a2, B2, sI2, pn2, σ2, H2, cls2, d2, e2, I2, nb2, up2, sky2, na2, os2, ag2, w2⟩ =>
      tk u2 s2 ⟨a2, B2, sI2, pins, σ2, H2, cls2, d2, e2, unsuiteX I2 ok, nb2, up2, sky2, na2, os2, ag2, w2⟩
    refine wpAny_mono ((hsu a oe4 cls d (X.pn ++ pins) hz4 ⟨_, hd4⟩ tkS ⟨(a, oe4), ⟨rfl, vs4, hd4, hz4.2.2 vs4 hd4⟩, List.mem_cons_self⟩).run [] _ _ H _ (suiteX_of S4) (hyes rfl a c.na)) (fun f s6 hsp => ?_) (fun e6 s6 z => hpa (some (.ref a)) e6 s6 z)
    cases f with
    | ret u =>
      obtain ⟨v6, σ6, H6, S6, r6, q6⟩ := hsp
      exact ⟨_, _, _, unsuiteX S6 ok, r6, q6⟩
    | next =>
      obtain ⟨σ6, H6, S6, q6⟩ := hsp
      exact ⟨_, _, unsuiteX S6 ok, q6⟩
    | brk =>
      obtain ⟨σ6, H6, S6, q6⟩ := hsp
      exact ⟨_, _, unsuiteX S6 ok, q6⟩
    | cont =>
      obtain ⟨σ6, H6, S6, q6⟩ := hsp
      exact ⟨_, _, unsuiteX S6 ok, q6⟩
end
def tTry2 (K : PySem.W.Frag) (tb : WX → TS) (c1 : Value) (ts1 : Addr → Value → Option Addr → TS) (c2 : Value) (ts2 : Addr → Value → Option Addr → TS) (Wout : WX) : TS := fun D σ H => tb (wMany K Wout D [(c1, ts1), (c2, ts2)]) D σ H
theorem ps_tryTwoX {X : Cx} {K : PySem.W.Frag} {body : List Stmt} {x1 x2 : Str} {c1 c2 : Value} {np1 np2 pos1 pos2 pos : Pos} {b1 b2 : Stmt} {su1 su2 : List Stmt} {ts1 ts2 : Addr → Value → Option Addr → TS} {tb : WX → TS} {Wout : WX} (hs : X.stack = X.env :: X.outer) (hf : X.env.frame = some X.env.locals)
    (hpa : ∀ hd : Option Value, PassesOwnAt (model X.prog X.w) (X.A.mark hd) X.A X.env X.xe) (tk : L2.Takes X Wout)
    (hb : ∀ (W : WX) (pn : List (Addr × Obj)) (xe : Value → Shared → Prop), L2N.Takes (X.tr pn xe) W → PassesOwn (model X.prog X.w) X.A X.env xe → PSs (X.tr pn xe) body (tb W))
    (hc1 : Names X x1 c1)
    (hsu1 : ∀ (a : Addr) (oe : Obj) (cls : Value) (d : Option Addr) (pn : List (Addr × Obj)), L2N.Zn cls d oe → (∃ vs, oe.data = .fields vs) → L2.Takes (suiteX X a ((a, oe) :: pn)) Wout → HotC (suiteX X a ((a, oe) :: pn)) → PSs (suiteX X a ((a, oe) :: pn)) (b1 :: su1) (ts1 a cls d))
    (hc2 : Names X x2 c2)
    (hsu2 : ∀ (a : Addr) (oe : Obj) (cls : Value) (d : Option Addr) (pn : List (Addr × Obj)), L2N.Zn cls d oe → (∃ vs, oe.data = .fields vs) → L2.Takes (suiteX X a ((a, oe) :: pn)) Wout → HotC (suiteX X a ((a, oe) :: pn)) → PSs (suiteX X a ((a, oe) :: pn)) (b2 :: su2) (ts2 a cls d))
    (hK : X.K = K := by rfl) :
    PS X (.Try body [.ExceptHandler (some (.Name x1 np1)) none (b1 :: su1) pos1, .ExceptHandler (some (.Name x2 np2)) none (b2 :: su2) pos2] [] [] pos) (tTry2 K tb c1 ts1 c2 ts2 Wout) := by
  subst hK
  refine ⟨fun pins s σ H D I h => ?_⟩
  have ok := I.ok
  have hfr : X.A.frames = some (X.env :: X.outer) := by rw [ok.frames, hs]
  refine wpAny_Try_except ?_
  refine wpAny_mono ((hb (wMany X.K Wout D [(c1, ts1), (c2, ts2)]) (X.pn ++ pins) (fun e s₁ => wpAny (model X.prog X.w) X.A (noteFrame e X.env) (fun _ s₂ => wpAny (model X.prog X.w) X.A (setFlight e none) (fun _ s₃ =>
    wpAny (model X.prog X.w) X.A (handleBy e X.env [.ExceptHandler (some (.Name x1 np1)) none (b1 :: su1) pos1, .ExceptHandler (some (.Name x2 np2)) none (b2 :: su2) pos2]) (SP X pins D) X.xe s₃) X.xe s₂) X.xe s₁) (fun u s' xx => ?_) PassesOwn.looking).run [] s σ H D (I.toTry _) h) (fun f s1 hsp => ?_) (fun e s1 he => he)
  · obtain ⟨a, B, sI, pins', σ', H', cls, d, rfl, J', nb, up, sky, na, os, ag, w⟩ := xx
    have sky' : Sky B (X.env :: X.outer) a (L2N.Zn cls d) X.env.locals s'.heap := by rw [← hs]; exact sky
    show wpAny (model X.prog X.w) X.A (noteFrame (.ref a) X.env) _ _ _
    refine L2N.Sky.land L2N.Zn.steady hfr hf sky' fun h3 fl3 up3 => ?_
    have c : Cought X pins σ' H' a B h3 sI s' cls d := ⟨J'.ofTry ok, nb, up.trans up3, fl3, na, os, ag⟩
    obtain ⟨b, hb1, hyes, hno⟩ := w
    refine c.clause hs hf hc1 hpa tk hsu1 hb1 hyes fun e => ?_
    obtain ⟨b', hb2, hyes2, hno2⟩ := hno e
    exact c.clause hs hf hc2 hpa tk hsu2 hb2 hyes2 fun e2 => c.on hs hf tk (hno2 e2)
  · cases f with
    | next =>
      obtain ⟨σ', H', J', q⟩ := hsp
      exact wpAny_execs_nil ⟨σ', H', J'.ofTry ok, q⟩
    | brk =>
      obtain ⟨σ', H', J', q⟩ := hsp
      exact ⟨σ', H', J'.ofTry ok, q⟩
    | cont =>
      obtain ⟨σ', H', J', q⟩ := hsp
      exact ⟨σ', H', J'.ofTry ok, q⟩
    | ret u =>
      obtain ⟨v, σ', H', J', r, q⟩ := hsp
      exact ⟨v, σ', H', J'.ofTry ok, r, q⟩
end Vw

namespace Vw
open PySem L2 PySem.Spec PyProof.Rows L2H HotX
/-! ### defs whose exceptions have no context -/
theorem cxN_cx {P : Program} {w : World} {outer : List Env} {H : Hp} {s : Shared} {E : XK} {u : Value} {s' : Shared} (c : L2N.CX P w outer H s E u s') : L2.CX P w outer H s E u s' := by
  obtain ⟨a, B, H', cls, d, e, fl, hok, ub, na, os, ag, hE⟩ := c
  exact ⟨a, B, H', cls, d, e, flyingZ_imp (fun o z => z.zc) fl, hok, ub, na, os, ag, hE⟩
theorem fnOk_N {P : Program} {w : World} {K : PySem.W.Frag} {mg : Str → Option Value} {base : Heap} {k : Nat} {f : Addr} {fd : FuncData} {ps : List Str} {sp : Sp} (F : FnOk P w K mg base (L2N.CX P w) k f fd ps sp) : FnOk P w K mg base (L2.CX P w) k f fd ps sp :=
  ⟨F.len, fun A outer s H args us vs Q E hr e0 hb r hsp => codeAny_mono (F.run A outer s H args us vs Q E hr e0 hb r hsp) fun r s' z => by
    cases r with
    | error e => exact cxN_cx z
    | ok fl =>
      cases fl with
      | ret u => exact z
      | next => exact z.elim
      | brk => exact z.elim
      | cont => exact z.elim⟩
structure FnN (G : Cfg) (P : Program) (w : World) (mg : Str → Option Value) (base : Heap) (x : Str) (k : Nat) (ps : List Str) (R : List D → Res → Prop) : Prop where
  ex : ∃ (f : Addr) (fd : FuncData), FnOk P w G.K mg base (L2N.CX P w) k f fd ps (mkSp G R) ∧ mg x = some (.ref f) ∧ PySem.W.keepIn G.K (.ref f) = true ∧ Binds G.K fd ps []
theorem FnN.fn {G : Cfg} {P : Program} {w : World} {mg : Str → Option Value} {base : Heap} {x : Str} {k : Nat} {ps : List Str} {R : List D → Res → Prop} (h : FnN G P w mg base x k ps R) : Fn G P w mg base x k ps R := by
  obtain ⟨f, fd, h1, h2, h3, h4⟩ := h.ex
  exact ⟨_, f, fd, .inr rfl, fnOk_N h1, h2, h3, h4⟩
structure IniN (G : Cfg) (P : Program) (w : World) (mg : Str → Option Value) (base : Heap) (k : Nat) : Prop where
  ex : ∃ (f : Addr) (fd : FuncData), FnOk P w G.K mg base (L2N.CX P w) k f fd ["self", "many", "crowds"] (spInit G) ∧ Mk G.K G.C f ∧ mg "Council" = some (.ref G.C) ∧ Binds G.K fd ["self", "many", "crowds"] []
theorem IniN.ini {G : Cfg} {P : Program} {w : World} {mg : Str → Option Value} {base : Heap} {k : Nat} (h : IniN G P w mg base k) : Ini G P w mg base k := by
  obtain ⟨f, fd, h1, h2, h3, h4⟩ := h.ex
  exact ⟨_, f, fd, .inr rfl, fnOk_N h1, h2, h3, h4⟩
section
variable {P : Program} {w : World} {K : PySem.W.Frag} {mg : Str → Option Value} {base : Heap}
theorem funOkN {x qual : Str} {st : Stmt} {f : Addr} {fd : FuncData} {N ps : List Str} {k : Nat} {sp : Sp} (F : Fun K x qual st f fd) (S : FnScope N ps (defScope st)) (len : ∀ vs H Q E, sp vs H Q E → vs.length = ps.length)
    (hbody : ∀ (cdv : Value) (A : Around) (outer : List Env) (s : Shared) (H : Hp) (vs : List V) (Q : VK) (E : XK), Room k (A.deeper (envOfC qual (defScope st) s.heap.objs.size f cdv)) → sp vs H Q E →
      ∃ t, PSs (cxOf (L2N.CX P w) P w K mg base N qual (defScope st) f cdv A outer s H E) (defBody st) t ∧ t { nx := fun _ H' => Q .non H', rt := Q } (L2.start N vs) H) : FnOk P w K mg base (L2N.CX P w) (k + 1) f fd ps sp := by
  obtain ⟨oc, od, kV, doc, pm, an, cdv, ct, osl, rfl, lk, hcd⟩ := F.ex
  exact fn_of lk hcd S len fun A outer s H vs Q E hr hsp => hbody cdv A outer s H vs Q E hr hsp
theorem okN {G : Cfg} {x qual : Str} {st : Stmt} {f : Addr} {fd : FuncData} {N ps : List Str} {k : Nat} {R : List D → Res → Prop} (F : Fun K x qual st f fd) (S : FnScope N ps (defScope st)) (hlen : ∀ ds r, R ds r → ds.length = ps.length) (hps : ps.length ≤ N.length)
    (hbody : ∀ (cdv : Value) (A : Around) (outer : List Env) (s : Shared) (H : Hp) (E : XK), Room k (A.deeper (envOfC qual (defScope st) s.heap.objs.size f cdv)) →
      ∃ t, PSs (cxOf (L2N.CX P w) P w K mg base N qual (defScope st) f cdv A outer s H E) (defBody st) t ∧ ∀ ds r, R ds r → WS G (wd E) t (kEnd r) (rho0 N.length ds)) : FnOk P w K mg base (L2N.CX P w) (k + 1) f fd ps (mkSp G R) := by
  refine funOkN F S (fun vs H Q E h => ?_) (fun cdv A outer s H vs Q E hr h => ?_)
  · obtain ⟨F, ds, r, _, ra, hR, _⟩ := h
    rw [Paired.length ra]
    exact hlen ds r hR
  · obtain ⟨t, hp, hw⟩ := hbody cdv A outer s H E hr
    obtain ⟨F, ds, r, sf, ra, hR, g⟩ := h
    exact ⟨t, hp, body_ok (hw ds r hR) (by rw [hlen ds r hR]; exact hps) sf ra g⟩
end
section
variable {X : Cx} {G : Cfg} {x : Str} {k : Nat} {ps : List Str} {R : List D → Res → Prop} {e : Expr} {es : List Expr} {p pos : Pos} {ta : TA} {W : WX} {E : XK}
theorem pe_callN (H : FnN G X.prog X.w X.mg X.base x k ps R) (hr : Room k X.A) (hg : Gl X x) (tk : L2N.Takes X (wd E)) (ha : PA X (e :: es) ta) (hK : G.K = X.K := by rfl) (hdb : (x == ("__debug__" : Str)) = false := by decide)
    (he : starEach (e :: es) X.env = (false, eval e X.env) :: starEach es X.env := by rfl) (hpl : (backTo pos (starEach es X.env)).any (·.1) = false := by rfl) :
    PE X (.Call (.Name x p) (e :: es) [] pos) (tCall (mkSp G R) [] E ta) := by
  obtain ⟨f, fd, hf, hm, hk, hb⟩ := H.ex
  rw [hK] at hf hk hb
  exact pe_call hf hr hg hm hk hb .nil (L2N.passes_call tk fun _ _ _ _ h => h) ha hdb he hpl
theorem pe_makeN (H : IniN G X.prog X.w X.mg X.base k) (hr : Room (k + 1) X.A) (hg : Gl X "Council") (tk : L2N.Takes X W) (ha : PA X (e :: es) ta) (hK : G.K = X.K := by rfl)
    (he : starEach (e :: es) X.env = (false, eval e X.env) :: starEach es X.env := by rfl) (hpl : (backTo pos (starEach es X.env)).any (·.1) = false := by rfl) :
    PE X (.Call (.Name "Council" p) (e :: es) [] pos) (tMakeW G.C (spInit G) (WE W) ta) := by
  obtain ⟨f, fd, hf, hm, hc, hb⟩ := H.ex
  rw [hK] at hf hm hb
  refine ⟨fun pins s σ H Q I h => ?_⟩
  refine wpAny_Call_Name_kw (ld_glob I hg hc ?_ (by decide))
  refine PySem.W.callWith_K (h₀ := X.base) I.ok.mod.kin hm.kp (thn (ha.run pos pins s σ H _ I h) fun us s1 ⟨vs, H1, I1, r, q⟩ => ⟨I1.kIn, ?_⟩) he hpl
  exact run_makeS (E := WE W) hm hf hr hb (L2N.passAt tk σ) I1 r q
end
/-! ### a try whose body stores -/
def EvXS (G : Cfg) (te : WX → TE) (ρ : Rho) (r : Res) : Prop := ∀ (W' : WX) F0 H0 F H σ, REnv G F0 H0 F H σ ρ → ∀ Q : VK, Goes G F H Q (WE W' σ) r → te W' σ H Q
def TryQA (G : Cfg) (W' : WX) (D : Ends) (σ : L2.St) (F H : Hp) (i : Nat) : Res → Prop
  | .err e => ∀ F' H', Grow F H F' H' → W' (.ref (G.ex e)) none σ H'
  | .val d => ∀ v F' H', Grow F H F' H' → Rep G F' v d → D.nx (σ.set i (some v)) H'
  | .new _ => False
  | .trip _ _ _ => False
def TryA (G : Cfg) (tb : WX → TS) (i : Nat) (ρ : Rho) (r : Res) : Prop := ∀ F0 H0 F H σ, REnv G F0 H0 F H σ ρ → ∀ (W' : WX) (D : Ends), TryQA G W' D σ F H i r → tb W' D σ H
section
variable {G : Cfg} {ρ : Rho} {ta : TA} {te : WX → TE} {r : Res} {R : List D → Res → Prop} {ds : List D} {n : Int} {cs : List (List Int)} {i : Nat} {s : Str}
theorem trya_asg (h : EvXS G te ρ r) : TryA G (fun W => tAsg (te W) (gName i)) i ρ r := fun F0 H0 F H σ E W' D q => by
  refine h W' F0 H0 F H σ E _ ?_
  cases r with
  | val d => exact fun v F' H' g' rv => q v F' H' g' rv
  | err e => exact q
  | new ds => exact q.elim
  | trip s W b => exact q.elim
theorem evxs_make (h : EvA G ta ρ [.int n, .lst (cs.map eC)]) (hz : cs.length ≤ 10000) : EvXS G (fun W => tMakeW G.C (spInit G) (WE W) ta) ρ (couRes n cs) := fun W' F0 H0 F H σ E Q q => by
  have := evx_make (G := G) (E := WE W' σ) h hz F0 H0 F H σ E Q q
  unfold tMake at this
  simp only [List.append_nil] at this
  exact this
theorem evxs_call (h : EvA G ta ρ ds) (hr : R ds r) : EvXS G (fun W => tCallS (mkSp G R) (WE W) ta) ρ r := fun W' F0 H0 F H σ E Q q =>
  h F0 H0 F H σ E _ fun vs F1 H1 g rr => ⟨F1, ds, r, g.sub, rr, hr, q.after g⟩
def tupR (s : Str) : Res → Res
  | .val d => .val (.tup [.str s, d])
  | .err e => .err e
  | .new ds => .new ds
  | .trip s W b => .trip s W b
def isVE : Res → Prop
  | .val _ => True
  | .err _ => True
  | _ => False
theorem evxs_tup (h : EvXS G te ρ r) (hv : isVE r) : EvXS G (fun W => tTup (tCons (tC (.str s)) (tCons (te W) tNil))) ρ (tupR s r) := fun W' F0 H0 F H σ E Q q => by
  show te W' σ H fun v H1 => _
  refine h W' F0 H0 F H σ E _ ?_
  cases r with
  | err e => exact q
  | new ds => exact hv.elim
  | trip s W b => exact hv.elim
  | val d =>
    intro v F' H' g' rv
    exact ⟨by show 2 ≤ sizeLine; decide, fun p hp => q _ _ _ (g'.laid hp) (.tup upd_same (.cons (.str s) (.cons (rv.mono (same_upd (g'.sub.free hp))) .nil)))⟩
theorem ws_try2 {Wout : WX} {k : Ks} {tb : WX → TS} {c1 c2 : Value} {ts1 ts2 : Addr → Value → Option Addr → TS} (h : TryA G tb i ρ r) (hok : ∀ d, r = .val d → k.nx (ρ.set i (.im d))) (hv : isVE r)
    (her : ∀ e, r = .err e → (PySem.W.exmOne G.K (.ref (G.ex e)) c1 = some true ∧ ∀ a, WS G Wout (ts1 a (.ref (G.ex e)) none) k ρ) ∨
      (PySem.W.exmOne G.K (.ref (G.ex e)) c1 = some false ∧ PySem.W.exmOne G.K (.ref (G.ex e)) c2 = some true ∧ ∀ a, WS G Wout (ts2 a (.ref (G.ex e)) none) k ρ)) :
    WS G Wout (tTry2 G.K tb c1 ts1 c2 ts2 Wout) k ρ := fun F0 H0 F H σ D E K => by
  refine h F0 H0 F H σ E _ D ?_
  cases r with
  | new ds => exact hv.elim
  | trip s W b => exact hv.elim
  | val d => exact fun v F' H' g' rv => K.nx _ (hok d rfl) F' H' _ g'.ef ((E.grow g').setIm rv)
  | err e =>
    intro F' H' g'
    have go : ∀ ts : TS, WS G Wout ts k ρ → ts D σ H' := fun ts hw => hw F0 H0 F' H' σ D (E.grow g') (K.later g'.ef)
    rcases her e rfl with ⟨m1, hw⟩ | ⟨m1, m2, hw⟩
    · exact ⟨true, m1, fun _ a _ => go _ (hw a), fun z => nomatch z⟩
    · exact ⟨false, m1, (fun z => nomatch z), fun _ => ⟨true, m2, fun _ a _ => go _ (hw a), fun z => nomatch z⟩⟩
theorem ws_tryAsA {W Wout : WX} {k : Ks} {tb : WX → TS} {ts : Addr → Value → Option Addr → TS} {V : Addr} {j : Nat} (h : TryA G tb i ρ r) (hok : ∀ d, r = .val d → k.nx (ρ.set i (.im d))) (hv : isVE r)
    (her : ∀ e, r = .err e → PySem.W.exmOne G.K (.ref (G.ex e)) (.ref V) = some true ∧ ∀ a, WS G (fun _ _ _ _ => True) (ts a (.ref (G.ex e)) none) (kSuite k j) (ρ.set j (.im (.ptr a)))) :
    WS G W (tTryAs G.K (.ref V) j tb ts Wout) k ρ := fun F0 H0 F H σ D E K => by
  refine h F0 H0 F H σ E _ D ?_
  cases r with
  | new ds => exact hv.elim
  | trip s W b => exact hv.elim
  | val d => exact fun v F' H' g' rv => K.nx _ (hok d rfl) F' H' _ g'.ef ((E.grow g').setIm rv)
  | err e =>
    obtain ⟨m1, hw⟩ := her e rfl
    refine fun F' H' g' => ⟨true, m1, fun _ a _ => ?_, fun z => nomatch z⟩
    refine hw a F0 H0 F' H' _ _ ((E.grow g').setIm (.ptr a)) ⟨fun ρ' hn F2 H2 σ2 s2 R2 => K.nx _ hn F2 H2 _ (g'.ef.trans s2) R2.setNo, fun ρ' hn F2 H2 σ2 s2 R2 => K.bk _ hn F2 H2 _ (g'.ef.trans s2) R2.setNo, fun ρ' hn F2 H2 σ2 s2 R2 => K.ct _ hn F2 H2 _ (g'.ef.trans s2) R2.setNo, K.rt, fun _ z => z.elim⟩
/-- tuple([.. that may raise ..]) -/
theorem evx_tupleX {te : TE} {Ex : XK} {o : Option (List D)} {e : Err} (h : EvX G Ex te ρ (optRL e o)) :
    EvX G Ex (tCB (fun xs H Q => ∃ p ys, xs = [V.ref p] ∧ ((SqL G.K H p ys ∧ ∀ l, H l = none → Q (.ref l) (upd H l (.tup ys))) ∨ (SqT G.K H p ys ∧ Q (.ref p) H))) (tCons te tNil)) ρ (optR e (o.map .tup)) := fun F0 H0 F H σ E Q q => by
  refine h F0 H0 F H σ E _ ?_
  cases o with
  | none => exact q
  | some ds =>
    intro a vs F' H' g h0 hf h1 r
    exact ⟨a, vs, rfl, .inl ⟨SqL.of h1, fun l hl => q _ _ _ (g.laid hl) (.tup upd_same (r.mono (same_upd (g.sub.free hl))))⟩⟩
end
end Vw

/-! sets of rows (int, tuple of ints): over the tables of HandS.TupSets, for any kind of keys that stand on the heap -/
namespace Vw
open PySem L2 PySem.Spec PyProof.Rows
/-! ### small questions asked of a tuple, its items' answers known -/
section
variable {P : Program} {w : World} {s : Shared}
theorem byval_tuple {n m : Nat} {a : Addr} {o : Obj} {vs : Array Value} (ho : s.heap.get? a = some o) (hc : o.cls = .type "tuple") (hd : o.data = .seq vs m)
    (hq : ∀ v ∈ vs.toList, ∀ (A : Around) (E : Value → Shared → Prop) (Q : Bool → Shared → Prop), Q true s → wpAny (model P w) A (hashByValue n v) Q E s) (A : Around) (E : Value → Shared → Prop) (Q : Bool → Shared → Prop) (h : Q true s) :
    wpAny (model P w) A (hashByValue (n + 1) (.ref a)) Q E s := by
  have hT : s.TypeIs (.ref a) "tuple" := ⟨o, ho, hc⟩
  unfold hashByValue
  refine wpAny_bind (wpAny_specialOf hT F.slot_tuple_hash.lookup ?_)
  show wpAny _ _ (seqItems? (.ref a) >>= _) _ _ s
  refine wpAny_bind (wpAny_seqItems ho hd (wpAny_bind ?_))
  show wpAny _ _ (forIn vs _ _) _ _ s
  rw [← Array.forIn_toList]
  refine wpAny_forIn_list _ (fun rest r t => r.1 = none ∧ t = s ∧ ∀ v ∈ rest, v ∈ vs.toList) _ ?_ ?_ _ _ ⟨rfl, rfl, fun _ z => z⟩
  · rintro v rest r t ⟨_, rfl, hall⟩
    refine wpAny_bind (hq v (hall v List.mem_cons_self) _ _ _ ?_)
    simp only [Bool.not_true, Bool.false_eq_true, if_false]
    exact wpAny_pure ⟨rfl, rfl, fun u z => hall u (List.mem_cons_of_mem _ z)⟩
  · rintro ⟨r1, r2⟩ t ⟨hr, rfl, _⟩
    simp only at hr
    subst hr
    exact wpAny_pure h
theorem nocls_tuple {n m : Nat} {a : Addr} {o : Obj} {vs : Array Value} (ho : s.heap.get? a = some o) (hc : o.cls = .type "tuple") (hd : o.data = .seq vs m)
    (hq : ∀ v ∈ vs.toList, ∀ (A : Around) (E : Value → Shared → Prop) (Q : Bool → Shared → Prop), Q false s → wpAny (model P w) A (ofAClassStatement n v) Q E s) (A : Around) (E : Value → Shared → Prop) (Q : Bool → Shared → Prop) (h : Q false s) :
    wpAny (model P w) A (ofAClassStatement (n + 1) (.ref a)) Q E s := by
  have hT : s.TypeIs (.ref a) "tuple" := ⟨o, ho, hc⟩
  unfold ofAClassStatement
  refine wpAny_bind (wpAny_typeOf hT ?_)
  dsimp only
  have e : (("tuple" : String) == "tuple") = true := by decide
  simp only [e, if_true, Bool.not_true, Bool.false_eq_true, if_false]
  try refine wpAny_bind (wpAny_pure ?_)
  try simp only [Bool.not_true, Bool.false_eq_true, if_false]
  show wpAny _ _ (seqItems? (.ref a) >>= _) _ _ s
  refine wpAny_bind (wpAny_seqItems ho hd ?_)
  dsimp only
  refine wpAny_bind ?_
  show wpAny _ _ (forIn vs _ _) _ _ s
  rw [← Array.forIn_toList]
  refine wpAny_forIn_list _ (fun rest r t => r.1 = none ∧ t = s ∧ ∀ v ∈ rest, v ∈ vs.toList) _ ?_ ?_ _ _ ⟨rfl, rfl, fun _ z => z⟩
  · rintro v rest r t ⟨_, rfl, hall⟩
    refine wpAny_bind (hq v (hall v List.mem_cons_self) _ _ _ ?_)
    simp only [Bool.false_eq_true, if_false]
    exact wpAny_pure ⟨rfl, rfl, fun u z => hall u (List.mem_cons_of_mem _ z)⟩
  · rintro ⟨r1, r2⟩ t ⟨hr, rfl, _⟩
    simp only at hr
    subst hr
    exact wpAny_pure h
end
/-! ### the kind of keys: rows -/
abbrev Row := Int × List Int
def rowKey (r : Row) : NestedKey := .tup [.num r.1, .tup (r.2.map .num)]
theorem nums_inj : ∀ {a b : List Int}, a.map NestedKey.num = b.map NestedKey.num → a = b
  | [], [], _ => rfl
  | [], _ :: _, h => nomatch h
  | _ :: _, [], h => nomatch h
  | x :: a, y :: b, h => by
    injection h with h1 h2
    injection h1 with h1
    rw [h1, nums_inj h2]
theorem rowKey_inj {a b : Row} (h : rowKey a = rowKey b) : a = b := by
  unfold rowKey at h
  injection h with h
  injection h with h1 h2
  injection h1 with h1
  injection h2 with h2 _
  injection h2 with h2
  exact Prod.ext h1 (nums_inj h2)
theorem depth_nums : ∀ l : List Int, NestedKey.depthAll (l.map NestedKey.num) = 0
  | [] => by
    show NestedKey.depthAll [] = 0
    unfold NestedKey.depthAll
    rfl
  | x :: l => by
    rw [List.map_cons]
    unfold NestedKey.depthAll
    rw [depth_nums l]
    unfold NestedKey.depth
    rfl
theorem rowKey_depth (r : Row) : (rowKey r).depth ≤ 8 := by
  unfold rowKey
  simp only [NestedKey.depth, NestedKey.depthAll, depth_nums]
  decide
def rowKind (P : Program) (w : World) : HeapKind P w Row where
  is h k a := NestedIs h (rowKey k) (.ref a)
  hash k := (rowKey k).hash w
  draws k := (rowKey k).draws
  room A := A.units + 8 < cLine
  inj hx hy := rowKey_inj (NestedIs.inj _ _ _ hx hy)
  keeps hx ho hd hs := ((nestedKind P w).keeps (k := rowKey _) ⟨hx, rowKey_depth _⟩ ho hd hs).1
  pyHash hu hk h := (nestedKind P w).pyHash (k := rowKey _) hu ⟨hk, rowKey_depth _⟩ h
  eqBool {A E s x y a b Q} hu hx hy h := (nestedKind P w).eqBool (x := rowKey x) (y := rowKey y) hu ⟨hx, rowKey_depth _⟩ ⟨hy, rowKey_depth _⟩ (by
    have e : decide (rowKey x = rowKey y) = decide (x = y) := decide_eq_decide.mpr ⟨rowKey_inj, fun z => by rw [z]⟩
    rw [e]
    exact h)
  quiet hk h := (nestedKind P w).quiet (k := rowKey _) ⟨hk, rowKey_depth _⟩ h
theorem nums_items {h : Heap} : ∀ {ns : List Int} {vs : List Value}, NestedAll h (ns.map NestedKey.num) vs → ∀ v ∈ vs, (∃ i t, v = Value.int i t) ∨ ∃ b, v = Value.bool b
  | [], _, .nil, _, hv => by cases hv
  | n :: ns, v' :: vs, h', v, hv => by
    cases h' with
    | cons h1 h2 =>
      rcases List.mem_cons.mp hv with e | hv
      · subst e
        cases h1 with
        | int i t => exact .inl ⟨_, _, rfl⟩
        | bool e => exact .inr ⟨_, rfl⟩
      · exact nums_items h2 v hv
/-- what a kind must bear besides -/
structure Fit (P : Program) (w : World) {κ : Type} [DecidableEq κ] (knd : HeapKind P w κ) : Prop where
  inSet : ∀ {h h' : Heap} {k : κ} {b a : Addr} {o : Obj} {es : Array (Int × Value)} {ep : Nat} {t : SetTable}, knd.is h k b → h.get? a = some o → o.data = .set es ep t → Heap.SameBut a h h' → knd.is h' k b
  inAll : ∀ {h h' : Heap} {k : κ} {b : Addr}, knd.is h k b → (∀ c o, h.get? c = some o → h'.get? c = some o) → knd.is h' k b
  byVal : ∀ {A : Around} {E : Value → Shared → Prop} {s : Shared} {k : κ} {b : Addr} {Q : Bool → Shared → Prop}, knd.is s.heap k b → Q true s → wpAny (model P w) A (hashByValue 8 (.ref b)) Q E s
  noCls : ∀ {A : Around} {E : Value → Shared → Prop} {s : Shared} {k : κ} {b : Addr} {Q : Bool → Shared → Prop}, knd.is s.heap k b → Q false s → wpAny (model P w) A (ofAClassStatement 8 (.ref b)) Q E s
theorem row_parts {h : Heap} {r : Row} {a : Addr} (x : NestedIs h (rowKey r) (.ref a)) : ∃ o n v c oc vc nc, h.get? a = some o ∧ o.cls = .type "tuple" ∧ o.data = .seq #[v, .ref c] n ∧ ((∃ i t, v = Value.int i t) ∨ ∃ b, v = Value.bool b) ∧
    h.get? c = some oc ∧ oc.cls = .type "tuple" ∧ oc.data = .seq vc nc ∧ NestedAll h (r.2.map NestedKey.num) vc.toList := by
  unfold rowKey at x
  cases x with
  | @tup _ o vs n _ hg hc hd hk =>
    obtain ⟨vs⟩ := vs
    cases hk with
    | @cons _ v _ vs1 h1 hk2 =>
      cases hk2 with
      | @cons _ v2 _ vs2 h2 hk3 =>
        cases hk3
        cases h2 with
        | @tup c oc vc nc _ hg2 hc2 hd2 hk4 =>
          refine ⟨o, n, v, c, oc, vc, nc, hg, hc, ?_, ?_, hg2, hc2, hd2, hk4⟩
          · exact hd
          · cases h1 with
            | int i t => exact .inl ⟨_, _, rfl⟩
            | bool e => exact .inr ⟨_, rfl⟩
theorem byval_num {P : Program} {w : World} {n : Nat} {v : Value} {s : Shared} (h : (∃ i t, v = Value.int i t) ∨ ∃ b, v = Value.bool b) (A : Around) (E : Value → Shared → Prop) (Q : Bool → Shared → Prop) (q : Q true s) : wpAny (model P w) A (hashByValue n v) Q E s := by
  have e : hashByValue n v = pure true := by
    rcases h with ⟨i, t, rfl⟩ | ⟨b, rfl⟩ <;> cases n <;> rfl
  rw [e]
  exact wpAny_pure q
theorem nocls_num {P : Program} {w : World} {n : Nat} {v : Value} {s : Shared} (h : (∃ i t, v = Value.int i t) ∨ ∃ b, v = Value.bool b) (A : Around) (E : Value → Shared → Prop) (Q : Bool → Shared → Prop) (q : Q false s) : wpAny (model P w) A (ofAClassStatement n v) Q E s := by
  have e : ofAClassStatement n v = pure false := by
    rcases h with ⟨i, t, rfl⟩ | ⟨b, rfl⟩ <;> cases n <;> rfl
  rw [e]
  exact wpAny_pure q
theorem rowFit (P : Program) (w : World) : Fit P w (rowKind P w) where
  inSet := fun {h h' k b a o es ep t} hb ho hd hs => NestedIs.at (fun c ob vs n hc hcd => by
    refine (hs.2 c fun e => ?_).trans hc
    subst e
    rw [ho] at hc
    cases hc
    rw [hd] at hcd
    cases hcd) _ _ hb
  inAll := fun hb k => NestedIs.at (fun c ob _ _ e _ => k c ob e) _ _ hb
  byVal := fun {A E s k b Q} hb q => by
    obtain ⟨o, n, v, c, oc, vc, nc, ho, hc, hd, hv, ho2, hc2, hd2, hn⟩ := row_parts hb
    refine byval_tuple (n := 7) ho hc hd (fun u hu A E Q q => ?_) A E Q q
    rcases List.mem_cons.mp (show u ∈ [v, Value.ref c] from hu) with e | hu
    · subst e
      exact byval_num hv A E Q q
    · obtain rfl : u = Value.ref c := by simpa using hu
      exact byval_tuple (n := 6) ho2 hc2 hd2 (fun u hu A E Q q => byval_num (nums_items hn u hu) A E Q q) A E Q q
  noCls := fun {A E s k b Q} hb q => by
    obtain ⟨o, n, v, c, oc, vc, nc, ho, hc, hd, hv, ho2, hc2, hd2, hn⟩ := row_parts hb
    refine nocls_tuple (n := 7) ho hc hd (fun u hu A E Q q => ?_) A E Q q
    rcases List.mem_cons.mp (show u ∈ [v, Value.ref c] from hu) with e | hu
    · subst e
      exact nocls_num hv A E Q q
    · obtain rfl : u = Value.ref c := by simpa using hu
      exact nocls_tuple (n := 6) ho2 hc2 hd2 (fun u hu A E Q q => nocls_num (nums_items hn u hu) A E Q q) A E Q q
/-! ### a set of such keys: L its members in the table's order -/
section
variable {P : Program} {w : World} {κ : Type} [DecidableEq κ] {knd : HeapKind P w κ} {A : Around} {E : Value → Shared → Prop} {s : Shared}
def ents (knd : HeapKind P w κ) (L : List (Addr × κ)) : List (Int × Value) := L.map fun p => (knd.hash p.2, Value.ref p.1)
structure Held (knd : HeapKind P w κ) (h : Heap) (a : Addr) (L : List (Addr × κ)) (es : Array (Int × Value)) (ep : Nat) (t : SetTable) : Prop where
  ob : ∃ o, h.get? a = some o ∧ o.ExactSet ∧ o.data = .set es ep t
  rows : es.toList = ents knd L
  tab : TabOk t (L.map fun p => knd.hash p.2)
  nd : (L.map (·.2)).Nodup
  are : ∀ p ∈ L, knd.is h p.2 p.1
  plain : t.plain = true
  led : w.params.followText "set-order" = true ∨ t.led = true
  room : L.length * 5 < t.mask * 3
  few : L.length < 64
variable {a : Addr} {L : List (Addr × κ)} {es : Array (Int × Value)} {ep : Nat} {t : SetTable}
theorem ents_len (L : List (Addr × κ)) : (ents knd L).length = L.length := List.length_map ..
theorem Held.size (R : Held knd s.heap a L es ep t) : es.size = L.length := by rw [← Array.length_toList, R.rows, ents_len]
theorem Held.psize (R : Held knd s.heap a L es ep t) : t.place.size = L.length := by rw [R.tab.sz, List.length_map]
theorem fits_of {t : SetTable} {n : Nat} (h1 : t.dummies = #[]) (h2 : t.place.size = n) (h3 : n ≤ t.mask) : t.fits n = true := by
  unfold SetTable.fits SetTable.fill
  rw [h1, Bool.and_eq_true, beq_iff_eq, decide_eq_true_eq]
  exact ⟨h2, by show t.place.size + 0 ≤ t.mask; omega⟩
theorem Held.fits (R : Held knd s.heap a L es ep t) : t.fits es.size = true := by
  have := R.room
  rw [R.size]
  exact fits_of R.tab.dm R.psize (by omega)
theorem Held.entry (R : Held knd s.heap a L es ep t) {i : Nat} {p : Addr × κ} (h : L[i]? = some p) : es[i]? = some (knd.hash p.2, Value.ref p.1) := by
  rw [← Array.getElem?_toList, R.rows]
  unfold ents
  rw [List.getElem?_map, h]
  rfl
theorem odd_no {t : SetTable} (h : MaskOk t.mask) : ¬ t.gaveWay = true := by
  unfold SetTable.gaveWay
  rw [mask_odd h]
  decide
theorem no_dummy (m : Nat) : ∀ (n : Nat) (p : SetTable.Probe), p.dummy = none → (nth m p n).dummy = none
  | 0, _, h => h
  | n + 1, p, h => no_dummy m n (adv m p) (by unfold adv; split <;> exact h)
/-- where the way of a hash stands behind c steps -/
abbrev pst (m : Nat) (hk : Int) (c : Nat) : SetTable.Probe := nth m (runAt m (SetTable.bits hk % (m + 1)) (SetTable.bits hk)) c
theorem pst_on (m : Nat) (hk : Int) (c q : Nat) : nth m (pst m hk c) q = pst m hk (c + q) := (nth_add m c _ q).symm
theorem pst_j (m : Nat) (hk : Int) (c q : Nat) : (nth m (pst m hk c) q).j = way m hk (c + q) := congrArg SetTable.Probe.j (pst_on m hk c q)
/-- a search among such keys shows nothing -/
theorem unseen (ft : Fit P w knd) {x : Addr} {k : κ} (hx : knd.is s.heap k x) {ys : List Value} (hy : ∀ y ∈ ys, ∃ k' c, y = Value.ref c ∧ knd.is s.heap k' c) {Q : Bool → Shared → Prop} (h : Q false s) : wpAny (model P w) A (searchCouldBeSeen (.ref x) ys) Q E s := by
  unfold searchCouldBeSeen
  refine wpAny_bind ?_
  refine wpAny_forIn_list _ (fun rest r s' => r.1 = none ∧ s' = s ∧ ∀ y ∈ rest, y ∈ ys) _ ?_ ?_ _ _ ⟨rfl, rfl, fun _ z => z⟩
  · rintro v rest r s' ⟨_, rfl, hall⟩
    obtain ⟨k', c, rfl, hc⟩ := hy v (hall v List.mem_cons_self)
    have more : ∀ y ∈ rest, y ∈ ys := fun u z => hall u (List.mem_cons_of_mem _ z)
    dsimp only
    by_cases hv : (x == c || (carriedByValue (.ref x) && carriedByValue (.ref c))) = true
    · exact wp_if_pos hv (wpAny_pure ⟨rfl, rfl, more⟩)
    · refine wp_if_neg hv (wpAny_bind (knd.quiet hx ?_))
      simp only [Bool.not_true, Bool.false_eq_true, if_false]
      refine wpAny_bind (knd.quiet hc ?_)
      simp only [Bool.not_true, Bool.false_eq_true, if_false]
      refine wpAny_bind (ft.noCls hx ?_)
      simp only [Bool.false_eq_true, if_false]
      refine wpAny_bind (ft.noCls hc ?_)
      simp only [Bool.false_eq_true, if_false]
      exact wpAny_pure ⟨rfl, rfl, more⟩
  · rintro ⟨r1, r2⟩ s' ⟨hr, rfl, _⟩
    simp only at hr
    subst hr
    exact wpAny_pure h
/-- the search from the c-th step on; K the first empty slot on the way -/
theorem seek (ft : Fit P w knd) (R : Held knd s.heap a L es ep t) {x : Addr} {k : κ} (hx : knd.is s.heap k x) (hu : knd.room A) {K : Nat} (hKf : K < 10 * SetTable.turns t.mask) (hK : way t.mask (knd.hash k) K ∉ t.place.toList) (hKb : ∀ c, c < K → way t.mask (knd.hash k) c ∈ t.place.toList)
    {Q : SetFound → Shared → Prop} (hin : k ∈ L.map (·.2) → Q (.there none) s) (hout : k ∉ L.map (·.2) → Q (.free (way t.mask (knd.hash k) K) false) s) :
    ∀ (f c : Nat) (stand : Option SetTable.Probe), stand.getD (t.probeStart (knd.hash k)) = pst t.mask (knd.hash k) c → c ≤ K → K - c < f → (∀ (i : Nat) p, L[i]? = some p → p.2 = k → ∃ c', c ≤ c' ∧ c' < K ∧ t.place.toList[i]? = some (way t.mask (knd.hash k) c')) →
      wpAny (model P w) A (setSearchFrom a (.ref x) (knd.hash k) true f stand) Q E s := by
  intro f
  obtain ⟨o, ho, hex, hd⟩ := R.ob
  induction f with
  | zero => exact fun c _ _ _ z => absurd z (Nat.not_lt_zero _)
  | succ f ih =>
    intro c stand hst hc hf hre
    have hash_at : ∀ (i : Nat) p, L[i]? = some p → (fun i => (es[i]?.map (·.1)).getD 0) i = knd.hash p.2 := fun i p hp => by
      show (es[i]?.map (·.1)).getD 0 = _
      rw [R.entry hp]
      rfl
    have spec := go_spec t R.tab.ris R.tab.dm (fun i => (es[i]?.map (·.1)).getD 0) (knd.hash k) (10 * SetTable.turns t.mask) (K - c) (pst t.mask (knd.hash k) c) (no_dummy _ _ _ rfl) (by omega) (fun q hq => by rw [pst_j]; exact hKb _ (by omega)) (by rw [pst_j, Nat.add_sub_cancel' hc]; exact hK)
    rw [setSearchFrom_succ]
    refine wpAny_bind (wpAny_setState_of ho hd R.fits ?_)
    dsimp only
    refine wp_if_neg (odd_no R.tab.mok) ?_
    try refine wpAny_bind (wpAny_pure ?_)
    rw [hst]
    rcases spec with ⟨q, i, hq, hi, _, hno, hpr⟩ | ⟨hno, hpr⟩
    · -- a key of the same hash stands there
      have hpr' : t.probe (fun i => (es[i]?.map (·.1)).getD 0) (knd.hash k) (pst t.mask (knd.hash k) c) = some (.candidate (way t.mask (knd.hash k) (c + q)) i (pst t.mask (knd.hash k) (c + (q + 1)))) := by
        rw [← pst_j, ← pst_on]
        exact hpr
      rw [hpr']
      dsimp only
      rw [pst_j] at hi
      have hil : i < L.length := by
        have z := (List.getElem?_eq_some_iff.mp hi).1
        rw [Array.length_toList, R.psize] at z
        exact z
      obtain ⟨p, hp⟩ : ∃ p, L[i]? = some p := ⟨_, List.getElem?_eq_getElem hil⟩
      have hmem : p ∈ L := List.mem_of_getElem? hp
      have rest : wpAny (model P w) A (searchRest a (.ref x) (knd.hash k) true f es t (way t.mask (knd.hash k) (c + q)) i (pst t.mask (knd.hash k) (c + (q + 1)))) Q E s := by
        unfold searchRest
        rw [R.entry hp]
        dsimp only
        refine wpAny_bind (wpAny_holding (knd.eqBool hu (R.are p hmem) hx (wpAny_bind (wpAny_setState_of ho hd R.fits ?_))))
        dsimp only
        by_cases hkk : p.2 = k
        · exact wp_if_pos (by simp [hkk]) (wpAny_pure (hin (List.mem_map.mpr ⟨p, hmem, hkk⟩)))
        · refine wp_if_neg (by simp [hkk]) ?_
          try refine wpAny_bind (wpAny_pure ?_)
          have hsl : t.slot (way t.mask (knd.hash k) (c + q)) = .live i := slot_live R.tab.ris hi
          rw [sameMem]
          simp only [if_true, hsl, R.entry hp]
          refine wpAny_bind (wpAny_isSame_ref_self (wpAny_bind (wpAny_pure ?_)))
          simp only [if_true]
          refine wp_if_neg (by simp [hkk]) (ih (c + (q + 1)) _ rfl (by omega) (by omega) fun i0 p0 h0 hk0 => ?_)
          obtain ⟨c', a1, a2, a3⟩ := hre i0 p0 h0 hk0
          refine ⟨c', ?_, a2, a3⟩
          rcases Nat.lt_trichotomy c' (c + q) with z | z | z
          · exact absurd ((hash_at i0 p0 h0).trans (congrArg knd.hash hk0)) (hno (c' - c) i0 (by omega) (by rw [pst_j, Nat.add_sub_cancel' a1]; exact a3))
          · rw [z] at a3
            have s0 := slot_live R.tab.ris a3
            rw [hsl] at s0
            injection s0 with s0
            rw [← s0, hp] at h0
            cases h0
            exact absurd hk0 hkk
          · omega
      by_cases hl : t.led = true
      · refine wp_if_neg (by simp [hl]) ?_
        try refine wpAny_bind (wpAny_pure ?_)
        exact rest
      · refine wp_if_pos (by simp [hl]) (wpAny_bind (unseen ft hx (fun y hy => ?_) (wp_if_neg (by decide) ?_)))
        · obtain ⟨e, he, ee⟩ := List.mem_map.mp hy
          have he1 : e ∈ es ∧ e.1 = knd.hash k := by simpa using he
          have he2 : e ∈ es.toList := by simpa using he1.1
          rw [R.rows] at he2
          obtain ⟨p2, hp2, e2⟩ := List.mem_map.mp he2
          exact ⟨p2.2, p2.1, by rw [← ee, ← e2], R.are p2 hp2⟩
        · try refine wpAny_bind (wpAny_pure ?_)
          exact rest
    · -- the empty slot
      have hpr' : t.probe (fun i => (es[i]?.map (·.1)).getD 0) (knd.hash k) (pst t.mask (knd.hash k) c) = some (.empty (way t.mask (knd.hash k) K) none) := by
        have e2 : way t.mask (knd.hash k) K = (nth t.mask (pst t.mask (knd.hash k) c) (K - c)).j := by rw [pst_j, Nat.add_sub_cancel' hc]
        rw [e2]
        exact hpr
      rw [hpr']
      dsimp only
      refine wpAny_pure (hout fun hm => ?_)
      obtain ⟨p0, h0, hk0⟩ := List.mem_map.mp hm
      obtain ⟨i0, h00⟩ := List.getElem?_of_mem h0
      obtain ⟨c', a1, a2, a3⟩ := hre i0 p0 h00 hk0
      exact hno (c' - c) i0 (by omega) (by rw [pst_j, Nat.add_sub_cancel' a1]; exact a3) ((hash_at i0 p0 h00).trans (congrArg knd.hash hk0))
end
end Vw

namespace Vw
open PySem L2 PySem.Spec PyProof.Rows
section
variable {P : Program} {w : World} {κ : Type} [DecidableEq κ] {knd : HeapKind P w κ} {A : Around} {E : Value → Shared → Prop} {s : Shared} {a : Addr} {L : List (Addr × κ)} {es : Array (Int × Value)} {ep : Nat} {t : SetTable}
theorem seekAll (ft : Fit P w knd) (R : Held knd s.heap a L es ep t) {x : Addr} {k : κ} (hx : knd.is s.heap k x) (hu : knd.room A) {Q : SetFound → Shared → Prop} (hin : k ∈ L.map (·.2) → Q (.there none) s)
    (hout : ∀ K, k ∉ L.map (·.2) → way t.mask (knd.hash k) K ∉ t.place.toList → (∀ c, c < K → way t.mask (knd.hash k) c ∈ t.place.toList) → Q (.free (way t.mask (knd.hash k) K) false) s) :
    wpAny (model P w) A (setSearch a (.ref x) (knd.hash k) true) Q E s := by
  have hroom := R.room
  obtain ⟨K, hKf, hK, hKb⟩ := R.tab.first (by rw [List.length_map]; omega) (knd.hash k)
  have few : 10 * SetTable.turns t.mask ≤ 1420 := by
    unfold SetTable.turns
    rcases R.tab.mok with e | e | e <;> omega
  unfold setSearch
  refine seek ft R hx hu hKf hK hKb hin (fun hn => hout K hn hK hKb) 100000 0 none rfl (Nat.zero_le _) (by omega) fun i p hp hk => ?_
  have hil : i < t.place.toList.length := by
    rw [Array.length_toList, R.psize]
    exact (List.getElem?_eq_some_iff.mp hp).1
  have hj := List.getElem?_eq_getElem hil
  obtain ⟨c, hc, e⟩ := R.tab.before hK (h := knd.hash k) (i := i) (by rw [List.getElem?_map, hp, ← hk]; rfl) hj
  exact ⟨c, Nat.zero_le _, hc, by rw [hj, e]⟩
/-- the entries taken in another order -/
theorem taken {α : Type} (L : List α) : (List.range L.length).filterMap (fun i => L[i]?) = L := by
  have key : ∀ n, n ≤ L.length → (List.range n).filterMap (fun i => L[i]?) = L.take n := by
    intro n
    induction n with
    | zero => intro _; rfl
    | succ n ih =>
      intro hn
      rw [List.range_succ, List.filterMap_append, ih (Nat.le_of_succ_le hn), take_next (List.getElem?_eq_getElem hn), List.filterMap_cons_some (List.getElem?_eq_getElem hn)]
      rfl
  rw [key L.length (Nat.le_refl _), List.take_length]
theorem reorder (L : List (Addr × κ)) (es : Array (Int × Value)) (order : Array Nat) (hr : es.toList = ents knd L) (hp : order.toList.Perm (List.range L.length)) :
    ∃ L2, (order.filterMap (es[·]?)).toList = ents knd L2 ∧ L2.Perm L ∧ (L2.map fun p => knd.hash p.2) = order.toList.map fun i => (es.map (·.1)).getD i 0 := by
  have ent : ∀ i : Nat, es[i]? = (L[i]?).map fun p : Addr × κ => (knd.hash p.2, Value.ref p.1) := fun i => by
    rw [← Array.getElem?_toList, hr]
    unfold ents
    rw [List.getElem?_map]
  refine ⟨order.toList.filterMap fun i => L[i]?, ?_, ?_, ?_⟩
  · rw [Array.toList_filterMap]
    unfold ents
    rw [List.map_filterMap]
    exact congrArg (fun f => List.filterMap f order.toList) (funext ent)
  · have z := hp.filterMap fun i => L[i]?
    rw [taken] at z
    exact z
  · have key : ∀ l : List Nat, (∀ i ∈ l, i < L.length) → ((l.filterMap fun i => L[i]?).map fun p => knd.hash p.2) = l.map fun i => (es.map (·.1)).getD i 0 := by
      intro l
      induction l with
      | nil => intro _; rfl
      | cons i l ih =>
        intro hl
        have hi := hl i List.mem_cons_self
        rw [List.filterMap_cons_some (List.getElem?_eq_getElem hi), List.map_cons, List.map_cons, ih fun j hj => hl j (List.mem_cons_of_mem _ hj)]
        have e5 : (es.map (·.1))[i]? = some (knd.hash (L[i]).2) := by
          rw [Array.getElem?_map, ent i, List.getElem?_eq_getElem hi]
          rfl
        congr 1
        simp [Array.getD_eq_getD_getElem?, e5]
    exact key _ fun i hi => List.mem_range.mp (hp.mem_iff.mp hi)
/-- the table laid anew, larger -/
theorem relay (ft : Fit P w knd) {o : Obj} (ho : s.heap.get? a = some o) (hex : o.ExactSet) (hd : o.data = .set es ep t) (hrows : es.toList = ents knd L) (hsz : t.place.size = L.length) (hdm : t.dummies = #[]) (hfl : L.length ≤ t.mask)
    (nd : (L.map (·.2)).Nodup) (are : ∀ p ∈ L, knd.is s.heap p.2 p.1) (pl : t.plain = true) (ld : w.params.followText "set-order" = true ∨ t.led = true) (few : L.length < 64) {wanted M : Nat}
    (hw : SetTable.sizeAbove wanted - 1 = M) (hM : MaskOk M) (hw2 : SetTable.sizeAbove wanted ≤ 128) (hn : L.length * 5 < M * 3) {Q : Unit → Shared → Prop}
    (hQ : ∀ h' L' es' ep' t', Heap.SameBut a s.heap h' → Held knd h' a L' es' ep' t' → L'.Perm L → Q () { s with heap := h' }) : wpAny (model P w) A (setRelay a wanted) Q E s := by
  have hsl : es.size = L.length := by rw [← Array.length_toList, hrows, ents_len]
  obtain ⟨t', order, e, hp, T, em, el, ep', ed⟩ := relaid_ok t (hs := es.map (·.1)) (wanted := wanted) hw hM (by rw [Array.size_map, hsl]; omega)
  rw [Array.size_map, hsl] at hp
  obtain ⟨L2, r1, r2, r3⟩ := reorder L es order hrows hp
  rw [← r3] at T
  have hs2 : (order.filterMap (es[·]?)).size = es.size := by rw [← Array.length_toList, r1, ents_len, r2.length_eq, hsl]
  rw [setRelay_eq]
  refine wpAny_bind (wpAny_setState_of ho hd (by rw [hsl]; exact fits_of hdm hsz hfl) ?_)
  dsimp only
  refine wp_if_neg (by rw [sizeLine_eq]; omega) ?_
  try refine wpAny_bind (wpAny_pure ?_)
  rw [e]
  dsimp only
  refine wpAny_bind ?_
  refine wp_if_neg (by rw [hs2]; simp) ?_
  try refine wpAny_bind (wpAny_pure ?_)
  refine wpAny_pure ?_
  dsimp only
  have sb : Heap.SameBut a s.heap (s.heap.update a (Obj.putSet (order.filterMap (es[·]?)) t')) := Heap.SameBut.update ..
  refine wpAny_storeSet_of ho hd (hQ _ L2 _ (ep + 1) t' sb ⟨⟨_, store_at ho hd, ⟨hex.1, hex.2.1, hex.2.2⟩, rfl⟩, r1, T, (r2.map (·.2)).nodup_iff.mpr nd, fun p hpm => ft.inSet (are p (r2.mem_iff.mp hpm)) ho hd sb, by rw [ep']; exact pl, by rw [el]; exact ld, ?_, by rw [r2.length_eq]; exact few⟩ r2)
    (by rw [hs2, hsl, sizeLine_eq]; omega)
  rw [r2.length_eq, em]
  exact hn
/-- one key added -/
theorem addOne (ft : Fit P w knd) (R : Held knd s.heap a L es ep t) {x : Addr} {k : κ} (hx : knd.is s.heap k x) (hu : knd.room A) (hfew : L.length + 1 < 64) {Q : Bool → Shared → Prop}
    (hQ : ∀ b h' L' es' ep' t', Heap.SameBut a s.heap h' → Held knd h' a L' es' ep' t' → (k ∈ L.map (·.2) → L' = L) → (k ∉ L.map (·.2) → L'.Perm ((x, k) :: L)) → Q b { s with heap := h' }) :
    wpAny (model P w) A (setAddHashed a (.ref x) (knd.hash k)) Q E s := by
  obtain ⟨o, ho, hex, hd⟩ := R.ob
  have hsl := R.size
  have hroom := R.room
  unfold setAddHashed
  refine wpAny_holding ?_
  rw [show (100000 : Nat) = 99999 + 1 from rfl, setAddHashedIn_succ]
  refine wpAny_bind (wpAny_setState_of ho hd R.fits ?_)
  dsimp only
  refine wp_if_neg (by simp [byScan, Value.scannable]) ?_
  try refine wpAny_bind (wpAny_pure ?_)
  refine wpAny_bind (seekAll ft R hx hu (fun hm => ?_) fun K hm hK hb => ?_)
  · dsimp only
    exact wpAny_pure (hQ false s.heap L es ep t (Heap.SameBut.refl a s.heap) R (fun _ => rfl) fun z => absurd hm z)
  dsimp only
  refine wpAny_bind (wpAny_setState_of ho hd R.fits ?_)
  dsimp only
  obtain ⟨q1, q2, q3, q4, q5, q6, q7, q8, q9⟩ := R.tab.put hK hb
  have hp1 : (t.put (way t.mask (knd.hash k) K)).1.plain = true := by rw [q6]; exact R.plain
  generalize hpt : t.put (way t.mask (knd.hash k) K) = pt at q1 q3 q4 q5 q6 q7 q8 q9 hp1 ⊢
  obtain ⟨t1, p⟩ := pt
  dsimp only at q1 q3 q4 q5 q6 q7 q8 q9 hp1 ⊢
  subst q1
  first
    | (refine wpAny_bind ?_; refine wp_if_pos hp1 ?_; refine ft.byVal hx ?_)
    | refine wp_if_pos hp1 (wpAny_bind (ft.byVal hx ?_))
  simp only [if_true]
  generalize SetTable.below t.place (way t.mask (knd.hash k) K) = p at q2 q3 ⊢
  have pm := put_perm L p (x, k)
  have hlen : (L.take p ++ (x, k) :: L.drop p).length = L.length + 1 := pm.length_eq
  have hin : (SetTable.insertAt es p (knd.hash k, Value.ref x)).toList = ents knd (L.take p ++ (x, k) :: L.drop p) := by
    rw [SetTable.toList_insertAt, R.rows]
    unfold ents
    rw [List.map_append, List.map_cons, List.map_take, List.map_drop]
  have hhs : (L.take p ++ (x, k) :: L.drop p).map (fun p => knd.hash p.2) = (L.map fun p => knd.hash p.2).take p ++ knd.hash k :: (L.map fun p => knd.hash p.2).drop p := by
    rw [List.map_append, List.map_cons, List.map_take, List.map_drop]
  rw [← hhs] at q3
  have nd1 : ((L.take p ++ (x, k) :: L.drop p).map (·.2)).Nodup := by
    refine (pm.map (·.2)).nodup_iff.mpr ?_
    rw [List.map_cons]
    exact List.nodup_cons.mpr ⟨hm, R.nd⟩
  have hes : (SetTable.insertAt es p (knd.hash k, Value.ref x)).size = L.length + 1 := by rw [← Array.length_toList, hin, ents_len, hlen]
  generalize SetTable.insertAt es p (knd.hash k, Value.ref x) = es1 at hin hes ⊢
  generalize L.take p ++ (x, k) :: L.drop p = L1 at pm hlen q3 nd1 hin
  refine wpAny_bind (wpAny_storeSet_of ho hd ?_ (by rw [hes, sizeLine_eq]; omega))
  have sb : Heap.SameBut a s.heap (s.heap.update a (Obj.putSet es1 t1)) := Heap.SameBut.update ..
  have ho1 := store_at (es' := es1) (t' := t1) ho hd
  generalize s.heap.update a (Obj.putSet es1 t1) = h1 at sb ho1 ⊢
  have are1 : ∀ p ∈ L1, knd.is h1 p.2 p.1 := fun p hp => by
    rcases List.mem_cons.mp (pm.mem_iff.mp hp) with e | hp
    · rw [e]
      exact ft.inSet hx ho hd sb
    · exact ft.inSet (R.are p hp) ho hd sb
  have ld1 : w.params.followText "set-order" = true ∨ t1.led = true := by rw [q5]; exact R.led
  have hsz1 : t1.place.size = L1.length := by
    have h := q3.sz
    rw [List.length_map] at h
    exact h
  by_cases hf : t1.tooFull = true
  · first
      | (refine wpAny_bind ?_; refine wp_if_pos (by simp [hf]) ?_)
      | (refine wp_if_pos (by simp [hf]) ?_; refine wpAny_bind ?_)
    have hfull : (L.length + 1) * 5 ≥ t1.mask * 3 := by
      have h := hf
      unfold SetTable.tooFull at h
      rw [decide_eq_true_eq, q9, List.length_map] at h
      exact h
    rw [hsl]
    have two : (t.mask = 7 ∧ L.length = 4) ∨ (t.mask = 31 ∧ L.length = 18) := by
      rcases R.tab.mok with e | e | e
      · left; rw [q4, e] at hfull; rw [e] at hroom; exact ⟨e, by omega⟩
      · right; rw [q4, e] at hfull; rw [e] at hroom; exact ⟨e, by omega⟩
      · exfalso; rw [q4, e] at hfull; omega
    have go : ∀ M, SetTable.sizeAbove (SetTable.grown (L.length + 1)) - 1 = M → MaskOk M → SetTable.sizeAbove (SetTable.grown (L.length + 1)) ≤ 128 → (L.length + 1) * 5 < M * 3 →
        wpAny (model P w) A (setRelay a (SetTable.grown (L.length + 1))) (fun _ s' => wpAny (model P w) A (pure true) Q E s') E { s with heap := h1 } := fun M m1 m2 m3 m4 => by
      refine relay (s := { s with heap := h1 }) ft ho1 ⟨hex.1, hex.2.1, hex.2.2⟩ rfl hin hsz1 q3.dm (by rw [hlen, q4]; rcases two with ⟨e, e2⟩ | ⟨e, e2⟩ <;> omega) nd1 are1 hp1 ld1 (by rw [hlen]; exact hfew) m1 m2 m3 (by rw [hlen]; exact m4) ?_
      intro h2 L2 es2 ep2 t2 sb2 R2 pm2
      exact wpAny_pure (hQ true h2 L2 es2 ep2 t2 (sb.trans sb2) R2 (fun z => absurd z hm) fun _ => pm2.trans pm)
    rcases two with ⟨_, e2⟩ | ⟨_, e2⟩
    · exact go 31 (by rw [e2, size_20]) (.inr (.inl rfl)) (by rw [e2, size_20]; decide) (by omega)
    · exact go 127 (by rw [e2, size_76]) (.inr (.inr rfl)) (by rw [e2, size_76]; decide) (by omega)
  · first
      | refine wp_if_neg (by simp [hf]) ?_
      | (refine wpAny_bind ?_; refine wp_if_neg (by simp [hf]) ?_; refine wpAny_pure ?_)
    refine wpAny_pure (hQ true h1 L1 es1 (ep + 1) t1 sb ⟨⟨_, ho1, ⟨hex.1, hex.2.1, hex.2.2⟩, rfl⟩, hin, q3, nd1, are1, hp1, ld1, ?_, by rw [hlen]; exact hfew⟩ (fun z => absurd z hm) fun _ => pm)
    have h := hf
    unfold SetTable.tooFull at h
    rw [decide_eq_true_eq, q9, List.length_map] at h
    rw [hlen]
    omega
end
end Vw

/-! set(xs) of a list, over any loop; the loops of ints and of keys that stand on the heap -/
namespace Vw
open PySem L2 PySem.Spec PyProof.Rows
abbrev newSet (w : World) : Obj := { cls := .type "set", dict := none, data := .set #[] 0 (.fresh 0 0 (!w.params.followText "set-order")) }
/-- set.update's loop over these items, from the new set at S on: Fin holds of the heap behind it -/
def LoopOk (P : Program) (w : World) (A : Around) (h0 : Heap) (S : Addr) (items : Array Value) (Fin : Heap → Prop) : Prop :=
  ∀ (I : Addr) (fp wr : List Addr) (G : Array GenState → Array GenState → Prop) (Pv : Nat → Value → Prop) (St : Nat → Shared → Prop) (R : Result → Shared → Prop) (s : Shared),
    WalksS P w A.in1 I fp wr G items.size Pv St → S ∉ fp → (∀ i v, Pv i v → items[i]? = some v) → h0.get? S = none → (∀ b ∈ wr, h0.get? b = none) → St 0 s →
    (∀ b o, h0.get? b = some o → s.heap.get? b = some o) → s.heap.get? S = some (newSet w) →
    (∀ s', Moved (S :: wr) G s s' → Fin s'.heap → R (.ok (.ret .none)) s') →
    codeAny (model P w) A (.builtin "set.update.loop" ⟨[.ref S, .ref I], []⟩) R s
section
variable {P : Program} {w : World} {A : Around} {E : Value → Shared → Prop} {s : Shared}
theorem callSet {l : Addr} {items : Array Value} {Fin : Heap → Prop} {Q : Value → Shared → Prop} (hh : A.handled = none) (hl : s.heap.IsList l items)
    (hloop : ∀ A' : Around, A'.units = A.units + 2 → LoopOk P w A' s.heap s.heap.objs.size items Fin)
    (h : ∀ (h' : Heap) (tk : Nat), Fin h' → (∀ b o, s.heap.get? b = some o → h'.get? b = some o) → Q (.ref s.heap.objs.size) { s with heap := h', toks := tk }) :
    wpAny (model P w) A (call (.type "set") [.ref l]) Q E s := by
  obtain ⟨c, tl, hmro⟩ := F.called_set.mro
  have hmade := F.called_set.made
  have hsub := F.called_set.sub
  refine wpAny_call (codeAny_of_tree ?_)
  show wpAny _ _ (callAny (.type "set") _) _ _ _
  refine wpAny_pure ⟨Code.quiet_builtin _ (by decide +kernel), codeAny_builtin F.entry_type_call ?_⟩
  rw [Around.under_plain (weight_type_call_type "set" [.ref l] []) rfl]
  have h1 := F.called_set.notType
  have h2 := F.called_set.canCreate
  have hct := F.typeCall_set_1 (.ref l)
  repeat (any_goals (first | assumption | wp_step))
  refine codeAny_mono (code_set_led1 (.ref l) (E := E) (Q₁ := fun obj s₁ => obj = .ref s.heap.objs.size ∧ s₁ = { s with heap := s.heap.push (newSet w) }) ⟨rfl, rfl⟩) fun r s₁ hr => ?_
  cases r with
  | error e => exact hr
  | ok fl =>
    cases fl with
    | ret obj =>
      obtain ⟨rfl, rfl⟩ := hr
      have hS : (s.heap.push (newSet w)).get? s.heap.objs.size = some (newSet w) := Heap.get?_push_size _ rfl
      have hT : Shared.TypeIs { s with heap := s.heap.push (newSet w) } (.ref s.heap.objs.size) "set" := ⟨_, hS, rfl⟩
      have hli := F.called_set.init.lookup
      have hbi := F.called_set.init.bind (.ref s.heap.objs.size)
      repeat (any_goals (first | assumption | wp_step))
      refine codeAny_mono (codeAny_call_builtin (R := wants (fun r s₂ => r = .none ∧ ∃ h' tk, s₂ = { s with heap := h', toks := tk } ∧ Fin h' ∧
          (∀ b o, s.heap.get? b = some o → h'.get? b = some o)) E) F.called_set.init.plain F.entry_set_init (check_set_init_1 hT ?_)) fun r₂ s₂ hr₂ => ?_
      · obtain ⟨ol, hol, hcl, nl, hdl⟩ := hl
        obtain ⟨ocls, odict, odata, oslots⟩ := ol
        simp only at hcl hdl
        subst hcl; subst hdl
        have hol' : (s.heap.push (newSet w)).get? l = some { cls := .type "list", dict := odict, data := .seq items nl, slots := oslots } := Heap.get?_push_of_some _ hol
        have hsls := F.sub_list_set
        have hslf := F.sub_list_frozenset
        have hne : (Value.type "list" == Value.type "dict") = false := by decide
        have hl1 : (s.heap.push (newSet w)).IsList l items := ⟨_, hol', rfl, nl, rfl⟩
        unfold Builtin.«set.__init__» noKeywords Builtin.Frozenset.updateFrom
        generalize hPI : pyIter = PI
        wp_walk
        subst hPI
        refine wpAny_pyIter_list hl1 ?_
        refine wpAny_bind (wpAny_runValue ?_)
        have hlS : l < s.heap.objs.size := Heap.lt_size hol
        have hh3 : A.in1.in1.in1.handled = none := by simp [hh]
        have hneI : l ≠ (s.heap.push (newSet w)).objs.size := by
          rw [Heap.size_push]; exact Nat.ne_of_lt (Nat.lt_succ_of_lt hlS)
        have hSf : s.heap.objs.size ∉ [(s.heap.push (newSet w)).objs.size, l] := by
          rw [Heap.size_push]; simp only [List.mem_cons, List.mem_singleton, List.not_mem_nil, or_false, not_or]
          exact ⟨Nat.ne_of_lt (Nat.lt_succ_self _), Nat.ne_of_gt hlS⟩
        have none_of : ∀ b, s.heap.objs.size ≤ b → s.heap.get? b = none := fun b hb => by
          cases q : s.heap.get? b with
          | none => rfl
          | some o => exact absurd (Nat.lt_of_lt_of_le (Heap.lt_size q) hb) (Nat.lt_irrefl _)
        refine hloop _ ?hu _ _ _ _ _ _ _ _ ((Walks.list hh3 _ l hneI items).toS) hSf (fun i v hv => hv) (none_of _ (Nat.le_refl _)) (fun b hb => none_of b (by
            rw [List.mem_singleton.mp hb, Heap.size_push]
            exact Nat.le_succ _)) ⟨⟨_, Heap.get?_push_size _ rfl, rfl, rfl⟩, (hl1.push _)⟩ (fun b o e => Heap.get?_push_of_some _ (Heap.get?_push_of_some _ e)) (Heap.get?_push_of_some _ hS) ?hR
        case hu => rfl
        case hR =>
          intro s' hm hF
          obtain ⟨h', g2, d', tk', os'⟩ := s'
          have eg : g2 = s.gens := hm.gens
          have ed : d' = s.drawn := hm.drawn
          have eo : os' = s.os := hm.os
          subst eg; subst ed; subst eo
          show wpAny _ _ _ _ _ _
          refine wpAny_pure ?_
          show wpAny _ _ (ret Value.none) _ _ _
          refine wpAny_pure ⟨rfl, h', tk', rfl, hF, fun b o e => ?_⟩
          have hb0 : b < s.heap.objs.size := Heap.lt_size e
          have hb1 : b ≠ s.heap.objs.size := Nat.ne_of_lt hb0
          have hb2 : b ≠ (s.heap.push (newSet w)).objs.size := by
            rw [Heap.size_push]; exact Nat.ne_of_lt (Nat.lt_succ_of_lt hb0)
          exact hm.heap b o (by simp only [List.mem_cons, List.mem_singleton, List.not_mem_nil, or_false, not_or]; exact ⟨hb1, hb2⟩) (Heap.get?_push_of_some _ (Heap.get?_push_of_some _ e))
      · cases r₂ with
        | error e => exact hr₂
        | ok fl₂ =>
          cases fl₂ with
          | ret r =>
            obtain ⟨rfl, h', tk, rfl, hF, hk'⟩ := hr₂
            repeat (any_goals (first | assumption | wp_step))
            exact h _ _ hF hk'
          | _ => exact hr₂.elim
    | _ => exact hr.elim
/-- the loop over ints -/
theorem loopInts {items : Array Value} {ns : List Int} {h0 : Heap} {S : Addr} (hit : IntsAre items.toList ns) (hb : ns.length + 1 < scanBound) :
    LoopOk P w A h0 S items fun h => ∃ c, c ≤ ns.length ∧ SetR w h S (fun j => decide (j ∈ ns)) c := by
  intro I fp wr G Pv St R s W hSf hval _ _ hst _ hS hR
  have hisz : items.size = ns.length := by
    have q := IntsAre.length hit
    rw [Array.length_toList] at q
    exact q
  refine set_update_ints W S hSf ns hisz hb (fun i v hv => ?_) (items.size - 0) 0 s (by omega) (Nat.zero_le _) hst ⟨0, Nat.le_refl 0, setR_new_at hS⟩ fun s' c hm hc hS' => hR s' hm ⟨c, by omega, hS'⟩
  have hv' := hval i v hv
  have hi : i < ns.length := by rw [← hisz]; exact (Array.getElem?_eq_some_iff.mp hv').1
  obtain ⟨t, e⟩ := PyProof.Rows.IntsAre.int_at hit i v (by rw [Array.getElem?_toList]; exact hv')
  refine ⟨ns[i], t, List.getElem?_eq_getElem hi, ?_⟩
  rw [e, List.getD_eq_getElem?_getD, List.getElem?_eq_getElem hi] <;> rfl
end
end Vw

namespace Vw
open PySem L2 PySem.Spec PyProof.Rows
section
variable {κ : Type}
/-- what the set has got from the first i items -/
structure Gotten (ks : List (Addr × κ)) (i : Nat) (L : List (Addr × κ)) : Prop where
  sub : ∀ p ∈ L, p ∈ ks.take i
  all : ∀ p ∈ ks.take i, p.2 ∈ L.map (·.2)
  len : L.length ≤ i
theorem Gotten.zero (ks : List (Addr × κ)) : Gotten ks 0 [] := ⟨fun p h => (by cases h), fun p h => (by simp at h), Nat.le_refl _⟩
theorem Gotten.same {ks L : List (Addr × κ)} {i : Nat} {x : Addr × κ} (g : Gotten ks i L) (h : ks[i]? = some x) (hm : x.2 ∈ L.map (·.2)) : Gotten ks (i + 1) L := by
  refine ⟨fun p hp => ?_, fun p hp => ?_, Nat.le_succ_of_le g.len⟩
  · rw [take_next h]
    exact List.mem_append_left _ (g.sub p hp)
  · rw [take_next h] at hp
    rcases List.mem_append.mp hp with z | z
    · exact g.all p z
    · rw [List.mem_singleton.mp z]; exact hm
theorem Gotten.more {ks L L' : List (Addr × κ)} {i : Nat} {x : Addr × κ} (g : Gotten ks i L) (h : ks[i]? = some x) (pm : L'.Perm (x :: L)) : Gotten ks (i + 1) L' := by
  refine ⟨fun p hp => ?_, fun p hp => ?_, ?_⟩
  · rw [take_next h]
    rcases List.mem_cons.mp (pm.mem_iff.mp hp) with e | z
    · rw [e]; exact List.mem_append_right _ (List.mem_singleton.mpr rfl)
    · exact List.mem_append_left _ (g.sub p z)
  · rw [(pm.map (·.2)).mem_iff, List.map_cons]
    rw [take_next h] at hp
    rcases List.mem_append.mp hp with z | z
    · exact List.mem_cons_of_mem _ (g.all p z)
    · rw [List.mem_singleton.mp z]; exact List.mem_cons_self
  · rw [pm.length_eq, List.length_cons]
    exact Nat.succ_le_succ g.len
variable {P : Program} {w : World} [DecidableEq κ] {knd : HeapKind P w κ} {A : Around} {E : Value → Shared → Prop} {s : Shared}
theorem Held.keep {h h' : Heap} {a : Addr} {L : List (Addr × κ)} {es : Array (Int × Value)} {ep : Nat} {t : SetTable} (R : Held knd h a L es ep t) (ha : ∀ o, h.get? a = some o → h'.get? a = some o) (ht : ∀ p ∈ L, knd.is h' p.2 p.1) : Held knd h' a L es ep t := by
  obtain ⟨o, ho, r⟩ := R.ob
  exact ⟨⟨o, ha o ho, r⟩, R.rows, R.tab, R.nd, ht, R.plain, R.led, R.room, R.few⟩
theorem held_fresh {h : Heap} {a : Addr} (ho : h.get? a = some (newSet w)) : Held knd h a [] #[] 0 (.fresh 0 0 (!w.params.followText "set-order")) where
  ob := ⟨_, ho, ⟨rfl, rfl, rfl⟩, rfl⟩
  rows := rfl
  tab := ⟨List.Pairwise.nil, rfl, rfl, .inl rfl, fun x hx => (by cases hx), fun i h j hi => (by simp at hi)⟩
  nd := List.nodup_nil
  are := fun p hp => (by cases hp)
  plain := rfl
  led := by
    show _ ∨ (!w.params.followText "set-order") = true
    cases w.params.followText "set-order"
    · exact .inr rfl
    · exact .inl rfl
  room := by
    show 0 * 5 < 7 * 3
    decide
  few := by
    show 0 < 64
    decide
theorem set_update_keys (ft : Fit P w knd) {I : Addr} {fp wr : List Addr} {G : Array GenState → Array GenState → Prop} {n : Nat} {Pv : Nat → Value → Prop} {St : Nat → Shared → Prop} {R : Result → Shared → Prop}
    (W : WalksS P w A.in1 I fp wr G n Pv St) (S : Addr) (hSf : S ∉ fp) (ks : List (Addr × κ)) (hn : n = ks.length) (hfew : ks.length < 64) (hval : ∀ i v, Pv i v → ∃ p, ks[i]? = some p ∧ v = .ref p.1)
    (h0 : Heap) (hk : ∀ p ∈ ks, knd.is h0 p.2 p.1) (hS0 : h0.get? S = none) (hw0 : ∀ b ∈ wr, h0.get? b = none) (hu : knd.room A.in1) :
    ∀ (k i : Nat) (s : Shared), n - i = k → i ≤ n → St i s → (∀ b o, h0.get? b = some o → s.heap.get? b = some o) → (∃ L es ep t, Held knd s.heap S L es ep t ∧ Gotten ks i L) →
      (∀ s' L es ep t, Moved (S :: wr) G s s' → Held knd s'.heap S L es ep t → Gotten ks n L → R (.ok (.ret .none)) s') →
      codeAny (model P w) A (.builtin "set.update.loop" ⟨[.ref S, .ref I], []⟩) R s := by
  have hSw : S ∉ wr := fun h => hSf (W.sub _ h)
  have hsub : ∀ b ∈ wr, b ∈ S :: wr := fun b hb => List.mem_cons_of_mem _ hb
  have keepM : ∀ {s s' : Shared}, Moved wr G s s' → (∀ b o, h0.get? b = some o → s.heap.get? b = some o) → ∀ b o, h0.get? b = some o → s'.heap.get? b = some o := fun hm hkp b o e =>
    hm.heap b o (fun hb => by rw [hw0 b hb] at e; cases e) (hkp b o e)
  intro k
  induction k with
  | zero =>
    intro i s hk' hi hst hkp ⟨L, es, ep, t, hS, g⟩ hR
    have hin : i = n := by omega
    subst hin
    refine codeAny_builtin F.entry_set_update_loop ?_
    rw [Around.under_plainId F.plain_set_update_loop _]
    show wpAny _ A.in1 (pyNext (.ref I) >>= _) _ _ s
    refine wpAny_bind (W.done s _ _ hst fun s' hm => ?_)
    show wpAny _ A.in1 (ret Value.none) _ _ s'
    have hkp' := keepM hm hkp
    have sub : ∀ p ∈ L, p ∈ ks := fun p hp => List.mem_of_mem_take (g.sub p hp)
    exact wpAny_pure (hR s' L es ep t (hm.mono hsub) (hS.keep (fun o e => hm.heap S o hSw e) fun p hp => ft.inAll (hk p (sub p hp)) hkp') g)
  | succ k ih =>
    intro i s hk' hi hst hkp ⟨L, es, ep, t, hS, g⟩ hR
    have hlt : i < n := by omega
    refine codeAny_builtin F.entry_set_update_loop ?_
    rw [Around.under_plainId F.plain_set_update_loop _]
    show wpAny _ A.in1 (pyNext (.ref I) >>= _) _ _ s
    refine wpAny_bind (W.item i s _ _ hlt hst fun v s' hP hst' hm => ?_)
    obtain ⟨p, hp, rfl⟩ := hval i v hP
    have hkp' := keepM hm hkp
    have sub : ∀ p ∈ L, p ∈ ks := fun p hp => List.mem_of_mem_take (g.sub p hp)
    have hS' : Held knd s'.heap S L es ep t := hS.keep (fun o e => hm.heap S o hSw e) fun q hq => ft.inAll (hk q (sub q hq)) hkp'
    have hx : knd.is s'.heap p.2 p.1 := ft.inAll (hk p (List.mem_of_getElem? hp)) hkp'
    show wpAny _ A.in1 (holding [Value.ref p.1] (setAdd S (.ref p.1)) >>= _) _ _ s'
    refine wpAny_bind (wpAny_holding ?_)
    unfold setAdd
    refine wpAny_holding ?_
    refine wpAny_bind (knd.pyHash hu hx ?_)
    refine addOne (s := { s' with toks := s'.toks + knd.draws p.2 }) ft hS' hx hu (by have := g.len; omega) fun b h' L' es' ep' t' hsb hS2 c1 c2 => ?_
    have g' : Gotten ks (i + 1) L' := by
      rcases Classical.em (p.2 ∈ L.map (·.2)) with c | c
      · rw [c1 c]; exact g.same hp c
      · exact g.more hp (c2 c)
    have hkp2 : ∀ b o, h0.get? b = some o → h'.get? b = some o := fun b o e => (hsb.2 b (fun z => by rw [z, hS0] at e; cases e)).trans (hkp' b o e)
    refine wpAny_pure ⟨plainId_quiet F.plain_set_update_loop _, ih (i + 1) _ (by omega) hlt (W.frame _ s' _ _ hst' (Nat.le_add_right _ _) fun b hb o e => ?_) hkp2 ⟨L', es', ep', t', hS2, g'⟩ fun s'' L2 es2 ep2 t2 hm'' hS'' g'' => ?_⟩
    · rw [hsb.2 b (fun h : b = S => hSf (by rw [← h]; exact hb))]; exact e
    · refine hR s'' L2 es2 ep2 t2 (Moved.trans W.gtrans ((hm.mono hsub).then_heap (Nat.le_add_right _ _) fun b o hb e => ?_) hm'') hS'' g''
      rw [hsb.2 b (fun h : b = S => hb (by rw [h]; exact List.mem_cons_self))]; exact e
/-- the loop over such keys -/
theorem loopKeys (ft : Fit P w knd) {items : Array Value} (ks : List (Addr × κ)) {h0 : Heap} {S : Addr} (hit : items.toList = ks.map fun p => Value.ref p.1) (hk : ∀ p ∈ ks, knd.is h0 p.2 p.1) (hfew : ks.length < 64) (hu : knd.room A.in1) :
    LoopOk P w A h0 S items fun h => ∃ L es ep t, Held knd h S L es ep t ∧ Gotten ks ks.length L := by
  intro I fp wr G Pv St R s W hSf hval hS0 hw0 hst hkp hS hR
  have hisz : items.size = ks.length := by
    have q := congrArg List.length hit
    rw [Array.length_toList, List.length_map] at q
    exact q
  refine set_update_keys ft W S hSf ks hisz hfew (fun i v hv => ?_) h0 hk hS0 hw0 hu (items.size - 0) 0 s (by omega) (Nat.zero_le _) hst hkp ⟨[], #[], 0, _, held_fresh hS, Gotten.zero ks⟩ fun s' L es ep t hm hS' g => hR s' hm ⟨L, es, ep, t, hS', by rw [← hisz]; exact g⟩
  have q : items.toList[i]? = some v := by rw [Array.getElem?_toList]; exact hval i v hv
  rw [hit, List.getElem?_map] at q
  cases hq : ks[i]? with
  | none => rw [hq] at q; cases q
  | some p =>
    rw [hq] at q
    exact ⟨p, rfl, (Option.some.inj q).symm⟩
end
end Vw

/-! set(rows), sorted(set(rows)), set(xs) of a list of ints: the hand layer's rules, and over data -/
namespace Vw
open PySem L2 PySem.Spec PyProof.Rows
def RowAt (H : Hp) (a : Addr) (r : Row) : Prop := ∃ u, H a = some (.tup [.int r.1, .ref u]) ∧ H u = some (.tup (r.2.map V.int))
theorem RowAt.mono {H H' : Hp} {a : Addr} {r : Row} (e : Same H H') (h : RowAt H a r) : RowAt H' a r := by
  obtain ⟨u, h1, h2⟩ := h
  exact ⟨u, e _ _ h1, e _ _ h2⟩
theorem nums_at {h : Heap} : ∀ {us : List Value} {ns : List Int}, IntsAre us ns → NestedAll h (ns.map NestedKey.num) us
  | _, _, .nil => .nil
  | _, _, .cons n t r => .cons (.int n t) (nums_at r)
section
variable {X : Cx}
theorem inv_row {pins : List (Addr × Obj)} {σ : L2.St} {H : Hp} {s : Shared} {a : Addr} {r : Row} (I : Inv X pins σ H s) (h : RowAt H a r) : NestedIs s.heap (rowKey r) (.ref a) := by
  obtain ⟨u, ht, hu'⟩ := h
  obtain ⟨_, its2, r2, o, ho, hc, n, hd⟩ := I.hok _ _ ht
  obtain ⟨_, its3, r3, tup3⟩ := I.hok _ _ hu'
  obtain ⟨o3, ho3, hc3, n3, hd3⟩ := tup3
  obtain ⟨u1, u2, rfl, ri, rj⟩ := vals2 r2
  obtain ⟨t1, rfl⟩ := ri
  cases (show u2 = Value.ref u from rj)
  unfold rowKey
  refine .tup ho hc hd ?_
  show NestedAll s.heap _ [_, _]
  refine .cons (.int _ _) (.cons (.tup ho3 hc3 hd3 ?_) .nil)
  have hi : IntsAre its3 r.2 := ints_of_vals r3
  simpa using nums_at hi
/-- the set of rows at a, without the rows themselves -/
structure RSet (w : World) (h : Heap) (a : Addr) (L : List (Addr × Row)) : Prop where
  ex : ∃ (es : Array (Int × Value)) (ep : Nat) (t : SetTable), (∃ o, h.get? a = some o ∧ o.ExactSet ∧ o.data = .set es ep t) ∧ es.toList = (L.map fun p => ((rowKey p.2).hash w, Value.ref p.1)) ∧ TabOk t (L.map fun p => (rowKey p.2).hash w) ∧ (L.map (·.2)).Nodup ∧ t.plain = true ∧
    (w.params.followText "set-order" = true ∨ t.led = true) ∧ L.length * 5 < t.mask * 3 ∧ L.length < 64
def SetRO (w : World) (a : Addr) (L : List (Addr × Row)) : HO := .ext fun h => RSet w h a L
theorem Held.rset {P : Program} {w : World} {h : Heap} {a : Addr} {L : List (Addr × Row)} {es : Array (Int × Value)} {ep : Nat} {t : SetTable} (R : Held (rowKind P w) h a L es ep t) : RSet w h a L :=
  ⟨es, ep, t, R.ob, R.rows, R.tab, R.nd, R.plain, R.led, R.room, R.few⟩
theorem RSet.full {P : Program} {w : World} {h : Heap} {a : Addr} {L : List (Addr × Row)} (R : RSet w h a L) (ht : ∀ p ∈ L, NestedIs h (rowKey p.2) (.ref p.1)) : ∃ es ep t, Held (rowKind P w) h a L es ep t := by
  obtain ⟨es, ep, t, h1, h2, h3, h4, h5, h6, h7, h8⟩ := R.ex
  exact ⟨es, ep, t, h1, h2, h3, h4, ht, h5, h6, h7, h8⟩
theorem setRO_new {P : Program} {w : World} {H : Hp} {h : Heap} {a : Addr} {L : List (Addr × Row)} (R : RSet w h a L) : ObjOk P w H h a (SetRO w a L) := by
  have ⟨es, ep, t, ⟨o, ho, r⟩, q⟩ := R.ex
  refine ⟨R, ⟨o, ho⟩, fun h1 h2 p k => ?_⟩
  have ⟨es', ep', t', ⟨o', ho', r'⟩, q'⟩ := RSet.ex p
  exact ⟨es', ep', t', ⟨o', k o' ho', r'⟩, q'⟩
theorem refs_vals {κ : Type} : ∀ {ks : List (Addr × κ)} {us : List Value}, Vals (ks.map fun p => V.ref p.1) us → us = ks.map fun p => Value.ref p.1
  | [], _, .nil => rfl
  | p :: ks, _, .cons r t => by
    cases r
    rw [refs_vals t] <;> rfl
theorem vals_refs {κ : Type} : ∀ (ks : List (Addr × κ)), Vals (ks.map fun p => V.ref p.1) (ks.map fun p => Value.ref p.1)
  | [] => .nil
  | p :: ks => .cons rfl (vals_refs ks)
/-- set(xs), xs a list of rows -/
def rSetRow (w : World) (K : PySem.W.Frag) : List V → Hp → VK → Prop := fun xs H Q => ∃ (l : Addr) (ks : List (Addr × Row)), xs = [V.ref l] ∧ SqL K H l (ks.map fun p => V.ref p.1) ∧ (∀ p ∈ ks, RowAt H p.1 p.2) ∧ ks.length < 64 ∧
  ∀ a L, H a = none → (∀ p ∈ L, p ∈ ks) → (∀ p ∈ ks, p.2 ∈ L.map (·.2)) → Q (.ref a) (upd H a (SetRO w a L))
theorem cr_setRow (hc : X.calm = true) (hu : X.A.units + 64 < cLine) : CallR X (.type "set") (rSetRow X.w X.K) := by
  intro pins s σ H xs us Q I r h
  obtain ⟨l, ks, rfl, hl, hk, hf, q⟩ := h
  rw [Vals.ref1 r]
  obtain ⟨its, rv, pl, hz⟩ := I.list hl
  have hn : H s.heap.objs.size = none := I.hok.fresh (Nat.le_refl _)
  refine callSet (P := X.prog) (w := X.w) (I.ok.hd hc) pl.isList (fun A' hA => loopKeys (rowFit X.prog X.w) ks (by simpa using refs_vals rv) (fun p hp => inv_row I (hk p hp)) hf (by
    show A'.units + 1 + 8 < cLine
    omega)) fun h' tk hF k => ?_
  obtain ⟨L, es, ep, t, R, g⟩ := hF
  refine ⟨.ref s.heap.objs.size, upd H s.heap.objs.size (SetRO X.w s.heap.objs.size L), I.laid (t' := tk) k (Nat.le_refl _) (setRO_new R.rset), rfl, q _ L hn (fun p hp => ?_) fun p hp => ?_⟩
  · exact List.mem_of_mem_take (g.sub p hp)
  · exact g.all p (by rw [List.take_length]; exact hp)
/-- set(xs), xs a list of ints -/
def rSetLI (w : World) (K : PySem.W.Frag) : List V → Hp → VK → Prop := fun vs H Q => ∃ (a : Addr) (ns : List Int), vs = [V.ref a] ∧ SqL K H a (ns.map V.int) ∧ ns.length ≤ 1000 ∧
  ∀ p c, H p = none → (∀ B : Nat, (∀ k ∈ ns, 0 ≤ k ∧ k < (B : Int)) → c ≤ B) → Q (.ref p) (upd H p (SetO w p (fun j => decide (j ∈ ns)) c))
theorem ints_below {l : List Int} (nd : l.Nodup) {B : Nat} (h : ∀ k ∈ l, 0 ≤ k ∧ k < (B : Int)) : l.length ≤ B := by
  have z := nat_nodup_len (l.map Int.toNat) (List.range B) (by
    refine List.pairwise_map.mpr (List.Pairwise.imp_of_mem (fun {a b} ha hb hne e => hne ?_) nd)
    have h1 := h a ha
    have h2 := h b hb
    omega) (fun x hx => by
    obtain ⟨k, hk, rfl⟩ := List.mem_map.mp hx
    have h1 := h k hk
    exact List.mem_range.mpr (by omega))
  rw [List.length_map, List.length_range] at z
  exact z
theorem SetR.below {w : World} {h : Heap} {a : Addr} {ns : List Int} {c B : Nat} (R : SetR w h a (fun j => decide (j ∈ ns)) c) (hb : ∀ k ∈ ns, 0 ≤ k ∧ k < (B : Int)) : c ≤ B := by
  obtain ⟨o, es, ep, t, ho, hx, hd, g, nd, hm, hbd, hf, hn, _⟩ := R
  have z := ints_below nd (B := B) fun k hk => hb k (of_decide_eq_true ((hm k).2 hk))
  rw [List.length_map, Array.length_toList, hn] at z
  exact z
theorem cr_setLI (hc : X.calm = true) : CallR X (.type "set") (rSetLI X.w X.K) := by
  intro pins s σ H vs us Q I r h
  obtain ⟨a, ns, rfl, hq, hl, q⟩ := h
  rw [Vals.ref1 r]
  obtain ⟨its, rv, pl, hz⟩ := I.list hq
  have hi : IntsAre its.toArray.toList ns := ints_of_vals rv
  have hn : H s.heap.objs.size = none := I.hok.fresh (Nat.le_refl _)
  refine callSet (P := X.prog) (w := X.w) (I.ok.hd hc) pl.isList (fun A' hA => loopInts hi (by unfold scanBound; omega)) fun h' tk hF k => ?_
  obtain ⟨c, hcn, R1⟩ := hF
  exact ⟨.ref s.heap.objs.size, _, I.laid (t' := tk) k (Nat.le_refl _) (setO_new R1), rfl, q _ c hn fun B hB => SetR.below R1 hB⟩
end
/-! ### sorted -/
section
variable {P : Program} {w : World} {A : Around} {E : Value → Shared → Prop} {s : Shared}
theorem sorted_rowset {a : Addr} {L : List (Addr × Row)} {es : Array (Int × Value)} {ep : Nat} {t : SetTable} {Q : Value → Shared → Prop} (R : Held (rowKind P w) s.heap a L es ep t) (hh : A.handled = none) (hu : A.units + 100 < cLine)
    (hr : ∀ p ∈ L, IsRow s.heap (.ref p.1) p.2.1 p.2.2)
    (hQ : ∀ s' p (out : Array Value) (c : Nat) (L' : List (Addr × Row)), (∀ b o, s.heap.get? b = some o → s'.heap.get? b = some o) → s'.gens = s.gens → s'.os = s.os → s.heap.objs.size ≤ p →
      s'.heap.get? p = some (seqObj "list" out c) → out.toList = L'.map (fun q => Value.ref q.1) → L'.Perm L → L'.Pairwise (fun q r => lexR r.2 q.2 = false) → Q (.ref p) s') :
    wpAny (model P w) A (call (.builtin "sorted") [.ref a]) Q E s := by
  obtain ⟨o, ho, hex, hd⟩ := R.ob
  have hsz := R.size
  have hfew := R.few
  refine Calls.call_function_entry kind_sorted plain_sorted entry_sorted (args_sorted1 _) ?_
  unfold Builtin.«sorted»
  refine wpAny_bind (m := checkCount "sorted" 1 1 _) (wpAny_pure ?_)
  refine wpAny_bind (collect_set (A := A.in1) hh ⟨o, ho, hex.1, hd⟩ R.fits (by unfold scanBound; omega) R.tab.ris R.led fun s1 vs k1 hz g1 o1 pm => ?_)
  have hes : es.toList.map (·.2) = L.map fun q => Value.ref q.1 := by
    rw [R.rows]
    unfold ents
    rw [List.map_map] <;> rfl
  rw [hes] at pm
  have ord : ∀ vs : List Value, (∀ v ∈ vs, ∃ q ∈ L, v = Value.ref q.1) → ∃ L1 : List (Addr × Row), vs = L1.map (fun q => Value.ref q.1) ∧ ∀ q ∈ L1, q ∈ L := by
    intro vs
    induction vs with
    | nil => intro _; exact ⟨[], rfl, fun q hq => (by cases hq)⟩
    | cons v vs ih =>
      intro hv
      obtain ⟨q, hq, e⟩ := hv v List.mem_cons_self
      obtain ⟨L1, e1, hs⟩ := ih fun u hu => hv u (List.mem_cons_of_mem _ hu)
      refine ⟨q :: L1, by rw [List.map_cons, e, e1], fun r hr => ?_⟩
      rcases List.mem_cons.mp hr with z | z
      · rw [z]; exact hq
      · exact hs r z
  have one : ∀ q ∈ L, ∀ r ∈ L, q.1 = r.1 → q = r := fun q hq r hr e => by
    have a1 := R.are q hq
    have a2 := R.are r hr
    rw [e] at a1
    have e2 : q.2 = r.2 := (rowKind P w).inj a1 a2
    exact Prod.ext e e2
  have perm_of : ∀ L1 : List (Addr × Row), (∀ q ∈ L1, q ∈ L) → (L1.map (fun q => Value.ref q.1)).Perm (L.map fun q => Value.ref q.1) → L1.Perm L := by
    intro L1 hs pm1
    have nL : L.Nodup := nodup_of_map R.nd
    have nref : (L.map fun q => Value.ref q.1).Nodup := by
      refine List.pairwise_map.mpr (List.Pairwise.imp_of_mem (fun {q r} hq hr hne e => ?_) nL)
      injection e with e
      exact hne (one q hq r hr e)
    have n1 : L1.Nodup := nodup_of_map (pm1.nodup_iff.mpr nref)
    refine (List.perm_ext_iff_of_nodup n1 nL).mpr fun q => ⟨hs q, fun hq => ?_⟩
    have hm : Value.ref q.1 ∈ L1.map (fun q => Value.ref q.1) := pm1.mem_iff.mpr (List.mem_map.mpr ⟨q, hq, rfl⟩)
    obtain ⟨r, hr, e⟩ := List.mem_map.mp hm
    injection e with e
    rw [← one r (hs r hr) q hq e]
    exact hr
  -- the key of a value
  have key : ∀ v : Value, ∃ r : Row, ∀ q ∈ L, v = Value.ref q.1 → r = q.2 := fun v => by
    rcases Classical.em (∃ q ∈ L, v = Value.ref q.1) with ⟨q, hq, e⟩ | n
    · refine ⟨q.2, fun q' hq' e' => ?_⟩
      have e2 : q.1 = q'.1 := by
        have z := e.symm.trans e'
        injection z
      rw [one q hq q' hq' e2]
    · exact ⟨(0, []), fun q hq e => absurd ⟨q, hq, e⟩ n⟩
  let k : Value → Row := fun v => (key v).choose
  have hk : ∀ q ∈ L, k (Value.ref q.1) = q.2 := fun q hq => (key (Value.ref q.1)).choose_spec q hq rfl
  have hvl : vs.length < 64 := by rw [pm.length_eq, List.length_map]; exact hfew
  refine wpAny_bind (wpAny_newList ?_ (by rw [sizeLine_eq]; omega))
  have hoL : (s1.heap.push (seqObj "list" vs.toArray 0)).get? s1.heap.objs.size = some (seqObj "list" vs.toArray 0) := Heap.get?_push_size _ rfl
  have tk : ∀ v ∈ vs, IsRow (s1.heap.push (seqObj "list" vs.toArray 0)) v (k v).1 (k v).2 := fun v hv => by
    obtain ⟨q, hq, e⟩ := List.mem_map.mp (pm.mem_iff.mp hv)
    rw [← e, hk q hq]
    exact (hr q hq).keeps fun b u e _ => Heap.get?_push_of_some _ (k1 b u e)
  refine wpAny_bind (wpAny_holding (wpAny_call_entry slot_list_sort ⟨_, hoL, rfl⟩ entry_list_sort (SrtO.list_sort_ord (s := { s1 with heap := s1.heap.push (seqObj "list" vs.toArray 0) }) (swo_R k) hoL (by rw [sizeLine_eq]; omega) (fun h2 => rows_sortable (by show A.units + 1 + 1 + 64 < cLine; omega) (by omega) tk fun o e => ?_) fun out a1 a2 => ⟨_, rfl, ?_⟩) (args_list_sort _)))
  · have e' : some o = some (seqObj "list" vs.toArray 0) := e.symm.trans hoL
    cases e'
    intro c
    exact absurd (Value.type.inj c) (by decide)
  obtain ⟨c, hc⟩ := sortedHeap_at (vs := vs) (out := out.toArray) hoL
  obtain ⟨L', e', hs'⟩ := ord out fun v hv => by
    obtain ⟨q, hq, e⟩ := List.mem_map.mp (pm.mem_iff.mp (a2.perm.mem_iff.mp hv))
    exact ⟨q, hq, e.symm⟩
  have pL : L'.Perm L := perm_of L' hs' (by rw [← e']; exact a2.perm.trans pm)
  have pw : L'.Pairwise (fun q r => lexR r.2 q.2 = false) := by
    have a1' : (L'.map fun q => Value.ref q.1).Pairwise (fun x y => lexR (k y) (k x) = false) := by
      rw [← e']
      exact a1
    refine List.Pairwise.imp_of_mem (fun {q r} hq hr hle => ?_) (List.pairwise_map.mp a1')
    rw [hk q (hs' q hq), hk r (hs' r hr)] at hle
    exact hle
  refine wpAny_pure ⟨_, rfl, hQ _ s1.heap.objs.size out.toArray c L' (fun b u e => ?_) g1 o1 hz hc (by simpa using e') pL pw⟩
  have q := k1 b u e
  have hlt := Heap.lt_size q
  show (sortedHeap (s1.heap.push (seqObj "list" vs.toArray 0)) s1.heap.objs.size vs out.toArray).get? b = some u
  rw [sortedHeap_old (Nat.ne_of_lt hlt) (by rw [size_push']; exact Nat.lt_succ_of_lt hlt)]
  exact Heap.get?_push_of_some _ q
end
section
variable {X : Cx}
theorem inv_isRow {pins : List (Addr × Obj)} {σ : L2.St} {H : Hp} {s : Shared} {a : Addr} {r : Row} (I : Inv X pins σ H s) (h : RowAt H a r) : IsRow s.heap (.ref a) r.1 r.2 := by
  obtain ⟨u, ht, hu'⟩ := h
  obtain ⟨_, its2, r2, o, ho, hc, n, hd⟩ := I.hok _ _ ht
  obtain ⟨_, its3, r3, tup3⟩ := I.hok _ _ hu'
  obtain ⟨u1, u2, rfl, ri, rj⟩ := vals2 r2
  obtain ⟨t1, rfl⟩ := ri
  cases (show u2 = Value.ref u from rj)
  exact ⟨a, o, t1, u, its3.toArray, n, rfl, ho, hc, hd, tup3, ints_of_vals r3⟩
/-- sorted(set of rows) -/
def rSortedRow (w : World) : List V → Hp → VK → Prop := fun vs H Q => ∃ (a : Addr) (L : List (Addr × Row)), vs = [V.ref a] ∧ H a = some (SetRO w a L) ∧ (∀ p ∈ L, RowAt H p.1 p.2) ∧
  ∀ (L' : List (Addr × Row)) (p : Addr), L'.Perm L → (L'.map (·.2)).Nodup → L'.length < 64 → L'.Pairwise (fun q r => lexR r.2 q.2 = false) → H p = none → Q (.ref p) (upd H p (.lst (L'.map fun q => V.ref q.1)))
theorem cr_sortedRow (hc : X.calm = true) (hu : X.A.units + 100 < cLine) : CallR X (.builtin "sorted") (rSortedRow X.w) := by
  intro pins s σ H vs us Q I r h
  obtain ⟨a, L, rfl, ha, hk, q⟩ := h
  have R0 : RSet X.w s.heap a L := (I.hok a _ ha).1
  obtain ⟨es, ep, t, R⟩ := R0.full (P := X.prog) fun p hp => inv_row I (hk p hp)
  rw [Vals.ref1 r]
  refine sorted_rowset R (I.ok.hd hc) hu (fun p hp => inv_isRow I (hk p hp)) fun s' p out c L' k g o hp hg hout pm pw => ?_
  have hfew : L'.length < 64 := by rw [pm.length_eq]; exact R.few
  have hlen : (L'.map fun q => V.ref q.1).length ≤ sizeLine := by rw [List.length_map, sizeLine_eq]; omega
  have hn : H p = none := I.hok.fresh hp
  have hv : Vals (L'.map fun q => V.ref q.1) out.toList := by rw [hout]; exact vals_refs L'
  have J : Inv X pins σ (upd H p (.lst (L'.map fun q => V.ref q.1))) { s with heap := s'.heap, gens := s'.gens, drawn := s'.drawn, toks := s'.toks } :=
    I.call (ch := []) (Un.laid k hp hn) (I.hok.laid k hp ⟨hlen, out.toList, c, hv, hg⟩) (by rw [g]; exact I.bare) (fun _ z => nomatch z)
  have e : s' = { s with heap := s'.heap, gens := s'.gens, drawn := s'.drawn, toks := s'.toks } := by
    cases s'
    cases s
    cases o
    rfl
  rw [e]
  exact ⟨.ref p, _, J, rfl, q L' p pm ((pm.map (·.2)).nodup_iff.mpr R.nd) hfew pw hn⟩
theorem k_setRow (w : World) (K : PySem.W.Frag) (hc : X.calm = true) (hu : X.A.units + 100 < cLine) (h1 : X.w = w := by rfl) (h : X.K = K := by rfl) : CallR X (.type "set") (rSetRow w K) := by
  subst h1 h
  exact cr_setRow hc (by omega)
theorem k_setLI (w : World) (K : PySem.W.Frag) (hc : X.calm = true) (h1 : X.w = w := by rfl) (h : X.K = K := by rfl) : CallR X (.type "set") (rSetLI w K) := by
  subst h1 h
  exact cr_setLI hc
theorem k_sortedRow (w : World) (hc : X.calm = true) (hu : X.A.units + 100 < cLine) (h1 : X.w = w := by rfl) : CallR X (.builtin "sorted") (rSortedRow w) := by
  subst h1
  exact cr_sortedRow hc hu
end
/-! ### over data -/
section
variable {G : Cfg} {te : TE} {ρ : Rho} {w : World}
theorem Rep.rowAt {F : Hp} {v : V} {r : Row} (h : Rep G F v (eRow r)) : ∃ a, v = .ref a ∧ RowAt F a r := by
  cases h with
  | tup a1 b1 =>
    cases b1 with
    | cons c1 d1 =>
      cases d1 with
      | cons c3 d3 =>
        cases d3
        cases c1
        cases c3 with
        | tup f1 g1 =>
          have e1 := g1.ints
          subst e1
          exact ⟨_, rfl, _, a1, f1⟩
theorem RowAt.rep {F : Hp} {a : Addr} {r : Row} (h : RowAt F a r) : Rep G F (.ref a) (eRow r) := by
  obtain ⟨u, h1, h2⟩ := h
  exact .tup h1 (.cons (.int _) (.cons (.tup h2 (.ofInts _)) .nil))
theorem Reps.rowsAt {F : Hp} : ∀ {vs : List V} {xs : List Row}, Reps G F vs (xs.map eRow) → ∃ ks : List (Addr × Row), vs = ks.map (fun p => V.ref p.1) ∧ ks.map (·.2) = xs ∧ ∀ p ∈ ks, RowAt F p.1 p.2
  | _, [], h => by
    cases h
    exact ⟨[], rfl, rfl, fun p hp => (by cases hp)⟩
  | _, x :: xs, h => by
    cases h with
    | cons h1 h2 =>
      obtain ⟨a, rfl, ra⟩ := h1.rowAt
      obtain ⟨ks, rfl, rfl, hk⟩ := Reps.rowsAt h2
      refine ⟨(a, x) :: ks, rfl, rfl, fun p hp => ?_⟩
      rcases List.mem_cons.mp hp with e | hp
      · rw [e]; exact ra
      · exact hk p hp
theorem rowsAt_reps {F : Hp} : ∀ {ks : List (Addr × Row)}, (∀ p ∈ ks, RowAt F p.1 p.2) → Reps G F (ks.map fun p => V.ref p.1) ((ks.map (·.2)).map eRow)
  | [], _ => .nil
  | p :: ks, h => .cons (h p List.mem_cons_self).rep (rowsAt_reps fun q hq => h q (List.mem_cons_of_mem _ hq))
theorem evn_sortedSetRow {xs ys : List Row} (h : EvS G te ρ (xs.map eRow)) (hl : xs.length < 64) (hs : ys.Pairwise fun a b => lexR b a = false) (nd : ys.Nodup) (hm : ∀ r, r ∈ ys ↔ r ∈ xs) :
    EvN G (tCB (rSortedRow w) (tCons (tCB (rSetRow w G.K) (tCons te tNil)) tNil)) ρ (ys.map eRow) := fun F0 H0 F H σ E Q q =>
  h F0 H0 F H σ E _ fun a vs F1 H1 g1 h1 rr => by
  obtain ⟨ks, rfl, rfl, hk⟩ := rr.rowsAt
  have hkH : ∀ p ∈ ks, RowAt H1 p.1 p.2 := fun p hp => (hk p hp).mono g1.sub
  refine ⟨a, ks, rfl, SqL.of h1, hkH, by simpa using hl, fun p L hp' hsub hall => ?_⟩
  have g2 : Grow F H F1 (upd H1 p (SetRO w p L)) := g1.fresh hp'
  refine ⟨p, L, rfl, upd_same, fun r hr => (hkH r (hsub r hr)).mono (same_upd hp'), fun L' l pm ndL' hfew pw hl' => ?_⟩
  have hsub' : ∀ r ∈ L', r ∈ ks := fun r hr => hsub r (pm.mem_iff.mp hr)
  have ey : L'.map (·.2) = ys := by
    have pm2 : (L'.map (·.2)).Perm ys := (List.perm_ext_iff_of_nodup ndL' nd).mpr fun r => by
      rw [hm r, (pm.map (·.2)).mem_iff]
      constructor
      · intro hr
        obtain ⟨q, hq, e⟩ := List.mem_map.mp hr
        exact List.mem_map.mpr ⟨q, hsub q hq, e⟩
      · intro hr
        obtain ⟨q, hq, e⟩ := List.mem_map.mp hr
        rw [← e]
        exact hall q hq
    exact pm2.eq_of_pairwise (fun a b _ _ h1 h2 => lexR_tot _ _ h2 h1) (List.pairwise_map.mpr pw) hs
  subst ey
  have l1 : H1 l = none := by
    rw [← hl']
    exact (upd_ne (fun e => by rw [e, upd_same] at hl'; cases hl')).symm
  exact q l _ F1 _ (g2.fresh hl') (g2.eh.free hl') (g2.sub.free hl') upd_same (rowsAt_reps fun p hp => hk p (hsub' p hp))
theorem evn_sortedSetLI {ns ms : List Int} (h : EvS G te ρ (ns.map .int)) (hl : ns.length ≤ 1000) (h5 : ∀ k ∈ ns, 0 ≤ k ∧ k < 60) (hp : ms.Pairwise (· < ·)) (hm : ∀ k : Int, k ∈ ms ↔ k ∈ ns) :
    EvN G (tCB (rSortedSet w) (tCons (tCB (rSetLI w G.K) (tCons te tNil)) tNil)) ρ (ms.map .int) := fun F0 H0 F H σ E Q q =>
  h F0 H0 F H σ E _ fun a vs F1 H1 g1 h1 r => by
  have e := r.ints
  subst e
  refine ⟨a, ns, rfl, SqL.of h1, hl, fun p c hp' hc => ?_⟩
  have hc60 : c ≤ 60 := hc 60 h5
  refine ⟨p, _, c, rfl, upd_same, by omega, fun ks l hk hk2 hlen hl' => ?_⟩
  have ek : ks = ms := by
    have : ∀ k, k ∈ ks ↔ k ∈ ms := fun k => by rw [hk2 k, hm k, decide_eq_true_eq]
    have p1 : ks.Perm ms := (List.perm_ext_iff_of_nodup (hk.imp fun {a b} h => Int.ne_of_lt h) (hp.imp fun {a b} h => Int.ne_of_lt h)).mpr this
    exact p1.eq_of_pairwise (fun a b _ _ h1 h2 => by omega) hk hp
  subst ek
  have g2 : Grow F H F1 (upd H1 p (SetO w p (fun j => decide (j ∈ ns)) c)) := g1.fresh hp'
  have l1 : H1 l = none := by
    rw [← hl']
    exact (upd_ne (fun e => by rw [e, upd_same] at hl'; cases hl')).symm
  exact q l _ F1 _ (g2.fresh hl') (g2.eh.free hl') (g2.sub.free hl') upd_same (.ofInts ks)
end
end Vw

/-! the plain law of k10: the law's own reading of a text answers as read does -/
namespace Vw
open PySem L2 PySem.Spec PyProof.Rows
/-! ### what read computes -/
def wordsOf (w : List Nat) : Option (List Crowd) := if w.drop 1 = [58] then some [] else if (w.drop 1).take 1 = [58] then optAll crowdL (splitL 44 (w.drop 2)) else none
def readWith (w : List Nat) (m : Int) (cs : List Crowd) : Option (Nat × List Crowd) := if (1 ≤ m ∧ m ≤ 5) ∧ cs.all (crowdOk m) = true ∧ showL m.toNat (least m.toNat cs) = w then some (m.toNat, cs) else none
def readL (w : List Nat) : Option (Nat × List Crowd) := (numL (w.take 1)).bind fun m => (wordsOf w).bind fun cs => readWith w m cs
theorem optAll_len {α β : Type} {f : α → Option β} : ∀ {xs : List α} {ys : List β}, optAll f xs = some ys → ys.length = xs.length
  | [], ys, h => by
    cases h
    rfl
  | x :: xs, ys, h => by
    unfold optAll at h
    cases q : f x with
    | none => rw [q] at h; cases h
    | some a =>
      cases q2 : optAll f xs with
      | none => rw [q, q2] at h; cases h
      | some b =>
        rw [q, q2] at h
        cases h
        rw [List.length_cons, List.length_cons, optAll_len q2]
theorem numL_bd {l : List Nat} {m : Int} (h : numL l = some m) : 0 ≤ m ∧ m ≤ 9 := by
  unfold numL at h
  split at h
  · split at h
    · cases h
      omega
    · cases h
  · cases h
theorem optAll_out {α β γ : Type} {f : α → Option β} {g : β → γ} : ∀ xs : List α, optAll (fun x => (f x).map g) xs = (optAll f xs).map (List.map g)
  | [] => rfl
  | x :: xs => by
    have ih := optAll_out (f := f) (g := g) xs
    unfold optAll
    rw [ih]
    cases f x <;> cases optAll f xs <;> rfl
theorem optAll_cons {α β : Type} {f : α → Option β} {x : α} {xs : List α} {ys : List β} (h : optAll f (x :: xs) = some ys) : ∃ y zs, f x = some y ∧ optAll f xs = some zs ∧ ys = y :: zs := by
  unfold optAll at h
  cases q : f x with
  | none => rw [q] at h; cases h
  | some a =>
    cases q2 : optAll f xs with
    | none => rw [q, q2] at h; cases h
    | some b =>
      rw [q, q2] at h
      cases h
      exact ⟨a, b, rfl, rfl, rfl⟩
/-- what each item becomes may be turned back -/
theorem optAll_back {α β : Type} {f : α → Option β} {g : β → α} {p : β → Prop} : ∀ {xs : List α} {ys : List β}, optAll f xs = some ys → (∀ x y, x ∈ xs → f x = some y → x = g y ∧ p y) → xs = ys.map g ∧ ∀ y ∈ ys, p y
  | [], ys, h, _ => by
    cases h
    exact ⟨rfl, fun y hy => nomatch hy⟩
  | x :: xs, ys, h, hb => by
    obtain ⟨y, zs, h1, h2, rfl⟩ := optAll_cons h
    obtain ⟨e, q⟩ := hb x y List.mem_cons_self h1
    obtain ⟨e2, q2⟩ := optAll_back (p := p) h2 fun x y hx => hb x y (List.mem_cons_of_mem _ hx)
    refine ⟨by rw [List.map_cons, ← e, ← e2], fun z hz => ?_⟩
    rcases List.mem_cons.mp hz with e3 | hz
    · rw [e3]; exact q
    · exact q2 z hz
/-! ### rows in order -/
theorem lexR_irr (p : Row) : lexR p p = false := by
  unfold lexR
  rw [if_pos rfl]
  exact lexLt_irr _
theorem lexR_of {p q : Row} (h : lexR q p = false) (hne : p ≠ q) : lexR p q = true := by
  cases e : lexR p q with
  | true => rfl
  | false => exact absurd (lexR_tot _ _ e h) hne
theorem lexR_trans {x y z : Row} (h1 : lexR x y = true) (h2 : lexR y z = true) : lexR x z = true := by
  cases e : lexR x z with
  | true => rfl
  | false =>
    have h4 := lexR_tr z x y e (lexR_asym _ _ h1)
    rw [h4] at h2
    cases h2
def insR (x : Row) : List Row → List Row
  | [] => [x]
  | y :: ys => if lexR x y = true then x :: y :: ys else if x = y then y :: ys else y :: insR x ys
def sortR : List Row → List Row
  | [] => []
  | x :: xs => insR x (sortR xs)
theorem insR_mem {x k : Row} : ∀ {ys : List Row}, k ∈ insR x ys ↔ k = x ∨ k ∈ ys
  | [] => by simp [insR]
  | y :: ys => by
    unfold insR
    split
    · simp
    · split
      · rename_i e
        subst e
        simp
      · rw [List.mem_cons, insR_mem, List.mem_cons]
        constructor
        · rintro (h | h | h)
          · exact .inr (.inl h)
          · exact .inl h
          · exact .inr (.inr h)
        · rintro (h | h | h)
          · exact .inr (.inl h)
          · exact .inl h
          · exact .inr (.inr h)
abbrev SortedR (l : List Row) : Prop := l.Pairwise fun a b => lexR a b = true
theorem insR_sorted {x : Row} : ∀ {ys : List Row}, SortedR ys → SortedR (insR x ys)
  | [], _ => List.pairwise_singleton _ _
  | y :: ys, h => by
    obtain ⟨h1, h2⟩ := List.pairwise_cons.mp h
    unfold insR
    split
    · rename_i e
      refine .cons (fun z hz => ?_) h
      rcases List.mem_cons.mp hz with e2 | hz
      · rw [e2]; exact e
      · exact lexR_trans e (h1 z hz)
    · split
      · exact h
      · rename_i n1 n2
        refine .cons (fun z hz => ?_) (insR_sorted h2)
        rcases insR_mem.mp hz with e2 | hz
        · rw [e2]
          exact lexR_of (by simpa using n1) fun e => n2 e.symm
        · exact h1 z hz
theorem sortR_mem {k : Row} : ∀ {xs : List Row}, k ∈ sortR xs ↔ k ∈ xs
  | [] => Iff.rfl
  | x :: xs => by
    unfold sortR
    rw [insR_mem, sortR_mem, List.mem_cons]
theorem sortR_sorted : ∀ xs : List Row, SortedR (sortR xs)
  | [] => .nil
  | x :: xs => insR_sorted (sortR_sorted xs)
theorem SortedR.nodup {l : List Row} (h : SortedR l) : l.Nodup := h.imp fun {a b} q e => by
  rw [e, lexR_irr] at q
  cases q
theorem SortedR.weak {l : List Row} (h : SortedR l) : l.Pairwise fun a b => lexR b a = false := h.imp fun {a b} q => lexR_asym _ _ q
theorem sortedR_ext {a b : List Row} (ha : SortedR a) (hb : SortedR b) (h : ∀ k, k ∈ a ↔ k ∈ b) : a = b :=
  ((List.perm_ext_iff_of_nodup ha.nodup hb.nodup).mpr h).eq_of_pairwise (fun x y _ _ h1 h2 => by
    have h3 := lexR_asym _ _ h1
    rw [h3] at h2
    cases h2) ha hb
theorem sortR_self {l : List Row} (h : SortedR l) : sortR l = l := sortedR_ext (sortR_sorted l) h fun k => sortR_mem
theorem self_sorted {l : List Row} (h : l = sortR l) : SortedR l := h ▸ sortR_sorted l
theorem rowOf_inj {a b : Crowd} (h : rowOf a = rowOf b) : a = b := congrArg Prod.snd h
theorem crowds_rows {n : Nat} (hn : n ≤ 5) : SortedR ((crowdsOf n).map rowOf) := by
  have h1 := lawCrowds_sorted n (by omega)
  have h2 := crowdsOf_nodup n (by omega)
  have h3 : ((crowdsOf n).map rowOf).Pairwise (· ≠ ·) := List.pairwise_map.mpr (h2.imp fun {a b} q e => q (rowOf_inj e))
  exact h1.imp₂ (fun a b q r => lexR_of q r) h3
/-! ### the law's reading -/
def memL (m : Nat) : List Nat → Option Int
  | [x] => if 48 ≤ x ∧ x < 48 + m then some ((x - 48 : Nat) : Int) else none
  | _ => none
def lawCrowdL (m : Nat) (w : List Nat) : Option Crowd :=
  if w = [32, 45] then some [] else if w.take 1 = [32] then (optAll (memL m) (splitL 43 (w.drop 1))).bind fun ms => if ms = sortU ms then some ms else none else none
def apart (cs : List Crowd) : Prop := ∀ a ∈ cs, ∀ b ∈ cs, a ≠ b → liesIn a b = false
instance (cs : List Crowd) : Decidable (apart cs) := inferInstanceAs (Decidable (∀ a ∈ cs, ∀ b ∈ cs, a ≠ b → liesIn a b = false))
def dueWith (m : Nat) (cs : List Crowd) : Option (Nat × List Crowd) := if cs.map rowOf = sortR (cs.map rowOf) ∧ apart cs then some (m, cs) else none
def dueL (l : List Nat) : Option (Nat × List Crowd) :=
  match l.take 1 with
  | [x] => if (49 ≤ x ∧ x ≤ 53) ∧ (l.drop 1).take 1 = [58] then
      if l.drop 2 = [] then some (x - 48, []) else (optAll (lawCrowdL (x - 48)) (splitL 44 (l.drop 2))).bind (dueWith (x - 48))
    else none
  | _ => none
theorem join_split (c : Nat) : ∀ l : List Nat, joinL [c] (splitL c l) = l
  | [] => rfl
  | x :: l => by
    have ih := join_split c l
    rw [splitL_cons]
    have hne := splitL_ne c l
    by_cases h : x = c
    · rw [if_pos h]
      cases q : splitL c l with
      | nil => exact absurd q hne
      | cons p ps =>
        rw [q] at ih
        show [] ++ [c] ++ joinL [c] (p :: ps) = x :: l
        rw [ih, h]
        rfl
    · rw [if_neg h]
      cases q : splitL c l with
      | nil => exact absurd q hne
      | cons p ps =>
        rw [q] at ih
        show joinL [c] ((x :: p) :: ps) = x :: l
        cases ps with
        | nil =>
          show x :: p = x :: l
          have : joinL [c] [p] = p := rfl
          rw [this] at ih
          rw [ih]
        | cons r rs =>
          have e1 : joinL [c] ((x :: p) :: r :: rs) = (x :: p) ++ [c] ++ joinL [c] (r :: rs) := rfl
          have e2 : joinL [c] (p :: r :: rs) = p ++ [c] ++ joinL [c] (r :: rs) := rfl
          rw [e2] at ih
          rw [e1, ← ih]
          rfl
theorem memL_some {m : Nat} {p : List Nat} {k : Int} (h : memL m p = some k) : p = digL k ∧ 0 ≤ k ∧ k < m := by
  unfold memL at h
  split at h
  · rename_i x
    split at h
    · rename_i q
      cases h
      refine ⟨?_, by omega, by omega⟩
      unfold digL
      congr 1
      omega
    · cases h
  · cases h
theorem memL_dig {m : Nat} {k : Int} (h : 0 ≤ k ∧ k < m) : memL m (digL k) = some k := by
  unfold memL digL
  show (if 48 ≤ 48 + k.toNat ∧ 48 + k.toNat < 48 + m then some ((48 + k.toNat - 48 : Nat) : Int) else none) = some k
  rw [if_pos (by omega), Nat.add_sub_cancel_left, Int.toNat_of_nonneg h.1]
theorem head_blank {w : List Nat} (h : w.take 1 = [32]) : w = 32 :: w.drop 1 := by
  cases w with
  | nil => cases h
  | cons x r =>
    have e : x = 32 := by simpa using h
    rw [e]
    rfl
theorem lawCrowd_some {m : Nat} {w : List Nat} {c : Crowd} (h : lawCrowdL m w = some c) : w = wordL c ∧ crowdOk (m : Int) c = true := by
  unfold lawCrowdL at h
  split at h
  · rename_i e
    cases h
    exact ⟨e, rfl⟩
  · split at h
    · rename_i h1 h2
      cases q : optAll (memL m) (splitL 43 (w.drop 1)) with
      | none => rw [q] at h; cases h
      | some ms =>
        rw [q, Option.bind_some] at h
        split at h
        · rename_i hs
          cases h
          obtain ⟨e, hb⟩ := optAll_back (g := digL) (p := fun k : Int => 0 ≤ k ∧ k < m) q fun x y _ hxy => memL_some hxy
          have hl := optAll_len q
          have hne : c ≠ [] := fun z => by
            rw [z] at e
            exact splitL_ne 43 _ e
          refine ⟨?_, crowdOk_iff.mpr ⟨hs ▸ sortU_sorted c, hb⟩⟩
          unfold wordL bareL
          rw [if_neg hne, ← e, join_split]
          exact head_blank h2
        · cases h
    · cases h
theorem lawCrowd_word {m : Nat} {c : Crowd} (h : crowdOk (m : Int) c = true) : lawCrowdL m (wordL c) = some c := by
  obtain ⟨hs, hb⟩ := crowdOk_iff.mp h
  by_cases hc : c = []
  · subst hc
    rfl
  · have e : wordL c = 32 :: bareL c := by
      unfold wordL
      rw [if_neg hc]
    have hfree : ∀ p ∈ c.map digL, 43 ∉ p := fun p hp => by
      obtain ⟨k, _, rfl⟩ := List.mem_map.mp hp
      exact dig_free 43 (by decide)
    have hsp : splitL 43 (bareL c) = c.map digL := split_join 43 _ (by simpa using hc) hfree
    unfold lawCrowdL
    rw [e, if_neg, if_pos (by rfl)]
    · show (optAll (memL m) (splitL 43 (bareL c))).bind _ = some c
      rw [hsp, optAll_map (h := fun k : Int => k) (fun k hk => memL_dig (hb k hk)), List.map_id', Option.bind_some, if_pos]
      exact sorted_ext hs (sortU_sorted c) fun k => sortU_mem.symm
    · intro z
      have z2 : bareL c = [45] := by
        injection z
      have hm : 45 ∈ bareL c := by rw [z2]; exact List.mem_cons_self
      unfold bareL at hm
      rcases joinL_mem hm with q | ⟨p, hp, q⟩
      · simp at q
      · obtain ⟨k, _, rfl⟩ := List.mem_map.mp hp
        exact dig_free 45 (by decide) q
/-- told crowds of which none lies in another, in order: the least -/
theorem least_self {n : Nat} (hn : n ≤ 5) {cs : List Crowd} (hok : ∀ c ∈ cs, crowdOk (n : Int) c = true) (hs : SortedR (cs.map rowOf)) (ha : apart cs) : least n cs = cs := by
  rw [least_eq hn]
  have hmem : ∀ c, c ∈ (crowdsOf n).filter (isLeast cs n) ↔ c ∈ cs := fun c => by
    rw [List.mem_filter]
    constructor
    · rintro ⟨hc, hl⟩
      obtain ⟨hb, hl⟩ := isLeast_iff.mp hl
      obtain ⟨t, ht, hlt⟩ := List.any_eq_true.mp hb
      by_cases e : t = c
      · rw [← e]; exact ht
      · have z := hl t (crowd_listed hn (hok t ht)) (List.any_eq_true.mpr ⟨t, ht, liesIn_refl t⟩) e
        rw [hlt] at z
        cases z
    · intro hc
      refine ⟨crowd_listed hn (hok c hc), isLeast_iff.mpr ⟨List.any_eq_true.mpr ⟨c, hc, liesIn_refl c⟩, fun one h1 hb hne => ?_⟩⟩
      obtain ⟨t, ht, hlt⟩ := List.any_eq_true.mp hb
      cases q : liesIn one c with
      | false => rfl
      | true =>
        exfalso
        have htc := liesIn_trans hlt q
        by_cases e : t = c
        · subst e
          refine hne (sorted_ext (cs_sorted hn h1) (cs_sorted hn (crowd_listed hn (hok t hc))) fun k => ⟨fun hk => liesIn_iff.mp q k hk, fun hk => liesIn_iff.mp hlt k hk⟩)
        · rw [ha t ht c hc e] at htc
          cases htc
  have h1 : SortedR (((crowdsOf n).filter (isLeast cs n)).map rowOf) := (crowds_rows hn).sublist (List.filter_sublist.map rowOf)
  have h2 := sortedR_ext h1 hs fun k => by
    rw [List.mem_map, List.mem_map]
    constructor
    · rintro ⟨c, hc, e⟩
      exact ⟨c, (hmem c).mp hc, e⟩
    · rintro ⟨c, hc, e⟩
      exact ⟨c, (hmem c).mpr hc, e⟩
  have h3 := congrArg (List.map Prod.snd) h2
  rw [List.map_map, List.map_map] at h3
  have h4 : (Prod.snd ∘ rowOf : Crowd → Crowd) = id := rfl
  rw [h4, List.map_id, List.map_id] at h3
  exact h3
theorem least_rows {n : Nat} (hn : n ≤ 5) (told : List Crowd) : SortedR ((least n told).map rowOf) := by
  rw [least_eq hn]
  exact (crowds_rows hn).sublist (List.filter_sublist.map rowOf)
theorem least_apart {n : Nat} (hn : n ≤ 5) (told : List Crowd) : apart (least n told) := fun a ha b hb hne => by
  rw [least_eq hn] at ha hb
  obtain ⟨a1, a2⟩ := List.mem_filter.mp ha
  obtain ⟨b1, b2⟩ := List.mem_filter.mp hb
  exact (isLeast_iff.mp b2).2 a a1 (isLeast_iff.mp a2).1 hne
/-- a text that the law takes: what it says is told back -/
theorem due_some {l : List Nat} {m : Nat} {cs : List Crowd} (h : dueL l = some (m, cs)) : (1 ≤ m ∧ m ≤ 5) ∧ (∀ c ∈ cs, crowdOk (m : Int) c = true) ∧ least m cs = cs ∧ showL m cs = l ∧ readL l = some (m, cs) := by
  unfold dueL at h
  split at h
  · rename_i x hx
    split at h
    · rename_i hq
      obtain ⟨⟨x1, x5⟩, hcol⟩ := hq
      obtain ⟨r, rfl⟩ : ∃ r, l = x :: 58 :: r := by
        cases l with
        | nil => cases hx
        | cons y l2 =>
          have e : y = x := by simpa using hx
          subst e
          cases l2 with
          | nil => cases hcol
          | cons z l3 =>
            have e : z = 58 := by simpa using hcol
            subst e
            exact ⟨l3, rfl⟩
      have key : m = x - 48 → (∀ c ∈ cs, crowdOk (m : Int) c = true) → SortedR (cs.map rowOf) → apart cs → r = joinL [44] (cs.map wordL) → wordsOf (x :: 58 :: r) = some cs → (1 ≤ m ∧ m ≤ 5) ∧ (∀ c ∈ cs, crowdOk (m : Int) c = true) ∧ least m cs = cs ∧ showL m cs = x :: 58 :: r ∧ readL (x :: 58 :: r) = some (m, cs) := by
        intro em hok hs ha er ew
        have hls := least_self (n := m) (by omega) hok hs ha
        have hsh : showL m cs = x :: 58 :: r := by
          unfold showL
          rw [← er]
          congr 1
          omega
        refine ⟨by omega, hok, hls, hsh, ?_⟩
        unfold readL
        have en : numL ((x :: 58 :: r).take 1) = some ((x - 48 : Nat) : Int) := by
          show numL [x] = _
          unfold numL
          exact if_pos ⟨by omega, by omega⟩
        rw [en, Option.bind_some, ew, Option.bind_some, ← em]
        unfold readWith
        rw [if_pos]
        · rw [Int.toNat_natCast]
        · refine ⟨by omega, List.all_eq_true.mpr hok, ?_⟩
          rw [Int.toNat_natCast, hls, hsh]
      split at h
      · rename_i hr
        have hr' : r = [] := hr
        subst hr'
        cases h
        exact key rfl (fun c hc => nomatch hc) .nil (fun a ha => nomatch ha) rfl rfl
      · rename_i hr
        have hr' : ¬ r = [] := hr
        have h' : (optAll (lawCrowdL (x - 48)) (splitL 44 r)).bind (dueWith (x - 48)) = some (m, cs) := h
        cases q : optAll (lawCrowdL (x - 48)) (splitL 44 r) with
        | none => rw [q] at h'; cases h'
        | some ds =>
          rw [q, Option.bind_some] at h'
          unfold dueWith at h'
          split at h'
          · rename_i hd
            cases h'
            obtain ⟨e, hb⟩ := optAll_back (g := wordL) (p := fun c : Crowd => crowdOk ((x - 48 : Nat) : Int) c = true) q fun w c _ hw => lawCrowd_some hw
            refine key rfl hb (self_sorted hd.1) hd.2 (by rw [← e, join_split]) ?_
            unfold wordsOf
            rw [if_neg, if_pos (by rfl)]
            · show optAll crowdL (splitL 44 r) = some cs
              rw [e]
              have z := optAll_map (f := crowdL) (g := wordL) (h := fun c : Crowd => c) (xs := cs) fun c hc => crowdL_word fun k hk => by
                have := crowdOk_mem (hb c hc) k hk
                omega
              rw [z, List.map_id']
            · intro z
              exact hr' (by simpa using z)
          · cases h'
    · cases h
  · cases h
theorem due_show {n : Nat} (h1 : 1 ≤ n) (h5 : n ≤ 5) (told : List Crowd) : dueL (showL n (least n told)) ≠ none := by
  have hg := least_good h5 told
  unfold dueL
  show (match [48 + n] with | [x] => _ | _ => none) ≠ none
  dsimp only
  rw [if_pos ⟨by omega, by rfl⟩]
  show (if joinL [44] ((least n told).map wordL) = [] then _ else (optAll (lawCrowdL (48 + n - 48)) (splitL 44 (joinL [44] ((least n told).map wordL)))).bind (dueWith (48 + n - 48))) ≠ none
  split
  · exact fun z => nomatch z
  · rename_i hj
    rw [Nat.add_sub_cancel_left]
    have hne : least n told ≠ [] := fun z => hj (by rw [z]; rfl)
    rw [words_split hne, optAll_map (h := fun c : Crowd => c) (fun c hc => lawCrowd_word (cs_good h5 (hg c hc)).1), List.map_id', Option.bind_some]
    unfold dueWith
    rw [if_pos ⟨(sortR_self (least_rows h5 told)).symm, least_apart h5 told⟩]
    exact fun z => nomatch z
theorem read_due (l : List Nat) : readL l = dueL l := by
  cases q : dueL l with
  | some p =>
    obtain ⟨m, cs⟩ := p
    exact (due_some q).2.2.2.2
  | none =>
    cases q2 : readL l with
    | none => rfl
    | some p =>
      exfalso
      unfold readL at q2
      cases e1 : numL (l.take 1) with
      | none => rw [e1] at q2; cases q2
      | some m =>
        cases e2 : wordsOf l with
        | none => rw [e1, Option.bind_some, e2] at q2; cases q2
        | some cs =>
          rw [e1, Option.bind_some, e2, Option.bind_some] at q2
          unfold readWith at q2
          split at q2
          · rename_i z
            have z2 := due_show (n := m.toNat) (by omega) (by omega) cs
            rw [z.2.2] at z2
            exact z2 q
          · cases q2
end Vw

/-! k10's last rules over data: a text's item, a list's last item, reversed, in a list by data -/
namespace Vw
open PySem L2 PySem.Spec PyProof.Rows
theorem k_notInD {X : Cx} {K : PySem.W.Frag} (hu : X.A.units + 100 < cLine) (h : X.K = K := by rfl) : OpR X (compareOp .NotIn) (rNotInD K) := h ▸ op_notInD (by omega)
theorem k_inD {X : Cx} {K : PySem.W.Frag} (hu : X.A.units + 100 < cLine) (h : X.K = K := by rfl) : OpR X (compareOp .In) (rInD K) := h ▸ op_inD (by omega)
theorem any_eqv {α : Type} [DecidableEq α] {e : α → D} {n : Nat} (h : Enc e n) (a : α) : ∀ xs : List α, (pys (xs.map e)).any (fun z => PyData.eqv z (py (e a))) = decide (a ∈ xs)
  | [] => by simp [pys]
  | x :: xs => by
    rw [List.map_cons]
    unfold pys
    rw [List.any_cons, any_eqv h a xs, h.eqv x a]
    by_cases q : x = a
    · subst q
      simp
    · have : ¬ a = x := fun z => q z.symm
      simp [q, this]
section
variable {G : Cfg} {ta tb tl te : TE} {ρ : Rho} {α : Type} [DecidableEq α] {e : α → D} {n : Nat}
theorem evd_ninE {a : α} {xs : List α} (h : Enc e n) (ha : EvD G ta ρ (e a)) (hb : EvS G tb ρ (xs.map e)) (hn : n ≤ 59 := by decide) : EvD G (tOp (rNotInD G.K) ta tb) ρ (.bl (!decide (a ∈ xs))) := evd_opL ha hb fun F H v b vs s rv h1 r1 Q q =>
  ⟨_, _, rv.dp s (h.pl a), .lst (SqL.of h1) (r1.dp s (h.pls xs)), h.shaped (by omega) a, h.shapedL hn xs, q _ F H (.refl s) (by rw [any_eqv h]; exact .bl _)⟩
theorem evd_inE {a : α} {xs : List α} (h : Enc e n) (ha : EvD G ta ρ (e a)) (hb : EvS G tb ρ (xs.map e)) (hn : n ≤ 59 := by decide) : EvD G (tOp (rInD G.K) ta tb) ρ (.bl (decide (a ∈ xs))) := evd_opL ha hb fun F H v b vs s rv h1 r1 Q q =>
  ⟨_, _, rv.dp s (h.pl a), .lst (SqL.of h1) (r1.dp s (h.pls xs)), h.shaped (by omega) a, h.shapedL hn xs, q _ F H (.refl s) (by rw [any_eqv h]; exact .bl _)⟩
end
def optC (o : Option Crowd) : D := match o with
  | none => .non
  | some c => eC c
theorem encO : Enc optC 1 := by
  refine ⟨fun a => ?_, fun a => ?_, fun a => ?_, fun a b => ?_⟩
  · cases a with
    | none => rfl
    | some c => exact enc_eC.pl c
  · cases a with
    | none => rfl
    | some c => exact enc_eC.lay c
  · cases a with
    | none => show (PyData.none).depth ≤ 1; simp [PyData.depth]
    | some c => exact enc_eC.dep c
  · cases a with
    | none =>
      cases b with
      | none => rfl
      | some c => rfl
    | some c =>
      cases b with
      | none => rfl
      | some d =>
        show PyData.eqv (py (eC c)) (py (eC d)) = _
        rw [enc_eC.eqv]
        exact decide_eq_decide.mpr ⟨fun h => by rw [h], fun h => Option.some.inj h⟩
def refD (b : Bool) : D := .tup [.str "refused", .bl b]
theorem encR : Enc refD 1 := by
  refine ⟨fun a => ?_, fun a => ?_, fun a => ?_, fun a b => ?_⟩
  · simp [refD, Vw.pl, Vw.pls]
  · simp [refD, py, pys, PyData.canLay0, PyData.canLayAll0]
    decide +kernel
  · simp [refD, py, pys, PyData.depth, PyData.depthAll]
  · simp only [refD, py, pys, PyData.eqv, PyData.eqvAll, Bool.and_true]
    cases a <;> cases b <;> simp
section
variable {G : Cfg} {ta tb tl te : TE} {ρ : Rho} {d : D} {ds : List D}
/-- the j-th of a text -/
theorem evd_ixS {l : List Nat} {i : Int} {j c : Nat} (ha : EvD G ta ρ (.str (st l))) (hb : EvD G tb ρ (.int i)) (hz : l.length ≤ 100000) (hi : i = j) (hj : l[j]? = some c) : EvD G (tOp rIxS ta tb) ρ (.str (st [c])) := evd_op ha hb fun F H v w s rv rw_ Q q => by
  cases rw_
  cases rv
  subst hi
  exact ⟨_, _, c, rfl, rfl, by rw [st_len]; exact Nat.le_trans hz (by decide), by rw [st_cps]; exact atI_nat hj, q _ F H (.refl s) (.str _)⟩
/-- xs[-1] -/
theorem evd_ixLlast (ha : EvS G ta ρ ds) (hb : EvD G tb ρ (.int (-1))) (hj : ds[ds.length - 1]? = some d) : EvD G (tOp (rIxL G.K) ta tb) ρ d := evd_opF ha hb fun F H a vs w s h1 r rw_ Q q => by
  cases rw_
  obtain ⟨v, hv, rv⟩ := r.getD hj
  refine ⟨a, vs, -1, v, rfl, rfl, SqL.of h1, ?_, q v F H (.refl s) rv⟩
  have hl := r.length
  have hd : ds.length - 1 < ds.length := (List.getElem?_eq_some_iff.mp hj).1
  unfold atI ixN
  rw [if_neg (by decide), if_pos (by omega)]
  show vs[((-1 : Int) + (vs.length : Int)).toNat]? = some v
  have e : ((-1 : Int) + (vs.length : Int)).toNat = ds.length - 1 := by omega
  rw [e]
  exact hv
theorem k_revA {X : Cx} {tg e : Expr} {te : TE} {p pos : Pos} (K : PySem.W.Frag) (hg : Gl X "reversed") (hm : X.mg "reversed" = none) (he : PE X e te) (hK : X.K = K := by rfl) (hs : starEach [e] X.env = (false, eval e X.env) :: starEach [] X.env := by rfl) : PI X tg (.Call (.Name "reversed" p) [e] [] pos) (RT.iRevA K te) := hK ▸ RT.pi_revA hg hm he hs
/-- [f(x) for x in reversed(xs)] -/
theorem evn_lcV {α : Type} {j : Nat} {vs : List Nat} (xs : List α) (enc : α → D) (g : α → D) (hl : EvS G tl ρ (xs.map enc)) (hz : xs.length ≤ 100000) (hj : j ∈ vs)
    (he : ∀ x ∈ xs, EvD G te ((wipeR ρ vs).set j (.im (enc x))) (g x)) :
    EvN G (tLc (RT.iRevA G.K tl) (gName j) tYes te vs) ρ (xs.reverse.map g) := fun F0 H0 F H σ E Q q => hl F0 H0 F H σ E _ fun a ws F1 H1 g1 h1 r => by
  refine ⟨a, ws, rfl, .inl ⟨SqL.of h1, fun Dl hD => ?_⟩⟩
  have hn : xs.length = ws.length := by rw [r.length, List.length_map]
  refine lc_it (walk_rev (K := G.K) (a := a) (xs := ws)) (fun i H => Cmp G F0 H0 F1 H1 Dl σ ρ (((xs.reverse.take i).filter fun _ => true).map g) H) ⟨F1, [], (Grow.refl (E.grow g1).sub).fresh hD, E.s0, hD, (E.grow g1).sub.free hD, upd_same, .nil⟩ (fun i H _ ⟨F, acc, gr, _⟩ => SqL.of (gr.eh _ _ h1)) ?_ ?_
  · rintro i v H' H'' hi c ⟨rfl, hv⟩
    obtain ⟨x, hx, rx⟩ := r.item hv
    have hm : x ∈ xs := List.mem_of_getElem? hx
    have hr : xs.reverse[i]? = some x := by
      rw [List.getElem?_reverse (by omega), hn]
      exact hx
    exact cmp_turn (p := fun _ => true) (E.grow g1) (by rw [List.length_reverse]; exact hz) hr hj rx evt_yes (fun _ => he x hm) c
  · rintro H' ⟨F', acc, gr, s0, n1, nf, hD', r'⟩
    have e : xs.reverse.take ws.length = xs.reverse := List.take_of_length_le (by rw [List.length_reverse, hn]; exact Nat.le_refl _)
    rw [e, filter_yes] at r'
    exact q Dl acc F' H' (g1.trans gr) (g1.eh.free n1) nf hD' r'
end
end Vw

/-! k10: the spoiled and the odd texts -/
namespace Vw
open PySem L2 PySem.Spec PyProof.Rows
def sD (p : List Nat) : D := .str (st p)
section
variable {G : Cfg} {ta tb te : TE} {ρ : Rho}
theorem evn_cutW {ws vs : List (List Nat)} {tl th : TO} {lo hi : Option Int} (h : EvS G te ρ (ws.map sD)) (h1 : EvO G tl ρ lo) (h2 : EvO G th ρ hi) (e : cut ws lo hi = vs) : EvN G (tSl (rSlL G.K) te tl th) ρ (vs.map sD) :=
  evn_is (evn_slL h h1 h2) (by rw [← cut_map, e])
theorem evn_catW {a b : List (List Nat)} (ha : EvS G ta ρ (a.map sD)) (hb : EvS G tb ρ (b.map sD)) (hz : a.length + b.length ≤ 100000) : EvN G (tOp rCat ta tb) ρ ((a ++ b).map sD) :=
  evn_is (evn_cat ha hb (by rw [List.length_map, List.length_map]; exact hz)) (by rw [List.map_append])
end
def signsL : List Nat := [48, 49, 50, 51, 52, 53, 54, 55, 56, 57, 43, 44, 32, 58, 45, 95, 97, 10]
theorem lit_signs : Str.ofString "0123456789+, :-_a\n" = st signsL := by decide +kernel
theorem lit_plus4 : Str.ofString "+4" = st [43, 52] := by decide +kernel
def signAt (other : Int) : Nat := signsL.getD (other % 18).toNat 0
def wordsIn (text : List Nat) : List (List Nat) := splitL 44 (text.drop 2)
def atOf (text : List Nat) (cell : Int) : Nat := (cell % ((text.length : Int) + 1)).toNat
def spotOf (text : List Nat) (cell : Int) : Nat := (cell % ((wordsIn text).length : Int)).toNat
def spoilW (way : Int) (k : Nat) (ws : List (List Nat)) : List (List Nat) :=
  if way = 4 then ws.take k ++ (ws.drop (k + 1)).take 1 ++ (ws.drop k).take 1 ++ ws.drop (k + 2)
  else if way = 8 then ws.reverse
  else if way = 5 then ws.take k ++ [ws.getD k [], ws.getD k []] ++ ws.drop (k + 1)
  else if way = 6 then ws.take k ++ ws.drop (k + 1)
  else if way = 7 then ws ++ [ws.getD (ws.length - 1) [] ++ [43, 52]]
  else ws
def spoilL (text : List Nat) (way cell other : Int) : List Nat :=
  if way = 1 then text.take (atOf text cell) ++ [signAt other] ++ text.drop (atOf text cell)
  else if way = 2 then text.take (atOf text cell) ++ [signAt other] ++ text.drop (atOf text cell + 1)
  else if way = 3 then text.take (atOf text cell) ++ text.drop (atOf text cell + 1)
  else text.take 2 ++ joinL [44] (spoilW way (spotOf text cell) (wordsIn text))
/-! ### how long, how many commas -/
theorem split_free (c : Nat) : ∀ l, ∀ p ∈ splitL c l, c ∉ p
  | [], p, hp => by
    have : p = [] := by simpa [splitL] using hp
    subst this
    simp
  | x :: l, p, hp => by
    rw [splitL_cons] at hp
    split at hp
    · rcases List.mem_cons.mp hp with e | hp
      · rw [e]; simp
      · exact split_free c l p hp
    · rename_i hx
      cases q : splitL c l with
      | nil => exact absurd q (splitL_ne c l)
      | cons r rs =>
        rw [q] at hp
        rcases List.mem_cons.mp hp with e | hp
        · rw [e]
          have := split_free c l r (by rw [q]; exact List.mem_cons_self)
          intro z
          rcases List.mem_cons.mp z with e2 | z
          · exact hx e2.symm
          · exact this z
        · exact split_free c l p (by rw [q]; exact List.mem_cons_of_mem _ hp)
theorem split_count (c : Nat) : ∀ l, (splitL c l).length = l.count c + 1
  | [] => rfl
  | x :: l => by
    have ih := split_count c l
    rw [splitL_cons]
    split
    · rename_i e
      rw [List.length_cons, ih, e, List.count_cons_self]
    · rename_i e
      rw [List.count_cons_of_ne (by exact fun z => e z)]
      cases q : splitL c l with
      | nil => exact absurd q (splitL_ne c l)
      | cons r rs =>
        rw [q] at ih
        exact ih
theorem join_count (c : Nat) : ∀ ws : List (List Nat), (∀ w ∈ ws, c ∉ w) → (joinL [c] ws).count c ≤ ws.length
  | [], _ => Nat.le_refl _
  | [w], h => by
    show w.count c ≤ 1
    rw [List.count_eq_zero.mpr (h w List.mem_cons_self)]
    exact Nat.zero_le _
  | w :: v :: ws, h => by
    have ih := join_count c (v :: ws) fun x hx => h x (List.mem_cons_of_mem _ hx)
    show (w ++ [c] ++ joinL [c] (v :: ws)).count c ≤ _
    rw [List.count_append, List.count_append, List.count_eq_zero.mpr (h w List.mem_cons_self), List.count_cons_self]
    simp only [List.length_cons, List.count_nil] at ih ⊢
    omega
theorem sum_le {B : Nat} : ∀ ws : List (List Nat), (∀ w ∈ ws, w.length ≤ B) → (ws.map List.length).sum ≤ B * ws.length
  | [], _ => by simp
  | w :: ws, h => by
    have ih := sum_le ws fun x hx => h x (List.mem_cons_of_mem _ hx)
    have h1 := h w List.mem_cons_self
    rw [List.map_cons, List.sum_cons, List.length_cons, Nat.mul_succ]
    omega
theorem spoilW_each {P : List Nat → Prop} {way : Int} {k : Nat} {ws : List (List Nat)} (hk : k < ws.length) (h : ∀ w ∈ ws, P w) (h4 : ∀ w ∈ ws, P (w ++ [43, 52])) : ∀ w ∈ spoilW way k ws, P w := by
  have hg : ∀ i, i < ws.length → ws.getD i [] ∈ ws := fun i hi => by
    rw [List.getD_eq_getElem?_getD, List.getElem?_eq_getElem hi]
    exact List.getElem_mem hi
  intro w hw
  unfold spoilW at hw
  split at hw
  · rcases List.mem_append.mp hw with hw | hw
    · rcases List.mem_append.mp hw with hw | hw
      · rcases List.mem_append.mp hw with hw | hw
        · exact h w (List.mem_of_mem_take hw)
        · exact h w (List.mem_of_mem_drop (List.mem_of_mem_take hw))
      · exact h w (List.mem_of_mem_drop (List.mem_of_mem_take hw))
    · exact h w (List.mem_of_mem_drop hw)
  · split at hw
    · exact h w (List.mem_reverse.mp hw)
    · split at hw
      · rcases List.mem_append.mp hw with hw | hw
        · rcases List.mem_append.mp hw with hw | hw
          · exact h w (List.mem_of_mem_take hw)
          · have e : w = ws.getD k [] := by simpa using hw
            rw [e]
            exact h _ (hg k hk)
        · exact h w (List.mem_of_mem_drop hw)
      · split at hw
        · rcases List.mem_append.mp hw with hw | hw
          · exact h w (List.mem_of_mem_take hw)
          · exact h w (List.mem_of_mem_drop hw)
        · split at hw
          · rcases List.mem_append.mp hw with hw | hw
            · exact h w hw
            · rw [List.mem_singleton.mp hw]
              exact h4 _ (hg _ (by omega))
          · exact h w hw
theorem spoilW_len {way : Int} {k : Nat} {ws : List (List Nat)} (hk : k < ws.length) : (spoilW way k ws).length ≤ ws.length + 1 := by
  unfold spoilW
  split
  · simp only [List.length_append, List.length_take, List.length_drop]
    omega
  · split
    · rw [List.length_reverse]
      omega
    · split
      · simp only [List.length_append, List.length_take, List.length_drop, List.length_cons, List.length_nil]
        omega
      · split
        · simp only [List.length_append, List.length_take, List.length_drop]
          omega
        · split
          · simp
          · omega
theorem wordsIn_pos (text : List Nat) : 0 < (wordsIn text).length := by
  rcases Nat.eq_zero_or_pos (wordsIn text).length with h | h
  · exact absurd (List.length_eq_zero_iff.mp h) (splitL_ne 44 _)
  · exact h
theorem spot_lt (text : List Nat) (cell : Int) : spotOf text cell < (wordsIn text).length := by
  have hp := wordsIn_pos text
  have h1 := Int.emod_lt_of_pos cell (b := ((wordsIn text).length : Int)) (by omega)
  have h2 := Int.emod_nonneg cell (b := ((wordsIn text).length : Int)) (by omega)
  unfold spotOf
  omega
theorem at_le (text : List Nat) (cell : Int) : atOf text cell ≤ text.length := by
  have h1 := Int.emod_lt_of_pos cell (b := (text.length : Int) + 1) (by omega)
  have h2 := Int.emod_nonneg cell (b := (text.length : Int) + 1) (by omega)
  unfold atOf
  omega
/-- a text of few short words -/
def Short (text : List Nat) : Prop := text.length ≤ 500 ∧ (wordsIn text).length ≤ 33 ∧ ∀ w ∈ wordsIn text, w.length ≤ 12
theorem show_short {n : Nat} {cs : List Crowd} (hl : cs.length ≤ 32) (h : ∀ c ∈ cs, c.length ≤ 5) : Short (showL n cs) := by
  have h1 := show_len (n := n) h
  refine ⟨by omega, ?_⟩
  show (splitL 44 (joinL [44] (cs.map wordL))).length ≤ 33 ∧ ∀ w ∈ splitL 44 (joinL [44] (cs.map wordL)), w.length ≤ 12
  by_cases e : cs = []
  · subst e
    show (splitL 44 []).length ≤ 33 ∧ ∀ w ∈ splitL 44 [], w.length ≤ 12
    decide
  · rw [words_split e]
    refine ⟨by rw [List.length_map]; omega, fun w hw => ?_⟩
    obtain ⟨c, hc, rfl⟩ := List.mem_map.mp hw
    have := word_len c
    have := h c hc
    omega
theorem spoil_words {text : List Nat} (hs : Short text) (way cell : Int) : (spoilW way (spotOf text cell) (wordsIn text)).length ≤ 34 ∧ ∀ w ∈ spoilW way (spotOf text cell) (wordsIn text), w.length ≤ 14 ∧ 44 ∉ w := by
  refine ⟨Nat.le_trans (spoilW_len (spot_lt text cell)) (by have := hs.2.1; omega), spoilW_each (spot_lt text cell) (fun w hw => ⟨by have := hs.2.2 w hw; omega, split_free 44 _ w hw⟩) fun w hw => ⟨by
    have := hs.2.2 w hw
    rw [List.length_append]
    show w.length + 2 ≤ 14
    omega, fun z => ?_⟩⟩
  rcases List.mem_append.mp z with z | z
  · exact split_free 44 _ w hw z
  · simp at z
theorem count_take (c : Nat) (l : List Nat) (k : Nat) : (l.take k).count c ≤ l.count c := (List.take_sublist k l).count_le c
theorem count_drop (c : Nat) (l : List Nat) (k : Nat) : (l.drop k).count c ≤ l.count c := (List.drop_sublist k l).count_le c
theorem count_one (c x : Nat) : List.count c [x] ≤ 1 := by
  rw [List.count_singleton]
  split <;> omega
theorem short_count {text : List Nat} (hs : Short text) : text.count 44 ≤ 34 := by
  have h1 := split_count 44 (text.drop 2)
  have h2 : (text.take 2).count 44 ≤ 2 := Nat.le_trans List.count_le_length (by rw [List.length_take]; omega)
  have h3 := hs.2.1
  unfold wordsIn at h3
  have h4 : text.count 44 = (text.take 2).count 44 + (text.drop 2).count 44 := by rw [← List.count_append, List.take_append_drop]
  omega
theorem spoil_ok {text : List Nat} (hs : Short text) (way cell other : Int) : (spoilL text way cell other).length ≤ 600 ∧ (spoilL text way cell other).count 44 ≤ 40 := by
  have hc := short_count hs
  have hl := hs.1
  have both : ∀ k, (text.take k).count 44 + (text.drop k).count 44 = text.count 44 := fun k => by rw [← List.count_append, List.take_append_drop]
  unfold spoilL
  split
  · have h1 := both (atOf text cell)
    have h2 := count_one 44 (signAt other)
    simp only [List.length_append, List.count_append, List.length_take, List.length_drop, List.length_cons, List.length_nil]
    omega
  · split
    · have h1 := count_take 44 text (atOf text cell)
      have h2 := count_one 44 (signAt other)
      have h3 : (text.drop (atOf text cell + 1)).count 44 ≤ (text.drop (atOf text cell)).count 44 := by
        rw [← List.drop_drop]
        exact count_drop 44 _ 1
      have h4 := both (atOf text cell)
      simp only [List.length_append, List.count_append, List.length_take, List.length_drop, List.length_cons, List.length_nil]
      omega
    · split
      · have h3 : (text.drop (atOf text cell + 1)).count 44 ≤ (text.drop (atOf text cell)).count 44 := by
          rw [← List.drop_drop]
          exact count_drop 44 _ 1
        have h4 := both (atOf text cell)
        simp only [List.length_append, List.count_append, List.length_take, List.length_drop]
        omega
      · obtain ⟨w1, w2⟩ := spoil_words hs way cell
        generalize spoilW way (spotOf text cell) (wordsIn text) = ws at w1 w2
        have h1 := joinL_len [44] ws
        have h2 := sum_le (B := 14) ws fun w hw => (w2 w hw).1
        have h3 := join_count 44 ws fun w hw => (w2 w hw).2
        have h5 : (text.take 2).count 44 ≤ 2 := Nat.le_trans List.count_le_length (by rw [List.length_take]; omega)
        rw [List.length_append, List.count_append, List.length_take]
        have h6 : ws.length * ([44] : List Nat).length = ws.length := Nat.mul_one _
        rw [h6] at h1
        omega
def oddsA : List (List Nat) := [[], [58], [51], [51, 58, 32], [48, 58], [54, 58], [54, 58, 32, 48], [51, 58, 48], [51, 58, 32, 49, 43, 48], [51, 58, 32, 48, 43, 48]]
def oddsB : List (List Nat) := [[51, 58, 32, 48, 44, 49], [51, 58, 32, 48, 44, 32, 48, 43, 49], [51, 58, 32, 45, 44, 32, 48], [51, 58, 32, 51], [48, 51, 58, 32, 48], [51, 58, 32, 49, 43, 50, 44, 32, 48], [53, 58, 32, 48, 43, 49, 43, 50, 44, 32, 51, 43, 52]]
theorem lit_odd0 : Str.ofString "" = st [] := by decide +kernel
theorem lit_odd1 : Str.ofString ":" = st [58] := by decide +kernel
theorem lit_odd2 : Str.ofString "3" = st [51] := by decide +kernel
theorem lit_odd3 : Str.ofString "3: " = st [51, 58, 32] := by decide +kernel
theorem lit_odd4 : Str.ofString "0:" = st [48, 58] := by decide +kernel
theorem lit_odd5 : Str.ofString "6:" = st [54, 58] := by decide +kernel
theorem lit_odd6 : Str.ofString "6: 0" = st [54, 58, 32, 48] := by decide +kernel
theorem lit_odd7 : Str.ofString "3:0" = st [51, 58, 48] := by decide +kernel
theorem lit_odd8 : Str.ofString "3: 1+0" = st [51, 58, 32, 49, 43, 48] := by decide +kernel
theorem lit_odd9 : Str.ofString "3: 0+0" = st [51, 58, 32, 48, 43, 48] := by decide +kernel
theorem lit_odd10 : Str.ofString "3: 0,1" = st [51, 58, 32, 48, 44, 49] := by decide +kernel
theorem lit_odd11 : Str.ofString "3: 0, 0+1" = st [51, 58, 32, 48, 44, 32, 48, 43, 49] := by decide +kernel
theorem lit_odd12 : Str.ofString "3: -, 0" = st [51, 58, 32, 45, 44, 32, 48] := by decide +kernel
theorem lit_odd13 : Str.ofString "3: 3" = st [51, 58, 32, 51] := by decide +kernel
theorem lit_odd14 : Str.ofString "03: 0" = st [48, 51, 58, 32, 48] := by decide +kernel
theorem lit_odd15 : Str.ofString "3: 1+2, 0" = st [51, 58, 32, 49, 43, 50, 44, 32, 48] := by decide +kernel
theorem lit_odd16 : Str.ofString "5: 0+1+2, 3+4" = st [53, 58, 32, 48, 43, 49, 43, 50, 44, 32, 51, 43, 52] := by decide +kernel
def oddL (cell : Int) : List Nat := (oddsA ++ oddsB).getD (cell % 17).toNat []
theorem odd_all : ∀ k < 17, ((oddsA ++ oddsB).getD k []).length ≤ 600 ∧ ((oddsA ++ oddsB).getD k []).count 44 ≤ 40 := by decide +kernel
theorem odd_ok (cell : Int) : (oddL cell).length ≤ 600 ∧ (oddL cell).count 44 ≤ 40 := odd_all _ (by omega)
def dueD (o : Option (Nat × List Crowd)) : D := match o with
  | none => .non
  | some p => .tup [.int p.1, .lst (p.2.map eC)]
def toldD (o : Option (Nat × List Crowd)) : D := match o with
  | none => refD true
  | some p => .tup [.str "read", .cou p.1 p.2]
end Vw

namespace Vw
open PySem L2 PySem.Spec PyProof.Rows
local macro_rules | `(tactic| walk_at "weak") => `(tactic| (refine Weak.of ?_; repeat (first | exact trivial | refine ⟨.inr rfl, ?_⟩ | refine ⟨.inl rfl, ?_⟩ | refine ⟨.inr (by simp [List.map_append]), ?_⟩)))
def top (i : Nat) : Stmt := PySem.Challenge.pw_votesway_k10_texts_read.main.body.getD i (.Pass ⟨0, 0, 0, 0⟩)
section
variable {G : Cfg} {P : Program} {w : World} {mg : Str → Option Value} {base : Heap}

/-! #### _law_many -/
abbrev s__law_many : Stmt := top 25
abbrev nm__law_many : List Str := ["cell"]
theorem sc__law_many : FnScope nm__law_many ["cell"] (defScope s__law_many) := ⟨rfl, rfl, rfl, by decide +kernel, rfl, by decide +kernel, by decide +kernel⟩
def R__law_many : List D → Res → Prop := fun ds r => ∃ x : Int, ds = [.int x] ∧ r = .val (.int (manyOf x))
theorem ok__law_many (T : Txt G mg) {f : Addr} {fd : FuncData} (F : Fun G.K "_law_many" "_law_many" s__law_many f fd)  : FnOk P w G.K mg base CX0 1 f fd ["cell"] (mkSp G R__law_many) := by
  refine okD F sc__law_many (fun ds r hR => ?_) (by decide) (fun cdv A outer s H E hr => ⟨_, (pss_one (ps_ret (pe_ix (k_ixL G.K) (pe_lst (pa_cons pe_int (pa_cons pe_int (pa_cons pe_int (pa_cons pe_int (pa_cons pe_int (pa_cons pe_int (pa_cons pe_int (pa_cons pe_int pa_nil))))))))) (pe_op op_mod (pv 0) pe_int) (fun _ _ => rfl)))), fun ds r hR => ?_⟩)
  · obtain ⟨x, rfl, rfl⟩ := hR
    rfl
  · obtain ⟨x, rfl, rfl⟩ := hR
    show WS G _ _ _ [.im (.int x)]
    have h1 : 0 ≤ x % 8 := Int.emod_nonneg x (by decide)
    have h2 : x % 8 < 8 := Int.emod_lt_of_pos x (by decide)
    refine ws_ret (evd_ixL (ds := [5, 1, 2, 3, 4, 5, 4, 5].map D.int) (j := (x % 8).toNat) (evs_new (evn_lst (evad_cons evd_int (evad_cons evd_int (evad_cons evd_int (evad_cons evd_int (evad_cons evd_int (evad_cons evd_int (evad_cons evd_int (evad_cons evd_int evad_nil)))))))))) (evd_mod (evd_var rfl) evd_int (by decide)) (by omega) ?_) rfl
    unfold manyOf
    generalize x % 8 = y at h1 h2
    have h : y.toNat < 8 := by omega
    generalize y.toNat = k at h
    rw [List.getElem?_map]
    refine congrArg (Option.map D.int) (a₂ := some _) ?_
    revert k
    decide

/-! #### _law_cell_at -/
abbrev s__law_cell_at : Stmt := top 22
abbrev nm__law_cell_at : List Str := ["script", "k"]
theorem sc__law_cell_at : FnScope nm__law_cell_at ["script", "k"] (defScope s__law_cell_at) := ⟨rfl, rfl, rfl, by decide +kernel, rfl, by decide +kernel, by decide +kernel⟩
def R__law_cell_at : List D → Res → Prop := fun ds r => ∃ (ns : List Int) (k : Nat), ds = [.scr ns, .int k] ∧ r = .val (.int (cell ns k))
theorem ok__law_cell_at (T : Txt G mg) {f : Addr} {fd : FuncData} (F : Fun G.K "_law_cell_at" "_law_cell_at" s__law_cell_at f fd)  : FnOk P w G.K mg base CX0 1 f fd ["script", "k"] (mkSp G R__law_cell_at) := by
  refine okD F sc__law_cell_at (fun ds r hR => ?_) (by decide) (fun cdv A outer s H E hr => ⟨_, (pss_cons (ps_if (pt_cmpR op_lt (pv 1) (pe_callB (k_len G.K) (by rfl) T.len PySem.boot_len (pa_cons (pv 0) pa_nil)) (nomark _)) (pss_one (ps_ret (pe_ix (k_ixL G.K) (pv 0) (pv 1) (fun _ _ => rfl)))) pss_nil) (pss_one (ps_ret pe_int))), fun ds r hR => ?_⟩)
  · obtain ⟨ns, k, rfl, rfl⟩ := hR
    rfl
  · obtain ⟨ns, k, rfl, rfl⟩ := hR
    show WS G _ _ _ [.im (.scr ns), .im (.int k)]
    refine ws_seq (ws_when (evt_test (evd_lt (evd_var rfl) (evd_lenScr (evd_var rfl)))) (fun hb => ?_) (fun hb => ?_))
    · have h : k < ns.length := by simpa using hb
      refine ws_ret (evd_ixScr (n := cell ns k) (evd_var rfl) (evd_var rfl) rfl ?_) rfl
      unfold cell
      rw [List.getD_eq_getElem?_getD, List.getElem?_eq_getElem h]
      rfl
    · have h : ¬ k < ns.length := by simpa using hb
      have e : cell ns k = 0 := by
        unfold cell
        rw [List.getD_eq_getElem?_getD, List.getElem?_eq_none (by omega)]
        rfl
      rw [e]
      exact ws_ret evd_int rfl

/-! #### _law_bits -/
abbrev s__law_bits : Stmt := top 23
abbrev nm__law_bits : List Str := ["number", "many", "crowd", "member"]
theorem sc__law_bits : FnScope nm__law_bits ["number", "many"] (defScope s__law_bits) := ⟨rfl, rfl, rfl, by decide +kernel, rfl, by decide +kernel, by decide +kernel⟩
def R__law_bits : List D → Res → Prop := fun ds r => ∃ (x : Int) (m : Nat), ds = [.int x, .int m] ∧ m ≤ 1000 ∧ r = .val (eC (bits x m))
theorem ok__law_bits (T : Txt G mg) {f : Addr} {fd : FuncData} (F : Fun G.K "_law_bits" "_law_bits" s__law_bits f fd)  : FnOk P w G.K mg base CX0 1 f fd ["number", "many"] (mkSp G R__law_bits) := by
  refine okD F sc__law_bits (fun ds r hR => ?_) (by decide) (fun cdv A outer s H E hr => ⟨_, (pss_cons (ps_asg (pe_lst pa_nil) (pg_name (i := 2) sc__law_bits.nd rfl (by first | exact Or.inl rfl | exact Or.inr rfl))) (pss_cons (ps_for PassesOwn.never rfl (pi_range1 rfl T.range (pa_cons (pv 1) pa_nil)) (pg_name (i := 3) sc__law_bits.nd rfl (by first | exact Or.inl rfl | exact Or.inr rfl)) (pss_cons (ps_if (pt_cmpR op_eq (pe_op op_mod (pv 0) pe_int) pe_int (nomark _)) (pss_one (ps_expr (pe_bm PySem.F.plainAttrs_list PySem.F.slot_list_append PySem.F.type_list_append mt_append (pv 2) (pa_cons (pv 3) pa_nil)))) pss_nil) (pss_one (ps_asg (pe_op op_fdiv (pv 0) pe_int) (pg_name (i := 0) sc__law_bits.nd rfl (by first | exact Or.inl rfl | exact Or.inr rfl)))))) (pss_one (ps_ret (pe_callTy (k_tuple G.K) (by rfl) T.tuple (by decide +kernel) (pa_cons (pv 2) pa_nil)))))), fun ds r hR => ?_⟩)
  · obtain ⟨x, m, rfl, hm, rfl⟩ := hR
    rfl
  · obtain ⟨x, m, rfl, hm, rfl⟩ := hR
    show WS G _ _ _ [.im (.int x), .im (.int m), .no, .no]
    refine ws_seq (ws_asgN (evn_lst evad_nil) ?_)
    refine ws_seq (ws_forR1 (n := (m : Int)) (fun s : Crowd × Int => [.im (.int s.2), .im (.int m), .own (s.1.map .int), .no]) (fun s k => .go (bitStep s k)) ([], x) (ea1 (evd_var rfl)) (by omega) (by walk_at "weak") (fun i s hi hf => ?_) ?_)
    · have hs := fold_go_take (f := bitStep) hf
      have hlen : s.1.length ≤ 1000 := by
        rw [hs]
        have h1 := bitStep_len ((List.range (m : Int).toNat).take i) ([], x)
        rw [List.length_take, List.length_range] at h1
        simp only [List.length_nil] at h1
        omega
      obtain ⟨c, y⟩ := s
      dsimp only at hlen
      refine ws_seq (ws_mono (k := { nx := fun ρ' => ρ' = [.im (.int y), .im (.int m), .own ((if y % 2 = 1 then c ++ [(i : Int)] else c).map .int), .im (.int (i : Int))], rt := fun _ => False }) (ws_when (evt_test (evd_eqI (evd_mod (evd_var rfl) evd_int (by decide)) evd_int)) (fun hb => ?_) (fun hb => ?_)) (fun ρ' e => ?_) (fun _ z => z.elim) (fun _ z => z.elim) (fun _ z => z.elim) (fun _ z => z.elim))
      · have h : y % 2 = 1 := by simpa using hb
        refine ws_append rfl (evd_var rfl) (by simp; omega) ?_
        rw [if_pos h, List.map_append]
        rfl
      · have h : ¬ y % 2 = 1 := by simpa using hb
        show _ = _
        rw [if_neg h]
        rfl
      · subst e
        exact ws_asgD (evd_fdiv (evd_var rfl) evd_int ⟨by decide, by decide⟩) ⟨bitStep (c, y) i, rfl, by walk_at "weak"⟩
    · rw [fold_go]
      have e : ((m : Int)).toNat = m := by simp
      rw [e]
      exact ws_ret (evd_tupleL (evs_own rfl) (by have := bits_len x m; unfold bits at this; simp only [List.length_map]; omega)) rfl

/-! #### _law_some -/
abbrev s__law_some : Stmt := top 26
abbrev nm__law_some : List Str := ["script", "start", "many", "count", "k"]
theorem sc__law_some : FnScope nm__law_some ["script", "start", "many", "count"] (defScope s__law_some) := ⟨rfl, rfl, rfl, by decide +kernel, rfl, by decide +kernel, by decide +kernel⟩
def R__law_some : List D → Res → Prop := fun ds r => ∃ (ns : List Int) (start m count : Nat), ds = [.scr ns, .int start, .int m, .int count] ∧ m ≤ 5 ∧ count ≤ 100 ∧ r = .new ((some' ns start m count).map eC)
theorem ok__law_some (T : Txt G mg) {f : Addr} {fd : FuncData} (F : Fun G.K "_law_some" "_law_some" s__law_some f fd) (H__law_bits : Fn G P w mg base "_law_bits" 1 ["number", "many"] R__law_bits) (H__law_cell_at : Fn G P w mg base "_law_cell_at" 1 ["script", "k"] R__law_cell_at) : FnOk P w G.K mg base CX0 2 f fd ["script", "start", "many", "count"] (mkSp G R__law_some) := by
  refine okD F sc__law_some (fun ds r hR => ?_) (by decide) (fun cdv A outer s H E hr => ⟨_, (pss_one (ps_ret (pe_lc (own := [("k", 4)]) (g := gName 4) (tt := tYes) rfl sc__law_some.nd (pi_range1 rfl T.range (pa_cons (pv 3) pa_nil)) (blkOk_by (N := nm__law_some) (sc := defScope s__law_some) (by decide +kernel)) (fun _ _ _ _ _ => pg_name (i := 4) sc__law_some.nd rfl (by first | exact Or.inl rfl | exact Or.inr rfl)) (fun _ _ _ _ _ => pts_nil) (fun _ _ _ _ _ => (pe_callF H__law_bits (hr.mono (by decide)) rfl (pa_cons (pe_op op_mod (pe_callF H__law_cell_at (hr.mono (by decide)) rfl (pa_cons (pv 0) (pa_cons (pe_op op_add (pv 1) (pv 4)) pa_nil))) pe_int) (pa_cons (pv 2) pa_nil))))))), fun ds r hR => ?_⟩)
  · obtain ⟨ns, start, m, count, rfl, hm, hc, rfl⟩ := hR
    rfl
  · obtain ⟨ns, start, m, count, rfl, hm, hc, rfl⟩ := hR
    show WS G _ _ _ [.im (.scr ns), .im (.int start), .im (.int m), .im (.int count), .no]
    refine ws_retN (evn_is (evn_lcR1 (n := (count : Int)) (fun _ => true) (fun k => eC (bits (cell ns (start + k) % 32) m)) (ea1 (evd_var rfl)) (by omega) (by simp) (fun _ _ => evt_yes) (fun k _ _ =>
      evd_call (ea2 (evd_mod (evd_call (ea2 (evd_var rfl) (evd_add (evd_var rfl) (evd_var rfl))) ⟨ns, start + k, by simp, rfl⟩) evd_int (by decide)) (evd_var rfl)) ⟨_, m, rfl, by omega, rfl⟩)) ?_) rfl
    rw [filter_yes]
    simp [some', List.map_map, Function.comp_def]

/-! #### _law_crowds -/
abbrev s__law_crowds : Stmt := top 24
abbrev nm__law_crowds : List Str := ["many", "crowds", "number", "row", "crowd"]
theorem sc__law_crowds : FnScope nm__law_crowds ["many"] (defScope s__law_crowds) := ⟨rfl, rfl, rfl, by decide +kernel, rfl, by decide +kernel, by decide +kernel⟩
theorem powOf_at' : ∀ n < 6, ([1, 2, 4, 8, 16, 32] : List Int)[n]? = some (powOf n : Int) := by decide
theorem powOf_at (n : Nat) (h : n < 6) : ([1, 2, 4, 8, 16, 32].map D.int)[n]? = some (.int (powOf n)) := by
  rw [List.getElem?_map]
  exact congrArg (Option.map D.int) (powOf_at' n h)
theorem powOf_le : ∀ n < 6, powOf n ≤ 32 := by decide
def R__law_crowds : List D → Res → Prop := fun ds r => ∃ n : Nat, ds = [.int n] ∧ n ≤ 5 ∧ r = .new ((crowdsOf n).map eC)
theorem ok__law_crowds (T : Txt G mg) {f : Addr} {fd : FuncData} (F : Fun G.K "_law_crowds" "_law_crowds" s__law_crowds f fd) (H__law_bits : Fn G P w mg base "_law_bits" 1 ["number", "many"] R__law_bits) : FnOk P w G.K mg base CX0 2 f fd ["many"] (mkSp G R__law_crowds) := by
  refine okD F sc__law_crowds (fun ds r hR => ?_) (by decide) (fun cdv A outer s H E hr => ⟨_, (pss_cons (ps_setLc (i := 1) (own := [("number", 2)]) (g := gName 2) (tt := tYes) rfl sc__law_crowds.nd rfl rfl (sw_true rfl rfl rfl (by decide +kernel)) (pi_range1 rfl T.range (pa_cons (pe_ix (k_ixL G.K) (pe_lst (pa_cons pe_int (pa_cons pe_int (pa_cons pe_int (pa_cons pe_int (pa_cons pe_int (pa_cons pe_int pa_nil))))))) (pv 0) (fun _ _ => rfl)) pa_nil)) (blkOk_by (N := nm__law_crowds) (sc := defScope s__law_crowds) (by decide +kernel)) (fun _ _ _ _ _ => pg_name (i := 2) sc__law_crowds.nd rfl (by first | exact Or.inl rfl | exact Or.inr rfl)) (fun _ _ _ _ _ => pts_nil) (fun _ _ _ _ _ => (pe_callF H__law_bits (hr.mono (by decide)) rfl (pa_cons (pv 2) (pa_cons (pv 0) pa_nil))))) (pss_one (ps_ret (pe_lc (own := [("row", 3)]) (g := gName 3) (tt := tYes) rfl sc__law_crowds.nd (k_pl G.K (pe_callB (k_sortedW G.K (hu100 hr)) (by rfl) T.sorted (by decide +kernel) (pa_cons (pe_lc (own := [("crowd", 4)]) (g := gName 4) (tt := tYes) rfl sc__law_crowds.nd (k_pl G.K (pv 1)) (blkOk_by (N := nm__law_crowds) (sc := defScope s__law_crowds) (by decide +kernel)) (fun _ _ _ _ _ => pg_name (i := 4) sc__law_crowds.nd rfl (by first | exact Or.inl rfl | exact Or.inr rfl)) (fun _ _ _ _ _ => pts_nil) (fun _ _ _ _ _ => (pe_tup (pa_cons (pe_callB (k_len G.K) (by rfl) T.len PySem.boot_len (pa_cons (pv 4) pa_nil)) (pa_cons (pv 4) pa_nil))))) pa_nil))) (blkOk_by (N := nm__law_crowds) (sc := defScope s__law_crowds) (by decide +kernel)) (fun _ _ _ _ _ => pg_name (i := 3) sc__law_crowds.nd rfl (by first | exact Or.inl rfl | exact Or.inr rfl)) (fun _ _ _ _ _ => pts_nil) (fun _ _ _ _ _ => (pe_ix (k_ixT G.K) (pv 3) pe_int (fun _ _ => rfl))))))), fun ds r hR => ?_⟩)
  · obtain ⟨n, rfl, hn, rfl⟩ := hR
    rfl
  · obtain ⟨n, rfl, hn, rfl⟩ := hR
    show WS G _ _ _ [.im (.int n), .no, .no, .no, .no]
    have hp := powOf_le n (by omega)
    refine ws_seq (ws_asgN (i := 1) (evn_lcR1 (n := (powOf n : Int)) (fun _ => true) (fun k => eC (bits k n)) (ea1 (evd_ixL (evs_new (evn_lst (evad_cons evd_int (evad_cons evd_int (evad_cons evd_int (evad_cons evd_int (evad_cons evd_int (evad_cons evd_int evad_nil)))))))) (evd_var rfl) rfl (powOf_at n (by omega)))) (by omega) (by simp) (fun x _ => evt_yes) (fun x _ _ => evd_call (ea2 (evd_var rfl) (evd_var rfl)) ⟨_, n, rfl, by omega, rfl⟩)) ?_)
    rw [filter_yes]
    have e1 : (List.range (powOf n : Int).toNat).map (fun k : Nat => eC (bits (k : Int) n)) = ((List.range (powOf n)).map fun k : Nat => bits (k : Int) n).map eC := by simp [List.map_map, Function.comp_def]
    have hb : ∀ c ∈ (List.range (powOf n)).map fun k : Nat => bits (k : Int) n, c.length ≤ n := by
      intro c hc
      obtain ⟨k, _, rfl⟩ := List.mem_map.mp hc
      exact bits_len _ _
    have hl : ((List.range (powOf n)).map fun k : Nat => bits (k : Int) n).length ≤ 32 := by simp; omega
    have hperm := lawCrowds_perm n (by omega)
    have hsort := lawCrowds_sorted n (by omega)
    show WS G _ _ _ ([Sl.im (D.int n), Sl.own _, .no, .no, .no])
    rw [e1]
    generalize (List.range (powOf n)).map (fun k : Nat => bits (k : Int) n) = bs at hb hl hperm
    have lc1 := evn_lcL (G := G) (ρ := [.im (.int n), .own (bs.map eC), .no, .no, .no]) (vs := [4]) (j := 4) (tl := tVar 1) (tt := tYes) (te := tTup (tCons (tCB _ (tCons (tVar 4) tNil)) (tCons (tVar 4) tNil))) bs eC (fun _ => true) (fun c => eRow (rowOf c)) (evs_own rfl) (by omega) (by simp) (fun _ _ => evt_yes)
      (fun c _ _ => evd_is (evd_tup (ds := [.int (c.map D.int).length, .tup (c.map .int)]) (evad_cons (evd_lenT (ds := c.map .int) (evd_var rfl)) (evad_cons (evd_var rfl) evad_nil))) (by simp [eRow, rowOf]))
    rw [filter_yes] at lc1
    have lc2 := evn_sortedW (xs := bs.map rowOf) (ys := (crowdsOf n).map rowOf) (evs_is (evs_new lc1) (by simp [List.map_map, Function.comp_def])) hperm hsort
    refine ws_retN (evn_is (evn_lcL ((crowdsOf n).map rowOf) eRow (fun _ => true) (fun p => eC p.2) (evs_new lc2) (by simp; have := crowdsOf_len hn; omega) (by simp) (fun _ _ => evt_yes) (fun p _ _ => evd_ixT (j := 1) (evd_var rfl) evd_int rfl rfl)) ?_) rfl
    rw [filter_yes]
    simp [List.map_map, Function.comp_def, rowOf]

/-! #### _law_weighed_crowds -/
abbrev s__law_weighed_crowds : Stmt := top 27
abbrev nm__law_weighed_crowds : List Str := ["script", "start", "many", "weights", "bar", "k", "crowd", "member"]
theorem sc__law_weighed_crowds : FnScope nm__law_weighed_crowds ["script", "start", "many"] (defScope s__law_weighed_crowds) := ⟨rfl, rfl, rfl, by decide +kernel, rfl, by decide +kernel, by decide +kernel⟩
theorem wts_len (ns : List Int) (start m : Nat) : (wts ns start m).length = m := by simp [wts]
theorem wts_at (ns : List Int) (start m : Nat) {i : Int} {n : Nat} (hm : m = n) (h0 : 0 ≤ i) (h1 : i < n) : ((wts ns start m).map D.int)[i.toNat]? = some (.int ((wts ns start m).getD i.toNat 0)) := by
  rw [List.getElem?_map, List.getD_eq_getElem?_getD]
  have h : i.toNat < (wts ns start m).length := by rw [wts_len]; omega
  rw [List.getElem?_eq_getElem h]
  rfl
theorem good_mem {n : Int} : ∀ {c : List Int} {last : Int}, goodFrom n last c = true → ∀ m ∈ c, last < m ∧ m < n
  | [], _, _, _, h => by simp at h
  | x :: c, last, h, m, hm => by
    unfold goodFrom at h
    split at h
    · cases h
    · rename_i q
      rcases List.mem_cons.mp hm with e | hm
      · subst e
        omega
      · have := good_mem h m hm
        omega
theorem crowd_mem {n : Nat} (hn : n ≤ 5) {c : Crowd} (hc : c ∈ crowdsOf n) : ∀ m ∈ c, 0 ≤ m ∧ m < n := fun m hm => by
  have h := good_mem (crowdsOf_good n (by omega) c hc) m hm
  omega
def R__law_weighed_crowds : List D → Res → Prop := fun ds r => ∃ (ns : List Int) (start m : Nat), ds = [.scr ns, .int start, .int m] ∧ m ≤ 5 ∧ r = .new ((weighedCrowds ns start m).map eC)
theorem ok__law_weighed_crowds (T : Txt G mg) {f : Addr} {fd : FuncData} (F : Fun G.K "_law_weighed_crowds" "_law_weighed_crowds" s__law_weighed_crowds f fd) (H__law_cell_at : Fn G P w mg base "_law_cell_at" 1 ["script", "k"] R__law_cell_at) (H__law_crowds : Fn G P w mg base "_law_crowds" 2 ["many"] R__law_crowds) : FnOk P w G.K mg base CX0 3 f fd ["script", "start", "many"] (mkSp G R__law_weighed_crowds) := by
  refine okD F sc__law_weighed_crowds (fun ds r hR => ?_) (by decide) (fun cdv A outer s H E hr => ⟨_, (pss_cons (ps_asg (pe_lc (own := [("k", 5)]) (g := gName 5) (tt := tYes) rfl sc__law_weighed_crowds.nd (pi_range1 rfl T.range (pa_cons (pv 2) pa_nil)) (blkOk_by (N := nm__law_weighed_crowds) (sc := defScope s__law_weighed_crowds) (by decide +kernel)) (fun _ _ _ _ _ => pg_name (i := 5) sc__law_weighed_crowds.nd rfl (by first | exact Or.inl rfl | exact Or.inr rfl)) (fun _ _ _ _ _ => pts_nil) (fun _ _ _ _ _ => (pe_op op_mod (pe_callF H__law_cell_at (hr.mono (by decide)) rfl (pa_cons (pv 0) (pa_cons (pe_op op_add (pv 1) (pv 5)) pa_nil))) pe_int))) (pg_name (i := 3) sc__law_weighed_crowds.nd rfl (by first | exact Or.inl rfl | exact Or.inr rfl))) (pss_cons (ps_asg (pe_op op_add pe_int (pe_op op_mod (pe_callF H__law_cell_at (hr.mono (by decide)) rfl (pa_cons (pv 0) (pa_cons (pe_op op_add (pv 1) (pv 2)) pa_nil))) (pe_callB (call_max2 rfl) (by rfl) T.max (by decide +kernel) (pa_cons pe_int (pa_cons (pe_callB (k_sum G.K rfl) (by rfl) T.sum (by decide +kernel) (pa_cons (pv 3) pa_nil)) pa_nil))))) (pg_name (i := 4) sc__law_weighed_crowds.nd rfl (by first | exact Or.inl rfl | exact Or.inr rfl))) (pss_one (ps_ret (pe_lc (own := [("crowd", 6)]) (g := gName 6) (tt := _) rfl sc__law_weighed_crowds.nd (k_pl G.K (pe_callF H__law_crowds (hr.mono (by decide)) rfl (pa_cons (pv 2) pa_nil))) (blkOk_by (N := nm__law_weighed_crowds) (sc := defScope s__law_weighed_crowds) (by decide +kernel)) (fun _ _ _ _ _ => pg_name (i := 6) sc__law_weighed_crowds.nd rfl (by first | exact Or.inl rfl | exact Or.inr rfl)) (fun _ _ _ _ _ => (pts_one (pt_cmpR op_ge (pe_callB (k_sum G.K rfl) (by rfl) T.sum (by decide +kernel) (pa_cons (pe_lc (own := [("member", 7)]) (g := gName 7) (tt := tYes) rfl sc__law_weighed_crowds.nd (k_pt G.K (pv 6)) (blkOk_by (by kernel_rfl)) (fun _ _ _ _ _ => pg_name (i := 7) sc__law_weighed_crowds.nd rfl (by first | exact Or.inl rfl | exact Or.inr rfl)) (fun _ _ _ _ _ => pts_nil) (fun _ _ _ _ _ => (pe_ix (k_ixL G.K) (pv 3) (pv 7) (fun _ _ => rfl)))) pa_nil)) (pv 4) (nomark _)))) (fun _ _ _ _ _ => (pv 6))))))), fun ds r hR => ?_⟩)
  · obtain ⟨ns, start, m, rfl, hm, rfl⟩ := hR
    rfl
  · obtain ⟨ns, start, m, rfl, hm, rfl⟩ := hR
    show WS G _ _ _ [.im (.scr ns), .im (.int start), .im (.int m), .no, .no, .no, .no, .no]
    refine ws_seq (ws_asgN (i := 3) (evn_is (evn_lcR1 (n := (m : Int)) (fun _ => true) (fun k => .int (cell ns (start + k) % 7)) (ea1 (evd_var rfl)) (by omega) (by simp) (fun _ _ => evt_yes) (fun k _ _ =>
      evd_mod (evd_call (ea2 (evd_var rfl) (evd_add (evd_var rfl) (evd_var rfl))) ⟨ns, start + k, by simp, rfl⟩) evd_int (by decide))) (es := (wts ns start m).map .int) (by rw [filter_yes]; simp [wts, List.map_map, Function.comp_def])) ?_)
    refine ws_seq (ws_asgD (i := 4) (evd_add evd_int (evd_mod (evd_call (ea2 (evd_var rfl) (evd_add (evd_var rfl) (evd_var rfl))) ⟨ns, start + m, by simp, rfl⟩) (evd_max2 evd_int (evd_sum (evs_own rfl))) (by omega))) ?_)
    refine ws_retN (evn_is (evn_lcL (crowdsOf m) eC (fun c => decide (1 + cell ns (start + m) % max 1 (wts ns start m).sum ≤ weigh (wts ns start m) c)) eC (evs_new (evn_call (ea1 (evd_var rfl)) ⟨m, rfl, hm, rfl⟩)) (by have := crowdsOf_len hm; omega) (by simp) (fun c hc =>
      evt_test (evd_ge (evd_is (evd_sum (ns := c.map fun i => (wts ns start m).getD i.toNat 0) (evs_new (evn_is (evn_lcT c D.int (fun _ => true) (fun i => .int ((wts ns start m).getD i.toNat 0)) (evd_var rfl) (by have := crowdsOf_clen m (by omega) c hc; omega) (by simp) (fun _ _ => evt_yes) (fun i hi _ =>
        evd_ixL (j := i.toNat) (evs_own rfl) (evd_var rfl) (by have := crowd_mem hm hc i hi; omega) (wts_at ns start m rfl (crowd_mem hm hc i hi).1 (crowd_mem hm hc i hi).2))) (by rw [filter_yes]; simp [List.map_map, Function.comp_def])))) rfl) (evd_var rfl))) (fun c _ _ => evd_var rfl)) rfl) rfl

/-! #### _law_told -/
abbrev s__law_told : Stmt := top 28
abbrev nm__law_told : List Str := ["script", "start", "many", "way", "some", "size", "left_out", "even", "crowd", "k"]
theorem sc__law_told : FnScope nm__law_told ["script", "start", "many"] (defScope s__law_told) := ⟨rfl, rfl, rfl, by decide +kernel, rfl, by decide +kernel, by decide +kernel⟩
def R__law_told : List D → Res → Prop := fun ds r => ∃ (ns : List Int) (start m : Nat), ds = [.scr ns, .int start, .int m] ∧ 1 ≤ m ∧ m ≤ 5 ∧ r = .new ((toldOf ns start m).map eC)
theorem ok__law_told (T : Txt G mg) {f : Addr} {fd : FuncData} (F : Fun G.K "_law_told" "_law_told" s__law_told f fd) (H__law_cell_at : Fn G P w mg base "_law_cell_at" 1 ["script", "k"] R__law_cell_at) (H__law_some : Fn G P w mg base "_law_some" 2 ["script", "start", "many", "count"] R__law_some) (H__law_weighed_crowds : Fn G P w mg base "_law_weighed_crowds" 3 ["script", "start", "many"] R__law_weighed_crowds) (H__law_bits : Fn G P w mg base "_law_bits" 1 ["number", "many"] R__law_bits) (H__law_crowds : Fn G P w mg base "_law_crowds" 2 ["many"] R__law_crowds) : FnOk P w G.K mg base CX0 4 f fd ["script", "start", "many"] (mkSp G R__law_told) := by
  refine okD F sc__law_told (fun ds r hR => ?_) (by decide) (fun cdv A outer s H E hr => ⟨_, (pss_cons (ps_asg (pe_op op_mod (pe_callF H__law_cell_at (hr.mono (by decide)) rfl (pa_cons (pv 0) (pa_cons (pv 1) pa_nil))) pe_int) (pg_name (i := 3) sc__law_told.nd rfl (by first | exact Or.inl rfl | exact Or.inr rfl))) (pss_cons (ps_if (pt_cmpR op_eq (pv 3) pe_int (nomark _)) (pss_one (ps_ret (pe_callF H__law_some (hr.mono (by decide)) rfl (pa_cons (pv 0) (pa_cons (pe_op op_add (pv 1) pe_int) (pa_cons (pv 2) (pa_cons (pe_op op_mod (pe_callF H__law_cell_at (hr.mono (by decide)) rfl (pa_cons (pv 0) (pa_cons (pe_op op_add (pv 1) pe_int) pa_nil))) pe_int) pa_nil))))))) pss_nil) (pss_cons (ps_if (pt_cmpR op_eq (pv 3) pe_int (nomark _)) (pss_one (ps_ret (pe_callF H__law_weighed_crowds (hr.mono (by decide)) rfl (pa_cons (pv 0) (pa_cons (pe_op op_add (pv 1) pe_int) (pa_cons (pv 2) pa_nil)))))) pss_nil) (pss_cons (ps_if (pt_cmpR op_eq (pv 3) pe_int (nomark _)) (pss_cons (ps_asg (pe_op op_add pe_int (pe_op op_mod (pe_callF H__law_cell_at (hr.mono (by decide)) rfl (pa_cons (pv 0) (pa_cons (pe_op op_add (pv 1) pe_int) pa_nil))) pe_int)) (pg_name (i := 5) sc__law_told.nd rfl (by first | exact Or.inl rfl | exact Or.inr rfl))) (pss_cons (ps_asg (pe_callF H__law_bits (hr.mono (by decide)) rfl (pa_cons (pe_op op_mul (pe_op op_mod (pe_callF H__law_cell_at (hr.mono (by decide)) rfl (pa_cons (pv 0) (pa_cons (pe_op op_add (pv 1) pe_int) pa_nil))) pe_int) (pe_callTy call_int1 (by rfl) T.int (by decide +kernel) (pa_cons (pe_cmpR op_gt (pe_op op_mod (pe_callF H__law_cell_at (hr.mono (by decide)) rfl (pa_cons (pv 0) (pa_cons (pe_op op_add (pv 1) pe_int) pa_nil))) pe_int) pe_int (nomark _)) pa_nil))) (pa_cons pe_int pa_nil))) (pg_name (i := 6) sc__law_told.nd rfl (by first | exact Or.inl rfl | exact Or.inr rfl))) (pss_cons (ps_asg (pe_lc (own := [("crowd", 8)]) (g := gName 8) (tt := _) rfl sc__law_told.nd (k_pl G.K (pe_callF H__law_crowds (hr.mono (by decide)) rfl (pa_cons (pv 2) pa_nil))) (blkOk_by (N := nm__law_told) (sc := defScope s__law_told) (by decide +kernel)) (fun _ _ _ _ _ => pg_name (i := 8) sc__law_told.nd rfl (by first | exact Or.inl rfl | exact Or.inr rfl)) (fun _ _ _ _ _ => (pts_one (pt_cmpR op_eq (pe_callB (k_len G.K) (by rfl) T.len PySem.boot_len (pa_cons (pv 8) pa_nil)) (pv 5) (nomark _)))) (fun _ _ _ _ _ => (pv 8))) (pg_name (i := 7) sc__law_told.nd rfl (by first | exact Or.inl rfl | exact Or.inr rfl))) (pss_one (ps_ret (pe_lc (own := [("k", 9)]) (g := gName 9) (tt := _) rfl sc__law_told.nd (pi_range1 rfl T.range (pa_cons (pe_callB (k_len G.K) (by rfl) T.len PySem.boot_len (pa_cons (pv 7) pa_nil)) pa_nil)) (blkOk_by (N := nm__law_told) (sc := defScope s__law_told) (by decide +kernel)) (fun _ _ _ _ _ => pg_name (i := 9) sc__law_told.nd rfl (by first | exact Or.inl rfl | exact Or.inr rfl)) (fun _ _ _ _ _ => (pts_one (pt_cmpR (k_notIn G.K) (pv 9) (pv 6) rfl))) (fun _ _ _ _ _ => (pe_ix (k_ixL G.K) (pv 7) (pv 9) (fun _ _ => rfl))))))))) pss_nil) (pss_cons (ps_asg (pe_callF H__law_some (hr.mono (by decide)) rfl (pa_cons (pv 0) (pa_cons (pe_op op_add (pv 1) pe_int) (pa_cons (pv 2) (pa_cons (pe_op op_add pe_int (pe_op op_mod (pe_callF H__law_cell_at (hr.mono (by decide)) rfl (pa_cons (pv 0) (pa_cons (pe_op op_add (pv 1) pe_int) pa_nil))) pe_int)) pa_nil))))) (pg_name (i := 4) sc__law_told.nd rfl (by first | exact Or.inl rfl | exact Or.inr rfl))) (pss_one (ps_ret (pe_lc (own := [("crowd", 8)]) (g := gName 8) (tt := _) rfl sc__law_told.nd (k_pl G.K (pv 4)) (blkOk_by (N := nm__law_told) (sc := defScope s__law_told) (by decide +kernel)) (fun _ _ _ _ _ => pg_name (i := 8) sc__law_told.nd rfl (by first | exact Or.inl rfl | exact Or.inr rfl)) (fun _ _ _ _ _ => (pts_one (PW.pt (pw_or (pt_cmpR op_gt (pe_callB (k_len G.K) (by rfl) T.len PySem.boot_len (pa_cons (pv 8) pa_nil)) pe_int (nomark _)) (pw_or1 (pt_cmpR op_eq (pv 3) pe_int (nomark _))))))) (fun _ _ _ _ _ => (pv 8)))))))))), fun ds r hR => ?_⟩)
  · obtain ⟨ns, start, m, rfl, h1, hm, rfl⟩ := hR
    rfl
  · obtain ⟨ns, start, m, rfl, h1, hm, rfl⟩ := hR
    show WS G _ _ _ [.im (.scr ns), .im (.int start), .im (.int m), .no, .no, .no, .no, .no, .no, .no]
    have q5 : 0 ≤ cell ns start % 5 ∧ cell ns start % 5 < 5 := ⟨Int.emod_nonneg _ (by decide), Int.emod_lt_of_pos _ (by decide)⟩
    refine ws_seq (ws_asgD (i := 3) (evd_mod (evd_call (ea2 (evd_var rfl) (evd_var rfl)) ⟨ns, start, rfl, rfl⟩) evd_int (by decide)) ?_)
    have c1 : ∀ {ρ : Rho} {k : Nat}, ρ[0]? = some (.im (.scr ns)) → ρ[1]? = some (.im (.int start)) → EvD G (tCall (mkSp G R__law_cell_at) [] E0 (tCons (tVar 0) (tCons (tOp (rI0 fun i j => .int (i + j)) (tVar 1) (tC (.int (k : Int)))) tNil))) ρ (.int (cell ns (start + k))) := fun h0 h1 => evd_call (ea2 (evd_var h0) (evd_add (evd_var h1) evd_int)) ⟨ns, _, by simp, rfl⟩
    by_cases w0 : cell ns start % 5 = 0
    · refine ws_seq (ws_when (evt_test (evd_eqI (evd_var rfl) evd_int)) (fun _ => ?_) (fun hb => absurd w0 (by simpa using hb)))
      have q7 : 0 ≤ cell ns (start + 1) % 7 ∧ cell ns (start + 1) % 7 < 7 := ⟨Int.emod_nonneg _ (by decide), Int.emod_lt_of_pos _ (by decide)⟩
      refine ws_retN (evn_call (eva_cons (evd_var rfl) (eva_cons (evd_add (evd_var rfl) evd_int) (eva_cons (evd_var rfl) (eva_cons (evd_mod (c1 (k := 1) rfl rfl) evd_int (by decide)) eva_nil)))) ⟨ns, start + 2, m, (cell ns (start + 1) % 7).toNat, by simp; omega, hm, by omega, rfl⟩) ?_
      show _ = _
      unfold toldOf
      rw [if_pos w0]
    · refine ws_seq (ws_when (evt_test (evd_eqI (evd_var rfl) evd_int)) (fun hb => absurd (by simpa using hb) w0) (fun _ => ?_))
      by_cases w1 : cell ns start % 5 = 1
      · refine ws_seq (ws_when (evt_test (evd_eqI (evd_var rfl) evd_int)) (fun _ => ?_) (fun hb => absurd w1 (by simpa using hb)))
        refine ws_retN (evn_call (eva_cons (evd_var rfl) (eva_cons (evd_add (evd_var rfl) evd_int) (eva_cons (evd_var rfl) eva_nil))) ⟨ns, start + 2, m, by simp, hm, rfl⟩) ?_
        show _ = _
        unfold toldOf
        rw [if_neg w0, if_pos w1]
      · refine ws_seq (ws_when (evt_test (evd_eqI (evd_var rfl) evd_int)) (fun hb => absurd (by simpa using hb) w1) (fun _ => ?_))
        by_cases w3 : cell ns start % 5 = 3
        · refine ws_seq (ws_when (evt_test (evd_eqI (evd_var rfl) evd_int)) (fun _ => ?_) (fun hb => absurd w3 (by simpa using hb)))
          have q2 : 0 ≤ cell ns (start + 2) % 1024 ∧ cell ns (start + 2) % 1024 < 1024 := ⟨Int.emod_nonneg _ (by decide), Int.emod_lt_of_pos _ (by decide)⟩
          refine ws_seq (ws_asgD (i := 5) (evd_add evd_int (evd_mod (c1 (k := 1) rfl rfl) evd_int (by decide))) ?_)
          refine ws_seq (ws_asgD (i := 6) (evd_call (ea2 (evd_mul (evd_mod (c1 (k := 2) rfl rfl) evd_int (by decide)) (evd_intB (evd_gt (evd_mod (c1 (k := 3) rfl rfl) evd_int (by decide)) evd_int)) (.inl (by omega))) evd_int) ⟨_, 10, rfl, by decide, rfl⟩) ?_)
          refine ws_seq (ws_asgN (i := 7) (evn_is (evn_lcL (crowdsOf m) eC (fun c => decide ((c.length : Int) = 2 + cell ns (start + 1) % 2)) eC (evs_new (evn_call (ea1 (evd_var rfl)) ⟨m, rfl, hm, rfl⟩)) (by have := crowdsOf_len hm; omega) (by simp) (fun c hc => evt_is (evt_test (evd_eqI (evd_lenT (ds := c.map .int) (evd_var rfl)) (evd_var rfl))) (by simp)) (fun c _ _ => evd_var rfl)) (es := (evens m (2 + cell ns (start + 1) % 2)).map eC) rfl) ?_)
          have hev : (evens m (2 + cell ns (start + 1) % 2)).length ≤ 32 := Nat.le_trans (List.length_filter_le _ _) (crowdsOf_len hm)
          refine ws_retN (evn_is (evn_lcR1 (n := ((evens m (2 + cell ns (start + 1) % 2)).length : Int)) (fun k => !decide ((k : Int) ∈ bits (cell ns (start + 2) % 1024 * (if decide (0 < cell ns (start + 3) % 3) = true then 1 else 0)) 10)) (fun k => eC ((evens m (2 + cell ns (start + 1) % 2)).getD k [])) (ea1 (evd_is (evd_lenL (evs_own rfl)) (by simp))) (by omega) (by simp) (fun k _ => evt_test (evd_ninT (evd_var rfl) (evd_var rfl))) (fun k hk _ => evd_ixL (j := k) (evs_own rfl) (evd_var rfl) rfl ?_)) ?_) rfl
          · rw [List.getElem?_map, List.getD_eq_getElem?_getD]
            have h : k < (evens m (2 + cell ns (start + 1) % 2)).length := by omega
            rw [List.getElem?_eq_getElem h]
            rfl
          · unfold toldOf
            rw [if_neg w0, if_neg w1, if_pos w3]
            simp only [List.map_map, decide_eq_true_eq]
            rfl
        · refine ws_seq (ws_when (evt_test (evd_eqI (evd_var rfl) evd_int)) (fun hb => absurd (by simpa using hb) w3) (fun _ => ?_))
          have q6 : 0 ≤ cell ns (start + 1) % 6 ∧ cell ns (start + 1) % 6 < 6 := ⟨Int.emod_nonneg _ (by decide), Int.emod_lt_of_pos _ (by decide)⟩
          refine ws_seq (ws_asgN (i := 4) (evn_call (eva_cons (evd_var rfl) (eva_cons (evd_add (evd_var rfl) evd_int) (eva_cons (evd_var rfl) (eva_cons (evd_add evd_int (evd_mod (c1 (k := 1) rfl rfl) evd_int (by decide))) eva_nil)))) ⟨ns, start + 2, m, 2 + (cell ns (start + 1) % 6).toNat, by simp; omega, hm, by omega, rfl⟩) ?_)
          refine ws_retN (evn_is (evn_lcL (some' ns (start + 2) m (2 + (cell ns (start + 1) % 6).toNat)) eC (fun c => decide (1 < (c.length : Int)) || decide (cell ns start % 5 = 2)) eC (evs_own rfl) (by simp [some']; omega) (by simp) (fun c hc => evt_is (evt_or (evt_test (evd_gt (evd_lenT (ds := c.map .int) (evd_var rfl)) evd_int)) (fun _ => evt_test (evd_eqI (evd_var rfl) evd_int))) (by simp)) (fun c _ _ => evd_var rfl)) ?_) rfl
          unfold toldOf
          rw [if_neg w0, if_neg w1, if_neg w3]

/-! #### _law_spoiled -/
abbrev s__law_spoiled : Stmt := top 33
abbrev nm__law_spoiled : List Str := ["text", "way", "cell", "other", "signs", "sign", "at", "words", "spot", "ahead", "word"]
theorem sc__law_spoiled : FnScope nm__law_spoiled ["text", "way", "cell", "other"] (defScope s__law_spoiled) := ⟨rfl, rfl, rfl, by decide +kernel, rfl, by decide +kernel, by decide +kernel⟩
def R__law_spoiled : List D → Res → Prop := fun ds r => ∃ (text : List Nat) (way cell other : Int), ds = [.str (st text), .int way, .int cell, .int other] ∧ Short text ∧ r = .val (.str (st (spoilL text way cell other)))
theorem ok__law_spoiled (T : Txt G mg) {f : Addr} {fd : FuncData} (F : Fun G.K "_law_spoiled" "_law_spoiled" s__law_spoiled f fd)  : FnOk P w G.K mg base CX0 1 f fd ["text", "way", "cell", "other"] (mkSp G R__law_spoiled) := by
  refine okD F sc__law_spoiled (fun ds r hR => ?_) (by decide) (fun cdv A outer s H E hr => ⟨_, (pss_cons (ps_asg pe_str (pg_name (i := 4) sc__law_spoiled.nd rfl (by first | exact Or.inl rfl | exact Or.inr rfl))) (pss_cons (ps_asg (pe_ix ix_str (pv 4) (pe_op op_mod (pv 3) pe_int) (fun _ _ => rfl)) (pg_name (i := 5) sc__law_spoiled.nd rfl (by first | exact Or.inl rfl | exact Or.inr rfl))) (pss_cons (ps_asg (pe_op op_mod (pv 2) (pe_op op_add (pe_callB call_len_str (by rfl) T.len PySem.boot_len (pa_cons (pv 0) pa_nil)) pe_int)) (pg_name (i := 6) sc__law_spoiled.nd rfl (by first | exact Or.inl rfl | exact Or.inr rfl))) (pss_cons (ps_asg (k_split (pe_slice sl_str (pv 0) (po_some pe_int) po_none) pe_str) (pg_name (i := 7) sc__law_spoiled.nd rfl (by first | exact Or.inl rfl | exact Or.inr rfl))) (pss_cons (ps_asg (pe_op op_mod (pv 2) (pe_callB (k_len G.K) (by rfl) T.len PySem.boot_len (pa_cons (pv 7) pa_nil))) (pg_name (i := 8) sc__law_spoiled.nd rfl (by first | exact Or.inl rfl | exact Or.inr rfl))) (pss_cons (ps_if (pt_cmpR op_eq (pv 1) pe_int (nomark _)) (pss_one (ps_ret (pe_op op_add_str (pe_op op_add_str (pe_slice sl_str (pv 0) po_none (po_some (pv 6))) (pv 5)) (pe_slice sl_str (pv 0) (po_some (pv 6)) po_none)))) pss_nil) (pss_cons (ps_if (pt_cmpR op_eq (pv 1) pe_int (nomark _)) (pss_one (ps_ret (pe_op op_add_str (pe_op op_add_str (pe_slice sl_str (pv 0) po_none (po_some (pv 6))) (pv 5)) (pe_slice sl_str (pv 0) (po_some (pe_op op_add (pv 6) pe_int)) po_none)))) pss_nil) (pss_cons (ps_if (pt_cmpR op_eq (pv 1) pe_int (nomark _)) (pss_one (ps_ret (pe_op op_add_str (pe_slice sl_str (pv 0) po_none (po_some (pv 6))) (pe_slice sl_str (pv 0) (po_some (pe_op op_add (pv 6) pe_int)) po_none)))) pss_nil) (pss_cons (ps_if (pt_cmpR op_eq (pv 1) pe_int (nomark _)) (pss_cons (ps_asg (pe_op op_cat (pe_slice (k_slL G.K) (pv 7) po_none (po_some (pv 8))) (pe_slice (k_slL G.K) (pv 7) (po_some (pe_op op_add (pv 8) pe_int)) (po_some (pe_op op_add (pv 8) pe_int)))) (pg_name (i := 9) sc__law_spoiled.nd rfl (by first | exact Or.inl rfl | exact Or.inr rfl))) (pss_one (ps_asg (pe_op op_cat (pe_op op_cat (pv 9) (pe_slice (k_slL G.K) (pv 7) (po_some (pv 8)) (po_some (pe_op op_add (pv 8) pe_int)))) (pe_slice (k_slL G.K) (pv 7) (po_some (pe_op op_add (pv 8) pe_int)) po_none)) (pg_name (i := 7) sc__law_spoiled.nd rfl (by first | exact Or.inl rfl | exact Or.inr rfl))))) pss_nil) (pss_cons (ps_if (pt_cmpR op_eq (pv 1) pe_int (nomark _)) (pss_one (ps_setLc (i := 7) (own := [("word", 10)]) (g := gName 10) (tt := tYes) rfl sc__law_spoiled.nd rfl rfl (sw_true rfl rfl rfl (by decide +kernel)) (k_revA G.K rfl T.reversed (pv 7)) (blkOk_by (N := nm__law_spoiled) (sc := defScope s__law_spoiled) (by decide +kernel)) (fun _ _ _ _ _ => pg_name (i := 10) sc__law_spoiled.nd rfl (by first | exact Or.inl rfl | exact Or.inr rfl)) (fun _ _ _ _ _ => pts_nil) (fun _ _ _ _ _ => (pv 10)))) pss_nil) (pss_cons (ps_if (pt_cmpR op_eq (pv 1) pe_int (nomark _)) (pss_one (ps_asg (pe_op op_cat (pe_op op_cat (pe_slice (k_slL G.K) (pv 7) po_none (po_some (pv 8))) (pe_lst (pa_cons (pe_ix (k_ixL G.K) (pv 7) (pv 8) (fun _ _ => rfl)) (pa_cons (pe_ix (k_ixL G.K) (pv 7) (pv 8) (fun _ _ => rfl)) pa_nil)))) (pe_slice (k_slL G.K) (pv 7) (po_some (pe_op op_add (pv 8) pe_int)) po_none)) (pg_name (i := 7) sc__law_spoiled.nd rfl (by first | exact Or.inl rfl | exact Or.inr rfl)))) pss_nil) (pss_cons (ps_if (pt_cmpR op_eq (pv 1) pe_int (nomark _)) (pss_one (ps_asg (pe_op op_cat (pe_slice (k_slL G.K) (pv 7) po_none (po_some (pv 8))) (pe_slice (k_slL G.K) (pv 7) (po_some (pe_op op_add (pv 8) pe_int)) po_none)) (pg_name (i := 7) sc__law_spoiled.nd rfl (by first | exact Or.inl rfl | exact Or.inr rfl)))) pss_nil) (pss_cons (ps_if (pt_cmpR op_eq (pv 1) pe_int (nomark _)) (pss_one (ps_asg (pe_op op_cat (pv 7) (pe_lst (pa_cons (pe_op op_add_str (pe_ix (k_ixL G.K) (pv 7) (pe_un un_neg pe_int) (fun _ _ => rfl)) pe_str) pa_nil))) (pg_name (i := 7) sc__law_spoiled.nd rfl (by first | exact Or.inl rfl | exact Or.inr rfl)))) pss_nil) (pss_one (ps_ret (pe_op op_add_str (pe_slice sl_str (pv 0) po_none (po_some pe_int)) (k_join (K := G.K) pe_str (pv 7)))))))))))))))))), fun ds r hR => ?_⟩)
  · obtain ⟨text, way, cell, other, rfl, hs, rfl⟩ := hR
    rfl
  · obtain ⟨text, way, cell, other, rfl, hs, rfl⟩ := hR
    show WS G _ _ _ [.im (.str (st text)), .im (.int way), .im (.int cell), .im (.int other), .no, .no, .no, .no, .no, .no, .no]
    have hl := hs.1
    have h18 : 0 ≤ other % 18 ∧ other % 18 < 18 := ⟨Int.emod_nonneg _ (by decide), Int.emod_lt_of_pos _ (by decide)⟩
    have hsg : signsL[(other % 18).toNat]? = some (signAt other) := by
      have hlt : (other % 18).toNat < signsL.length := by
        show _ < 18
        omega
      unfold signAt
      rw [List.getD_eq_getElem?_getD, List.getElem?_eq_getElem hlt]
      rfl
    refine ws_seq (ws_asgD (i := 4) (evd_lit lit_signs) ?_)
    refine ws_seq (ws_asgD (i := 5) (d := .str (st [signAt other])) (evd_ixS (l := signsL) (j := (other % 18).toNat) (c := signAt other) (evd_var rfl) (evd_mod (evd_var rfl) evd_int (by decide)) (by decide) (by omega) hsg) ?_)
    have ha : ((atOf text cell : Nat) : Int) = cell % ((text.length : Int) + 1) := Int.toNat_of_nonneg (Int.emod_nonneg _ (by omega))
    refine ws_seq (ws_asgD (i := 6) (d := .int (atOf text cell : Nat)) (evd_is (evd_mod (evd_var rfl) (evd_add (evd_lenSt (evd_var rfl) (by omega)) evd_int) (by omega)) (by rw [ha])) ?_)
    refine ws_seq (ws_asgN (i := 7) (evn_is (evn_split (l := text.drop 2) (evd_is (evd_cutS (l := text) (lo := some ((2 : Nat) : Int)) (hi := none) (evd_var rfl) (by omega) (evo_some evd_int) evo_none) (by rw [cut_drop])) (evd_lit lit_comma) (by rw [List.length_drop]; omega)) (es := (wordsIn text).map sD) rfl) ?_)
    have hp := wordsIn_pos text
    have hk : ((spotOf text cell : Nat) : Int) = cell % ((wordsIn text).length : Int) := Int.toNat_of_nonneg (Int.emod_nonneg _ (by omega))
    refine ws_seq (ws_asgD (i := 8) (d := .int (spotOf text cell : Nat)) (evd_is (evd_mod (evd_var rfl) (evd_lenL (evs_own rfl)) (by rw [List.length_map]; omega)) (by rw [List.length_map, hk])) ?_)
    have hlt := spot_lt text cell
    obtain ⟨sw1, sw2⟩ := spoil_words hs way cell
    have hn := hs.2.1
    unfold spoilL
    clear hsg ha hk hp
    generalize signAt other = c
    generalize atOf text cell = a
    generalize spotOf text cell = k at hlt sw1 sw2
    generalize wordsIn text = ws at hlt sw1 sw2 hn
    have test : ∀ (n : Int) {ρ : Rho}, ρ[1]? = some (.im (.int way)) → EvT G (tTest (tOp rEq (tVar 1) (tC (.int n)))) ρ (decide (way = n)) := fun n ρ h => evt_test (evd_eqI (evd_var h) evd_int)
    have cutT : ∀ (j : Nat) {ρ : Rho} {th : TO}, ρ[0]? = some (.im (.str (st text))) → EvO G th ρ (some (j : Int)) → EvD G (tSl rSlS (tVar 0) tNoPart th) ρ (.str (st (text.take j))) := fun j ρ th h h2 => evd_is (evd_cutS (evd_var h) (by omega) evo_none h2) (by rw [cut_take])
    have cutD : ∀ (j : Nat) {ρ : Rho} {tl : TO}, ρ[0]? = some (.im (.str (st text))) → EvO G tl ρ (some (j : Int)) → EvD G (tSl rSlS (tVar 0) tl tNoPart) ρ (.str (st (text.drop j))) := fun j ρ tl h h2 => evd_is (evd_cutS (evd_var h) (by omega) h2 evo_none) (by rw [cut_drop])
    by_cases w1 : way = 1
    · rw [if_pos w1]
      exact ws_seq (ws_when (test 1 rfl) (fun _ => ws_ret (evd_addSt (a := text.take a ++ [c]) (b := text.drop a) (evd_addSt (a := text.take a) (b := [c]) (cutT a rfl (evo_some (evd_var rfl))) (evd_var rfl) (by rw [List.length_take]; simp; omega)) (cutD a rfl (evo_some (evd_var rfl))) (by rw [List.length_append, List.length_take, List.length_drop]; simp; omega)) rfl) (fun h => absurd w1 (of_decide_eq_false h)))
    rw [if_neg w1]
    refine ws_seq (ws_when (test 1 rfl) (fun h => absurd (of_decide_eq_true h) w1) (fun _ => ?_))
    by_cases w2 : way = 2
    · rw [if_pos w2]
      exact ws_seq (ws_when (test 2 rfl) (fun _ => ws_ret (evd_addSt (a := text.take a ++ [c]) (b := text.drop (a + 1)) (evd_addSt (a := text.take a) (b := [c]) (cutT a rfl (evo_some (evd_var rfl))) (evd_var rfl) (by rw [List.length_take]; simp; omega)) (cutD (a + 1) rfl (evo_some (evd_is (evd_add (evd_var rfl) evd_int) (by simp)))) (by rw [List.length_append, List.length_take, List.length_drop]; simp; omega)) rfl) (fun h => absurd w2 (of_decide_eq_false h)))
    rw [if_neg w2]
    refine ws_seq (ws_when (test 2 rfl) (fun h => absurd (of_decide_eq_true h) w2) (fun _ => ?_))
    by_cases w3 : way = 3
    · rw [if_pos w3]
      exact ws_seq (ws_when (test 3 rfl) (fun _ => ws_ret (evd_addSt (a := text.take a) (b := text.drop (a + 1)) (cutT a rfl (evo_some (evd_var rfl))) (cutD (a + 1) rfl (evo_some (evd_is (evd_add (evd_var rfl) evd_int) (by simp)))) (by rw [List.length_take, List.length_drop]; omega)) rfl) (fun h => absurd w3 (of_decide_eq_false h)))
    rw [if_neg w3]
    refine ws_seq (ws_when (test 3 rfl) (fun h => absurd (of_decide_eq_true h) w3) (fun _ => ?_))
    let env : List (List Nat) → Rho := fun vs => [.im (.str (st text)), .im (.int way), .im (.int cell), .im (.int other), .im (.str (st signsL)), .im (.str (st [c])), .im (.int a), .own (vs.map sD), .im (.int k), .no, .no]
    have wT : ∀ (j : Nat) {ρ : Rho} {th : TO}, ρ[7]? = some (.own (ws.map sD)) → EvO G th ρ (some (j : Int)) → EvN G (tSl (rSlL G.K) (tVar 7) tNoPart th) ρ ((ws.take j).map sD) := fun j ρ th h h2 => evn_cutW (evs_own h) evo_none h2 (cut_take _ _)
    have wD : ∀ (j : Nat) {ρ : Rho} {tl : TO}, ρ[7]? = some (.own (ws.map sD)) → EvO G tl ρ (some (j : Int)) → EvN G (tSl (rSlL G.K) (tVar 7) tl tNoPart) ρ ((ws.drop j).map sD) := fun j ρ tl h h2 => evn_cutW (evs_own h) h2 evo_none (cut_drop _ _)
    have wM : ∀ (j : Nat) {ρ : Rho} {tl th : TO}, ρ[7]? = some (.own (ws.map sD)) → EvO G tl ρ (some (j : Int)) → EvO G th ρ (some ((j + 1 : Nat) : Int)) → EvN G (tSl (rSlL G.K) (tVar 7) tl th) ρ (((ws.drop j).take 1).map sD) := fun j ρ tl th h h1 h2 => evn_cutW (evs_own h) h1 h2 (by rw [cut_mid _ _ _ (by omega), Nat.add_sub_cancel_left])
    have sp : ∀ (j : Nat) {ρ : Rho}, ρ[8]? = some (.im (.int k)) → EvO G (tPart (tOp (rI0 fun i j => .int (i + j)) (tVar 8) (tC (.int j)))) ρ (some ((k + j : Nat) : Int)) := fun j ρ h => evo_some (evd_is (evd_add (evd_var h) evd_int) (by simp))
    -- 4
    refine ws_seq (ws_mono (k := { nx := fun ρ' => Weak ρ' (env (if way = 4 then ws.take k ++ (ws.drop (k + 1)).take 1 ++ (ws.drop k).take 1 ++ ws.drop (k + 2) else ws)), rt := fun _ => False }) (ws_when (test 4 rfl) (fun h => ?_) (fun h => ?_)) (fun ρ' e => ws_weak e ?_) (fun _ z => z.elim) (fun _ z => z.elim) (fun _ z => z.elim) (fun _ z => z.elim))
    · rw [if_pos (of_decide_eq_true h)]
      refine ws_seq (ws_asgN (i := 9) (evn_catW (evs_new (wT k rfl (evo_some (evd_var rfl)))) (evs_new (wM (k + 1) rfl (sp 1 rfl) (sp 2 rfl))) (by simp; omega)) ?_)
      refine ws_asgN (i := 7) (evn_catW (evs_new (evn_catW (evs_own rfl) (evs_new (wM k rfl (evo_some (evd_var rfl)) (sp 1 rfl))) (by simp; omega))) (evs_new (wD (k + 2) rfl (sp 2 rfl))) (by simp; omega)) ?_
      walk_at "weak"
    · rw [if_neg (of_decide_eq_false h)]
      walk_at "weak"
    generalize e4 : (if way = 4 then ws.take k ++ (ws.drop (k + 1)).take 1 ++ (ws.drop k).take 1 ++ ws.drop (k + 2) else ws) = ws4
    -- 8
    refine ws_seq (ws_mono (k := { nx := fun ρ' => Weak ρ' (env (if way = 8 then ws4.reverse else ws4)), rt := fun _ => False }) (ws_when (test 8 rfl) (fun h => ?_) (fun h => ?_)) (fun ρ' e => ws_weak e ?_) (fun _ z => z.elim) (fun _ z => z.elim) (fun _ z => z.elim) (fun _ z => z.elim))
    · have h8 := of_decide_eq_true h
      rw [if_pos h8]
      rw [if_neg (by omega)] at e4
      subst e4
      refine ws_asgN (i := 7) (evn_lcV (j := 10) (vs := [10]) ws sD sD (evs_own rfl) (by omega) (by simp) (fun p hp => evd_var rfl)) ?_
      walk_at "weak"
    · rw [if_neg (of_decide_eq_false h)]
      walk_at "weak"
    generalize e8 : (if way = 8 then ws4.reverse else ws4) = ws8
    -- 5
    refine ws_seq (ws_mono (k := { nx := fun ρ' => Weak ρ' (env (if way = 5 then ws.take k ++ [ws.getD k [], ws.getD k []] ++ ws.drop (k + 1) else ws8)), rt := fun _ => False }) (ws_when (test 5 rfl) (fun h => ?_) (fun h => ?_)) (fun ρ' e => ws_weak e ?_) (fun _ z => z.elim) (fun _ z => z.elim) (fun _ z => z.elim) (fun _ z => z.elim))
    · have h5 := of_decide_eq_true h
      rw [if_pos h5]
      rw [if_neg (by omega)] at e4 e8
      subst e8 e4
      have hx : (ws.map sD)[k]? = some (sD (ws.getD k [])) := by
        rw [List.getElem?_map, List.getD_eq_getElem?_getD, List.getElem?_eq_getElem hlt]
        rfl
      refine ws_asgN (i := 7) (evn_catW (evs_new (evn_catW (evs_new (wT k rfl (evo_some (evd_var rfl)))) (evs_new (evn_is (evn_lst (evad_cons (evd_ixL (j := k) (evs_own rfl) (evd_var rfl) rfl hx) (evad_cons (evd_ixL (j := k) (evs_own rfl) (evd_var rfl) rfl hx) evad_nil))) (es := [ws.getD k [], ws.getD k []].map sD) rfl)) (by simp; omega))) (evs_new (wD (k + 1) rfl (sp 1 rfl))) (by simp; omega)) ?_
      walk_at "weak"
    · rw [if_neg (of_decide_eq_false h)]
      walk_at "weak"
    generalize e5 : (if way = 5 then ws.take k ++ [ws.getD k [], ws.getD k []] ++ ws.drop (k + 1) else ws8) = ws5
    -- 6
    refine ws_seq (ws_mono (k := { nx := fun ρ' => Weak ρ' (env (if way = 6 then ws.take k ++ ws.drop (k + 1) else ws5)), rt := fun _ => False }) (ws_when (test 6 rfl) (fun h => ?_) (fun h => ?_)) (fun ρ' e => ws_weak e ?_) (fun _ z => z.elim) (fun _ z => z.elim) (fun _ z => z.elim) (fun _ z => z.elim))
    · have h6 := of_decide_eq_true h
      rw [if_pos h6]
      rw [if_neg (by omega)] at e4 e8 e5
      subst e5 e8 e4
      refine ws_asgN (i := 7) (evn_catW (evs_new (wT k rfl (evo_some (evd_var rfl)))) (evs_new (wD (k + 1) rfl (sp 1 rfl))) (by simp; omega)) ?_
      walk_at "weak"
    · rw [if_neg (of_decide_eq_false h)]
      walk_at "weak"
    generalize e6 : (if way = 6 then ws.take k ++ ws.drop (k + 1) else ws5) = ws6
    -- 7
    refine ws_seq (ws_mono (k := { nx := fun ρ' => Weak ρ' (env (if way = 7 then ws ++ [ws.getD (ws.length - 1) [] ++ [43, 52]] else ws6)), rt := fun _ => False }) (ws_when (test 7 rfl) (fun h => ?_) (fun h => ?_)) (fun ρ' e => ws_weak e ?_) (fun _ z => z.elim) (fun _ z => z.elim) (fun _ z => z.elim) (fun _ z => z.elim))
    · have h7 := of_decide_eq_true h
      rw [if_pos h7]
      rw [if_neg (by omega)] at e4 e8 e5 e6
      subst e6 e5 e8 e4
      have hx : (ws.map sD)[(ws.map sD).length - 1]? = some (sD (ws.getD (ws.length - 1) [])) := by
        rw [List.length_map, List.getElem?_map, List.getD_eq_getElem?_getD, List.getElem?_eq_getElem (by omega)]
        rfl
      have hlast : (ws.getD (ws.length - 1) []).length ≤ 14 := by
        have hm : ws.getD (ws.length - 1) [] ∈ ws := by
          rw [List.getD_eq_getElem?_getD, List.getElem?_eq_getElem (by omega)]
          exact List.getElem_mem _
        have e7 : spoilW way k ws = ws ++ [ws.getD (ws.length - 1) [] ++ [43, 52]] := by
          unfold spoilW
          rw [if_neg (by omega), if_neg (by omega), if_neg (by omega), if_neg (by omega), if_pos h7]
        rw [e7] at sw2
        exact (sw2 _ (List.mem_append_left _ hm)).1
      refine ws_asgN (i := 7) (evn_catW (a := ws) (b := [ws.getD (ws.length - 1) [] ++ [43, 52]]) (evs_own rfl) (evs_new (evn_is (evn_lst (evad_cons (evd_addSt (evd_ixLlast (evs_own rfl) (evd_neg evd_int) hx) (evd_lit lit_plus4) (by show _ + 2 ≤ 100000; omega)) evad_nil)) rfl)) (by simp; omega)) ?_
      walk_at "weak"
    · rw [if_neg (of_decide_eq_false h)]
      walk_at "weak"
    have e7 : (if way = 7 then ws ++ [ws.getD (ws.length - 1) [] ++ [43, 52]] else ws6) = spoilW way k ws := by
      unfold spoilW
      subst e6 e5 e8 e4
      by_cases c4 : way = 4
      · simp [c4]
      · by_cases c8 : way = 8
        · simp [c8]
        · by_cases c5 : way = 5
          · simp [c5]
          · by_cases c6 : way = 6
            · simp [c6]
            · simp [c4, c8, c5, c6]
    rw [e7]
    clear e7 e6 e5 e8 e4
    generalize spoilW way k ws = vs at sw1 sw2
    have h2 := sum_le (B := 14) vs fun w hw => (sw2 w hw).1
    have h3 := joinL_len [44] vs
    have h6 : vs.length * ([44] : List Nat).length = vs.length := Nat.mul_one _
    rw [h6] at h3
    exact ws_ret (evd_addSt (a := text.take 2) (b := joinL [44] vs) (cutT 2 rfl (evo_some evd_int)) (evd_join (sep := [44]) (ps := vs) (evd_lit lit_comma) (evs_own rfl) (by rw [h6]; omega)) (by rw [List.length_take]; omega)) rfl

/-! #### _law_in -/
abbrev s__law_in : Stmt := top 29
abbrev nm__law_in : List Str := ["crowd", "other", "member"]
theorem sc__law_in : FnScope nm__law_in ["crowd", "other"] (defScope s__law_in) := ⟨rfl, rfl, rfl, by decide +kernel, rfl, by decide +kernel, by decide +kernel⟩
theorem filt_all (a b : Crowd) : decide (((a.filter fun m => decide (m ∈ b)).length : Int) = (a.length : Int)) = liesIn a b := by
  unfold liesIn
  by_cases h : ∀ m ∈ a, decide (m ∈ b) = true
  · rw [List.filter_eq_self.mpr h, List.all_eq_true.mpr h]
    simp
  · have h1 : (a.all fun m => decide (m ∈ b)) = false := by
      cases q : a.all fun m => decide (m ∈ b) with
      | false => rfl
      | true => exact absurd (List.all_eq_true.mp q) h
    rw [h1]
    have h2 : (a.filter fun m => decide (m ∈ b)).length ≤ a.length := List.length_filter_le _ _
    have h3 : (a.filter fun m => decide (m ∈ b)).length ≠ a.length := fun e => h (List.length_filter_eq_length_iff.mp e)
    exact decide_eq_false (by omega)
def R__law_in : List D → Res → Prop := fun ds r => ∃ (a b : Crowd), ds = [eC a, eC b] ∧ a.length ≤ 1000 ∧ r = .val (.bl (liesIn a b))
theorem ok__law_in (T : Txt G mg) {f : Addr} {fd : FuncData} (F : Fun G.K "_law_in" "_law_in" s__law_in f fd)  : FnOk P w G.K mg base CX0 1 f fd ["crowd", "other"] (mkSp G R__law_in) := by
  refine okD F sc__law_in (fun ds r hR => ?_) (by decide) (fun cdv A outer s H E hr => ⟨_, (pss_one (ps_ret (pe_cmpR op_eq (pe_callB (k_len G.K) (by rfl) T.len PySem.boot_len (pa_cons (pe_lc (own := [("member", 2)]) (g := gName 2) (tt := _) rfl sc__law_in.nd (k_pt G.K (pv 0)) (blkOk_by (N := nm__law_in) (sc := defScope s__law_in) (by decide +kernel)) (fun _ _ _ _ _ => pg_name (i := 2) sc__law_in.nd rfl (by first | exact Or.inl rfl | exact Or.inr rfl)) (fun _ _ _ _ _ => (pts_one (pt_cmpR (k_in G.K) (pv 2) (pv 1) rfl))) (fun _ _ _ _ _ => (pv 2))) pa_nil)) (pe_callB (k_len G.K) (by rfl) T.len PySem.boot_len (pa_cons (pv 0) pa_nil)) (nomark _)))), fun ds r hR => ?_⟩)
  · obtain ⟨a, b, rfl, ha, rfl⟩ := hR
    rfl
  · obtain ⟨a, b, rfl, ha, rfl⟩ := hR
    show WS G _ _ _ [.im (eC a), .im (eC b), .no]
    refine ws_ret (evd_is (evd_eqI (evd_lenL (evs_new (evn_lcT a D.int (fun m => decide (m ∈ b)) D.int (evd_var rfl) (by omega) (by simp) (fun m _ => evt_test (evd_inT (evd_var rfl) (evd_var rfl))) (fun m _ _ => evd_var rfl)))) (evd_lenT (ds := a.map .int) (evd_var rfl))) ?_) rfl
    rw [List.length_map, List.length_map, filt_all]

/-! #### _law_carries -/
abbrev s__law_carries : Stmt := top 30
abbrev nm__law_carries : List Str := ["told", "crowd", "one"]
theorem sc__law_carries : FnScope nm__law_carries ["told", "crowd"] (defScope s__law_carries) := ⟨rfl, rfl, rfl, by decide +kernel, rfl, by decide +kernel, by decide +kernel⟩
theorem filt_any (told : List Crowd) (c : Crowd) : decide ((0 : Int) < ((told.filter fun t => liesIn t c).length : Int)) = bears told c := by
  unfold bears
  cases h : told.any fun t => liesIn t c with
  | false =>
    rw [List.filter_eq_nil_iff.mpr (fun a ha => by simpa using (List.any_eq_false.mp h) a ha)]
    rfl
  | true =>
    obtain ⟨a, ha, hl⟩ := List.any_eq_true.mp h
    have : 0 < (told.filter fun t => liesIn t c).length := List.length_pos_of_mem (List.mem_filter.mpr ⟨ha, hl⟩)
    exact decide_eq_true (by omega)
def R__law_carries : List D → Res → Prop := fun ds r => ∃ (told : List Crowd) (c : Crowd), ds = [.lst (told.map eC), eC c] ∧ told.length ≤ 1000 ∧ (∀ t ∈ told, t.length ≤ 1000) ∧ r = .val (.bl (bears told c))
theorem ok__law_carries (T : Txt G mg) {f : Addr} {fd : FuncData} (F : Fun G.K "_law_carries" "_law_carries" s__law_carries f fd) (H__law_in : Fn G P w mg base "_law_in" 1 ["crowd", "other"] R__law_in) : FnOk P w G.K mg base CX0 2 f fd ["told", "crowd"] (mkSp G R__law_carries) := by
  refine okD F sc__law_carries (fun ds r hR => ?_) (by decide) (fun cdv A outer s H E hr => ⟨_, (pss_one (ps_ret (pe_cmpR op_gt (pe_callB (k_len G.K) (by rfl) T.len PySem.boot_len (pa_cons (pe_lc (own := [("one", 2)]) (g := gName 2) (tt := _) rfl sc__law_carries.nd (k_pl G.K (pv 0)) (blkOk_by (N := nm__law_carries) (sc := defScope s__law_carries) (by decide +kernel)) (fun _ _ _ _ _ => pg_name (i := 2) sc__law_carries.nd rfl (by first | exact Or.inl rfl | exact Or.inr rfl)) (fun _ _ _ _ _ => (pts_one (pt_val (pe_callF H__law_in (hr.mono (by decide)) rfl (pa_cons (pv 2) (pa_cons (pv 1) pa_nil)))))) (fun _ _ _ _ _ => (pv 2))) pa_nil)) pe_int (nomark _)))), fun ds r hR => ?_⟩)
  · obtain ⟨told, c, rfl, ht, hl, rfl⟩ := hR
    rfl
  · obtain ⟨told, c, rfl, ht, hl, rfl⟩ := hR
    show WS G _ _ _ [.ar (told.map eC), .im (eC c), .no]
    refine ws_ret (evd_is (evd_gt (evd_lenL (evs_new (evn_lcL told eC (fun t => liesIn t c) eC (evs_ar rfl) (by omega) (by simp) (fun t h => evt_B (evd_call (ea2 (evd_var rfl) (evd_var rfl)) ⟨t, c, rfl, hl t h, rfl⟩)) (fun t _ _ => evd_var rfl)))) evd_int) ?_) rfl
    rw [List.length_map, filt_any]

/-! #### _law_least -/
abbrev s__law_least : Stmt := top 31
abbrev nm__law_least : List Str := ["told", "many", "carrying", "found", "crowd", "one"]
theorem sc__law_least : FnScope nm__law_least ["told", "many"] (defScope s__law_least) := ⟨rfl, rfl, rfl, by decide +kernel, rfl, by decide +kernel, by decide +kernel⟩
def R__law_least : List D → Res → Prop := fun ds r => ∃ (told : List Crowd) (n : Nat), ds = [.lst (told.map eC), .int n] ∧ n ≤ 5 ∧ told.length ≤ 1000 ∧ (∀ t ∈ told, t.length ≤ 1000) ∧ r = .new ((lawLeast told n).map eC)
theorem ok__law_least (T : Txt G mg) {f : Addr} {fd : FuncData} (F : Fun G.K "_law_least" "_law_least" s__law_least f fd) (H__law_crowds : Fn G P w mg base "_law_crowds" 2 ["many"] R__law_crowds) (H__law_carries : Fn G P w mg base "_law_carries" 2 ["told", "crowd"] R__law_carries) (H__law_in : Fn G P w mg base "_law_in" 1 ["crowd", "other"] R__law_in) : FnOk P w G.K mg base CX0 3 f fd ["told", "many"] (mkSp G R__law_least) := by
  refine okD F sc__law_least (fun ds r hR => ?_) (by decide) (fun cdv A outer s H E hr => ⟨_, (pss_cons (ps_setLc (i := 2) (own := [("crowd", 4)]) (g := gName 4) (tt := _) rfl sc__law_least.nd rfl rfl (sw_true rfl rfl rfl (by decide +kernel)) (k_pl G.K (pe_callF H__law_crowds (hr.mono (by decide)) rfl (pa_cons (pv 1) pa_nil))) (blkOk_by (N := nm__law_least) (sc := defScope s__law_least) (by decide +kernel)) (fun _ _ _ _ _ => pg_name (i := 4) sc__law_least.nd rfl (by first | exact Or.inl rfl | exact Or.inr rfl)) (fun _ _ _ _ _ => (pts_one (pt_val (pe_callF H__law_carries (hr.mono (by decide)) rfl (pa_cons (pv 0) (pa_cons (pv 4) pa_nil)))))) (fun _ _ _ _ _ => (pv 4))) (pss_cons (ps_asg (pe_lst pa_nil) (pg_name (i := 3) sc__law_least.nd rfl (by first | exact Or.inl rfl | exact Or.inr rfl))) (pss_cons (ps_for PassesOwn.never rfl (k_pl G.K (pv 2)) (pg_name (i := 4) sc__law_least.nd rfl (by first | exact Or.inl rfl | exact Or.inr rfl)) (pss_one (ps_if (pt_cmpR op_eq (pe_callB (k_len G.K) (by rfl) T.len PySem.boot_len (pa_cons (pe_lc (own := [("one", 5)]) (g := gName 5) (tt := _) rfl sc__law_least.nd (k_pl G.K (pv 2)) (blkOk_by (N := nm__law_least) (sc := defScope s__law_least) (by decide +kernel)) (fun _ _ _ _ _ => pg_name (i := 5) sc__law_least.nd rfl (by first | exact Or.inl rfl | exact Or.inr rfl)) (fun _ _ _ _ _ => (pts_one (PW.pt (pw_and (pt_cmpR (k_neD G.K hr.units) (pv 5) (pv 4) (nomark _)) (pw_and1 (pt_val (pe_callF H__law_in (hr.mono (by decide)) rfl (pa_cons (pv 5) (pa_cons (pv 4) pa_nil))))))))) (fun _ _ _ _ _ => (pv 5))) pa_nil)) pe_int (nomark _)) (pss_one (ps_expr (pe_bm PySem.F.plainAttrs_list PySem.F.slot_list_append PySem.F.type_list_append mt_append (pv 3) (pa_cons (pv 4) pa_nil)))) pss_nil))) (pss_one (ps_ret (pv 3)))))), fun ds r hR => ?_⟩)
  · obtain ⟨told, n, rfl, hn, ht, hl, rfl⟩ := hR
    rfl
  · obtain ⟨told, n, rfl, hn, ht, hl, rfl⟩ := hR
    show WS G _ _ _ [.ar (told.map eC), .im (.int n), .no, .no, .no, .no]
    refine ws_seq (ws_asgN (i := 2) (evn_is (evn_lcL (crowdsOf n) eC (bears told) eC (evs_new (evn_call (ea1 (evd_var rfl)) ⟨n, rfl, hn, rfl⟩)) (by have := crowdsOf_len hn; omega) (by simp) (fun c hc => evt_B (evd_call (eva_consL (evs_ar rfl) (ea1 (evd_var rfl))) ⟨told, c, rfl, ht, hl, rfl⟩)) (fun c _ _ => evd_var rfl)) (es := ((crowdsOf n).filter (bears told)).map eC) rfl) ?_)
    refine ws_seq (ws_asgN (i := 3) (evn_lst evad_nil) ?_)
    have hlen : ((crowdsOf n).filter (bears told)).length ≤ 32 := Nat.le_trans (List.length_filter_le _ _) (crowdsOf_len hn)
    have hmem : ∀ c ∈ (crowdsOf n).filter (bears told), c.length ≤ 5 := fun c hc => crowdsOf_clen n (by omega) c (List.mem_filter.mp hc).1
    unfold lawLeast
    generalize (crowdsOf n).filter (bears told) = cs at hlen hmem
    refine ws_freeze 2 rfl (ws_seq (ws_forL cs eC (fun found : List Crowd => [.ar (told.map eC), .im (.int n), .im (.lst (cs.map eC)), .own (found.map eC), .no, .no]) (fun found c => .go (if decide ((cs.filter fun one => !decide (one = c) && liesIn one c).length = 0) = true then found ++ [c] else found)) [] (evz_of (evd_var rfl)) (by walk_at "weak") (fun i found c hc hf => ?_) ?_))
    · have hfound := fold_go_take (f := fun (found : List Crowd) c => (if decide ((cs.filter fun one => !decide (one = c) && liesIn one c).length = 0) = true then found ++ [c] else found)) hf
      have hlf : found.length ≤ 32 := by
        have go : ∀ (l f0 : List Crowd), (l.foldl (fun (found : List Crowd) c => (if decide ((cs.filter fun one => !decide (one = c) && liesIn one c).length = 0) = true then found ++ [c] else found)) f0).length ≤ f0.length + l.length := by
          intro l
          induction l with
          | nil => intro f0; simp
          | cons x l ih =>
            intro f0
            rw [List.foldl_cons]
            refine Nat.le_trans (ih _) ?_
            split <;> simp <;> omega
        rw [hfound]
        have := go (cs.take i) []
        rw [List.length_take] at this
        simp only [List.length_nil] at this
        omega
      refine ws_when (b := decide ((cs.filter fun one => !decide (one = c) && liesIn one c).length = 0)) (evt_is (evt_test (evd_eqI (evd_lenL (evs_new (evn_lcL cs eC (fun one => !decide (one = c) && liesIn one c) eC (evs_of (evd_var rfl)) (by omega) (by simp) (fun one h1 => evt_and (evt_test (evd_neC (evd_var rfl) (evd_var rfl))) (fun _ => evt_B (evd_call (ea2 (evd_var rfl) (evd_var rfl)) ⟨one, c, rfl, by have := hmem one h1; omega, rfl⟩))) (fun c _ _ => evd_var rfl)))) evd_int)) ?_) (fun hb => ?_) (fun hb => ?_)
      · rw [List.length_map]
        exact decide_eq_decide.mpr (by omega)
      · refine ws_append rfl (evd_var rfl) (by simp; omega) ⟨found ++ [c], ?_, ?_⟩
        · show Go.go (if _ then _ else _) = _
          rw [if_pos hb]
        · walk_at "weak"
      · refine ⟨found, ?_, by walk_at "weak"⟩
        show Go.go (if _ then _ else _) = _
        rw [if_neg (by rw [hb]; decide)]
    · rw [fold_go]
      have go : ∀ (l f0 : List Crowd), l.foldl (fun (found : List Crowd) c => (if decide ((cs.filter fun one => !decide (one = c) && liesIn one c).length = 0) = true then found ++ [c] else found)) f0 = f0 ++ l.filter fun c => decide ((cs.filter fun one => !decide (one = c) && liesIn one c).length = 0) := by
        intro l
        induction l with
        | nil => intro f0; simp
        | cons x l ih =>
          intro f0
          rw [List.foldl_cons, ih, List.filter_cons]
          split <;> simp
      rw [go]
      exact ws_retOwn rfl rfl

/-! #### _law_shown -/
abbrev s__law_shown : Stmt := top 32
abbrev nm__law_shown : List Str := ["told", "many", "words", "crowd", "text", "k", "member"]
theorem sc__law_shown : FnScope nm__law_shown ["told", "many"] (defScope s__law_shown) := ⟨rfl, rfl, rfl, by decide +kernel, rfl, by decide +kernel, by decide +kernel⟩
def R__law_shown : List D → Res → Prop := fun ds r => ∃ (told : List Crowd) (n : Nat), ds = [.lst (told.map eC), .int n] ∧ 1 ≤ n ∧ n ≤ 5 ∧ told.length ≤ 1000 ∧ (∀ t ∈ told, t.length ≤ 1000) ∧ r = .val (.str (st (showL n (least n told))))
theorem ok__law_shown (T : Txt G mg) {f : Addr} {fd : FuncData} (F : Fun G.K "_law_shown" "_law_shown" s__law_shown f fd) (H__law_least : Fn G P w mg base "_law_least" 3 ["told", "many"] R__law_least) : FnOk P w G.K mg base CX0 4 f fd ["told", "many"] (mkSp G R__law_shown) := by
  refine okD F sc__law_shown (fun ds r hR => ?_) (by decide) (fun cdv A outer s H E hr => ⟨_, (pss_cons (ps_asg (pe_lst pa_nil) (pg_name (i := 2) sc__law_shown.nd rfl (by first | exact Or.inl rfl | exact Or.inr rfl))) (pss_cons (ps_for PassesOwn.never rfl (k_pl G.K (pe_callF H__law_least (hr.mono (by decide)) rfl (pa_cons (pv 0) (pa_cons (pv 1) pa_nil)))) (pg_name (i := 3) sc__law_shown.nd rfl (by first | exact Or.inl rfl | exact Or.inr rfl)) (pss_one (ps_expr (pe_bm PySem.F.plainAttrs_list PySem.F.slot_list_append PySem.F.type_list_append mt_append (pv 2) (pa_cons (k_join (K := G.K) pe_str (pe_lc (own := [("member", 6)]) (g := gName 6) (tt := tYes) rfl sc__law_shown.nd (k_pt G.K (pv 3)) (blkOk_by (N := nm__law_shown) (sc := defScope s__law_shown) (by decide +kernel)) (fun _ _ _ _ _ => pg_name (i := 6) sc__law_shown.nd rfl (by first | exact Or.inl rfl | exact Or.inr rfl)) (fun _ _ _ _ _ => pts_nil) (fun _ _ _ _ _ => (pe_callTy call_str_int (by rfl) T.str (by decide +kernel) (pa_cons (pv 6) pa_nil))))) pa_nil))))) (pss_cons (ps_asg (pe_op op_add_str (pe_callTy call_str_int (by rfl) T.str (by decide +kernel) (pa_cons (pv 1) pa_nil)) pe_str) (pg_name (i := 4) sc__law_shown.nd rfl (by first | exact Or.inl rfl | exact Or.inr rfl))) (pss_cons (ps_for PassesOwn.never rfl (pi_range1 rfl T.range (pa_cons (pe_callB (k_len G.K) (by rfl) T.len PySem.boot_len (pa_cons (pv 2) pa_nil)) pa_nil)) (pg_name (i := 5) sc__law_shown.nd rfl (by first | exact Or.inl rfl | exact Or.inr rfl)) (pss_cons (ps_if (pt_cmpR op_gt (pv 5) pe_int (nomark _)) (pss_one (ps_asg (pe_op op_add_str (pv 4) pe_str) (pg_name (i := 4) sc__law_shown.nd rfl (by first | exact Or.inl rfl | exact Or.inr rfl)))) pss_nil) (pss_cons (ps_asg (pe_op op_add_str (pe_op op_add_str (pv 4) pe_str) (pe_ix (k_ixL G.K) (pv 2) (pv 5) (fun _ _ => rfl))) (pg_name (i := 4) sc__law_shown.nd rfl (by first | exact Or.inl rfl | exact Or.inr rfl))) (pss_one (ps_if (pt_cmpR op_eq (pe_ix (k_ixL G.K) (pv 2) (pv 5) (fun _ _ => rfl)) pe_str (nomark _)) (pss_one (ps_asg (pe_op op_add_str (pv 4) pe_str) (pg_name (i := 4) sc__law_shown.nd rfl (by first | exact Or.inl rfl | exact Or.inr rfl)))) pss_nil))))) (pss_one (ps_ret (pv 4))))))), fun ds r hR => ?_⟩)
  · obtain ⟨told, n, rfl, h1, h5, ht, hl, rfl⟩ := hR
    rfl
  · obtain ⟨told, n, rfl, h1, h5, ht, hl, rfl⟩ := hR
    show WS G _ _ _ [.ar (told.map eC), .im (.int n), .no, .no, .no, .no, .no]
    have ll := least_len h5 told
    have hcl := least_clen h5 told
    have hg := least_good h5 told
    have el := least_lawLeast (told := told) h5
    refine ws_seq (ws_asgN (i := 2) (evn_lst evad_nil) ?_)
    refine ws_seq (ws_forL (least n told) eC (fun acc : List (List Nat) => [.ar (told.map eC), .im (.int n), .own (acc.map fun p => .str (st p)), .no, .no, .no, .no]) (fun acc c => .go (acc ++ [bareL c])) [] (evz_new (evn_call (eva_consL (evs_ar rfl) (ea1 (evd_var rfl))) ⟨told, n, rfl, h5, ht, hl, by rw [el]⟩)) (by walk_at "weak") (fun i acc c hc hf => ?_) ?_)
    · have hacc := fold_go_take (f := fun (acc : List (List Nat)) (c : Crowd) => acc ++ [bareL c]) hf
      have hal : acc.length ≤ 32 := by
        rw [hacc, foldl_snoc]
        simp
        omega
      clear hf hacc
      have hm := List.mem_of_getElem? hc
      have c5 := hcl c hm
      have mb := crowdOk_mem (cs_good h5 (hg c hm)).1
      refine ws_append rfl (evd_join (sep := [43]) (ps := c.map digL) (evd_lit lit_plus) (evs_new (evn_is (evn_lcT c D.int (fun _ => true) (fun m => .str (st (digL m))) (evd_var rfl) (by omega) (by simp) (fun _ _ => evt_yes) (fun m hm _ => evd_dig (evd_var rfl) (by have := mb m hm; omega))) (by rw [filter_yes, List.map_map]; rfl))) ?_) (by simp; omega) ⟨acc ++ [bareL c], rfl, ?_⟩
      · have e2 : ((c.map digL).map List.length).sum = c.length := by
          clear mb hm c5 hc
          induction c with
          | nil => rfl
          | cons m r ih =>
            rw [List.map_cons, List.map_cons, List.sum_cons, List.length_cons, ih]
            show 1 + _ = _
            omega
        rw [e2]
        simp
        omega
      · dsimp only
        rw [List.map_append]
        walk_at "weak"
    rw [fold_go, foldl_snoc, List.nil_append]
    generalize least n told = cs at ll hcl hg
    refine ws_seq (ws_asgD (i := 4) (d := .str (st [48 + n, 58])) (evd_is (evd_addSt (a := digL n) (b := [58]) (evd_dig (evd_var rfl) (by omega)) (evd_lit lit_colon) (by simp [digL])) (by unfold digL; simp)) ?_)
    refine ws_seq (ws_forR1 (n := (cs.length : Int)) (fun t : List Nat => [.ar (told.map eC), .im (.int n), .own ((cs.map bareL).map fun p => .str (st p)), .no, .im (.str (st t)), .no, .no]) (fun t k => .go (textStep cs t k)) [48 + n, 58] (ea1 (evd_is (evd_lenL (evs_own rfl)) (by rw [List.length_map, List.length_map]))) (by omega) (by walk_at "weak") (fun k t hk hf => ?_) ?_)
    · have hk' : k < cs.length := by omega
      have ht2 := fold_go_take (f := textStep cs) hf
      rw [Int.toNat_natCast, List.take_range, Nat.min_eq_left (by omega), text_fold n cs k (by omega)] at ht2
      have tl : t.length ≤ 500 := by
        have := show_len (n := n) (cs := cs.take k) fun c hc => hcl c (List.mem_of_mem_take hc)
        rw [List.length_take] at this
        rw [ht2]
        omega
      clear hf ht2
      obtain ⟨c, ec⟩ : ∃ c, c = cs.getD k [] := ⟨_, rfl⟩
      have c5 : c.length ≤ 5 := by
        rw [ec, List.getD_eq_getElem?_getD, List.getElem?_eq_getElem hk']
        exact hcl _ (List.getElem_mem hk')
      have bl := bare_len c
      have hx : ((cs.map bareL).map fun p => D.str (st p))[k]? = some (.str (st (bareL c))) := by
        rw [List.getElem?_map, List.getElem?_map, List.getElem?_eq_getElem hk', ec, List.getD_eq_getElem?_getD, List.getElem?_eq_getElem hk']
        rfl
      refine ws_seq (ws_mono (k := { nx := fun ρ' => ρ' = [.ar (told.map eC), .im (.int n), .own ((cs.map bareL).map fun p => .str (st p)), .no, .im (.str (st (if 0 < k then t ++ [44] else t))), .im (.int k), .no], rt := fun _ => False }) (ws_when (evt_test (evd_gt (evd_var rfl) evd_int)) (fun h => ?_) (fun h => ?_)) (fun ρ' e => ?_) (fun _ z => z.elim) (fun _ z => z.elim) (fun _ z => z.elim) (fun _ z => z.elim))
      · have h0 : 0 < k := by have := of_decide_eq_true h; omega
        rw [if_pos h0]
        refine ws_asgD (i := 4) (evd_addSt (a := t) (b := [44]) (evd_var rfl) (evd_lit lit_comma) (by simp; omega)) ?_
        rfl
      · have h0 : ¬ 0 < k := by have := of_decide_eq_false h; omega
        rw [if_neg h0]
        rfl
      subst e
      have tl2 : (if 0 < k then t ++ [44] else t).length ≤ 501 := by
        split
        · simp; omega
        · omega
      generalize eu : (if 0 < k then t ++ [44] else t) = u at tl2
      refine ws_seq (ws_asgD (i := 4) (evd_addSt (a := u ++ [32]) (b := bareL c) (evd_addSt (a := u) (b := [32]) (evd_var rfl) (evd_lit lit_blank) (by simp; omega)) (evd_ixL (j := k) (evs_own rfl) (evd_var rfl) rfl hx) (by simp; omega)) ?_)
      refine ws_when (evt_test (evd_eqSt (evd_ixL (j := k) (evs_own rfl) (evd_var rfl) rfl hx) (evd_lit lit_empty))) (fun h => ?_) (fun h => ?_)
      · refine ws_asgD (i := 4) (evd_addSt (a := u ++ [32] ++ bareL c) (b := [45]) (evd_var rfl) (evd_lit lit_dash) (by simp; omega)) ⟨textStep cs t k, rfl, ?_⟩
        have e : textStep cs t k = u ++ [32] ++ bareL c ++ [45] := by
          unfold textStep
          rw [eu, ← ec, word_bare, if_pos (of_decide_eq_true h)]
          simp
        dsimp only
        rw [e]
        walk_at "weak"
      · refine ⟨textStep cs t k, rfl, ?_⟩
        have e : textStep cs t k = u ++ [32] ++ bareL c := by
          unfold textStep
          rw [eu, ← ec, word_bare, if_neg (of_decide_eq_false h)]
          simp
        dsimp only
        rw [e]
        walk_at "weak"
    rw [fold_go, Int.toNat_natCast, text_fold n cs cs.length (Nat.le_refl _), List.take_length]
    exact ws_ret (evd_var rfl) rfl

/-! #### _law_odd -/
abbrev s__law_odd : Stmt := top 34
abbrev nm__law_odd : List Str := ["cell", "some"]
theorem sc__law_odd : FnScope nm__law_odd ["cell"] (defScope s__law_odd) := ⟨rfl, rfl, rfl, by decide +kernel, rfl, by decide +kernel, by decide +kernel⟩
def R__law_odd : List D → Res → Prop := fun ds r => ∃ x : Int, ds = [.int x] ∧ r = .val (.str (st (oddL x)))
theorem ok__law_odd (T : Txt G mg) {f : Addr} {fd : FuncData} (F : Fun G.K "_law_odd" "_law_odd" s__law_odd f fd)  : FnOk P w G.K mg base CX0 1 f fd ["cell"] (mkSp G R__law_odd) := by
  refine okD F sc__law_odd (fun ds r hR => ?_) (by decide) (fun cdv A outer s H E hr => ⟨_, (pss_cons (ps_asg (pe_lst (pa_cons pe_str (pa_cons pe_str (pa_cons pe_str (pa_cons pe_str (pa_cons pe_str (pa_cons pe_str (pa_cons pe_str (pa_cons pe_str (pa_cons pe_str (pa_cons pe_str pa_nil))))))))))) (pg_name (i := 1) sc__law_odd.nd rfl (by first | exact Or.inl rfl | exact Or.inr rfl))) (pss_cons (ps_asg (pe_op op_cat (pv 1) (pe_lst (pa_cons pe_str (pa_cons pe_str (pa_cons pe_str (pa_cons pe_str (pa_cons pe_str (pa_cons pe_str (pa_cons pe_str pa_nil))))))))) (pg_name (i := 1) sc__law_odd.nd rfl (by first | exact Or.inl rfl | exact Or.inr rfl))) (pss_one (ps_ret (pe_ix (k_ixL G.K) (pv 1) (pe_op op_mod (pv 0) pe_int) (fun _ _ => rfl)))))), fun ds r hR => ?_⟩)
  · obtain ⟨x, rfl, rfl⟩ := hR
    rfl
  · obtain ⟨x, rfl, rfl⟩ := hR
    show WS G _ _ _ [.im (.int x), .no]
    have h17 : 0 ≤ x % 17 ∧ x % 17 < 17 := ⟨Int.emod_nonneg _ (by decide), Int.emod_lt_of_pos _ (by decide)⟩
    refine ws_seq (ws_asgN (i := 1) (evn_is (evn_lst (evad_cons (evd_lit lit_odd0) (evad_cons (evd_lit lit_odd1) (evad_cons (evd_lit lit_odd2) (evad_cons (evd_lit lit_odd3) (evad_cons (evd_lit lit_odd4) (evad_cons (evd_lit lit_odd5) (evad_cons (evd_lit lit_odd6) (evad_cons (evd_lit lit_odd7) (evad_cons (evd_lit lit_odd8) (evad_cons (evd_lit lit_odd9) evad_nil))))))))))) (es := oddsA.map sD) rfl) ?_)
    refine ws_seq (ws_asgN (i := 1) (evn_catW (a := oddsA) (b := oddsB) (evs_own rfl) (evs_new (evn_is (evn_lst (evad_cons (evd_lit lit_odd10) (evad_cons (evd_lit lit_odd11) (evad_cons (evd_lit lit_odd12) (evad_cons (evd_lit lit_odd13) (evad_cons (evd_lit lit_odd14) (evad_cons (evd_lit lit_odd15) (evad_cons (evd_lit lit_odd16) evad_nil)))))))) (es := oddsB.map sD) rfl)) (by decide)) ?_)
    refine ws_ret (evd_ixL (d := sD (oddL x)) (j := (x % 17).toNat) (evs_own rfl) (evd_mod (evd_var rfl) evd_int (by decide)) (by omega) ?_) rfl
    unfold oddL
    have hlt : (x % 17).toNat < (oddsA ++ oddsB).length := by
      show _ < 17
      omega
    rw [List.getElem?_map, List.getD_eq_getElem?_getD, List.getElem?_eq_getElem hlt]
    rfl

/-! #### _law_crowd -/
abbrev s__law_crowd : Stmt := top 35
abbrev nm__law_crowd : List Str := ["word", "many", "members", "part"]
theorem sc__law_crowd : FnScope nm__law_crowd ["word", "many"] (defScope s__law_crowd) := ⟨rfl, rfl, rfl, by decide +kernel, rfl, by decide +kernel, by decide +kernel⟩
theorem lit_fig5 : Str.ofString "01234" = st [48, 49, 50, 51, 52] := by decide +kernel
theorem fig5_at : ∀ k < 5, Builtin.Str.occurrences (st [48, 49, 50, 51, 52]) (st [48 + k]) 0 (st [48, 49, 50, 51, 52]).length 1 = [k] := by decide +kernel
theorem figs_in {m c : Nat} (hm : m ≤ 5) : c ∈ ([48, 49, 50, 51, 52] : List Nat).take m ↔ 48 ≤ c ∧ c < 48 + m := by
  have h : m = 0 ∨ m = 1 ∨ m = 2 ∨ m = 3 ∨ m = 4 ∨ m = 5 := by omega
  rcases h with e | e | e | e | e | e <;> subst e <;> simp <;> omega
def crowdStep (m : Nat) (acc : List Int) (p : List Nat) : Go (List Int) := match memL m p with
  | some k => .go (acc ++ [k])
  | none => .stop (.val .non)
theorem crowd_fold (m : Nat) : ∀ (ps : List (List Nat)) (acc : List Int), foldGo (crowdStep m) acc ps = (match optAll (memL m) ps with
  | some ms => .go (acc ++ ms)
  | none => .stop (.val .non))
  | [], acc => by
    show Go.go acc = Go.go (acc ++ [])
    rw [List.append_nil]
  | p :: ps, acc => by
    unfold foldGo optAll crowdStep
    cases memL m p with
    | none => rfl
    | some k =>
      show foldGo (crowdStep m) (acc ++ [k]) ps = _
      rw [crowd_fold m ps (acc ++ [k])]
      cases optAll (memL m) ps with
      | none => rfl
      | some ms =>
        show Go.go (acc ++ [k] ++ ms) = Go.go (acc ++ (k :: ms))
        rw [List.append_assoc]
        rfl
def R__law_crowd : List D → Res → Prop := fun ds r => ∃ (l : List Nat) (m : Nat), ds = [.str (st l), .int m] ∧ m ≤ 5 ∧ l.length ≤ 900 ∧ r = .val (optC (lawCrowdL m l))
theorem ok__law_crowd (T : Txt G mg) {f : Addr} {fd : FuncData} (F : Fun G.K "_law_crowd" "_law_crowd" s__law_crowd f fd)  : FnOk P w G.K mg base CX0 1 f fd ["word", "many"] (mkSp G R__law_crowd) := by
  refine okD F sc__law_crowd (fun ds r hR => ?_) (by decide) (fun cdv A outer s H E hr => ⟨_, (pss_cons (ps_if (pt_cmpR op_eq (pv 0) pe_str (nomark _)) (pss_one (ps_ret (pe_tup pa_nil))) pss_nil) (pss_cons (ps_if (pt_cmpR op_ne (pe_slice sl_str (pv 0) po_none (po_some pe_int)) pe_str (nomark _)) (pss_one (ps_ret pe_non)) pss_nil) (pss_cons (ps_asg (pe_lst pa_nil) (pg_name (i := 2) sc__law_crowd.nd rfl (by first | exact Or.inl rfl | exact Or.inr rfl))) (pss_cons (ps_for PassesOwn.never rfl (k_pl G.K (k_split (pe_slice sl_str (pv 0) (po_some pe_int) po_none) pe_str)) (pg_name (i := 3) sc__law_crowd.nd rfl (by first | exact Or.inl rfl | exact Or.inr rfl)) (pss_cons (ps_if (PW.pt (pw_or (pt_cmpR op_ne (pe_callB call_len_str (by rfl) T.len PySem.boot_len (pa_cons (pv 3) pa_nil)) pe_int (nomark _)) (pw_or1 (pt_cmpR op_notin_str (pv 3) (pe_slice sl_str pe_str po_none (po_some (pv 1))) rfl)))) (pss_one (ps_ret pe_non)) pss_nil) (pss_one (ps_expr (pe_bm PySem.F.plainAttrs_list PySem.F.slot_list_append PySem.F.type_list_append mt_append (pv 2) (pa_cons (k_indexS pe_str (pv 3)) pa_nil)))))) (pss_cons (ps_if (pt_cmpR (k_neD G.K hr.units) (pv 2) (pe_callB (k_sortedSet w rfl) (by rfl) T.sorted (by decide +kernel) (pa_cons (pe_callTy (k_setLI w G.K rfl) (by rfl) T.set (by decide +kernel) (pa_cons (pv 2) pa_nil)) pa_nil)) (nomark _)) (pss_one (ps_ret pe_non)) pss_nil) (pss_one (ps_ret (pe_callTy (k_tuple G.K) (by rfl) T.tuple (by decide +kernel) (pa_cons (pv 2) pa_nil))))))))), fun ds r hR => ?_⟩)
  · obtain ⟨l, m, rfl, hm, hw, rfl⟩ := hR
    rfl
  · obtain ⟨l, m, rfl, hm, hw, rfl⟩ := hR
    show WS G _ _ _ [.im (.str (st l)), .im (.int m), .no, .no]
    unfold lawCrowdL
    by_cases h1 : l = [32, 45]
    · rw [if_pos h1]
      exact ws_seq (ws_when (evt_test (evd_eqSt (evd_var rfl) (evd_lit lit_bdash))) (fun _ => ws_ret (evd_tup evad_nil) rfl) (fun h => absurd h1 (of_decide_eq_false h)))
    rw [if_neg h1]
    refine ws_seq (ws_when (evt_test (evd_eqSt (evd_var rfl) (evd_lit lit_bdash))) (fun h => absurd (of_decide_eq_true h) h1) (fun _ => ?_))
    have test := evt_test (evd_neSt (a := l.take 1) (evd_is (G := G) (ρ := [.im (.str (st l)), .im (.int m), .no, .no]) (evd_cutS (lo := none) (hi := some ((1 : Nat) : Int)) (evd_var (i := 0) rfl) (by omega) evo_none (evo_some evd_int)) (by rw [cut_take])) (evd_lit lit_blank))
    by_cases h2 : l.take 1 = [32]
    · rw [if_pos h2]
      refine ws_seq (ws_when test (fun h => by rw [h2] at h; simp at h) (fun _ => ?_))
      refine ws_seq (ws_asgN (i := 2) (evn_lst evad_nil) ?_)
      have sl := splitL_len 43 (l.drop 1)
      have se := splitL_each 43 (l.drop 1)
      rw [List.length_drop] at sl se
      refine ws_seq (ws_forL (splitL 43 (l.drop 1)) (fun p => .str (st p)) (fun acc : List Int => [.im (.str (st l)), .im (.int m), .own (acc.map .int), .no]) (crowdStep m) [] (evz_new (evn_split (l := l.drop 1) (evd_is (evd_cutS (l := l) (lo := some ((1 : Nat) : Int)) (hi := none) (evd_var (i := 0) rfl) (by omega) (evo_some evd_int) evo_none) (by rw [cut_drop])) (evd_lit lit_plus) (by rw [List.length_drop]; omega))) (by walk_at "weak") (fun i acc p hp hf => ?_) ?_)
      · have hpm := List.mem_of_getElem? hp
        have hpl := se p hpm
        have hal : acc.length ≤ 901 := by
          rw [crowd_fold] at hf
          cases q : optAll (memL m) ((splitL 43 (l.drop 1)).take i) with
          | none => rw [q] at hf; cases hf
          | some ms =>
            rw [q] at hf
            have e : acc = ms := by
              injection hf with hf
              rw [← hf]
              rfl
            rw [e, optAll_len q, List.length_take]
            omega
        clear hf
        have lenT := evt_test (evd_neI (evd_lenSt (G := G) (ρ := [.im (.str (st l)), .im (.int m), .own (acc.map .int), .im (.str (st p))]) (l := p) (evd_var (i := 3) rfl) (by omega)) (evd_int (i := 1)))
        by_cases h3 : p.length = 1
        · obtain ⟨c, rfl⟩ : ∃ c, p = [c] := by
            cases p with
            | nil => cases h3
            | cons c r =>
              cases r with
              | nil => exact ⟨c, rfl⟩
              | cons x y => simp at h3
          have both := evt_or lenT (fun _ => evt_test (evd_ninS (c := c) (l := ([48, 49, 50, 51, 52] : List Nat).take m) (evd_var (i := 3) rfl) (evd_is (evd_cutS (lo := none) (hi := some (m : Int)) (evd_lit lit_fig5) (by decide) evo_none (evo_some (evd_var (i := 1) rfl))) (by rw [cut_take]))))
          by_cases h4 : 48 ≤ c ∧ c < 48 + m
          · have em : crowdStep m acc [c] = .go (acc ++ [((c - 48 : Nat) : Int)]) := by
              unfold crowdStep memL
              dsimp only
              rw [if_pos h4]
            rw [em]
            refine ws_seq (ws_when both (fun h => ?_) (fun _ => ?_))
            · rw [decide_eq_true ((figs_in hm).mpr h4)] at h
              simp at h
            · obtain ⟨k, rfl⟩ : ∃ k, c = 48 + k := ⟨c - 48, by omega⟩
              refine ws_append rfl (evd_indexS (evd_lit lit_fig5) (evd_var rfl) (fig5_at k (by omega))) (by simp; omega) ⟨_, rfl, ?_⟩
              rw [Nat.add_sub_cancel_left]
              dsimp only
              rw [List.map_append]
              walk_at "weak"
          · have em : crowdStep m acc [c] = .stop (.val .non) := by
              unfold crowdStep memL
              dsimp only
              rw [if_neg h4]
            rw [em]
            refine ws_seq (ws_when both (fun _ => ws_ret evd_non rfl) (fun h => ?_))
            rw [decide_eq_false fun z => h4 ((figs_in hm).mp z)] at h
            simp at h
        · have em : crowdStep m acc p = .stop (.val .non) := by
            unfold crowdStep memL
            split
            · rename_i q
              split at q
              · simp at h3
              · cases q
            · rfl
          rw [em]
          have e3 : (!decide ((p.length : Int) = 1)) = true := by simp; omega
          refine ws_seq (ws_when (evt_or (c := true) lenT (fun h => by rw [e3] at h; cases h)) (fun _ => ws_ret evd_non rfl) (fun h => by rw [e3] at h; cases h))
      · rw [crowd_fold]
        cases q : optAll (memL m) (splitL 43 (l.drop 1)) with
        | none => rfl
        | some ms =>
          rw [Option.bind_some]
          show WS G _ _ _ [.im (.str (st l)), .im (.int m), .own (([] ++ ms).map .int), .no]
          rw [List.nil_append]
          have hml : ms.length ≤ 901 := by
            rw [optAll_len q]
            omega
          have hb : ∀ k ∈ ms, 0 ≤ k ∧ k < (m : Int) := (optAll_back (g := digL) (p := fun k : Int => 0 ≤ k ∧ k < m) q fun x y _ hxy => memL_some hxy).2
          have t2 := evt_test (evd_neL (G := G) (ρ := [.im (.str (st l)), .im (.int m), .own (ms.map .int), .no]) encI (evs_own (i := 2) rfl) (evs_new (evn_sortedSetLI (w := w) (ms := sortU ms) (evs_own (i := 2) rfl) (by omega) (fun k hk => by have := hb k hk; omega) (sortU_sorted ms) (fun k => sortU_mem))))
          by_cases h5 : ms = sortU ms
          · rw [if_pos h5]
            exact ws_seq (ws_when t2 (fun h => by rw [decide_eq_true h5] at h; cases h) (fun _ => ws_ret (evd_tupleL (evs_own rfl) (by simp; omega)) rfl))
          · rw [if_neg h5]
            exact ws_seq (ws_when t2 (fun _ => ws_ret evd_non rfl) (fun h => by rw [decide_eq_false h5] at h; cases h))
    · rw [if_neg h2]
      exact ws_seq (ws_when test (fun _ => ws_ret evd_non rfl) (fun h => by rw [decide_eq_false h2] at h; cases h))

/-! #### _law_due -/
abbrev s__law_due : Stmt := top 36
abbrev nm__law_due : List Str := ["text", "many", "crowds", "rows", "one", "other", "word", "crowd"]
theorem sc__law_due : FnScope nm__law_due ["text"] (defScope s__law_due) := ⟨rfl, rfl, rfl, by decide +kernel, rfl, by decide +kernel, by decide +kernel⟩
theorem lit_fig6 : Str.ofString "012345" = st [48, 49, 50, 51, 52, 53] := by decide +kernel
theorem lit_15 : Str.ofString "12345" = st [49, 50, 51, 52, 53] := by decide +kernel
theorem fig6_at : ∀ k < 6, Builtin.Str.occurrences (st [48, 49, 50, 51, 52, 53]) (st [48 + k]) 0 (st [48, 49, 50, 51, 52, 53]).length 1 = [k] := by decide +kernel
theorem optAll_cases {α β : Type} (f : α → Option β) : ∀ xs : List α, (∃ ys, optAll f xs = some ys ∧ xs.map f = ys.map some) ∨ (optAll f xs = none ∧ none ∈ xs.map f)
  | [] => .inl ⟨[], rfl, rfl⟩
  | x :: xs => by
    unfold optAll
    rw [List.map_cons]
    cases q : f x with
    | none => exact .inr ⟨rfl, List.mem_cons_self⟩
    | some a =>
      rcases optAll_cases f xs with ⟨ys, e, e2⟩ | ⟨e, e2⟩
      · rw [e]
        exact .inl ⟨a :: ys, rfl, by rw [e2, List.map_cons]⟩
      · rw [e]
        exact .inr ⟨rfl, List.mem_cons_of_mem _ e2⟩
theorem fold_stop {α : Type} (p : α → Bool) (r : Res) : ∀ xs : List α, foldGo (fun (_ : Unit) x => if p x = true then Go.go () else Go.stop r) () xs = if xs.all p = true then Go.go () else Go.stop r
  | [] => rfl
  | x :: xs => by
    unfold foldGo
    rw [List.all_cons]
    cases h : p x with
    | true =>
      rw [if_pos rfl, Bool.true_and]
      exact fold_stop p r xs
    | false =>
      rw [if_neg (by decide), Bool.false_and, if_neg (by decide)]
theorem encRow : Enc eRow 2 := Enc.pair (e := D.int) (f := fun xs : List Int => D.tup (xs.map D.int)) ⟨encI.pl, encI.lay, fun a => Nat.le_trans (encI.dep a) (by decide), encI.eqv⟩ encC
def aparts (one : Crowd) (other : Crowd) : Bool := !(!decide (one = other) && liesIn one other)
theorem apart_all (cs : List Crowd) : (cs.all fun one => cs.all (aparts one)) = decide (apart cs) := by
  rw [Bool.eq_iff_iff, decide_eq_true_eq, List.all_eq_true]
  unfold apart
  constructor
  · intro h a ha b hb hne
    have z := List.all_eq_true.mp (h a ha) b hb
    unfold aparts at z
    rw [decide_eq_false hne] at z
    simpa using z
  · intro h a ha
    refine List.all_eq_true.mpr fun b hb => ?_
    unfold aparts
    by_cases e : a = b
    · simp [e]
    · rw [h a ha b hb e]
      simp
def R__law_due : List D → Res → Prop := fun ds r => ∃ l : List Nat, ds = [.str (st l)] ∧ l.length ≤ 600 ∧ l.count 44 ≤ 40 ∧ r = .val (dueD (dueL l))
theorem ok__law_due (T : Txt G mg) {f : Addr} {fd : FuncData} (F : Fun G.K "_law_due" "_law_due" s__law_due f fd) (H__law_crowd : Fn G P w mg base "_law_crowd" 1 ["word", "many"] R__law_crowd) (H__law_in : Fn G P w mg base "_law_in" 1 ["crowd", "other"] R__law_in) : FnOk P w G.K mg base CX0 2 f fd ["text"] (mkSp G R__law_due) := by
  refine okD F sc__law_due (fun ds r hR => ?_) (by decide) (fun cdv A outer s H E hr => ⟨_, (pss_cons (ps_if (PW.pt (pw_or (pt_cmpR op_eq (pe_slice sl_str (pv 0) po_none (po_some pe_int)) pe_str (nomark _)) (pw_or (pt_cmpR op_notin_str (pe_slice sl_str (pv 0) po_none (po_some pe_int)) pe_str rfl) (pw_or1 (pt_cmpR op_ne (pe_slice sl_str (pv 0) (po_some pe_int) (po_some pe_int)) pe_str (nomark _)))))) (pss_one (ps_ret pe_non)) pss_nil) (pss_cons (ps_asg (k_indexS pe_str (pe_slice sl_str (pv 0) po_none (po_some pe_int))) (pg_name (i := 1) sc__law_due.nd rfl (by first | exact Or.inl rfl | exact Or.inr rfl))) (pss_cons (ps_if (pt_cmpR op_eq (pe_slice sl_str (pv 0) (po_some pe_int) po_none) pe_str (nomark _)) (pss_one (ps_ret (pe_tup (pa_cons (pv 1) (pa_cons (pe_lst pa_nil) pa_nil))))) pss_nil) (pss_cons (ps_setLc (i := 2) (own := [("word", 6)]) (g := gName 6) (tt := tYes) rfl sc__law_due.nd rfl rfl (sw_true rfl rfl rfl (by decide +kernel)) (k_pl G.K (k_split (pe_slice sl_str (pv 0) (po_some pe_int) po_none) pe_str)) (blkOk_by (N := nm__law_due) (sc := defScope s__law_due) (by decide +kernel)) (fun _ _ _ _ _ => pg_name (i := 6) sc__law_due.nd rfl (by first | exact Or.inl rfl | exact Or.inr rfl)) (fun _ _ _ _ _ => pts_nil) (fun _ _ _ _ _ => (pe_callF H__law_crowd (hr.mono (by decide)) rfl (pa_cons (pv 6) (pa_cons (pv 1) pa_nil))))) (pss_cons (ps_if (pt_cmpR (k_inD (K := G.K) (hu100 hr)) pe_non (pv 2) rfl) (pss_one (ps_ret pe_non)) pss_nil) (pss_cons (ps_setLc (i := 3) (own := [("crowd", 7)]) (g := gName 7) (tt := tYes) rfl sc__law_due.nd rfl rfl (sw_true rfl rfl rfl (by decide +kernel)) (k_pl G.K (pv 2)) (blkOk_by (N := nm__law_due) (sc := defScope s__law_due) (by decide +kernel)) (fun _ _ _ _ _ => pg_name (i := 7) sc__law_due.nd rfl (by first | exact Or.inl rfl | exact Or.inr rfl)) (fun _ _ _ _ _ => pts_nil) (fun _ _ _ _ _ => (pe_tup (pa_cons (pe_callB (k_len G.K) (by rfl) T.len PySem.boot_len (pa_cons (pv 7) pa_nil)) (pa_cons (pv 7) pa_nil))))) (pss_cons (ps_if (pt_cmpR (k_neD G.K hr.units) (pv 3) (pe_callB (k_sortedRow w rfl (hu100 hr)) (by rfl) T.sorted (by decide +kernel) (pa_cons (pe_callTy (k_setRow w G.K rfl (hu100 hr)) (by rfl) T.set (by decide +kernel) (pa_cons (pv 3) pa_nil)) pa_nil)) (nomark _)) (pss_one (ps_ret pe_non)) pss_nil) (pss_cons (ps_for PassesOwn.never rfl (k_pl G.K (pv 2)) (pg_name (i := 4) sc__law_due.nd rfl (by first | exact Or.inl rfl | exact Or.inr rfl)) (pss_one (ps_for PassesOwn.never rfl (k_pl G.K (pv 2)) (pg_name (i := 5) sc__law_due.nd rfl (by first | exact Or.inl rfl | exact Or.inr rfl)) (pss_one (ps_if (PW.pt (pw_and (pt_cmpR (k_neD G.K hr.units) (pv 4) (pv 5) (nomark _)) (pw_and1 (pt_val (pe_callF H__law_in (hr.mono (by decide)) rfl (pa_cons (pv 4) (pa_cons (pv 5) pa_nil))))))) (pss_one (ps_ret pe_non)) pss_nil))))) (pss_one (ps_ret (pe_tup (pa_cons (pv 1) (pa_cons (pv 2) pa_nil))))))))))))), fun ds r hR => ?_⟩)
  · obtain ⟨l, rfl, hl, hc, rfl⟩ := hR
    rfl
  · obtain ⟨l, rfl, hl, hc, rfl⟩ := hR
    show WS G _ _ _ [.im (.str (st l)), .no, .no, .no, .no, .no, .no, .no]
    have cutT : EvD G (tSl rSlS (tVar 0) tNoPart (tPart (tC (.int 1)))) [.im (.str (st l)), .no, .no, .no, .no, .no, .no, .no] (.str (st (l.take 1))) := evd_is (evd_cutS (lo := none) (hi := some ((1 : Nat) : Int)) (evd_var rfl) (by omega) evo_none (evo_some evd_int)) (by rw [cut_take])
    cases hq : l with
    | nil =>
      have et : decide (l.take 1 = []) = true := by rw [hq]; rfl
      rw [← hq]
      have ed : dueL l = none := by rw [hq]; rfl
      rw [ed]
      exact ws_seq (ws_when (evt_or (c := true) (evt_test (evd_eqSt cutT (evd_lit lit_empty))) (fun h => by rw [et] at h; cases h)) (fun _ => ws_ret evd_non rfl) (fun h => by rw [et] at h; cases h))
    | cons x r =>
      rw [← hq]
      have e1 : l.take 1 = [x] := by rw [hq]; rfl
      rw [e1] at cutT
      have test := evt_or (evt_test (evd_eqSt cutT (evd_lit lit_empty))) (fun _ => evt_or (evt_test (evd_ninS (c := x) (l := [49, 50, 51, 52, 53]) cutT (evd_lit lit_15))) (fun _ => evt_test (evd_neSt (a := (l.drop 1).take (2 - 1)) (b := [58]) (evd_is (evd_cutS (l := l) (lo := some ((1 : Nat) : Int)) (hi := some ((2 : Nat) : Int)) (evd_var (i := 0) rfl) (by omega) (evo_some evd_int) (evo_some evd_int)) (by rw [cut_mid _ 1 2 (by decide)])) (evd_lit lit_colon))))
      have em : decide (x ∈ ([49, 50, 51, 52, 53] : List Nat)) = decide (49 ≤ x ∧ x ≤ 53) := decide_eq_decide.mpr (by simp; omega)
      rw [em] at test
      by_cases hok : (49 ≤ x ∧ x ≤ 53) ∧ (l.drop 1).take 1 = [58]
      · have ed : dueL l = if l.drop 2 = [] then some (x - 48, []) else (optAll (lawCrowdL (x - 48)) (splitL 44 (l.drop 2))).bind (dueWith (x - 48)) := by
          unfold dueL
          rw [e1]
          dsimp only
          rw [if_pos hok]
        refine ws_seq (ws_when test (fun h => ?_) (fun _ => ?_))
        · rw [decide_eq_true hok.1, decide_eq_true hok.2] at h
          simp at h
        obtain ⟨m, rfl⟩ : ∃ m, x = 48 + m := ⟨x - 48, by omega⟩
        rw [Nat.add_sub_cancel_left] at ed
        have h5 : m ≤ 5 := by omega
        refine ws_seq (ws_asgD (i := 1) (d := .int (m : Nat)) (evd_indexS (evd_lit lit_fig6) cutT (fig6_at m (by omega))) ?_)
        have restD : ∀ {ρ : Rho}, ρ[0]? = some (.im (.str (st l))) → EvD G (tSl rSlS (tVar 0) (tPart (tC (.int 2))) tNoPart) ρ (.str (st (l.drop 2))) := fun h => evd_is (evd_cutS (lo := some ((2 : Nat) : Int)) (hi := none) (evd_var h) (by omega) (evo_some evd_int) evo_none) (by rw [cut_drop])
        by_cases hr0 : l.drop 2 = []
        · rw [ed, if_pos hr0]
          exact ws_seq (ws_when (evt_test (evd_eqSt (restD rfl) (evd_lit lit_empty))) (fun _ => ws_ret (evd_tup (evad_cons (evd_var rfl) (evad_cons (evd_new (evn_lst evad_nil)) evad_nil))) rfl) (fun h => by rw [decide_eq_true hr0] at h; cases h))
        rw [ed, if_neg hr0]
        refine ws_seq (ws_when (evt_test (evd_eqSt (restD rfl) (evd_lit lit_empty))) (fun h => by rw [decide_eq_false hr0] at h; cases h) (fun _ => ?_))
        have se := splitL_each 44 (l.drop 2)
        have sc := split_count 44 (l.drop 2)
        have sd := count_drop 44 l 2
        rw [List.length_drop] at se
        generalize hps : splitL 44 (l.drop 2) = ps at se sc
        refine ws_seq (ws_asgN (i := 2) (evn_is (evn_lcL ps sD (fun _ => true) (fun p => optC (lawCrowdL m p)) (evs_new (evn_is (evn_split (c := 44) (l := l.drop 2) (restD rfl) (evd_lit lit_comma) (by rw [List.length_drop]; omega)) (es := ps.map sD) (by rw [hps]; rfl))) (by omega) (by simp) (fun _ _ => evt_yes) (fun p hp _ => evd_call (ea2 (evd_var rfl) (evd_var rfl)) ⟨p, m, rfl, h5, by have := se p hp; omega, rfl⟩)) (es := (ps.map (lawCrowdL m)).map optC) (by rw [filter_yes, List.map_map]; rfl)) ?_)
        have tn := evt_test (evd_inE (G := G) (ρ := [.im (.str (st l)), .im (.int m), .own ((ps.map (lawCrowdL m)).map optC), .no, .no, .no, .no, .no]) (a := (none : Option Crowd)) encO evd_non (evs_own (i := 2) rfl))
        rcases optAll_cases (lawCrowdL m) ps with ⟨cs, eo, es⟩ | ⟨eo, hn⟩
        · rw [eo, Option.bind_some]
          have hno : none ∉ ps.map (lawCrowdL m) := by
            rw [es]
            intro z
            obtain ⟨c, _, e⟩ := List.mem_map.mp z
            cases e
          refine ws_seq (ws_when tn (fun h => absurd (by simpa using h) hno) (fun _ => ?_))
          have ec : (ps.map (lawCrowdL m)).map optC = cs.map eC := by
            rw [es, List.map_map]
            rfl
          have hcl : cs.length ≤ 41 := by
            have := optAll_len eo
            omega
          have hb : ∀ c ∈ cs, crowdOk (m : Int) c = true := (optAll_back (g := wordL) (p := fun c : Crowd => crowdOk (m : Int) c = true) eo fun w c _ hw => lawCrowd_some hw).2
          have hc5 : ∀ c ∈ cs, c.length ≤ 5 := fun c hc => (cs_good h5 (crowd_listed h5 (hb c hc))).2
          show WS G _ _ _ [.im (.str (st l)), .im (.int m), .own ((ps.map (lawCrowdL m)).map optC), .no, .no, .no, .no, .no]
          rw [ec]
          refine ws_seq (ws_asgN (i := 3) (evn_is (evn_lcL cs eC (fun _ => true) (fun c => eRow (rowOf c)) (evs_own rfl) (by omega) (by simp) (fun _ _ => evt_yes) (fun c _ _ => evd_tup (evad_cons (evd_is (evd_lenT (ds := c.map .int) (evd_var rfl)) (y := .int (c.length : Int)) (by rw [List.length_map])) (evad_cons (evd_var rfl) evad_nil)))) (es := (cs.map rowOf).map eRow) (by rw [filter_yes, List.map_map]; rfl)) ?_)
          have t2 := evt_test (evd_neL (G := G) (ρ := [.im (.str (st l)), .im (.int m), .own (cs.map eC), .own ((cs.map rowOf).map eRow), .no, .no, .no, .no]) encRow (evs_own (i := 3) rfl) (evs_new (evn_sortedSetRow (w := w) (xs := cs.map rowOf) (ys := sortR (cs.map rowOf)) (evs_own (i := 3) rfl) (by rw [List.length_map]; omega) (sortR_sorted _).weak (sortR_sorted _).nodup (fun k => sortR_mem))))
          unfold dueWith
          by_cases h7 : cs.map rowOf = sortR (cs.map rowOf)
          · refine ws_seq (ws_when t2 (fun h => by rw [decide_eq_true h7] at h; cases h) (fun _ => ?_))
            refine ws_freeze 2 rfl ?_
            refine ws_seq (ws_forL cs eC (fun _ : Unit => [.im (.str (st l)), .im (.int m), .im (.lst (cs.map eC)), .no, .no, .no, .no, .no]) (fun _ one => if cs.all (aparts one) = true then .go () else .stop (.val .non)) () (evz_of (evd_var rfl)) (by walk_at "weak") (fun i s one hone hf => ?_) ?_)
            · have h1m := List.mem_of_getElem? hone
              refine ws_forL cs eC (fun _ : Unit => [.im (.str (st l)), .im (.int m), .im (.lst (cs.map eC)), .no, .im (eC one), .no, .no, .no]) (fun _ other => if aparts one other = true then .go () else .stop (.val .non)) () (evz_of (evd_var rfl)) (by walk_at "weak") (fun i2 s2 other hother hf2 => ?_) ?_
              · have t3 := evt_and (G := G) (ρ := [.im (.str (st l)), .im (.int m), .im (.lst (cs.map eC)), .no, .im (eC one), .im (eC other), .no, .no]) (evt_test (evd_neC (a := one) (b := other) (evd_var (i := 4) rfl) (evd_var (i := 5) rfl))) (fun _ => evt_B (evd_call (R := R__law_in) (Ex := E0) (ea2 (evd_var (i := 4) rfl) (evd_var (i := 5) rfl)) ⟨one, other, rfl, by have := hc5 one h1m; omega, rfl⟩))
                by_cases h8 : aparts one other = true
                · rw [if_pos h8]
                  refine ws_when t3 (fun h => ?_) (fun _ => ⟨(), rfl, by walk_at "weak"⟩)
                  unfold aparts at h8
                  rw [h] at h8
                  cases h8
                · rw [if_neg h8]
                  refine ws_when t3 (fun _ => ws_ret evd_non rfl) (fun h => ?_)
                  unfold aparts at h8
                  rw [h] at h8
                  exact absurd rfl h8
              · rw [fold_stop]
                by_cases h9 : cs.all (aparts one) = true
                · rw [if_pos h9]
                  exact ⟨(), rfl, by walk_at "weak"⟩
                · rw [if_neg h9]
                  rfl
            · rw [fold_stop, apart_all]
              by_cases h9 : apart cs
              · rw [decide_eq_true h9, if_pos rfl, if_pos ⟨h7, h9⟩]
                exact ws_ret (evd_tup (evad_cons (evd_var rfl) (evad_cons (evd_var rfl) evad_nil))) rfl
              · rw [decide_eq_false h9, if_neg (show ¬ (false = true) by decide), if_neg (show ¬ (cs.map rowOf = sortR (cs.map rowOf) ∧ apart cs) from fun z => h9 z.2)]
                rfl
          · rw [if_neg fun z => h7 z.1]
            exact ws_seq (ws_when t2 (fun _ => ws_ret evd_non rfl) (fun h => by rw [decide_eq_false h7] at h; cases h))
        · rw [eo]
          exact ws_seq (ws_when tn (fun _ => ws_ret evd_non rfl) (fun h => absurd hn (by simpa using h)))
      · have ed : dueL l = none := by
          unfold dueL
          rw [e1]
          dsimp only
          rw [if_neg hok]
        rw [ed]
        refine ws_seq (ws_when test (fun _ => ws_ret evd_non rfl) (fun h => ?_))
        exfalso
        refine hok ⟨?_, ?_⟩
        · apply Classical.byContradiction
          intro z
          rw [decide_eq_false z] at h
          simp at h
        · apply Classical.byContradiction
          intro z
          rw [decide_eq_false (p := (l.drop 1).take (2 - 1) = [58]) z] at h
          simp at h

/-! #### number_of -/
abbrev s_number_of : Stmt := top 18
abbrev nm_number_of : List Str := ["word"]
theorem sc_number_of : FnScope nm_number_of ["word"] (defScope s_number_of) := ⟨rfl, rfl, rfl, by decide +kernel, rfl, by decide +kernel, by decide +kernel⟩
theorem lit_figs : Str.ofString "0123456789" = st [48, 49, 50, 51, 52, 53, 54, 55, 56, 57] := by decide +kernel
theorem fig_at : ∀ k < 10, Builtin.Str.occurrences (st [48, 49, 50, 51, 52, 53, 54, 55, 56, 57]) (st [48 + k]) 0 (st [48, 49, 50, 51, 52, 53, 54, 55, 56, 57]).length 1 = [k] := by decide +kernel
def R_number_of : List D → Res → Prop := fun ds r => ∃ w : List Nat, ds = [.str (st w)] ∧ w.length ≤ 10000 ∧ r = (match numL w with | some i => .val (.int i) | none => .err .note)
theorem ok_number_of (T : Txt G mg) {f : Addr} {fd : FuncData} (F : Fun G.K "number_of" "number_of" s_number_of f fd) (X_BadNote : ExT G mg "BadNote" (G.ex .note)) (c_FIGURES : ∃ v, mg "FIGURES" = some v ∧ RelV (.str "0123456789") v) : FnOk P w G.K mg base (L2.CX P w) 1 f fd ["word"] (mkSp G R_number_of) := by
  obtain ⟨v_FIGURES, g_FIGURES, r_FIGURES⟩ := c_FIGURES
  refine okX F sc_number_of (fun ds r hR => ?_) (by decide) (fun cdv A outer s H E hr => ⟨_, (pss_cons (ps_if (PW.pt (pw_or (pt_cmpR op_ne (pe_callB call_len_str (by rfl) T.len PySem.boot_len (pa_cons (pv 0) pa_nil)) pe_int (nomark _)) (pw_or1 (pt_cmpR op_notin_str (pv 0) (pe_glob rfl g_FIGURES r_FIGURES) rfl)))) (pss_one (ps_raise rfl (takes_of rfl rfl rfl rfl) (pmk_own PySem.F.excBase_ValueError X_BadNote.x X_BadNote.g X_BadNote.k (raises_own X_BadNote.b X_BadNote.t) rfl))) pss_nil) (pss_one (ps_ret (k_indexS (pe_glob rfl g_FIGURES r_FIGURES) (pv 0))))), fun ds r hR => ?_⟩)
  · obtain ⟨w, rfl, hw, rfl⟩ := hR
    rfl
  · obtain ⟨w, rfl, hw, rfl⟩ := hR
    show WS G _ _ _ [.im (.str (st w))]
    by_cases h1 : w.length = 1
    · obtain ⟨c, rfl⟩ : ∃ c, w = [c] := by
        cases w with
        | nil => cases h1
        | cons c r =>
          cases r with
          | nil => exact ⟨c, rfl⟩
          | cons x y => simp at h1
      have ein : decide (c ∈ [48, 49, 50, 51, 52, 53, 54, 55, 56, 57]) = decide (48 ≤ c ∧ c ≤ 57) := decide_eq_decide.mpr (by simp; omega)
      have test := evt_or (G := G) (ρ := [.im (.str (st [c]))]) (evt_test (evd_neI (evd_lenSt (evd_var (i := 0) rfl) (by simp)) (evd_int (i := 1)))) (fun _ => evt_test (evd_ninS (c := c) (l := [48, 49, 50, 51, 52, 53, 54, 55, 56, 57]) (evd_var (i := 0) rfl) (evd_lit lit_figs)))
      by_cases h2 : 48 ≤ c ∧ c ≤ 57
      · have en : numL [c] = some ((c - 48 : Nat) : Int) := by unfold numL; exact if_pos h2
        rw [en]
        refine ws_seq (ws_when test (fun h => ?_) (fun _ => ?_))
        · rw [ein, decide_eq_true h2] at h
          simp at h
        · obtain ⟨k, rfl⟩ : ∃ k, c = 48 + k := ⟨c - 48, by omega⟩
          exact ws_ret (evd_is (evd_indexS (evd_lit lit_figs) (evd_var rfl) (fig_at k (by omega))) (y := .int ((48 + k - 48 : Nat) : Int)) (by rw [Nat.add_sub_cancel_left])) rfl
      · have en : numL [c] = none := by unfold numL; exact if_neg h2
        rw [en]
        refine ws_seq (ws_when test (fun _ => ws_raise (e := .note) rfl) (fun h => ?_))
        rw [ein, decide_eq_false h2] at h
        simp at h
    · have en : numL w = none := by
        unfold numL
        split
        · simp at h1
        · rfl
      rw [en]
      refine ws_seq (ws_when (b := true) (evt_is (b := (!decide ((w.length : Int) = 1)) || true) (fun F0 H0 F H σ E Q q => (evt_test (evd_neI (evd_lenSt (evd_var rfl) (by omega)) evd_int)) F0 H0 F H σ E _ fun F1 H1 g => ?_) (by simp)) (fun _ => ws_raise (e := .note) rfl) (fun h => nomatch h))
      have e : (!decide ((w.length : Int) = 1)) = true := by simp; omega
      rw [e] at q ⊢
      exact q F1 H1 g

/-! #### crowd_of -/
abbrev s_crowd_of : Stmt := top 19
abbrev nm_crowd_of : List Str := ["word", "part"]
theorem sc_crowd_of : FnScope nm_crowd_of ["word"] (defScope s_crowd_of) := ⟨rfl, rfl, rfl, by decide +kernel, rfl, by decide +kernel, by decide +kernel⟩
def R_crowd_of : List D → Res → Prop := fun ds r => ∃ w : List Nat, ds = [.str (st w)] ∧ w.length ≤ 10000 ∧ r = optR .note ((crowdL w).map eC)
theorem ok_crowd_of (T : Txt G mg) {f : Addr} {fd : FuncData} (F : Fun G.K "crowd_of" "crowd_of" s_crowd_of f fd) (H_number_of : Fn G P w mg base "number_of" 1 ["word"] R_number_of) (X_BadNote : ExT G mg "BadNote" (G.ex .note)) : FnOk P w G.K mg base (L2.CX P w) 2 f fd ["word"] (mkSp G R_crowd_of) := by
  refine okX F sc_crowd_of (fun ds r hR => ?_) (by decide) (fun cdv A outer s H E hr => ⟨_, (pss_cons (ps_if (pt_cmpR op_eq (pv 0) pe_str (nomark _)) (pss_one (ps_ret (pe_tup pa_nil))) pss_nil) (pss_cons (ps_if (pt_cmpR op_ne (pe_slice sl_str (pv 0) po_none (po_some pe_int)) pe_str (nomark _)) (pss_one (ps_raise rfl (takes_of rfl rfl rfl rfl) (pmk_own PySem.F.excBase_ValueError X_BadNote.x X_BadNote.g X_BadNote.k (raises_own X_BadNote.b X_BadNote.t) rfl))) pss_nil) (pss_one (ps_ret (pe_callTy (k_tuple G.K) (by rfl) T.tuple (by decide +kernel) (pa_cons (pe_lcX (own := [("part", 1)]) (g := gName 1) rfl sc_crowd_of.nd rfl rfl (takes_of rfl rfl rfl rfl) (k_pl G.K (k_split (pe_slice sl_str (pv 0) (po_some pe_int) po_none) pe_str)) (blkOk_by (N := nm_crowd_of) (sc := defScope s_crowd_of) (by decide +kernel)) (fun _ _ _ _ _ _ => pg_name (i := 1) sc_crowd_of.nd rfl (by first | exact Or.inl rfl | exact Or.inr rfl)) (fun _ _ _ _ _ _ pass => (pe_callB' H_number_of (hr.mono (by decide)) rfl pass (pa_cons (pv 1) pa_nil)))) pa_nil)))))), fun ds r hR => ?_⟩)
  · obtain ⟨w, rfl, hw, rfl⟩ := hR
    rfl
  · obtain ⟨w, rfl, hw, rfl⟩ := hR
    show WS G _ _ _ [.im (.str (st w)), .no]
    unfold crowdL
    by_cases h1 : w = [32, 45]
    · rw [if_pos h1]
      exact ws_seq (ws_when (evt_test (evd_eqSt (evd_var rfl) (evd_lit lit_bdash))) (fun _ => ws_ret (evd_tup evad_nil) rfl) (fun h => absurd h1 (of_decide_eq_false h)))
    · rw [if_neg h1]
      refine ws_seq (ws_when (evt_test (evd_eqSt (evd_var rfl) (evd_lit lit_bdash))) (fun h => absurd (of_decide_eq_true h) h1) (fun _ => ?_))
      have test := evt_test (evd_neSt (a := w.take 1) (evd_is (G := G) (ρ := [.im (.str (st w)), .no]) (evd_cutS (lo := none) (hi := some ((1 : Nat) : Int)) (evd_var (i := 0) rfl) (by omega) evo_none (evo_some evd_int)) (by rw [cut_take])) (evd_lit lit_blank))
      by_cases h2 : w.take 1 = [32]
      · rw [if_pos h2]
        refine ws_seq (ws_when test (fun h => by rw [h2] at h; simp at h) (fun _ => ?_))
        have sl := splitL_len 43 (w.drop 1)
        have se := splitL_each 43 (w.drop 1)
        rw [List.length_drop] at sl
        have go := evx_tupleX (evx_lcL (Ex := E) (splitL 43 (w.drop 1)) (fun p => .str (st p)) (fun p => (numL p).map D.int) .note (j := 1) (vs := [1]) (evs_new (evn_split (l := w.drop 1) (evd_is (G := G) (ρ := [.im (.str (st w)), .no]) (evd_cutS (lo := some ((1 : Nat) : Int)) (hi := none) (evd_var (i := 0) rfl) (by omega) (evo_some evd_int) evo_none) (by rw [cut_drop])) (evd_lit lit_plus) (by rw [List.length_drop]; omega))) (by omega) (by simp) (fun p hp => evx_is (evx_call (R := R_number_of) (ea1 (evd_var (i := 1) rfl)) ⟨p, rfl, by have := se p hp; rw [List.length_drop] at this; omega, rfl⟩) (by cases numL p <;> rfl)))
        rw [optAll_out] at go
        refine ws_retX go ?_
        cases optAll numL (splitL 43 (w.drop 1)) <;> rfl
      · rw [if_neg h2]
        exact ws_seq (ws_when test (fun _ => ws_raise (e := .note) rfl) (fun h => by rw [decide_eq_false h2] at h; simp at h))

/-! #### look_at -/
abbrev s_look_at : Stmt := top 12
abbrev nm_look_at : List Str := ["many", "crowd", "last", "member"]
theorem sc_look_at : FnScope nm_look_at ["many", "crowd"] (defScope s_look_at) := ⟨rfl, rfl, rfl, by decide +kernel, rfl, by decide +kernel, by decide +kernel⟩
theorem fold_look (n : Int) : ∀ (c : List Int) (last : Int), ∃ l, foldGo (fun (last : Int) m => if m ≤ last ∨ m ≥ n then Go.err .crowd else .go m) last c = if goodFrom n last c then .go l else .err .crowd
  | [], last => ⟨last, rfl⟩
  | m :: c, last => by
    by_cases h : m ≤ last ∨ m ≥ n
    · exact ⟨0, by simp only [foldGo, goodFrom, if_pos h, Bool.false_eq_true, if_false]⟩
    · obtain ⟨l, e⟩ := fold_look n c m
      exact ⟨l, by simp only [foldGo, goodFrom, if_neg h]; exact e⟩
def R_look_at : List D → Res → Prop := fun ds r => ∃ (n : Int) (c : List Int), ds = [.int n, eC c] ∧ r = if crowdOk n c then .val .non else .err .crowd
theorem ok_look_at (T : Txt G mg) {f : Addr} {fd : FuncData} (F : Fun G.K "look_at" "look_at" s_look_at f fd) (X_BadCrowd : ExT G mg "BadCrowd" (G.ex .crowd)) : FnOk P w G.K mg base (L2N.CX P w) 1 f fd ["many", "crowd"] (mkSp G R_look_at) := by
  refine okN F sc_look_at (fun ds r hR => ?_) (by decide) (fun cdv A outer s H E hr => ⟨_, (pss_cons (ps_asg (pe_un un_neg pe_int) (pg_name (i := 2) sc_look_at.nd rfl (by first | exact Or.inl rfl | exact Or.inr rfl))) (pss_one (ps_for (passes_of rfl) rfl (k_pt G.K (pv 1)) (pg_name (i := 3) sc_look_at.nd rfl (by first | exact Or.inl rfl | exact Or.inr rfl)) (pss_cons (ps_if (PW.pt (pw_or (pt_cmpR op_le (pv 3) (pv 2) (nomark _)) (pw_or1 (pt_cmpR op_ge (pv 3) (pv 0) (nomark _))))) (pss_one (L2N.ps_raise rfl (L2N.takes_of rfl rfl rfl rfl) (L2N.pmk_own PySem.F.excBase_ValueError X_BadCrowd.x X_BadCrowd.g X_BadCrowd.k (raises_own X_BadCrowd.b X_BadCrowd.t) rfl))) pss_nil) (pss_one (ps_asg (pv 3) (pg_name (i := 2) sc_look_at.nd rfl (by first | exact Or.inl rfl | exact Or.inr rfl)))))))), fun ds r hR => ?_⟩)
  · obtain ⟨n, c, rfl, rfl⟩ := hR
    rfl
  · obtain ⟨n, c, rfl, rfl⟩ := hR
    show WS G _ _ _ [.im (.int n), .im (eC c), .no, .no]
    refine ws_seq (ws_asgD (evd_neg evd_int) ?_)
    refine ws_forT c D.int (fun last : Int => [.im (.int n), .im (eC c), .im (.int last), .no]) (fun last m => if m ≤ last ∨ m ≥ n then .err .crowd else .go m) (-1) (evd_var rfl) (by walk_at "weak") (fun i last m hm hf => ?_) ?_
    · refine ws_seq (ws_when (evt_or (evt_test (evd_le (evd_var rfl) (evd_var rfl))) (fun _ => evt_test (evd_ge (evd_var rfl) (evd_var rfl)))) (fun hb => ws_raise (e := .crowd) ?_) (fun hb => ?_))
      · have h : m ≤ last ∨ m ≥ n := by simpa using hb
        show (if m ≤ last ∨ m ≥ n then _ else _) = _
        rw [if_pos h]
      · have h : ¬ (m ≤ last ∨ m ≥ n) := by
          simp only [Bool.or_eq_false_iff, decide_eq_false_iff_not] at hb
          omega
        exact ws_asgD (evd_var rfl) ⟨m, by show (if m ≤ last ∨ m ≥ n then _ else _) = _; rw [if_neg h], by walk_at "weak"⟩
    · obtain ⟨l, e⟩ := fold_look n c (-1)
      rw [e]
      unfold crowdOk
      cases h : goodFrom n (-1) c with
      | true => exact rfl
      | false => exact rfl

/-! #### Council.__init__ -/
abbrev s_Council___init__ : Stmt := inClass (top 14) 0
abbrev nm_Council___init__ : List Str := ["self", "many", "crowds", "crowd"]
theorem sc_Council___init__ : FnScope nm_Council___init__ ["self", "many", "crowds"] (defScope s_Council___init__) := ⟨rfl, rfl, rfl, by decide +kernel, rfl, by decide +kernel, by decide +kernel⟩
theorem put_two (n : Int) (l : Addr) : putF "told" (.ref l) (putF "size" (.int n) []) = [(("size" : Str), V.int n), (("told" : Str), V.ref l)] := by
  have e : ¬ (("size" : Str) = "told") := by decide +kernel
  show (if ("size" : Str) = "told" then _ else (("size" : Str), V.int n) :: putF "told" (.ref l) []) = _
  rw [if_neg e]
  all_goals rfl
theorem ok_Council___init__ (T : Txt G mg) {f : Addr} {fd : FuncData} (F : Fun G.K "__init__" "Council.__init__" s_Council___init__ f fd) (H_look_at : FnN G P w mg base "look_at" 1 ["many", "crowd"] R_look_at) (X_BadSize : ExT G mg "BadSize" (G.ex .size)) (c_MOST : ∃ v, mg "MOST" = some v ∧ RelV (.int 5) v) : FnOk P w G.K mg base (L2N.CX P w) 2 f fd ["self", "many", "crowds"] (spInit G) := by
  obtain ⟨v_MOST, g_MOST, r_MOST⟩ := c_MOST
  refine funOkN F sc_Council___init__ (fun vs H Q E h => ?_) (fun cdv A outer s H vs Q E hr h => ?_)
  · obtain ⟨F0, x, dx, n, a, cvs, cs, rfl, _⟩ := h
    rfl
  · obtain ⟨F0, x, dx, n, a, cvs, cs, rfl, sF, fx, fdx, hx, ha, rc, hz, k⟩ := h
    refine ⟨_, (pss_cons (ps_if (PW.pt (pw_or (pt_cmpR op_lt (pv 1) pe_int (nomark _)) (pw_or1 (pt_cmpR op_gt (pv 1) (pe_glob rfl g_MOST r_MOST) (nomark _))))) (pss_one (L2N.ps_raise rfl (L2N.takes_of rfl rfl rfl rfl) (L2N.pmk_own PySem.F.excBase_ValueError X_BadSize.x X_BadSize.g X_BadSize.k (raises_own X_BadSize.b X_BadSize.t) rfl))) pss_nil) (pss_cons (ps_for (passes_of rfl) rfl (k_pl G.K (pv 2)) (pg_name (i := 3) sc_Council___init__.nd rfl (by first | exact Or.inl rfl | exact Or.inr rfl)) (pss_one (ps_expr (pe_callN H_look_at (hr.mono (by decide)) rfl (L2N.takes_of rfl rfl rfl rfl) (pa_cons (pv 1) (pa_cons (pv 3) pa_nil)))))) (pss_cons (ps_fld (pv 0) (pv 1) rfl) (pss_one (ps_fld (pv 0) (pe_lc (own := [("crowd", 3)]) (g := gName 3) (tt := tYes) rfl sc_Council___init__.nd (k_pl G.K (pv 2)) (blkOk_by (N := nm_Council___init__) (sc := defScope s_Council___init__) (by decide +kernel)) (fun _ _ _ _ _ => pg_name (i := 3) sc_Council___init__.nd rfl (by first | exact Or.inl rfl | exact Or.inr rfl)) (fun _ _ _ _ _ => pts_nil) (fun _ _ _ _ _ => (pe_callTy (k_tuple G.K) (by rfl) T.tuple (by decide +kernel) (pa_cons (pv 3) pa_nil)))) rfl))))), ?_⟩
    have ra : RepAs G F0 H [.ref x, .int n, .ref a] [.ptr x, .int n, .lst (cs.map eC)] := .cons (.inl (.ptr x)) (.cons (.inl (.int n)) (.cons (.inr ⟨a, cvs, _, rfl, rfl, ha, rc⟩) .nil))
    have R0 : REnv G F0 H F0 H (start nm_Council___init__ [.ref x, .int n, .ref a]) [.im (.ptr x), .im (.int n), .ar (cs.map eC), .no] := renv_start (N := nm_Council___init__) sF ra (by show 3 ≤ 4; decide)
    have wIf : WS G (wd E) (tIfS (tOr (tTest (tOp (rI0 fun i j => .bl (decide (i < j))) (tVar 1) (tC (.int 1)))) (tTest (tOp (rI0 fun i j => .bl (decide (j < i))) (tVar 1) (tC (.int 5))))) (fun _ σ H => wd E (.ref (G.ex .size)) none σ H) tNext) { nx := fun ρ' => ρ' = [.im (.ptr x), .im (.int n), .ar (cs.map eC), .no] ∧ ¬ (n < 1 ∨ n > 5), rt := fun _ => False, er := fun e => e = .size ∧ (n < 1 ∨ n > 5) } [.im (.ptr x), .im (.int n), .ar (cs.map eC), .no] :=
      ws_when (evt_or (evt_test (evd_lt (evd_var rfl) evd_int)) (fun _ => evt_test (evd_gt (evd_var rfl) evd_int))) (fun hb => ws_raise (e := .size) ⟨rfl, by simpa using hb⟩) (fun hb => ⟨rfl, by simpa using hb⟩)
    refine wIf F0 H F0 H _ _ R0 ⟨?_, fun _ z => z.elim, fun _ z => z.elim, fun _ z => z.elim, ?_⟩
    · rintro ρ' ⟨rfl, hn⟩ F1 H1 σ1 _ R1
      have wFor : WS G (wd E) (tFor (iList G.K (tVar 2)) (gName 3) (tDrop (tCall (mkSp G R_look_at) [] E (tCons (tVar 1) (tCons (tVar 3) tNil))))) { nx := fun ρ' => ρ' = [.im (.ptr x), .im (.int n), .ar (cs.map eC), .no] ∧ cs.all (crowdOk n) = true, rt := fun _ => False, er := fun e => e = .crowd ∧ ¬ cs.all (crowdOk n) = true } [.im (.ptr x), .im (.int n), .ar (cs.map eC), .no] :=
        ws_forL (j := 3) (tb := tDrop (tCall (mkSp G R_look_at) [] E (tCons (tVar 1) (tCons (tVar 3) tNil)))) cs eC (fun _ : Unit => [.im (.ptr x), .im (.int n), .ar (cs.map eC), .no]) (fun _ c => if crowdOk n c then .go () else .err .crowd) () (evz_ar (i := 2) rfl) (Weak.refl _) (fun i s c hc hf => by
          refine ws_dropX (evx_call (ea2 (evd_var rfl) (evd_var rfl)) ⟨n, c, rfl, rfl⟩) ?_
          cases q : crowdOk n c with
          | true => exact ⟨(), rfl, by walk_at "weak"⟩
          | false => exact rfl) (by
          rw [fold_allG (g := .err .crowd) (fun _ z => nomatch z)]
          cases q : cs.all (crowdOk n) with
          | true => exact ⟨rfl, rfl⟩
          | false => exact ⟨rfl, by decide⟩)
      refine wFor F0 H F1 H1 _ _ R1 ⟨?_, fun _ z => z.elim, fun _ z => z.elim, fun _ z => z.elim, ?_⟩
      · rintro ρ' ⟨rfl, hall⟩ F2 H2 σ2 _ R2
        have ek : couRes n cs = .val (.cou n cs) := by
          unfold couRes
          rw [if_neg hn, if_pos hall]
        rw [ek] at k
        obtain ⟨v0, s0, r0⟩ := R2.sl 0 _ rfl
        obtain ⟨v1, s1, r1⟩ := R2.sl 1 _ rfl
        obtain ⟨a2, us, s2, h2, r2⟩ := R2.sl 2 _ rfl
        cases r0
        cases r1
        have hx2 : H2 x = some (.ins G.C dx []) := R2.g.eh _ _ hx
        have f2x : F2 x = none := R2.g.new x fx (by rw [hx]; exact fun z => nomatch z)
        have nax : a2 ≠ x := by
          intro e
          subst e
          rw [hx] at h2
          cases h2
        refine ⟨_, s1, _, s0, x, G.C, dx, [], rfl, hx2, T.cl, T.nS, by show 0 < 1000; decide, ?_⟩
        have R3 : REnv G F2 (upd H2 x (.ins G.C dx (putF "size" (.int n) []))) F2 (upd H2 x (.ins G.C dx (putF "size" (.int n) []))) σ2 [.im (.ptr x), .im (.int n), .ar (cs.map eC), .no] := by
          have sb : Same F2 (upd H2 x (.ins G.C dx (putF "size" (.int n) []))) := fun b o e => by
            rw [upd_ne (ne_of_none e f2x)]
            exact R2.g.sub b o e
          refine ⟨sb, .refl sb, R2.len, fun i t hi => ?_, fun i j ds es b h1 _ _ _ => ?_⟩
          · match i, hi with
            | 0, hi => cases hi; exact ⟨_, s0, .ptr x⟩
            | 1, hi => cases hi; exact ⟨_, s1, .int n⟩
            | 2, hi => cases hi; exact ⟨a2, us, s2, by rw [upd_ne nax]; exact R2.g.eh _ _ h2, r2⟩
            | 3, hi => cases hi; trivial
            | i + 4, hi => cases hi
          · match i, h1 with
            | 0, h1 => cases h1
            | 1, h1 => cases h1
            | 2, h1 => cases h1
            | 3, h1 => cases h1
            | i + 4, h1 => cases h1
        have lc := evn_lcL (G := G) (ρ := [.im (.ptr x), .im (.int n), .ar (cs.map eC), .no]) (tt := tYes) (vs := [3]) (j := 3) (tl := tVar 2) cs eC (fun _ => true) eC (evs_ar rfl) (by omega) (by simp) (fun _ _ => evt_yes) (fun c _ _ => evd_tupleT (te := tVar 3) (ds := c.map .int) (evd_var rfl))
        refine lc _ _ _ _ _ R3 (fun y H1 => tVar 0 σ2 H1 fun x' H2' => ∃ a C dx fs, x' = .ref a ∧ H2' a = some (.ins C dx fs) ∧ Cls G.K C ∧ NoAttr G.K C "told" ∧ fs.length < 1000 ∧ Q .non (upd H2' a (.ins C dx (putF "told" y fs)))) fun l ws F4 H4 g4 l0 fl hl rl => ?_
        rw [filter_yes] at rl
        have hx4 : H4 x = some (.ins G.C dx (putF "size" (.int n) [])) := g4.eh _ _ upd_same
        have nlx : l ≠ x := by
          intro e
          subst e
          rw [upd_same] at l0
          cases l0
        have l2 : H2 l = none := by
          rw [← l0, upd_ne nlx]
        have f4x : F4 x = none := g4.new x f2x (by rw [upd_same]; exact fun z => nomatch z)
        refine ⟨_, s0, x, G.C, dx, _, rfl, hx4, T.cl, T.nT, by show 1 < 1000; decide, ?_⟩
        refine k l F4 _ (R2.g.ef.trans g4.ef) (fun b hb hb' => g4.new b (R2.g.new b hb hb') ?_) (R2.g.eh.free l2) fl (fun b o e hb => ?_) (fun b o e => ?_) ?_ ⟨ws, by rw [upd_ne nlx]; exact hl, rl⟩
        · by_cases q : b = x
          · subst q
            rw [upd_same]
            exact fun z => nomatch z
          · rw [upd_ne q]
            exact some_ne R2.g.eh hb'
        · rw [upd_ne hb]
          exact g4.eh b o (by rw [upd_ne hb]; exact R2.g.eh b o e)
        · rw [upd_ne (ne_of_none e f4x)]
          exact g4.sub b o e
        · rw [upd_same, put_two]
      · rintro e ⟨rfl, hall⟩ F' H' σ' _ g'
        have ek : couRes n cs = .err .crowd := by
          unfold couRes
          rw [if_neg hn, if_neg hall]
        rw [ek] at k
        exact k H' g'.eh
    · rintro e ⟨rfl, hn⟩ F' H' σ' _ g'
      have ek : couRes n cs = .err .size := by
        unfold couRes
        rw [if_pos hn]
      rw [ek] at k
      exact k H' g'.eh

/-! #### crowds_of -/
abbrev s_crowds_of : Stmt := top 11
abbrev nm_crowds_of : List Str := ["many", "found", "layer", "size", "more", "crowd", "first", "member"]
theorem sc_crowds_of : FnScope nm_crowds_of ["many"] (defScope s_crowds_of) := ⟨rfl, rfl, rfl, by decide +kernel, rfl, by decide +kernel, by decide +kernel⟩
theorem foldl_longer (n : Nat) : ∀ (l acc : List Crowd), l.foldl (fun acc c => acc ++ longer n c) acc = acc ++ l.flatMap (longer n)
  | [], acc => by simp
  | c :: l, acc => by rw [List.foldl_cons, foldl_longer n l, List.flatMap_cons, List.append_assoc]
theorem flat_take_len (n : Nat) (l : List Crowd) (i : Nat) : ((l.take i).flatMap (longer n)).length ≤ (l.flatMap (longer n)).length := by
  conv => rhs; rw [← List.take_append_drop i l]
  rw [List.flatMap_append, List.length_append]
  omega
theorem foldl_st (n : Nat) : ∀ k : Nat, (List.range k).foldl (fun (s : List Crowd × List Crowd) (_ : Nat) => (s.1 ++ s.2.flatMap (longer n), s.2.flatMap (longer n))) ([[]], [[]]) = crowdsSt n k
  | 0 => rfl
  | k + 1 => by
    rw [List.range_succ, List.foldl_append, foldl_st n k]
    rfl
def R_crowds_of : List D → Res → Prop := fun ds r => ∃ n : Nat, ds = [.int n] ∧ n ≤ 5 ∧ r = .new ((crowdsOf n).map eC)
theorem ok_crowds_of (T : Txt G mg) {f : Addr} {fd : FuncData} (F : Fun G.K "crowds_of" "crowds_of" s_crowds_of f fd)  : FnOk P w G.K mg base CX0 1 f fd ["many"] (mkSp G R_crowds_of) := by
  refine okD F sc_crowds_of (fun ds r hR => ?_) (by decide) (fun cdv A outer s H E hr => ⟨_, (pss_cons (ps_asg (pe_lst (pa_cons (pe_tup pa_nil) pa_nil)) (pg_name (i := 1) sc_crowds_of.nd rfl (by first | exact Or.inl rfl | exact Or.inr rfl))) (pss_cons (ps_asg (pe_lst (pa_cons (pe_tup pa_nil) pa_nil)) (pg_name (i := 2) sc_crowds_of.nd rfl (by first | exact Or.inl rfl | exact Or.inr rfl))) (pss_cons (ps_for PassesOwn.never rfl (pi_range1 rfl T.range (pa_cons (pv 0) pa_nil)) (pg_name (i := 3) sc_crowds_of.nd rfl (by first | exact Or.inl rfl | exact Or.inr rfl)) (pss_cons (ps_asg (pe_lst pa_nil) (pg_name (i := 4) sc_crowds_of.nd rfl (by first | exact Or.inl rfl | exact Or.inr rfl))) (pss_cons (ps_for PassesOwn.never rfl (k_pl G.K (pv 2)) (pg_name (i := 5) sc_crowds_of.nd rfl (by first | exact Or.inl rfl | exact Or.inr rfl)) (pss_cons (ps_asg pe_int (pg_name (i := 6) sc_crowds_of.nd rfl (by first | exact Or.inl rfl | exact Or.inr rfl))) (pss_cons (ps_if (pt_cmpR (k_neD G.K hr.units) (pv 5) (pe_tup pa_nil) (nomark _)) (pss_one (ps_asg (pe_op op_add (pe_ix (k_ixT G.K) (pv 5) (pe_un un_neg pe_int) (fun _ _ => rfl)) pe_int) (pg_name (i := 6) sc_crowds_of.nd rfl (by first | exact Or.inl rfl | exact Or.inr rfl)))) pss_nil) (pss_one (ps_expr (pe_bm PySem.F.plainAttrs_list PySem.F.slot_list_extend PySem.F.type_list_extend mt_extend (pv 4) (pa_cons (pe_lc (own := [("member", 7)]) (g := gName 7) (tt := tYes) rfl sc_crowds_of.nd (pi_range2 rfl T.range (pa_cons (pv 6) (pa_cons (pv 0) pa_nil))) (blkOk_by (N := nm_crowds_of) (sc := defScope s_crowds_of) (by decide +kernel)) (fun _ _ _ _ _ => pg_name (i := 7) sc_crowds_of.nd rfl (by first | exact Or.inl rfl | exact Or.inr rfl)) (fun _ _ _ _ _ => pts_nil) (fun _ _ _ _ _ => (pe_op (k_catA G.K) (pv 5) (pe_tup (pa_cons (pv 7) pa_nil))))) pa_nil))))))) (pss_cons (ps_expr (pe_bm PySem.F.plainAttrs_list PySem.F.slot_list_extend PySem.F.type_list_extend mt_extend (pv 1) (pa_cons (pv 4) pa_nil))) (pss_one (ps_asg (pv 4) (pg_name (i := 2) sc_crowds_of.nd rfl (by first | exact Or.inl rfl | exact Or.inr rfl)))))))) (pss_one (ps_ret (pv 1)))))), fun ds r hR => ?_⟩)
  · obtain ⟨n, rfl, hn, rfl⟩ := hR
    rfl
  · obtain ⟨n, rfl, hn, rfl⟩ := hR
    show WS G _ _ _ [.im (.int n), .no, .no, .no, .no, .no, .no, .no]
    have e0 : ([] : List Crowd).map eC = [] := rfl
    refine ws_seq (ws_asgN (evn_lst (evad_cons (evd_tup evad_nil) evad_nil)) ?_)
    refine ws_seq (ws_asgN (evn_lst (evad_cons (evd_tup evad_nil) evad_nil)) ?_)
    refine ws_freeze 2 rfl (ws_seq (ws_forR1 (n := (n : Int)) (fun s : List Crowd × List Crowd => [.im (.int n), .own (s.1.map eC), .im (.lst (s.2.map eC)), .no, .no, .no, .no, .no]) (fun s _ => .go (s.1 ++ s.2.flatMap (longer n), s.2.flatMap (longer n))) ([[]], [[]]) (ea1 (evd_var rfl)) (by omega) (by walk_at "weak") (fun i s hi hf => ?_) ?_))
    · -- one layer more
      have es : s = crowdsSt n i := by
        have h := fold_go_take (f := fun (s : List Crowd × List Crowd) (_ : Nat) => (s.1 ++ s.2.flatMap (longer n), s.2.flatMap (longer n))) hf
        rw [List.take_range, Nat.min_eq_left (by omega), foldl_st] at h
        exact h
      have hi6 : i < 6 := by omega
      have hlen := crowdsSt_len n (by omega) i hi6
      have hfst := crowdsSt_first n (by omega) i hi6
      have hcl := crowdsSt_clen n (by omega) i hi6
      rw [← es] at hlen hfst hcl
      obtain ⟨fo, la⟩ := s
      dsimp only at hlen hfst hcl
      refine ws_seq (ws_asgN (evn_lst evad_nil) ?_)
      refine ws_seq (ws_forL la eC (fun acc : List Crowd => [.im (.int n), .own (fo.map eC), .im (.lst (la.map eC)), .im (.int (i : Int)), .own (acc.map eC), .no, .no, .no]) (fun acc c => .go (acc ++ longer n c)) [] (evz_of (evd_var rfl)) (by walk_at "weak") (fun j acc c hc hf2 => ?_) ?_)
      · have hmem : c ∈ la := List.mem_of_getElem? hc
        have hacc : acc = (la.take j).flatMap (longer n) := by
          have h := fold_go_take (f := fun (acc : List Crowd) c => acc ++ longer n c) hf2
          rw [foldl_longer] at h
          exact h
        have hb := hfst c hmem
        -- first
        refine ws_seq (ws_asgD (evd_int (i := 0)) ?_)
        refine ws_seq (ws_mono (k := { nx := fun ρ' => ρ' = [.im (.int n), .own (fo.map eC), .im (.lst (la.map eC)), .im (.int (i : Int)), .own (acc.map eC), .im (eC c), .im (.int (firstOf c)), .no], rt := fun _ => False }) (ws_when (b := !decide (c = [])) (evt_test (evd_neC (b := []) (evd_var rfl) (evd_tup evad_nil))) (fun hb => ?_) (fun hb => ?_)) (fun ρ' e => ?_) (fun _ z => z.elim) (fun _ z => z.elim) (fun _ z => z.elim) (fun _ z => z.elim))
        · have hne : c ≠ [] := by simpa using hb
          refine ws_asgD (evd_add (evd_ixTlast (d := .int (c.getLastD (-1))) (evd_var rfl) (evd_neg evd_int) ?_) evd_int) rfl
          rw [List.length_map, List.getElem?_map]
          have : c[c.length - 1]? = some (c.getLastD (-1)) := by
            rw [← List.getLast?_eq_getElem?, List.getLast?_eq_some_getLast hne]
            simp [List.getLastD_eq_getLast?, List.getLast?_eq_some_getLast hne]
          rw [this]
          rfl
        · have he : c = [] := by simpa using hb
          subst he
          rfl
        · subst e
          have hz : fo.length ≤ 32 := hlen.1
          have hmore : (acc ++ longer n c).length ≤ 32 := by
            have h1 : acc ++ longer n c = (la.take (j + 1)).flatMap (longer n) := by
              rw [List.take_add_one, hc, hacc]
              simp
            rw [h1]
            exact Nat.le_trans (flat_take_len n la (j + 1)) hlen.2.2
          have lc := evn_lcR2 (G := G) (ρ := [.im (.int n), .own (fo.map eC), .im (.lst (la.map eC)), .im (.int (i : Int)), .own (acc.map eC), .im (eC c), .im (.int (firstOf c)), .no]) (vs := [7]) (j := 7) (lo := firstOf c) (n := (n : Int)) (ta := tCons (tVar 6) (tCons (tVar 0) tNil)) (tt := tYes) (te := tOp (rCatA G.K) (tVar 5) (tTup (tCons (tVar 7) tNil)))
            (fun _ => true) (fun k => eC (c ++ [firstOf c + (k : Int)])) (ea2 (evd_var rfl) (evd_var rfl)) (by omega) (by simp) (fun x _ => evt_yes) (fun x _ _ => evd_is (evd_catT (ds := c.map .int) (es := [.int (firstOf c + (x : Int))]) (evd_var rfl) (evd_tup (evad_cons (evd_var rfl) evad_nil)) (by have := hcl c hmem; simp; omega)) (by unfold eC; simp))
          refine ws_extend (ds := acc.map eC) (es := (longer n c).map eC) rfl (evs_new (evn_is lc ?_)) (by rw [List.length_append] at hmore; simp only [List.length_map]; omega) ⟨acc ++ longer n c, rfl, ?_⟩
          · rw [filter_yes]
            simp [longer, List.map_map, Function.comp_def]
          · rw [← List.map_append]
            walk_at "weak"
      · rw [fold_go, foldl_longer]
        show WS G _ _ _ _
        rw [List.nil_append]
        refine ws_seq (ws_extend (ds := fo.map eC) (es := (la.flatMap (longer n)).map eC) rfl (evs_own rfl) (by simp only [List.length_map]; have := hlen.2.2; have := hlen.1; omega) ?_)
        rw [← List.map_append]
        refine ws_move (ds := (la.flatMap (longer n)).map eC) rfl ⟨_, rfl, by walk_at "weak"⟩
    · rw [fold_go, foldl_st]
      exact ws_retOwn rfl rfl

/-! #### lies_in -/
abbrev s_lies_in : Stmt := top 13
abbrev nm_lies_in : List Str := ["crowd", "other", "member"]
theorem sc_lies_in : FnScope nm_lies_in ["crowd", "other"] (defScope s_lies_in) := ⟨rfl, rfl, rfl, by decide +kernel, rfl, by decide +kernel, by decide +kernel⟩
def R_lies_in : List D → Res → Prop := fun ds r => ∃ a b : List Int, ds = [eC a, eC b] ∧ r = .val (.bl (liesIn a b))
theorem ok_lies_in (T : Txt G mg) {f : Addr} {fd : FuncData} (F : Fun G.K "lies_in" "lies_in" s_lies_in f fd)  : FnOk P w G.K mg base CX0 1 f fd ["crowd", "other"] (mkSp G R_lies_in) := by
  refine okD F sc_lies_in (fun ds r hR => ?_) (by decide) (fun cdv A outer s H E hr => ⟨_, (pss_cons (ps_for PassesOwn.never rfl (k_pt G.K (pv 0)) (pg_name (i := 2) sc_lies_in.nd rfl (by first | exact Or.inl rfl | exact Or.inr rfl)) (pss_one (ps_if (pt_cmpR (k_notIn G.K) (pv 2) (pv 1) rfl) (pss_one (ps_ret pe_bl)) pss_nil))) (pss_one (ps_ret pe_bl))), fun ds r hR => ?_⟩)
  · obtain ⟨a, b, rfl, rfl⟩ := hR
    rfl
  · obtain ⟨a, b, rfl, rfl⟩ := hR
    show WS G _ _ _ [.im (eC a), .im (eC b), .no]
    refine ws_seq (ws_forT a D.int (fun _ : Unit => [.im (eC a), .im (eC b), .no]) (fun _ m => if decide (m ∈ b) then .go () else .stop (.val (.bl false))) () (evd_var rfl) (Weak.refl _) (fun i s m hm hf => ?_) ?_)
    · refine ws_when (evt_test (evd_ninT (evd_var rfl) (evd_var rfl))) (fun hb => ws_ret evd_bl ?_) (fun hb => ⟨(), ?_, by walk_at "weak"⟩)
      · show (if decide (m ∈ b) = true then _ else _) = _
        rw [if_neg (by simpa using hb)]
      · rw [if_pos (by simpa using hb)]
    · rw [fold_all]
      unfold liesIn
      cases h : a.all fun m => decide (m ∈ b) with
      | true => exact ws_ret evd_bl rfl
      | false => exact rfl

/-! #### Council.bears -/
abbrev s_Council_bears : Stmt := inClass (top 14) 2
abbrev nm_Council_bears : List Str := ["self", "crowd", "one"]
theorem sc_Council_bears : FnScope nm_Council_bears ["self", "crowd"] (defScope s_Council_bears) := ⟨rfl, rfl, rfl, by decide +kernel, rfl, by decide +kernel, by decide +kernel⟩
def R_Council_bears : List D → Res → Prop := fun ds r => ∃ (n : Int) (told : List Crowd) (c : Crowd), ds = [.cou n told, eC c] ∧ r = .val (.bl (bears told c))
theorem ok_Council_bears (T : Txt G mg) {f : Addr} {fd : FuncData} (F : Fun G.K "bears" "Council.bears" s_Council_bears f fd) (H_lies_in : Fn G P w mg base "lies_in" 1 ["crowd", "other"] R_lies_in) : FnOk P w G.K mg base CX0 2 f fd ["self", "crowd"] (mkSp G R_Council_bears) := by
  refine okD F sc_Council_bears (fun ds r hR => ?_) (by decide) (fun cdv A outer s H E hr => ⟨_, (pss_cons (ps_for PassesOwn.never rfl (k_pl G.K (k_fld G.K (pv 0) rfl)) (pg_name (i := 2) sc_Council_bears.nd rfl (by first | exact Or.inl rfl | exact Or.inr rfl)) (pss_one (ps_if (pt_val (pe_callF H_lies_in (hr.mono (by decide)) rfl (pa_cons (pv 2) (pa_cons (pv 1) pa_nil)))) (pss_one (ps_ret pe_bl)) pss_nil))) (pss_one (ps_ret pe_bl))), fun ds r hR => ?_⟩)
  · obtain ⟨n, told, c, rfl, rfl⟩ := hR
    rfl
  · obtain ⟨n, told, c, rfl, rfl⟩ := hR
    show WS G _ _ _ [.im (.cou n told), .im (eC c), .no]
    refine ws_seq (ws_forL told eC (fun _ : Unit => [.im (.cou n told), .im (eC c), .no]) (fun _ t => if liesIn t c then .stop (.val (.bl true)) else .go ()) () (evz_of (evd_told (evd_var rfl) T.cl T.nT)) (Weak.refl _) (fun i s t ht hf => ?_) ?_)
    · refine ws_when (evt_B (evd_call (ea2 (evd_var rfl) (evd_var rfl)) ⟨t, c, rfl, rfl⟩)) (fun hb => ws_ret evd_bl ?_) (fun hb => ⟨(), ?_, by walk_at "weak"⟩)
      · show (if liesIn t c = true then _ else _) = _
        rw [if_pos hb]
      · rw [if_neg (by rw [hb]; decide)]
    · rw [fold_any]
      unfold bears
      cases h : told.any fun t => liesIn t c with
      | true => exact rfl
      | false => exact ws_ret evd_bl rfl

/-! #### Council.least -/
abbrev s_Council_least : Stmt := inClass (top 14) 4
abbrev nm_Council_least : List Str := ["self", "found", "crowd", "one"]
theorem sc_Council_least : FnScope nm_Council_least ["self"] (defScope s_Council_least) := ⟨rfl, rfl, rfl, by decide +kernel, rfl, by decide +kernel, by decide +kernel⟩
theorem fold_least_len (told : List Crowd) (cs : List Crowd) (i : Nat) (h : cs.length ≤ 32) : ((cs.take i).foldl (leastStep told) []).length ≤ 32 := by
  have h1 := leastStep_len told (cs.take i) []
  rw [List.length_take] at h1
  simp at h1
  omega
def R_Council_least : List D → Res → Prop := fun ds r => ∃ (n : Nat) (told : List Crowd), ds = [.cou n told] ∧ n ≤ 5 ∧ r = .new ((least n told).map eC)
theorem ok_Council_least (T : Txt G mg) {f : Addr} {fd : FuncData} (F : Fun G.K "least" "Council.least" s_Council_least f fd) (H_crowds_of : Fn G P w mg base "crowds_of" 1 ["many"] R_crowds_of) (H_lies_in : Fn G P w mg base "lies_in" 1 ["crowd", "other"] R_lies_in) (H_Council_bears : Mt G P w mg base "bears" 2 ["self", "crowd"] R_Council_bears) : FnOk P w G.K mg base CX0 3 f fd ["self"] (mkSp G R_Council_least) := by
  refine okD F sc_Council_least (fun ds r hR => ?_) (by decide) (fun cdv A outer s H E hr => ⟨_, (pss_cons (ps_asg (pe_lst pa_nil) (pg_name (i := 1) sc_Council_least.nd rfl (by first | exact Or.inl rfl | exact Or.inr rfl))) (pss_cons (ps_for PassesOwn.never rfl (k_pl G.K (pe_callF H_crowds_of (hr.mono (by decide)) rfl (pa_cons (k_fld G.K (pv 0) rfl) pa_nil))) (pg_name (i := 2) sc_Council_least.nd rfl (by first | exact Or.inl rfl | exact Or.inr rfl)) (pss_one (ps_if (PW.pt (pw_and (pt_val (pe_methF (pv 0) T.cl H_Council_bears (hr.mono (by decide)) (pa_cons (pv 2) pa_nil))) (pw_and1 (pt_not (k_truth G.K (pe_lc (own := [("one", 3)]) (g := gName 3) (tt := _) rfl sc_Council_least.nd (k_pl G.K (pv 1)) (blkOk_by (N := nm_Council_least) (sc := defScope s_Council_least) (by decide +kernel)) (fun _ _ _ _ _ => pg_name (i := 3) sc_Council_least.nd rfl (by first | exact Or.inl rfl | exact Or.inr rfl)) (fun _ _ _ _ _ => (pts_one (pt_val (pe_callF H_lies_in (hr.mono (by decide)) rfl (pa_cons (pv 3) (pa_cons (pv 2) pa_nil)))))) (fun _ _ _ _ _ => (pv 3))) (by intro _; rfl)))))) (pss_one (ps_expr (pe_bm PySem.F.plainAttrs_list PySem.F.slot_list_append PySem.F.type_list_append mt_append (pv 1) (pa_cons (pv 2) pa_nil)))) pss_nil))) (pss_one (ps_ret (pv 1))))), fun ds r hR => ?_⟩)
  · obtain ⟨n, told, rfl, hn, rfl⟩ := hR
    rfl
  · obtain ⟨n, told, rfl, hn, rfl⟩ := hR
    show WS G _ _ _ [.im (.cou n told), .no, .no, .no]
    refine ws_seq (ws_asgN (evn_lst evad_nil) ?_)
    refine ws_seq (ws_forL (crowdsOf n) eC (fun found : List Crowd => [.im (.cou n told), .own (found.map eC), .no, .no]) (fun found c => .go (leastStep told found c)) [] (evz_new (evn_call (ea1 (evd_size (evd_var rfl) T.cl T.nS)) ⟨n, rfl, hn, rfl⟩)) (by walk_at "weak") (fun i found c hc hf => ?_) ?_)
    · have hfound := fold_go_take (f := leastStep told) hf
      have hlen : found.length ≤ 32 := by
        rw [hfound]
        exact fold_least_len told _ i (crowdsOf_len hn)
      have lc := evn_lcL (G := G) (ρ := [.im (.cou n told), .own (found.map eC), .im (eC c), .no]) (vs := [3]) (j := 3) (tl := tVar 1) (tt := tB (tCall (mkSp G R_lies_in) [] E0 (tCons (tVar 3) (tCons (tVar 2) tNil)))) (te := tVar 3)
        found eC (fun t => liesIn t c) eC (evs_own rfl) (by omega) (by simp) (fun x _ => evt_B (evd_call (ea2 (evd_var rfl) (evd_var rfl)) ⟨x, c, rfl, rfl⟩)) (fun x _ _ => evd_var rfl)
      refine ws_when (b := bears told c && !(found.any fun t => liesIn t c)) (evt_and (evt_B (evd_meth (evd_var rfl) (ea1 (evd_var rfl)) ⟨n, told, c, rfl, rfl⟩)) (fun _ => evt_is (evt_not (evt_lst (evs_new lc))) ?_)) (fun hb => ?_) (fun hb => ?_)
      · rw [List.isEmpty_map, Bool.not_not]
        cases h : found.any fun t => liesIn t c with
        | false =>
          rw [List.filter_eq_nil_iff.mpr (fun a ha => by simpa using (List.any_eq_false.mp h) a ha)]
          rfl
        | true =>
          obtain ⟨a, ha, hl⟩ := List.any_eq_true.mp h
          cases q : found.filter fun t => liesIn t c with
          | nil => exact absurd (List.filter_eq_nil_iff.mp q a ha) (by simpa using hl)
          | cons _ _ => rfl
      · refine ws_append rfl (evd_var rfl) (by simp; omega) ⟨leastStep told found c, rfl, ?_⟩
        have e : leastStep told found c = found ++ [c] := by
          unfold leastStep
          rw [if_pos hb]
        rw [e]
        walk_at "weak"
      · refine ⟨leastStep told found c, rfl, ?_⟩
        have e : leastStep told found c = found := by
          unfold leastStep
          rw [if_neg (by rw [hb]; decide)]
        rw [e]
        walk_at "weak"
    · rw [fold_go]
      exact ws_retOwn rfl rfl

/-! #### Council.many -/
abbrev s_Council_many : Stmt := inClass (top 14) 1
abbrev nm_Council_many : List Str := ["self"]
theorem sc_Council_many : FnScope nm_Council_many ["self"] (defScope s_Council_many) := ⟨rfl, rfl, rfl, by decide +kernel, rfl, by decide +kernel, by decide +kernel⟩
def R_Council_many : List D → Res → Prop := fun ds r => ∃ (n : Int) (told : List Crowd), ds = [.cou n told] ∧ r = .val (.int n)
theorem ok_Council_many (T : Txt G mg) {f : Addr} {fd : FuncData} (F : Fun G.K "many" "Council.many" s_Council_many f fd)  : FnOk P w G.K mg base CX0 1 f fd ["self"] (mkSp G R_Council_many) := by
  refine okD F sc_Council_many (fun ds r hR => ?_) (by decide) (fun cdv A outer s H E hr => ⟨_, (pss_one (ps_ret (k_fld G.K (pv 0) rfl))), fun ds r hR => ?_⟩)
  · obtain ⟨n, told, rfl, rfl⟩ := hR
    rfl
  · obtain ⟨n, told, rfl, rfl⟩ := hR
    show WS G _ _ _ [.im (.cou n told)]
    exact ws_ret (evd_size (evd_var rfl) T.cl T.nS) rfl

/-! #### shown -/
abbrev s_shown : Stmt := top 17
abbrev nm_shown : List Str := ["council", "words", "crowd", "member"]
theorem sc_shown : FnScope nm_shown ["council"] (defScope s_shown) := ⟨rfl, rfl, rfl, by decide +kernel, rfl, by decide +kernel, by decide +kernel⟩
def R_shown : List D → Res → Prop := fun ds r => ∃ (n : Nat) (told : List Crowd), ds = [.cou n told] ∧ 1 ≤ n ∧ n ≤ 5 ∧ r = .val (.str (st (showL n (least n told))))
theorem ok_shown (T : Txt G mg) {f : Addr} {fd : FuncData} (F : Fun G.K "shown" "shown" s_shown f fd) (H_Council_least : Mt G P w mg base "least" 3 ["self"] R_Council_least) (H_Council_many : Mt G P w mg base "many" 1 ["self"] R_Council_many) : FnOk P w G.K mg base CX0 4 f fd ["council"] (mkSp G R_shown) := by
  refine okD F sc_shown (fun ds r hR => ?_) (by decide) (fun cdv A outer s H E hr => ⟨_, (pss_cons (ps_asg (pe_lst pa_nil) (pg_name (i := 1) sc_shown.nd rfl (by first | exact Or.inl rfl | exact Or.inr rfl))) (pss_cons (ps_for PassesOwn.never rfl (k_pl G.K (pe_methF0 (pv 0) T.cl H_Council_least (hr.mono (by decide)))) (pg_name (i := 2) sc_shown.nd rfl (by first | exact Or.inl rfl | exact Or.inr rfl)) (pss_one (ps_if (pt_cmpR (k_eqD G.K hr.units) (pv 2) (pe_tup pa_nil) (nomark _)) (pss_one (ps_expr (pe_bm PySem.F.plainAttrs_list PySem.F.slot_list_append PySem.F.type_list_append mt_append (pv 1) (pa_cons pe_str pa_nil)))) (pss_one (ps_expr (pe_bm PySem.F.plainAttrs_list PySem.F.slot_list_append PySem.F.type_list_append mt_append (pv 1) (pa_cons (pe_op op_add_str pe_str (k_join (K := G.K) pe_str (pe_lc (own := [("member", 3)]) (g := gName 3) (tt := tYes) rfl sc_shown.nd (k_pt G.K (pv 2)) (blkOk_by (N := nm_shown) (sc := defScope s_shown) (by decide +kernel)) (fun _ _ _ _ _ => pg_name (i := 3) sc_shown.nd rfl (by first | exact Or.inl rfl | exact Or.inr rfl)) (fun _ _ _ _ _ => pts_nil) (fun _ _ _ _ _ => (pe_callTy call_str_int (by rfl) T.str (by decide +kernel) (pa_cons (pv 3) pa_nil)))))) pa_nil))))))) (pss_one (ps_ret (pe_op op_add_str (pe_op op_add_str (pe_callTy call_str_int (by rfl) T.str (by decide +kernel) (pa_cons (pe_methF0 (pv 0) T.cl H_Council_many (hr.mono (by decide))) pa_nil)) pe_str) (k_join (K := G.K) pe_str (pv 1))))))), fun ds r hR => ?_⟩)
  · obtain ⟨n, told, rfl, h1, h5, rfl⟩ := hR
    rfl
  · obtain ⟨n, told, rfl, h1, h5, rfl⟩ := hR
    show WS G _ _ _ [.im (.cou n told), .no, .no, .no]
    have hl := least_len h5 told
    have hcl := least_clen h5 told
    refine ws_seq (ws_asgN (i := 1) (evn_lst evad_nil) ?_)
    refine ws_seq (ws_forL (least n told) eC (fun acc : List (List Nat) => [.im (.cou n told), .own (acc.map fun p => .str (st p)), .no, .no]) (fun acc c => .go (acc ++ [wordL c])) [] (evz_new (evn_meth (evd_var rfl) eva_nil ⟨n, told, rfl, h5, rfl⟩)) (by walk_at "weak") (fun i acc c hc hf => ?_) ?_)
    · have hacc := fold_go_take (f := fun (acc : List (List Nat)) (c : Crowd) => acc ++ [wordL c]) hf
      have hal : acc.length ≤ 32 := by
        rw [hacc, foldl_snoc]
        simp
        omega
      clear hf hacc
      have hm := List.mem_of_getElem? hc
      have c5 := hcl c hm
      have mb := crowdOk_mem (cs_good h5 (least_good h5 told c hm)).1
      have bl := bare_len c
      refine ws_if (b := decide (c = [])) (evt_test (evd_eqC (b := []) (evd_var rfl) (evd_tup evad_nil))) (fun hb => ?_) (fun hb => ?_)
      · have e := of_decide_eq_true hb
        subst e
        refine ws_append rfl (evd_lit lit_bdash) (by simp; omega) ⟨acc ++ [wordL []], rfl, ?_⟩
        dsimp only
        rw [List.map_append]
        walk_at "weak"
      · have e := of_decide_eq_false hb
        have ew : wordL c = [32] ++ bareL c := by unfold wordL; rw [if_neg e]; rfl
        refine ws_append rfl (evd_is (evd_addSt (a := [32]) (b := bareL c) (evd_lit lit_blank) (evd_join (sep := [43]) (ps := c.map digL) (evd_lit lit_plus) (evs_new (evn_is (evn_lcT c D.int (fun _ => true) (fun m => .str (st (digL m))) (evd_var rfl) (by omega) (by simp) (fun _ _ => evt_yes) (fun m hm _ => evd_dig (evd_var rfl) (by have := mb m hm; omega))) (by rw [filter_yes, List.map_map]; rfl))) ?_) (by simp; omega)) (y := .str (st (wordL c))) (by rw [ew])) (by simp; omega) ⟨acc ++ [wordL c], rfl, ?_⟩
        · have e2 : ((c.map digL).map List.length).sum = c.length := by
            clear bl mb hm c5 hc hb e ew
            induction c with
            | nil => rfl
            | cons m r ih =>
              rw [List.map_cons, List.map_cons, List.sum_cons, List.length_cons, ih]
              show 1 + _ = _
              omega
          rw [e2]
          simp
          omega
        · dsimp only
          rw [List.map_append]
          walk_at "weak"
    · rw [fold_go, foldl_snoc, List.nil_append]
      have wl := words_len hcl
      have jl := joined_len hcl
      refine ws_ret (evd_is (evd_addSt (a := digL n ++ [58]) (b := joinL [44] ((least n told).map wordL)) (evd_addSt (a := digL n) (b := [58]) (evd_dig (evd_meth (evd_var rfl) eva_nil ⟨n, told, rfl, rfl⟩) (by omega)) (evd_lit lit_colon) (by simp [digL])) (evd_join (sep := [44]) (ps := (least n told).map wordL) (evd_lit lit_comma) (evs_own rfl) (by rw [List.length_map]; simp at *; omega)) (by simp [digL]; omega)) (y := .str (st (showL n (least n told)))) ?_) rfl
      unfold showL digL
      simp

/-! #### read -/
abbrev s_read : Stmt := top 20
abbrev nm_read : List Str := ["text", "many", "crowds", "council", "word"]
theorem sc_read : FnScope nm_read ["text"] (defScope s_read) := ⟨rfl, rfl, rfl, by decide +kernel, rfl, by decide +kernel, by decide +kernel⟩
theorem couRes_ve (m : Int) (cs : List Crowd) : isVE (couRes m cs) := by
  unfold couRes
  split
  · exact trivial
  · split <;> exact trivial
def R_read : List D → Res → Prop := fun ds r => ∃ w : List Nat, ds = [.str (st w)] ∧ w.length ≤ 9000 ∧ r = optR .note ((readL w).map fun p => .cou p.1 p.2)
theorem ok_read (T : Txt G mg) {f : Addr} {fd : FuncData} (F : Fun G.K "read" "read" s_read f fd) (H_number_of : Fn G P w mg base "number_of" 1 ["word"] R_number_of) (H_crowd_of : Fn G P w mg base "crowd_of" 2 ["word"] R_crowd_of) (H_Council : IniN G P w mg base 2) (H_shown : Fn G P w mg base "shown" 4 ["council"] R_shown) (X_BadNote : ExT G mg "BadNote" (G.ex .note)) (X_BadSize : ExT G mg "BadSize" (G.ex .size)) (X_BadCrowd : ExT G mg "BadCrowd" (G.ex .crowd)) (m_ss : PySem.W.exmOne G.K (.ref (G.ex .size)) (.ref (G.ex .size)) = some true) (m_cs : PySem.W.exmOne G.K (.ref (G.ex .crowd)) (.ref (G.ex .size)) = some false) (m_cc : PySem.W.exmOne G.K (.ref (G.ex .crowd)) (.ref (G.ex .crowd)) = some true) : FnOk P w G.K mg base (L2.CX P w) 5 f fd ["text"] (mkSp G R_read) := by
  refine okX F sc_read (fun ds r hR => ?_) (by decide) (fun cdv A outer s H E hr => ⟨_, (pss_cons (ps_asg (pe_callX H_number_of (hr.mono (by decide)) rfl (takes_of rfl rfl rfl rfl) (pa_cons (pe_slice sl_str (pv 0) po_none (po_some pe_int)) pa_nil)) (pg_name (i := 1) sc_read.nd rfl (by first | exact Or.inl rfl | exact Or.inr rfl))) (pss_cons (ps_asg (pe_lst pa_nil) (pg_name (i := 2) sc_read.nd rfl (by first | exact Or.inl rfl | exact Or.inr rfl))) (pss_cons (ps_if (pt_cmpR op_ne (pe_slice sl_str (pv 0) (po_some pe_int) po_none) pe_str (nomark _)) (pss_cons (ps_if (pt_cmpR op_ne (pe_slice sl_str (pv 0) (po_some pe_int) (po_some pe_int)) pe_str (nomark _)) (pss_one (ps_raise rfl (takes_of rfl rfl rfl rfl) (pmk_own PySem.F.excBase_ValueError X_BadNote.x X_BadNote.g X_BadNote.k (raises_own X_BadNote.b X_BadNote.t) rfl))) pss_nil) (pss_one (ps_setLcX (i := 2) (own := [("word", 4)]) (g := gName 4) rfl sc_read.nd rfl rfl (sw_true rfl rfl rfl (by decide +kernel)) rfl rfl (takes_of rfl rfl rfl rfl) (k_pl G.K (k_split (pe_slice sl_str (pv 0) (po_some pe_int) po_none) pe_str)) (blkOk_by (N := nm_read) (sc := defScope s_read) (by decide +kernel)) (fun _ _ _ _ _ _ => pg_name (i := 4) sc_read.nd rfl (by first | exact Or.inl rfl | exact Or.inr rfl)) (fun _ _ _ _ _ _ pass => (pe_callB' H_crowd_of (hr.mono (by decide)) rfl pass (pa_cons (pv 4) pa_nil)))))) pss_nil) (pss_cons (ps_tryTwoX rfl rfl (fun hd => L2H.passesAt_of rfl hd) (takes_of rfl rfl rfl rfl) (fun W pn xe tk _ => (pss_one (ps_asg (pe_makeN H_Council (hr.mono (by decide)) rfl tk (pa_cons (pv 1) (pa_cons (pv 2) pa_nil))) (pg_name (i := 3) sc_read.nd rfl (by first | exact Or.inl rfl | exact Or.inr rfl))))) ⟨rfl, by decide, .inl X_BadSize.g⟩ (fun a oe cls d pn hz hf tkS hot => (pss_one (L2H.ps_raiseH hot tkS (L2N.pmk_own PySem.F.excBase_ValueError X_BadNote.x X_BadNote.g X_BadNote.k (raises_own X_BadNote.b X_BadNote.t) rfl)))) ⟨rfl, by decide, .inl X_BadCrowd.g⟩ (fun a oe cls d pn hz hf tkS hot => (pss_one (L2H.ps_raiseH hot tkS (L2N.pmk_own PySem.F.excBase_ValueError X_BadNote.x X_BadNote.g X_BadNote.k (raises_own X_BadNote.b X_BadNote.t) rfl))))) (pss_cons (ps_if (pt_cmpR op_ne (pe_callF H_shown (hr.mono (by decide)) rfl (pa_cons (pv 3) pa_nil)) (pv 0) (nomark _)) (pss_one (ps_raise rfl (takes_of rfl rfl rfl rfl) (pmk_own PySem.F.excBase_ValueError X_BadNote.x X_BadNote.g X_BadNote.k (raises_own X_BadNote.b X_BadNote.t) rfl))) pss_nil) (pss_one (ps_ret (pv 3)))))))), fun ds r hR => ?_⟩)
  · obtain ⟨w, rfl, hw, rfl⟩ := hR
    rfl
  · obtain ⟨w, rfl, hw, rfl⟩ := hR
    show WS G _ _ _ [.im (.str (st w)), .no, .no, .no, .no]
    unfold readL
    have first := evx_call (G := G) (R := R_number_of) (Ex := E) (r := match numL (w.take 1) with | some i => .val (.int i) | none => .err .note) (ρ := [.im (.str (st w)), .no, .no, .no, .no]) (ea1 (evd_cutS (l := w) (lo := none) (hi := some ((1 : Nat) : Int)) (evd_var (i := 0) rfl) (by omega) evo_none (evo_some evd_int))) ⟨w.take 1, by rw [cut_take], by rw [List.length_take]; omega, rfl⟩
    refine ws_seq (ws_asgX (i := 1) first ?_)
    cases q : numL (w.take 1) with
    | none => rfl
    | some m =>
      obtain ⟨m0, m9⟩ := numL_bd q
      rw [Option.bind_some]
      show WS G _ _ _ _
      refine ws_seq (ws_asgN (i := 2) (evn_lst evad_nil) ?_)
      refine ws_seq (ws_mono (k := { nx := fun ρ' => ∃ cs : List Crowd, wordsOf w = some cs ∧ cs.length ≤ 9001 ∧ ρ' = [.im (.str (st w)), .im (.int m), .own (cs.map eC), .no, .no], rt := fun _ => False, er := fun e => e = .note ∧ wordsOf w = none }) (ws_when (evt_test (evd_neSt (a := w.drop 1) (b := [58]) (evd_is (evd_cutS (l := w) (lo := some ((1 : Nat) : Int)) (hi := none) (evd_var rfl) (by omega) (evo_some evd_int) evo_none) (by rw [cut_drop])) (evd_lit lit_colon))) (fun h => ?_) (fun h => ?_)) (fun ρ' e => ?_) (fun _ z => z.elim) (fun _ z => z.elim) (fun _ z => z.elim) (fun e z => ?_))
      · have h1 : ¬ w.drop 1 = [58] := by simpa using h
        refine ws_seq (ws_when (evt_test (evd_neSt (a := (w.drop 1).take (2 - 1)) (b := [58]) (evd_is (evd_cutS (l := w) (lo := some ((1 : Nat) : Int)) (hi := some ((2 : Nat) : Int)) (evd_var rfl) (by omega) (evo_some evd_int) (evo_some evd_int)) (by rw [cut_mid _ 1 2 (by decide)])) (evd_lit lit_colon))) (fun z => ws_raise (e := .note) ⟨rfl, ?_⟩) (fun z => ?_))
        · have h2 : ¬ (w.drop 1).take 1 = [58] := by simpa using z
          unfold wordsOf
          rw [if_neg h1, if_neg h2]
        · have h2 : (w.drop 1).take 1 = [58] := by simpa using z
          have sl := splitL_len 44 (w.drop 2)
          have se := splitL_each 44 (w.drop 2)
          rw [List.length_drop] at sl
          have go := evx_lcL (Ex := E) (splitL 44 (w.drop 2)) (fun p => .str (st p)) (fun p => (crowdL p).map eC) .note (j := 4) (vs := [4]) (evs_new (evn_split (l := w.drop 2) (evd_is (G := G) (ρ := [.im (.str (st w)), .im (.int m), .own [], .no, .no]) (evd_cutS (lo := some ((2 : Nat) : Int)) (hi := none) (evd_var (i := 0) rfl) (by omega) (evo_some evd_int) evo_none) (by rw [cut_drop])) (evd_lit lit_comma) (by rw [List.length_drop]; omega))) (by omega) (by simp) (fun p hp => evx_call (R := R_crowd_of) (ea1 (evd_var (i := 4) rfl)) ⟨p, rfl, by have := se p hp; rw [List.length_drop] at this; omega, rfl⟩)
          rw [optAll_out] at go
          have ew : wordsOf w = optAll crowdL (splitL 44 (w.drop 2)) := by
            unfold wordsOf
            rw [if_neg h1, if_pos h2]
          refine ws_asgX (i := 2) go ?_
          cases q2 : optAll crowdL (splitL 44 (w.drop 2)) with
          | none => exact ⟨rfl, by rw [ew, q2]⟩
          | some cs => exact ⟨cs, by rw [ew, q2], by rw [optAll_len q2]; omega, rfl⟩
      · have h1 : w.drop 1 = [58] := by simpa using h
        exact ⟨[], by unfold wordsOf; rw [if_pos h1], by simp, rfl⟩
      · obtain ⟨cs, ew, hl, rfl⟩ := e
        rw [ew, Option.bind_some]
        refine ws_seq (ws_try2 (i := 3) (r := couRes m cs) (trya_asg (evxs_make (eva_cons (evd_var rfl) (ea1L (evs_own rfl))) (by omega))) (fun d hd => ?_) (couRes_ve m cs) (fun e he => ?_))
        · unfold couRes at hd
          split at hd
          · cases hd
          · rename_i hn
            split at hd
            · rename_i hall
              cases hd
              obtain ⟨n, rfl⟩ : ∃ n : Nat, (n : Int) = m := ⟨m.toNat, by omega⟩
              have hn1 : 1 ≤ n := by omega
              have hn5 : n ≤ 5 := by omega
              have test := evt_test (evd_neSt (b := w) (evd_call (G := G) (R := R_shown) (Ex := E0) (ρ := [.im (.str (st w)), .im (.int n), .own (cs.map eC), .im (.cou n cs), .no]) (ea1 (evd_var (i := 3) rfl)) ⟨n, cs, rfl, hn1, hn5, rfl⟩) (evd_var (i := 0) rfl))
              unfold readWith
              rw [Int.toNat_natCast]
              by_cases hs : showL n (least n cs) = w
              · rw [if_pos ⟨⟨by omega, by omega⟩, hall, hs⟩]
                exact ws_seq (ws_when test (fun h => by rw [decide_eq_true hs] at h; simp at h) (fun _ => ws_ret (evd_var rfl) rfl))
              · rw [if_neg fun z => hs z.2.2]
                exact ws_seq (ws_when test (fun h => ws_raise (e := .note) rfl) (fun h => by rw [decide_eq_false hs] at h; simp at h))
            · cases hd
        · have none_of : ¬ ((1 ≤ m ∧ m ≤ 5) ∧ cs.all (crowdOk m) = true) → readWith w m cs = none := fun z => by
            unfold readWith
            exact if_neg fun y => z ⟨y.1, y.2.1⟩
          unfold couRes at he
          split at he
          · rename_i hn
            cases he
            rw [none_of fun z => by omega]
            exact .inl ⟨m_ss, fun a => ws_raise (e := .note) rfl⟩
          · split at he
            · cases he
            · rename_i hall
              cases he
              rw [none_of fun z => hall z.2]
              exact .inr ⟨m_cs, m_cc, fun a => ws_raise (e := .note) rfl⟩
      · obtain ⟨rfl, ew⟩ := z
        rw [ew]
        rfl

/-! #### _law_told_by -/
abbrev s__law_told_by : Stmt := top 37
abbrev nm__law_told_by : List Str := ["text", "found", "e", "flags"]
theorem sc__law_told_by : FnScope nm__law_told_by ["text"] (defScope s__law_told_by) := ⟨rfl, rfl, rfl, by decide +kernel, rfl, by decide +kernel, by decide +kernel⟩
def R__law_told_by : List D → Res → Prop := fun ds r => ∃ l : List Nat, ds = [.str (st l)] ∧ l.length ≤ 9000 ∧ r = .val (toldD (readL l))
theorem ok__law_told_by (T : Txt G mg) {f : Addr} {fd : FuncData} (F : Fun G.K "_law_told_by" "_law_told_by" s__law_told_by f fd) {V : Addr} (H_read : Fn G P w mg base "read" 5 ["text"] R_read) (gV : mg "VoteError" = some (.ref V)) (gValueError : mg "ValueError" = none) (gx_BadCrowd : mg "BadCrowd" = some (.ref (G.ex .crowd))) (gx_BadWeights : mg "BadWeights" = some (.ref (G.ex .weights))) (gx_BadSize : mg "BadSize" = some (.ref (G.ex .size))) (gx_Unlike : mg "Unlike" = some (.ref (G.ex .unlike))) (gx_NoMember : mg "NoMember" = some (.ref (G.ex .member))) (gx_BadNote : mg "BadNote" = some (.ref (G.ex .note))) (K_BadNote : ExK G V .note [.size, .crowd, .member, .weights, .unlike, .note]) : FnOk P w G.K mg base CX0 6 f fd ["text"] (mkSp G R__law_told_by) := by
  refine okD F sc__law_told_by (fun ds r hR => ?_) (by decide) (fun cdv A outer s H E hr => ⟨_, (pss_cons (ps_asg pe_non (pg_name (i := 1) sc__law_told_by.nd rfl (by first | exact Or.inl rfl | exact Or.inr rfl))) (pss_cons (ps_tryAs (i := 2) rfl rfl sc__law_told_by.nd rfl rfl ⟨rfl, by decide, .inl gV⟩ takes0 (fun W pn xe tk _ => (pss_one (ps_asg (pe_tup (pa_cons pe_str (pa_cons (pe_callS' H_read (hr.mono (by decide)) rfl tk (pa_cons (pv 0) pa_nil)) pa_nil))) (pg_name (i := 1) sc__law_told_by.nd rfl (by first | exact Or.inl rfl | exact Or.inr rfl))))) (fun a oe cls d pn hz hf => (pss_cons (ps_asg (pe_lst (pa_cons (pe_callB (k_isE (K := G.K) hz hf) (by rfl) T.isinstance (by decide +kernel) (pa_cons (pv 2) (pa_cons (pe_glob (v := .ref _) rfl gx_Unlike rfl) pa_nil))) (pa_cons (pe_callB (k_isE (K := G.K) hz hf) (by rfl) T.isinstance (by decide +kernel) (pa_cons (pv 2) (pa_cons (pe_glob (v := .ref _) rfl gx_BadSize rfl) pa_nil))) (pa_cons (pe_callB (k_isE (K := G.K) hz hf) (by rfl) T.isinstance (by decide +kernel) (pa_cons (pv 2) (pa_cons (pe_glob (v := .ref _) rfl gx_BadWeights rfl) pa_nil))) (pa_cons (pe_callB (k_isE (K := G.K) hz hf) (by rfl) T.isinstance (by decide +kernel) (pa_cons (pv 2) (pa_cons (pe_glob (v := .ref _) rfl gx_BadCrowd rfl) pa_nil))) pa_nil))))) (pg_name (i := 3) sc__law_told_by.nd rfl (by first | exact Or.inl rfl | exact Or.inr rfl))) (pss_cons (ps_asg (pe_op op_cat (pv 3) (pe_lst (pa_cons (pe_callB (k_isE (K := G.K) hz hf) (by rfl) T.isinstance (by decide +kernel) (pa_cons (pv 2) (pa_cons (pe_glob (v := .ref _) rfl gx_NoMember rfl) pa_nil))) pa_nil))) (pg_name (i := 3) sc__law_told_by.nd rfl (by first | exact Or.inl rfl | exact Or.inr rfl))) (pss_one (ps_asg (pe_tup (pa_cons pe_str (pa_cons (pe_and (pe_callB (k_isE (K := G.K) hz hf) (by rfl) T.isinstance (by decide +kernel) (pa_cons (pv 2) (pa_cons (pe_glob (v := .ref _) rfl gx_BadNote rfl) pa_nil))) (pe_and (pe_callB (k_isE (K := G.K) hz hf) (by rfl) T.isinstance (by decide +kernel) (pa_cons (pv 2) (pa_cons (pe_bltn (v := .ty "ValueError") (by rfl) gValueError (by decide +kernel) rfl) pa_nil))) (pe_one (pe_cmpR (k_notInD (K := G.K) (by have h := hu100 hr; exact h)) pe_bl (pv 3) rfl)))) pa_nil))) (pg_name (i := 1) sc__law_told_by.nd rfl (by first | exact Or.inl rfl | exact Or.inr rfl)))))))) (pss_one (ps_ret (pv 1))))), fun ds r hR => ?_⟩)
  · obtain ⟨l, rfl, hl, rfl⟩ := hR
    rfl
  · obtain ⟨l, rfl, hl, rfl⟩ := hR
    show WS G _ _ _ [.im (.str (st l)), .no, .no, .no]
    refine ws_seq (ws_asgD (i := 1) evd_non ?_)
    refine ws_seq (ws_tryAsA (i := 1) (j := 2) (r := tupR (Str.ofString "read") (optR .note ((readL l).map fun p => .cou p.1 p.2))) (trya_asg (evxs_tup (evxs_call (R := R_read) (ea1 (evd_var rfl)) ⟨l, rfl, hl, rfl⟩) (by cases readL l <;> exact trivial))) (fun d hd => ?_) (by cases readL l <;> exact trivial) (fun e he => ?_))
    · cases q : readL l with
      | none => rw [q] at hd; cases hd
      | some p =>
        rw [q] at hd
        cases hd
        exact ws_ret (evd_var rfl) rfl
    · cases q : readL l with
      | some p => rw [q] at he; cases he
      | none =>
        rw [q] at he
        cases he
        refine ⟨K_BadNote.m, fun a => ?_⟩
        refine ws_seq (ws_asgN (i := 3) (evn_is (evn_lst (evad_cons (evd_isE (V := V) K_BadNote (evd_var rfl)) (evad_cons (evd_isE K_BadNote (evd_var rfl)) (evad_cons (evd_isE K_BadNote (evd_var rfl)) (evad_cons (evd_isE K_BadNote (evd_var rfl)) evad_nil))))) (es := [false, false, false, false].map .bl) rfl) ?_)
        refine ws_seq (ws_asgN (i := 3) (evn_is (evn_cat (evs_own rfl) (evs_new (evn_lst (evad_cons (evd_isE K_BadNote (evd_var rfl)) evad_nil))) (by decide)) (es := [false, false, false, false, false].map .bl) rfl) ?_)
        refine ws_asgD (i := 1) (d := refD true) (evd_tup (evad_cons evd_str (evad_cons (evd_is (evd_andV (evd_isE K_BadNote (evd_var rfl)) (fun _ => evd_andV (evd_isEV K_BadNote (evd_var rfl)) (fun _ => evd_ninE encB evd_bl (evs_own rfl)))) (congrArg D.bl (by decide))) evad_nil))) ?_
        exact ws_ret (evd_var rfl) rfl

/-! #### _law_right -/
abbrev s__law_right : Stmt := top 38
abbrev nm__law_right : List Str := ["text", "due", "found"]
theorem sc__law_right : FnScope nm__law_right ["text", "due"] (defScope s__law_right) := ⟨rfl, rfl, rfl, by decide +kernel, rfl, by decide +kernel, by decide +kernel⟩
def R__law_right : List D → Res → Prop := fun ds r => ∃ l : List Nat, ds = [.str (st l), dueD (dueL l)] ∧ l.length ≤ 9000 ∧ r = .val (.bl true)
theorem ok__law_right (T : Txt G mg) {f : Addr} {fd : FuncData} (F : Fun G.K "_law_right" "_law_right" s__law_right f fd) (H__law_told_by : Fn G P w mg base "_law_told_by" 6 ["text"] R__law_told_by) (H_Council_many : Mt G P w mg base "many" 1 ["self"] R_Council_many) (H_Council_least : Mt G P w mg base "least" 3 ["self"] R_Council_least) (H_shown : Fn G P w mg base "shown" 4 ["council"] R_shown) (cT : CouT G.K G.C) : FnOk P w G.K mg base CX0 7 f fd ["text", "due"] (mkSp G R__law_right) := by
  refine okD F sc__law_right (fun ds r hR => ?_) (by decide) (fun cdv A outer s H E hr => ⟨_, (pss_cons (ps_asg (pe_callF H__law_told_by (hr.mono (by decide)) rfl (pa_cons (pv 0) pa_nil)) (pg_name (i := 2) sc__law_right.nd rfl (by first | exact Or.inl rfl | exact Or.inr rfl))) (pss_cons (ps_if (pt_cmpR op_isN (pv 1) pe_non (nomark _)) (pss_one (ps_ret (pe_cmpR (k_eqD G.K hr.units) (pv 2) (pe_tup (pa_cons pe_str (pa_cons pe_bl pa_nil))) (nomark _)))) pss_nil) (pss_cons (ps_if (PW.pt (pw_or (pt_cmpR op_ne (pe_ix (k_ixT G.K) (pv 2) pe_int (fun _ _ => rfl)) pe_str (nomark _)) (pw_or (pt_not (pt_val (pe_callB (k_isi G.K) (by rfl) T.isinstance (by decide +kernel) (pa_cons (pe_ix (k_ixT G.K) (pv 2) pe_int (fun _ _ => rfl)) (pa_cons (pe_glob (v := .ref _) rfl T.g_Council rfl) pa_nil))))) (pw_or1 (pt_cmpR op_ne (pe_methF0 (pe_ix (k_ixT G.K) (pv 2) pe_int (fun _ _ => rfl)) T.cl H_Council_many (hr.mono (by decide))) (pe_ix (k_ixT G.K) (pv 1) pe_int (fun _ _ => rfl)) (nomark _)))))) (pss_one (ps_ret pe_bl)) pss_nil) (pss_one (ps_ret (pe_and (pe_cmpR op_eq (pe_callF H_shown (hr.mono (by decide)) rfl (pa_cons (pe_ix (k_ixT G.K) (pv 2) pe_int (fun _ _ => rfl)) pa_nil)) (pv 0) (nomark _)) (pe_one (pe_cmpR (k_eqD G.K hr.units) (pe_methF0 (pe_ix (k_ixT G.K) (pv 2) pe_int (fun _ _ => rfl)) T.cl H_Council_least (hr.mono (by decide))) (pe_ix (k_ixT G.K) (pv 1) pe_int (fun _ _ => rfl)) (nomark _))))))))), fun ds r hR => ?_⟩)
  · obtain ⟨l, rfl, hl, rfl⟩ := hR
    rfl
  · obtain ⟨l, rfl, hl, rfl⟩ := hR
    show WS G _ _ _ [.im (.str (st l)), slot (dueD (dueL l)), .no]
    have hslot : slot (dueD (dueL l)) = .im (dueD (dueL l)) := by cases dueL l <;> rfl
    rw [hslot]
    have told := evd_call (G := G) (R := R__law_told_by) (Ex := E0) (ρ := [.im (.str (st l)), .im (dueD (dueL l)), .no]) (ea1 (evd_var (i := 0) rfl)) ⟨l, rfl, hl, rfl⟩
    rw [read_due] at told
    refine ws_seq (ws_asgD (i := 2) told ?_)
    cases q : dueL l with
    | none =>
      exact ws_seq (ws_when (evt_test (evd_isN (evd_var rfl))) (fun _ => ws_ret (evd_is (evd_eqE encR (a := true) (b := true) (evd_var rfl) (evd_tup (evad_cons evd_str (evad_cons evd_bl evad_nil)))) (by rfl)) rfl) (fun h => nomatch h))
    | some p =>
      obtain ⟨m, cs⟩ := p
      obtain ⟨⟨h1, h5⟩, hok, hle, hsh, _⟩ := due_some q
      refine ws_seq (ws_when (evt_test (evd_isN (evd_var rfl))) (fun h => nomatch h) (fun _ => ?_))
      have cou : ∀ {ρ : Rho}, ρ[2]? = some (.im (toldD (some (m, cs)))) → EvD G (tOp (rIxT G.K) (tVar 2) (tC (.int 1))) ρ (.cou m cs) := fun h => evd_ixT (ds := [.str "read", .cou m cs]) (j := 1) (evd_var h) evd_int rfl rfl
      have due0 : ∀ {ρ : Rho}, ρ[1]? = some (.im (dueD (some (m, cs)))) → EvD G (tOp (rIxT G.K) (tVar 1) (tC (.int 0))) ρ (.int m) := fun h => evd_ixT (ds := [.int m, .lst (cs.map eC)]) (j := 0) (evd_var h) evd_int rfl rfl
      have due1 : ∀ {ρ : Rho}, ρ[1]? = some (.im (dueD (some (m, cs)))) → EvD G (tOp (rIxT G.K) (tVar 1) (tC (.int 1))) ρ (.lst (cs.map eC)) := fun h => evd_ixT (ds := [.int m, .lst (cs.map eC)]) (j := 1) (evd_var h) evd_int rfl rfl
      refine ws_seq (ws_when (b := false) (evt_is (evt_or (evt_test (evd_neS (evd_ixT (ds := [.str "read", .cou m cs]) (j := 0) (evd_var rfl) evd_int rfl rfl) evd_str)) (fun _ => evt_or (evt_not (evt_B (evd_isiC (cou rfl) cT T.cl))) (fun _ => evt_test (evd_neI (evd_meth (cou rfl) eva_nil ⟨m, cs, rfl, rfl⟩) (due0 rfl))))) (by simp)) (fun h => nomatch h) (fun _ => ?_))
      refine ws_ret (evd_is (evd_andV (evd_eqSt (a := l) (b := l) (evd_is (evd_call (ea1 (cou rfl)) ⟨m, cs, rfl, h1, h5, rfl⟩) (by rw [hle, hsh])) (evd_var rfl)) (fun _ => evd_eqL enc_eC (evs_new (evn_meth (cou rfl) eva_nil ⟨m, cs, rfl, h5, rfl⟩)) (evs_of (due1 rfl)))) (by rw [hle]; simp)) rfl

/-! #### law -/
abbrev s_law : Stmt := top 39
abbrev nm_law : List Str := ["script", "many", "told", "way", "text", "due"]
theorem sc_law : FnScope nm_law ["script"] (defScope s_law) := ⟨rfl, rfl, rfl, by decide +kernel, rfl, by decide +kernel, by decide +kernel⟩
def R_law : List D → Res → Prop := fun ds r => ∃ ns : List Int, ds = [.scr ns] ∧ ns.length ≤ 63 ∧ r = .val (.bl true)
theorem ok_law (T : Txt G mg) {f : Addr} {fd : FuncData} (F : Fun G.K "law" "law" s_law f fd) (H__law_many : Fn G P w mg base "_law_many" 1 ["cell"] R__law_many) (H__law_cell_at : Fn G P w mg base "_law_cell_at" 1 ["script", "k"] R__law_cell_at) (H__law_told : Fn G P w mg base "_law_told" 4 ["script", "start", "many"] R__law_told) (H__law_spoiled : Fn G P w mg base "_law_spoiled" 1 ["text", "way", "cell", "other"] R__law_spoiled) (H__law_shown : Fn G P w mg base "_law_shown" 4 ["told", "many"] R__law_shown) (H__law_odd : Fn G P w mg base "_law_odd" 1 ["cell"] R__law_odd) (H__law_due : Fn G P w mg base "_law_due" 2 ["text"] R__law_due) (H__law_right : Fn G P w mg base "_law_right" 7 ["text", "due"] R__law_right) : FnOk P w G.K mg base CX0 8 f fd ["script"] (mkSp G R_law) := by
  refine okD F sc_law (fun ds r hR => ?_) (by decide) (fun cdv A outer s H E hr => ⟨_, (pss_cons (ps_asg (pe_callF H__law_many (hr.mono (by decide)) rfl (pa_cons (pe_callF H__law_cell_at (hr.mono (by decide)) rfl (pa_cons (pv 0) (pa_cons pe_int pa_nil))) pa_nil)) (pg_name (i := 1) sc_law.nd rfl (by first | exact Or.inl rfl | exact Or.inr rfl))) (pss_cons (ps_asg (pe_callF H__law_told (hr.mono (by decide)) rfl (pa_cons (pv 0) (pa_cons pe_int (pa_cons (pv 1) pa_nil)))) (pg_name (i := 2) sc_law.nd rfl (by first | exact Or.inl rfl | exact Or.inr rfl))) (pss_cons (ps_asg (pe_op op_mod (pe_callF H__law_cell_at (hr.mono (by decide)) rfl (pa_cons (pv 0) (pa_cons pe_int pa_nil))) pe_int) (pg_name (i := 3) sc_law.nd rfl (by first | exact Or.inl rfl | exact Or.inr rfl))) (pss_cons (ps_asg (pe_callF H__law_spoiled (hr.mono (by decide)) rfl (pa_cons (pe_callF H__law_shown (hr.mono (by decide)) rfl (pa_cons (pv 2) (pa_cons (pv 1) pa_nil))) (pa_cons (pv 3) (pa_cons (pe_callF H__law_cell_at (hr.mono (by decide)) rfl (pa_cons (pv 0) (pa_cons pe_int pa_nil))) (pa_cons (pe_callF H__law_cell_at (hr.mono (by decide)) rfl (pa_cons (pv 0) (pa_cons pe_int pa_nil))) pa_nil))))) (pg_name (i := 4) sc_law.nd rfl (by first | exact Or.inl rfl | exact Or.inr rfl))) (pss_cons (ps_if (pt_cmpR op_eq (pe_op op_mod (pe_op op_fdiv (pe_callF H__law_cell_at (hr.mono (by decide)) rfl (pa_cons (pv 0) (pa_cons pe_int pa_nil))) pe_int) pe_int) pe_int (nomark _)) (pss_one (ps_asg (pe_callF H__law_odd (hr.mono (by decide)) rfl (pa_cons (pe_callF H__law_cell_at (hr.mono (by decide)) rfl (pa_cons (pv 0) (pa_cons pe_int pa_nil))) pa_nil)) (pg_name (i := 4) sc_law.nd rfl (by first | exact Or.inl rfl | exact Or.inr rfl)))) pss_nil) (pss_cons (ps_asg (pe_callF H__law_due (hr.mono (by decide)) rfl (pa_cons (pv 4) pa_nil)) (pg_name (i := 5) sc_law.nd rfl (by first | exact Or.inl rfl | exact Or.inr rfl))) (pss_one (ps_ret (pe_and (pe_callF H__law_right (hr.mono (by decide)) rfl (pa_cons (pv 4) (pa_cons (pv 5) pa_nil))) (pe_one (pe_callF H__law_right (hr.mono (by decide)) rfl (pa_cons (pv 4) (pa_cons (pv 5) pa_nil))))))))))))), fun ds r hR => ?_⟩)
  · obtain ⟨ns, rfl, hns, rfl⟩ := hR
    rfl
  · obtain ⟨ns, rfl, hns, rfl⟩ := hR
    show WS G _ _ _ [.im (.scr ns), .no, .no, .no, .no, .no]
    have hm := manyOf_le (cell ns 0)
    generalize em : manyOf (cell ns 0) = m at hm
    obtain ⟨h1, h5⟩ := hm
    refine ws_seq (ws_asgD (i := 1) (d := .int m) (evd_call (ea1 (evd_call (ea2 (evd_var rfl) evd_int) ⟨ns, 0, rfl, rfl⟩)) ⟨_, rfl, by rw [em]⟩) ?_)
    refine ws_seq (ws_asgN (i := 2) (evn_call (eva_cons (evd_var rfl) (eva_cons evd_int (eva_cons (evd_var rfl) eva_nil))) ⟨ns, 5, m, rfl, h1, h5, rfl⟩) ?_)
    have tg := told_good (ns := ns) (start := 5) h5
    have tl := told_len (ns := ns) (start := 5) h5
    generalize toldOf ns 5 m = told at tg tl
    have tl5 : ∀ t ∈ told, t.length ≤ 1000 := fun t ht => by have := (tg t ht).2; omega
    have hs : Short (showL m (least m told)) := show_short (least_len h5 told) (least_clen h5 told)
    refine ws_seq (ws_asgD (i := 3) (evd_mod (evd_call (ea2 (evd_var rfl) evd_int) ⟨ns, 1, rfl, rfl⟩) evd_int (by decide)) ?_)
    refine ws_seq (ws_asgD (i := 4) (evd_call (eva_cons (evd_call (eva_consL (evs_own rfl) (ea1 (evd_var rfl))) ⟨told, m, rfl, h1, h5, by omega, tl5, rfl⟩) (eva_cons (evd_var rfl) (ea2 (evd_call (ea2 (evd_var rfl) evd_int) ⟨ns, 2, rfl, rfl⟩) (evd_call (ea2 (evd_var rfl) evd_int) ⟨ns, 3, rfl, rfl⟩)))) ⟨showL m (least m told), cell ns 1 % 10, cell ns 2, cell ns 3, rfl, hs, rfl⟩) ?_)
    have ok1 := spoil_ok hs (cell ns 1 % 10) (cell ns 2) (cell ns 3)
    generalize spoilL (showL m (least m told)) (cell ns 1 % 10) (cell ns 2) (cell ns 3) = l1 at ok1
    refine ws_seq (ws_mono (k := { nx := fun ρ' => ∃ l : List Nat, l.length ≤ 600 ∧ l.count 44 ≤ 40 ∧ ρ' = [.im (.scr ns), .im (.int m), .own (told.map eC), .im (.int (cell ns 1 % 10)), .im (.str (st l)), .no], rt := fun _ => False }) (ws_when (evt_test (evd_eqI (evd_mod (evd_fdiv (evd_call (ea2 (evd_var rfl) evd_int) ⟨ns, 1, rfl, rfl⟩) evd_int ⟨by decide, by decide⟩) evd_int (by decide)) evd_int)) (fun _ => ?_) (fun _ => ⟨l1, ok1.1, ok1.2, rfl⟩)) (fun ρ' e => ?_) (fun _ z => z.elim) (fun _ z => z.elim) (fun _ z => z.elim) (fun _ z => z.elim))
    · exact ws_asgD (i := 4) (evd_call (ea1 (evd_call (ea2 (evd_var rfl) evd_int) ⟨ns, 4, rfl, rfl⟩)) ⟨cell ns 4, rfl, rfl⟩) ⟨oddL (cell ns 4), (odd_ok _).1, (odd_ok _).2, rfl⟩
    obtain ⟨l, hl, hc, rfl⟩ := e
    refine ws_seq (ws_asgD (i := 5) (evd_call (ea1 (evd_var rfl)) ⟨l, rfl, hl, hc, rfl⟩) ?_)
    exact ws_ret (evd_is (evd_andV (evd_call (ea2 (evd_var rfl) (evd_var rfl)) ⟨l, rfl, by omega, rfl⟩) (fun _ => evd_call (ea2 (evd_var rfl) (evd_var rfl)) ⟨l, rfl, by omega, rfl⟩)) rfl) rfl

end
/-! ### the end -/
section
variable {l : PySem.W.OpenLaw} {w : World} {K : PySem.W.Frag} {h : Heap} {mg : Str → Option Value} {fa C : Addr} {f0 f1 f2 f3 f4 f5 f6 f7 f8 f9 f10 f11 f12 f13 f14 f15 f16 f17 f18 f19 f20 f21 f22 f23 f24 f25 f26 f27 f28 : Addr} {E_BadNote E_BadCrowd E_BadSize E_BadWeights E_Unlike E_NoMember V : Addr}
theorem all_mk (X : K.In h) (G : h.Ns mainGlobals mg) (hfa : mg "law" = some (.ref fa))
    {od0 an0 : Option Addr} {sl0 : Array (Option Value)} {oc0 kV0 dc0 pm0 cd0 ct0 : Value} {od1 an1 : Option Addr} {sl1 : Array (Option Value)} {oc1 kV1 dc1 pm1 cd1 ct1 : Value} {od2 an2 : Option Addr} {sl2 : Array (Option Value)} {oc2 kV2 dc2 pm2 cd2 ct2 : Value} {od3 an3 : Option Addr} {sl3 : Array (Option Value)} {oc3 kV3 dc3 pm3 cd3 ct3 : Value} {od4 an4 : Option Addr} {sl4 : Array (Option Value)} {oc4 kV4 dc4 pm4 cd4 ct4 : Value} {od5 an5 : Option Addr} {sl5 : Array (Option Value)} {oc5 kV5 dc5 pm5 cd5 ct5 : Value} {od6 an6 : Option Addr} {sl6 : Array (Option Value)} {oc6 kV6 dc6 pm6 cd6 ct6 : Value} {od7 an7 : Option Addr} {sl7 : Array (Option Value)} {oc7 kV7 dc7 pm7 cd7 ct7 : Value} {od8 an8 : Option Addr} {sl8 : Array (Option Value)} {oc8 kV8 dc8 pm8 cd8 ct8 : Value} {od9 an9 : Option Addr} {sl9 : Array (Option Value)} {oc9 kV9 dc9 pm9 cd9 ct9 : Value} {od10 an10 : Option Addr} {sl10 : Array (Option Value)} {oc10 kV10 dc10 pm10 cd10 ct10 : Value} {od11 an11 : Option Addr} {sl11 : Array (Option Value)} {oc11 kV11 dc11 pm11 cd11 ct11 : Value} {od12 an12 : Option Addr} {sl12 : Array (Option Value)} {oc12 kV12 dc12 pm12 cd12 ct12 : Value} {od13 an13 : Option Addr} {sl13 : Array (Option Value)} {oc13 kV13 dc13 pm13 cd13 ct13 : Value} {od14 an14 : Option Addr} {sl14 : Array (Option Value)} {oc14 kV14 dc14 pm14 cd14 ct14 : Value} {od15 an15 : Option Addr} {sl15 : Array (Option Value)} {oc15 kV15 dc15 pm15 cd15 ct15 : Value} {od16 an16 : Option Addr} {sl16 : Array (Option Value)} {oc16 kV16 dc16 pm16 cd16 ct16 : Value} {od17 an17 : Option Addr} {sl17 : Array (Option Value)} {oc17 kV17 dc17 pm17 cd17 ct17 : Value} {od18 an18 : Option Addr} {sl18 : Array (Option Value)} {oc18 kV18 dc18 pm18 cd18 ct18 : Value} {od19 an19 : Option Addr} {sl19 : Array (Option Value)} {oc19 kV19 dc19 pm19 cd19 ct19 : Value} {od20 an20 : Option Addr} {sl20 : Array (Option Value)} {oc20 kV20 dc20 pm20 cd20 ct20 : Value} {od21 an21 : Option Addr} {sl21 : Array (Option Value)} {oc21 kV21 dc21 pm21 cd21 ct21 : Value} {od22 an22 : Option Addr} {sl22 : Array (Option Value)} {oc22 kV22 dc22 pm22 cd22 ct22 : Value} {od23 an23 : Option Addr} {sl23 : Array (Option Value)} {oc23 kV23 dc23 pm23 cd23 ct23 : Value} {od24 an24 : Option Addr} {sl24 : Array (Option Value)} {oc24 kV24 dc24 pm24 cd24 ct24 : Value} {od25 an25 : Option Addr} {sl25 : Array (Option Value)} {oc25 kV25 dc25 pm25 cd25 ct25 : Value} {od26 an26 : Option Addr} {sl26 : Array (Option Value)} {oc26 kV26 dc26 pm26 cd26 ct26 : Value} {od27 an27 : Option Addr} {sl27 : Array (Option Value)} {oc27 kV27 dc27 pm27 cd27 ct27 : Value} {od28 an28 : Option Addr} {sl28 : Array (Option Value)} {oc28 kV28 dc28 pm28 cd28 ct28 : Value} {tk_FIGURES : Tok} {tk_MOST : Tok}
    (aC : PySem.W.nsIn K mainGlobals "Council" = some (some (.ref C)))
    (a0 : PySem.W.nsIn K mainGlobals "_law_many" = some (some (.ref f0)))
    (l0 : K.lookup f0 = some ⟨oc0, od0, .func (PySem.W.fnOf "_law_many" "_law_many" (defArgs s__law_many) (defBody s__law_many) (defScope s__law_many) .none kV0 dc0 pm0 an0 cd0 ct0), sl0⟩)
    (c0 : PySem.W.codeIn K cd0 "_law_many" = true)
    (k0 : PySem.W.keepIn K (.ref f0) = true)
    (a1 : PySem.W.nsIn K mainGlobals "_law_cell_at" = some (some (.ref f1)))
    (l1 : K.lookup f1 = some ⟨oc1, od1, .func (PySem.W.fnOf "_law_cell_at" "_law_cell_at" (defArgs s__law_cell_at) (defBody s__law_cell_at) (defScope s__law_cell_at) .none kV1 dc1 pm1 an1 cd1 ct1), sl1⟩)
    (c1 : PySem.W.codeIn K cd1 "_law_cell_at" = true)
    (k1 : PySem.W.keepIn K (.ref f1) = true)
    (a2 : PySem.W.nsIn K mainGlobals "_law_bits" = some (some (.ref f2)))
    (l2 : K.lookup f2 = some ⟨oc2, od2, .func (PySem.W.fnOf "_law_bits" "_law_bits" (defArgs s__law_bits) (defBody s__law_bits) (defScope s__law_bits) .none kV2 dc2 pm2 an2 cd2 ct2), sl2⟩)
    (c2 : PySem.W.codeIn K cd2 "_law_bits" = true)
    (k2 : PySem.W.keepIn K (.ref f2) = true)
    (a3 : PySem.W.nsIn K mainGlobals "_law_some" = some (some (.ref f3)))
    (l3 : K.lookup f3 = some ⟨oc3, od3, .func (PySem.W.fnOf "_law_some" "_law_some" (defArgs s__law_some) (defBody s__law_some) (defScope s__law_some) .none kV3 dc3 pm3 an3 cd3 ct3), sl3⟩)
    (c3 : PySem.W.codeIn K cd3 "_law_some" = true)
    (k3 : PySem.W.keepIn K (.ref f3) = true)
    (a4 : PySem.W.nsIn K mainGlobals "_law_crowds" = some (some (.ref f4)))
    (l4 : K.lookup f4 = some ⟨oc4, od4, .func (PySem.W.fnOf "_law_crowds" "_law_crowds" (defArgs s__law_crowds) (defBody s__law_crowds) (defScope s__law_crowds) .none kV4 dc4 pm4 an4 cd4 ct4), sl4⟩)
    (c4 : PySem.W.codeIn K cd4 "_law_crowds" = true)
    (k4 : PySem.W.keepIn K (.ref f4) = true)
    (a5 : PySem.W.nsIn K mainGlobals "_law_weighed_crowds" = some (some (.ref f5)))
    (l5 : K.lookup f5 = some ⟨oc5, od5, .func (PySem.W.fnOf "_law_weighed_crowds" "_law_weighed_crowds" (defArgs s__law_weighed_crowds) (defBody s__law_weighed_crowds) (defScope s__law_weighed_crowds) .none kV5 dc5 pm5 an5 cd5 ct5), sl5⟩)
    (c5 : PySem.W.codeIn K cd5 "_law_weighed_crowds" = true)
    (k5 : PySem.W.keepIn K (.ref f5) = true)
    (a6 : PySem.W.nsIn K mainGlobals "_law_told" = some (some (.ref f6)))
    (l6 : K.lookup f6 = some ⟨oc6, od6, .func (PySem.W.fnOf "_law_told" "_law_told" (defArgs s__law_told) (defBody s__law_told) (defScope s__law_told) .none kV6 dc6 pm6 an6 cd6 ct6), sl6⟩)
    (c6 : PySem.W.codeIn K cd6 "_law_told" = true)
    (k6 : PySem.W.keepIn K (.ref f6) = true)
    (a7 : PySem.W.nsIn K mainGlobals "_law_spoiled" = some (some (.ref f7)))
    (l7 : K.lookup f7 = some ⟨oc7, od7, .func (PySem.W.fnOf "_law_spoiled" "_law_spoiled" (defArgs s__law_spoiled) (defBody s__law_spoiled) (defScope s__law_spoiled) .none kV7 dc7 pm7 an7 cd7 ct7), sl7⟩)
    (c7 : PySem.W.codeIn K cd7 "_law_spoiled" = true)
    (k7 : PySem.W.keepIn K (.ref f7) = true)
    (a8 : PySem.W.nsIn K mainGlobals "_law_in" = some (some (.ref f8)))
    (l8 : K.lookup f8 = some ⟨oc8, od8, .func (PySem.W.fnOf "_law_in" "_law_in" (defArgs s__law_in) (defBody s__law_in) (defScope s__law_in) .none kV8 dc8 pm8 an8 cd8 ct8), sl8⟩)
    (c8 : PySem.W.codeIn K cd8 "_law_in" = true)
    (k8 : PySem.W.keepIn K (.ref f8) = true)
    (a9 : PySem.W.nsIn K mainGlobals "_law_carries" = some (some (.ref f9)))
    (l9 : K.lookup f9 = some ⟨oc9, od9, .func (PySem.W.fnOf "_law_carries" "_law_carries" (defArgs s__law_carries) (defBody s__law_carries) (defScope s__law_carries) .none kV9 dc9 pm9 an9 cd9 ct9), sl9⟩)
    (c9 : PySem.W.codeIn K cd9 "_law_carries" = true)
    (k9 : PySem.W.keepIn K (.ref f9) = true)
    (a10 : PySem.W.nsIn K mainGlobals "_law_least" = some (some (.ref f10)))
    (l10 : K.lookup f10 = some ⟨oc10, od10, .func (PySem.W.fnOf "_law_least" "_law_least" (defArgs s__law_least) (defBody s__law_least) (defScope s__law_least) .none kV10 dc10 pm10 an10 cd10 ct10), sl10⟩)
    (c10 : PySem.W.codeIn K cd10 "_law_least" = true)
    (k10 : PySem.W.keepIn K (.ref f10) = true)
    (a11 : PySem.W.nsIn K mainGlobals "_law_shown" = some (some (.ref f11)))
    (l11 : K.lookup f11 = some ⟨oc11, od11, .func (PySem.W.fnOf "_law_shown" "_law_shown" (defArgs s__law_shown) (defBody s__law_shown) (defScope s__law_shown) .none kV11 dc11 pm11 an11 cd11 ct11), sl11⟩)
    (c11 : PySem.W.codeIn K cd11 "_law_shown" = true)
    (k11 : PySem.W.keepIn K (.ref f11) = true)
    (a12 : PySem.W.nsIn K mainGlobals "_law_odd" = some (some (.ref f12)))
    (l12 : K.lookup f12 = some ⟨oc12, od12, .func (PySem.W.fnOf "_law_odd" "_law_odd" (defArgs s__law_odd) (defBody s__law_odd) (defScope s__law_odd) .none kV12 dc12 pm12 an12 cd12 ct12), sl12⟩)
    (c12 : PySem.W.codeIn K cd12 "_law_odd" = true)
    (k12 : PySem.W.keepIn K (.ref f12) = true)
    (a13 : PySem.W.nsIn K mainGlobals "_law_crowd" = some (some (.ref f13)))
    (l13 : K.lookup f13 = some ⟨oc13, od13, .func (PySem.W.fnOf "_law_crowd" "_law_crowd" (defArgs s__law_crowd) (defBody s__law_crowd) (defScope s__law_crowd) .none kV13 dc13 pm13 an13 cd13 ct13), sl13⟩)
    (c13 : PySem.W.codeIn K cd13 "_law_crowd" = true)
    (k13 : PySem.W.keepIn K (.ref f13) = true)
    (a14 : PySem.W.nsIn K mainGlobals "_law_due" = some (some (.ref f14)))
    (l14 : K.lookup f14 = some ⟨oc14, od14, .func (PySem.W.fnOf "_law_due" "_law_due" (defArgs s__law_due) (defBody s__law_due) (defScope s__law_due) .none kV14 dc14 pm14 an14 cd14 ct14), sl14⟩)
    (c14 : PySem.W.codeIn K cd14 "_law_due" = true)
    (k14 : PySem.W.keepIn K (.ref f14) = true)
    (a15 : PySem.W.nsIn K mainGlobals "number_of" = some (some (.ref f15)))
    (l15 : K.lookup f15 = some ⟨oc15, od15, .func (PySem.W.fnOf "number_of" "number_of" (defArgs s_number_of) (defBody s_number_of) (defScope s_number_of) .none kV15 dc15 pm15 an15 cd15 ct15), sl15⟩)
    (c15 : PySem.W.codeIn K cd15 "number_of" = true)
    (k15 : PySem.W.keepIn K (.ref f15) = true)
    (a16 : PySem.W.nsIn K mainGlobals "crowd_of" = some (some (.ref f16)))
    (l16 : K.lookup f16 = some ⟨oc16, od16, .func (PySem.W.fnOf "crowd_of" "crowd_of" (defArgs s_crowd_of) (defBody s_crowd_of) (defScope s_crowd_of) .none kV16 dc16 pm16 an16 cd16 ct16), sl16⟩)
    (c16 : PySem.W.codeIn K cd16 "crowd_of" = true)
    (k16 : PySem.W.keepIn K (.ref f16) = true)
    (a17 : PySem.W.nsIn K mainGlobals "look_at" = some (some (.ref f17)))
    (l17 : K.lookup f17 = some ⟨oc17, od17, .func (PySem.W.fnOf "look_at" "look_at" (defArgs s_look_at) (defBody s_look_at) (defScope s_look_at) .none kV17 dc17 pm17 an17 cd17 ct17), sl17⟩)
    (c17 : PySem.W.codeIn K cd17 "look_at" = true)
    (k17 : PySem.W.keepIn K (.ref f17) = true)
    (a18 : PySem.W.findIn K (.ref C) "__init__" = some (some (.ref f18)))
    (i18 : PySem.W.isFn K (.ref f18) = true)
    (l18 : K.lookup f18 = some ⟨oc18, od18, .func (PySem.W.fnOf "__init__" "Council.__init__" (defArgs s_Council___init__) (defBody s_Council___init__) (defScope s_Council___init__) .none kV18 dc18 pm18 an18 cd18 ct18), sl18⟩)
    (c18 : PySem.W.codeIn K cd18 "Council.__init__" = true)
    (k18 : PySem.W.keepIn K (.ref f18) = true)
    (a19 : PySem.W.nsIn K mainGlobals "crowds_of" = some (some (.ref f19)))
    (l19 : K.lookup f19 = some ⟨oc19, od19, .func (PySem.W.fnOf "crowds_of" "crowds_of" (defArgs s_crowds_of) (defBody s_crowds_of) (defScope s_crowds_of) .none kV19 dc19 pm19 an19 cd19 ct19), sl19⟩)
    (c19 : PySem.W.codeIn K cd19 "crowds_of" = true)
    (k19 : PySem.W.keepIn K (.ref f19) = true)
    (a20 : PySem.W.nsIn K mainGlobals "lies_in" = some (some (.ref f20)))
    (l20 : K.lookup f20 = some ⟨oc20, od20, .func (PySem.W.fnOf "lies_in" "lies_in" (defArgs s_lies_in) (defBody s_lies_in) (defScope s_lies_in) .none kV20 dc20 pm20 an20 cd20 ct20), sl20⟩)
    (c20 : PySem.W.codeIn K cd20 "lies_in" = true)
    (k20 : PySem.W.keepIn K (.ref f20) = true)
    (a21 : PySem.W.findIn K (.ref C) "bears" = some (some (.ref f21)))
    (i21 : PySem.W.isFn K (.ref f21) = true)
    (l21 : K.lookup f21 = some ⟨oc21, od21, .func (PySem.W.fnOf "bears" "Council.bears" (defArgs s_Council_bears) (defBody s_Council_bears) (defScope s_Council_bears) .none kV21 dc21 pm21 an21 cd21 ct21), sl21⟩)
    (c21 : PySem.W.codeIn K cd21 "Council.bears" = true)
    (k21 : PySem.W.keepIn K (.ref f21) = true)
    (a22 : PySem.W.findIn K (.ref C) "least" = some (some (.ref f22)))
    (i22 : PySem.W.isFn K (.ref f22) = true)
    (l22 : K.lookup f22 = some ⟨oc22, od22, .func (PySem.W.fnOf "least" "Council.least" (defArgs s_Council_least) (defBody s_Council_least) (defScope s_Council_least) .none kV22 dc22 pm22 an22 cd22 ct22), sl22⟩)
    (c22 : PySem.W.codeIn K cd22 "Council.least" = true)
    (k22 : PySem.W.keepIn K (.ref f22) = true)
    (a23 : PySem.W.findIn K (.ref C) "many" = some (some (.ref f23)))
    (i23 : PySem.W.isFn K (.ref f23) = true)
    (l23 : K.lookup f23 = some ⟨oc23, od23, .func (PySem.W.fnOf "many" "Council.many" (defArgs s_Council_many) (defBody s_Council_many) (defScope s_Council_many) .none kV23 dc23 pm23 an23 cd23 ct23), sl23⟩)
    (c23 : PySem.W.codeIn K cd23 "Council.many" = true)
    (k23 : PySem.W.keepIn K (.ref f23) = true)
    (a24 : PySem.W.nsIn K mainGlobals "shown" = some (some (.ref f24)))
    (l24 : K.lookup f24 = some ⟨oc24, od24, .func (PySem.W.fnOf "shown" "shown" (defArgs s_shown) (defBody s_shown) (defScope s_shown) .none kV24 dc24 pm24 an24 cd24 ct24), sl24⟩)
    (c24 : PySem.W.codeIn K cd24 "shown" = true)
    (k24 : PySem.W.keepIn K (.ref f24) = true)
    (a25 : PySem.W.nsIn K mainGlobals "read" = some (some (.ref f25)))
    (l25 : K.lookup f25 = some ⟨oc25, od25, .func (PySem.W.fnOf "read" "read" (defArgs s_read) (defBody s_read) (defScope s_read) .none kV25 dc25 pm25 an25 cd25 ct25), sl25⟩)
    (c25 : PySem.W.codeIn K cd25 "read" = true)
    (k25 : PySem.W.keepIn K (.ref f25) = true)
    (a26 : PySem.W.nsIn K mainGlobals "_law_told_by" = some (some (.ref f26)))
    (l26 : K.lookup f26 = some ⟨oc26, od26, .func (PySem.W.fnOf "_law_told_by" "_law_told_by" (defArgs s__law_told_by) (defBody s__law_told_by) (defScope s__law_told_by) .none kV26 dc26 pm26 an26 cd26 ct26), sl26⟩)
    (c26 : PySem.W.codeIn K cd26 "_law_told_by" = true)
    (k26 : PySem.W.keepIn K (.ref f26) = true)
    (a27 : PySem.W.nsIn K mainGlobals "_law_right" = some (some (.ref f27)))
    (l27 : K.lookup f27 = some ⟨oc27, od27, .func (PySem.W.fnOf "_law_right" "_law_right" (defArgs s__law_right) (defBody s__law_right) (defScope s__law_right) .none kV27 dc27 pm27 an27 cd27 ct27), sl27⟩)
    (c27 : PySem.W.codeIn K cd27 "_law_right" = true)
    (k27 : PySem.W.keepIn K (.ref f27) = true)
    (a28 : PySem.W.nsIn K mainGlobals "law" = some (some (.ref f28)))
    (l28 : K.lookup f28 = some ⟨oc28, od28, .func (PySem.W.fnOf "law" "law" (defArgs s_law) (defBody s_law) (defScope s_law) .none kV28 dc28 pm28 an28 cd28 ct28), sl28⟩)
    (c28 : PySem.W.codeIn K cd28 "law" = true)
    (k28 : PySem.W.keepIn K (.ref f28) = true)
    (pg : PySem.W.plainGet K C Str.empty = true)
    (hd : PySem.W.hasDictIn K C = true)
    (po : PySem.W.plainOver K C = true)
    (sa : PySem.W.findIn K (.ref C) "__setattr__" = some (some (.builtin "object.__setattr__")))
    (mk : PySem.W.makesIn K C = true)
    (kc : PySem.W.keepIn K (.ref C) = true)
    (nS : PySem.W.findIn K (.ref C) "size" = some none)
    (nT : PySem.W.findIn K (.ref C) "told" = some none)
    (z_len : PySem.W.nsIn K mainGlobals "len" = some none)
    (z_range : PySem.W.nsIn K mainGlobals "range" = some none)
    (z_tuple : PySem.W.nsIn K mainGlobals "tuple" = some none)
    (z_sorted : PySem.W.nsIn K mainGlobals "sorted" = some none)
    (z_set : PySem.W.nsIn K mainGlobals "set" = some none)
    (z_sum : PySem.W.nsIn K mainGlobals "sum" = some none)
    (z_max : PySem.W.nsIn K mainGlobals "max" = some none)
    (z_min : PySem.W.nsIn K mainGlobals "min" = some none)
    (z_int : PySem.W.nsIn K mainGlobals "int" = some none)
    (z_str : PySem.W.nsIn K mainGlobals "str" = some none)
    (z_list : PySem.W.nsIn K mainGlobals "list" = some none)
    (z_isinstance : PySem.W.nsIn K mainGlobals "isinstance" = some none)
    (z_all : PySem.W.nsIn K mainGlobals "all" = some none)
    (z_bool : PySem.W.nsIn K mainGlobals "bool" = some none)
    (z_reversed : PySem.W.nsIn K mainGlobals "reversed" = some none)
    (eg_BadNote : PySem.W.nsIn K mainGlobals "BadNote" = some (some (.ref E_BadNote)))
    (eg_BadCrowd : PySem.W.nsIn K mainGlobals "BadCrowd" = some (some (.ref E_BadCrowd)))
    (eg_BadSize : PySem.W.nsIn K mainGlobals "BadSize" = some (some (.ref E_BadSize)))
    (eg_BadWeights : PySem.W.nsIn K mainGlobals "BadWeights" = some (some (.ref E_BadWeights)))
    (eg_Unlike : PySem.W.nsIn K mainGlobals "Unlike" = some (some (.ref E_Unlike)))
    (eg_NoMember : PySem.W.nsIn K mainGlobals "NoMember" = some (some (.ref E_NoMember)))
    (q_gV : PySem.W.nsIn K mainGlobals "VoteError" = some (some (.ref V)))
    (ex_BadNote : PySem.W.excIn K E_BadNote [.type "ValueError", .type "Exception", .type "BaseException", .type "object"] "ValueError.__new__" = true)
    (ek_BadNote : PySem.W.keepIn K (.ref E_BadNote) = true)
    (eb_BadNote : PySem.W.subIn K (.ref E_BadNote) (.type "BaseException") = some true)
    (et_BadNote : PySem.W.typeIn K (.ref E_BadNote) = some (.type "type"))
    (ex_BadCrowd : PySem.W.excIn K E_BadCrowd [.type "ValueError", .type "Exception", .type "BaseException", .type "object"] "ValueError.__new__" = true)
    (ek_BadCrowd : PySem.W.keepIn K (.ref E_BadCrowd) = true)
    (eb_BadCrowd : PySem.W.subIn K (.ref E_BadCrowd) (.type "BaseException") = some true)
    (et_BadCrowd : PySem.W.typeIn K (.ref E_BadCrowd) = some (.type "type"))
    (ex_BadSize : PySem.W.excIn K E_BadSize [.type "ValueError", .type "Exception", .type "BaseException", .type "object"] "ValueError.__new__" = true)
    (ek_BadSize : PySem.W.keepIn K (.ref E_BadSize) = true)
    (eb_BadSize : PySem.W.subIn K (.ref E_BadSize) (.type "BaseException") = some true)
    (et_BadSize : PySem.W.typeIn K (.ref E_BadSize) = some (.type "type"))
    (q_t_ss : PySem.W.subIn K (.ref E_BadSize) (.ref E_BadSize) = some true)
    (q_t_cs : PySem.W.subIn K (.ref E_BadCrowd) (.ref E_BadSize) = some false)
    (q_t_cc : PySem.W.subIn K (.ref E_BadCrowd) (.ref E_BadCrowd) = some true)
    (q_hn : PySem.W.specialIn K (.builtin "object.__class__") "__get__" = some (some (.builtin "getset_descriptor.__get__")))
    (q_ht : PySem.W.takesIn K (.builtin "object.__class__") = some true)
    (q_ca : PySem.W.findIn K (.ref C) "__class__" = some (some (.builtin "object.__class__")))
    (q_cm : PySem.W.mroIn K C (.type "object") = some true)
    (z_ValueError : PySem.W.nsIn K mainGlobals "ValueError" = some none)
    (q_hg_BadNote : PySem.W.findIn K (.ref E_BadNote) "__getattribute__" = some (some (.builtin "BaseException.__getattribute__")))
    (q_hk_BadNote : PySem.W.findIn K (.ref E_BadNote) "__getattr__" = some none)
    (q_hd_BadNote : PySem.W.hasDictIn K E_BadNote = true)
    (q_ha_BadNote : PySem.W.findIn K (.ref E_BadNote) "__class__" = some (some (.builtin "object.__class__")))
    (q_hm_BadNote : PySem.W.mroIn K E_BadNote (.type "object") = some true)
    (q_sv_BadNote : PySem.W.subIn K (.ref E_BadNote) (.ref V) = some true)
    (q_se_BadNote : PySem.W.subIn K (.ref E_BadNote) (.type "ValueError") = some true)
    (q_s_BadNote_BadSize : PySem.W.subIn K (.ref E_BadNote) (.ref E_BadSize) = some false)
    (q_s_BadNote_BadCrowd : PySem.W.subIn K (.ref E_BadNote) (.ref E_BadCrowd) = some false)
    (q_s_BadNote_NoMember : PySem.W.subIn K (.ref E_BadNote) (.ref E_NoMember) = some false)
    (q_s_BadNote_BadWeights : PySem.W.subIn K (.ref E_BadNote) (.ref E_BadWeights) = some false)
    (q_s_BadNote_Unlike : PySem.W.subIn K (.ref E_BadNote) (.ref E_Unlike) = some false)
    (q_s_BadNote_BadNote : PySem.W.subIn K (.ref E_BadNote) (.ref E_BadNote) = some true)
    (q_vb : PySem.W.subIn K (.ref V) (.type "BaseException") = some true)
    (q_vd : PySem.W.hasDictIn K V = true)
    (q_vt : PySem.W.typeIn K (.ref V) = some (.type "type"))
    (q_hd_BadSize : PySem.W.hasDictIn K E_BadSize = true)
    (q_hd_BadCrowd : PySem.W.hasDictIn K E_BadCrowd = true)
    (q_hd_NoMember : PySem.W.hasDictIn K E_NoMember = true)
    (et_NoMember : PySem.W.typeIn K (.ref E_NoMember) = some (.type "type"))
    (q_hd_BadWeights : PySem.W.hasDictIn K E_BadWeights = true)
    (et_BadWeights : PySem.W.typeIn K (.ref E_BadWeights) = some (.type "type"))
    (q_hd_Unlike : PySem.W.hasDictIn K E_Unlike = true)
    (et_Unlike : PySem.W.typeIn K (.ref E_Unlike) = some (.type "type"))
    (gc_FIGURES : PySem.W.nsIn K mainGlobals "FIGURES" = some (some (.str "0123456789" tk_FIGURES)))
    (gc_MOST : PySem.W.nsIn K mainGlobals "MOST" = some (some (.int 5 tk_MOST))) :
    ∃ fd : FuncData, (∀ (s : Shared) (v : Value), BindsTo s fd ⟨[v], []⟩ [("script", v)]) ∧ ∀ base : Heap, K.In base → base.Ns mainGlobals mg → FnOk l.prog w K mg base CX0 8 fa fd ["script"] (spLaw K) := by
  have e := hfa.symm.trans (PySem.W.mg_of X G a28)
  cases e
  have T : Txt ⟨K, C, fun e => match e with | .size => E_BadSize | .crowd => E_BadCrowd | .member => E_NoMember | .weights => E_BadWeights | .unlike => E_Unlike | .note => E_BadNote⟩ mg := ⟨⟨pg, hd, po, sa⟩, nS, nT, PySem.W.mg_of X G aC, PySem.W.mg_none_of X G z_len, PySem.W.mg_none_of X G z_range, PySem.W.mg_none_of X G z_tuple, PySem.W.mg_none_of X G z_sorted, PySem.W.mg_none_of X G z_set, PySem.W.mg_none_of X G z_sum, PySem.W.mg_none_of X G z_max, PySem.W.mg_none_of X G z_min, PySem.W.mg_none_of X G z_int, PySem.W.mg_none_of X G z_str, PySem.W.mg_none_of X G z_list, PySem.W.mg_none_of X G z_isinstance, PySem.W.mg_none_of X G z_all, PySem.W.mg_none_of X G z_bool, PySem.W.mg_none_of X G z_reversed⟩
  have X_BadNote : ExT ⟨K, C, fun e => match e with | .size => E_BadSize | .crowd => E_BadCrowd | .member => E_NoMember | .weights => E_BadWeights | .unlike => E_Unlike | .note => E_BadNote⟩ mg "BadNote" E_BadNote := ⟨PySem.W.mg_of X G eg_BadNote, ex_BadNote, ek_BadNote, eb_BadNote, et_BadNote⟩
  have X_BadCrowd : ExT ⟨K, C, fun e => match e with | .size => E_BadSize | .crowd => E_BadCrowd | .member => E_NoMember | .weights => E_BadWeights | .unlike => E_Unlike | .note => E_BadNote⟩ mg "BadCrowd" E_BadCrowd := ⟨PySem.W.mg_of X G eg_BadCrowd, ex_BadCrowd, ek_BadCrowd, eb_BadCrowd, et_BadCrowd⟩
  have X_BadSize : ExT ⟨K, C, fun e => match e with | .size => E_BadSize | .crowd => E_BadCrowd | .member => E_NoMember | .weights => E_BadWeights | .unlike => E_Unlike | .note => E_BadNote⟩ mg "BadSize" E_BadSize := ⟨PySem.W.mg_of X G eg_BadSize, ex_BadSize, ek_BadSize, eb_BadSize, et_BadSize⟩
  have gV := PySem.W.mg_of X G q_gV
  have gx_BadCrowd : mg "BadCrowd" = some (.ref E_BadCrowd) := PySem.W.mg_of X G eg_BadCrowd
  have gx_BadWeights : mg "BadWeights" = some (.ref E_BadWeights) := PySem.W.mg_of X G eg_BadWeights
  have gx_BadSize : mg "BadSize" = some (.ref E_BadSize) := PySem.W.mg_of X G eg_BadSize
  have gx_Unlike : mg "Unlike" = some (.ref E_Unlike) := PySem.W.mg_of X G eg_Unlike
  have gx_NoMember : mg "NoMember" = some (.ref E_NoMember) := PySem.W.mg_of X G eg_NoMember
  have gx_BadNote : mg "BadNote" = some (.ref E_BadNote) := PySem.W.mg_of X G eg_BadNote
  have K_BadNote : ExK ⟨K, C, fun e => match e with | .size => E_BadSize | .crowd => E_BadCrowd | .member => E_NoMember | .weights => E_BadWeights | .unlike => E_Unlike | .note => E_BadNote⟩ V .note [.size, .crowd, .member, .weights, .unlike, .note] := ⟨⟨q_hg_BadNote, q_hk_BadNote, eb_BadNote, q_hd_BadNote, q_ha_BadNote, q_hn, q_ht, q_hm_BadNote⟩, PySem.W.exm_ref q_vb q_vd q_vt q_sv_BadNote, fun x hx => match x, hx with | .size, _ => kit_other q_hd_BadSize et_BadSize q_s_BadNote_BadSize q_s_BadNote_BadNote | .crowd, _ => kit_other q_hd_BadCrowd et_BadCrowd q_s_BadNote_BadCrowd q_s_BadNote_BadNote | .member, _ => kit_other q_hd_NoMember et_NoMember q_s_BadNote_NoMember q_s_BadNote_BadNote | .weights, _ => kit_other q_hd_BadWeights et_BadWeights q_s_BadNote_BadWeights q_s_BadNote_BadNote | .unlike, _ => kit_other q_hd_Unlike et_Unlike q_s_BadNote_Unlike q_s_BadNote_BadNote | .note, _ => kit_self, kit_ve q_se_BadNote⟩
  have cT : CouT K C := ⟨q_ca, q_hn, q_ht, q_cm⟩
  have c_FIGURES : ∃ v, mg "FIGURES" = some v ∧ RelV (.str "0123456789") v := ⟨_, PySem.W.mg_of X G gc_FIGURES, ⟨_, rfl⟩⟩
  have c_MOST : ∃ v, mg "MOST" = some v ∧ RelV (.int 5) v := ⟨_, PySem.W.mg_of X G gc_MOST, ⟨_, rfl⟩⟩
  refine ⟨PySem.W.fnOf "law" "law" (defArgs s_law) (defBody s_law) (defScope s_law) .none kV28 dc28 pm28 an28 cd28 ct28, fun s v => .of_eq rfl, fun base _ _ => ?_⟩
  have F__law_many := fun_mk (st := s__law_many) l0 c0 k0
  have b__law_many := F__law_many.binds (ps := ["cell"]) fun _ _ _ _ _ _ us hl => match us, hl with | [_], _ => rfl
  have H__law_many : Fn _ l.prog w mg base "_law_many" 1 ["cell"] R__law_many := ⟨CX0, _, _, .inl rfl, ok__law_many (P := l.prog) (w := w) (base := base) T F__law_many , PySem.W.mg_of X G a0, k0, b__law_many⟩
  have F__law_cell_at := fun_mk (st := s__law_cell_at) l1 c1 k1
  have b__law_cell_at := F__law_cell_at.binds (ps := ["script", "k"]) fun _ _ _ _ _ _ us hl => match us, hl with | [_, _], _ => rfl
  have H__law_cell_at : Fn _ l.prog w mg base "_law_cell_at" 1 ["script", "k"] R__law_cell_at := ⟨CX0, _, _, .inl rfl, ok__law_cell_at (P := l.prog) (w := w) (base := base) T F__law_cell_at , PySem.W.mg_of X G a1, k1, b__law_cell_at⟩
  have F__law_bits := fun_mk (st := s__law_bits) l2 c2 k2
  have b__law_bits := F__law_bits.binds (ps := ["number", "many"]) fun _ _ _ _ _ _ us hl => match us, hl with | [_, _], _ => rfl
  have H__law_bits : Fn _ l.prog w mg base "_law_bits" 1 ["number", "many"] R__law_bits := ⟨CX0, _, _, .inl rfl, ok__law_bits (P := l.prog) (w := w) (base := base) T F__law_bits , PySem.W.mg_of X G a2, k2, b__law_bits⟩
  have F__law_some := fun_mk (st := s__law_some) l3 c3 k3
  have b__law_some := F__law_some.binds (ps := ["script", "start", "many", "count"]) fun _ _ _ _ _ _ us hl => match us, hl with | [_, _, _, _], _ => rfl
  have H__law_some : Fn _ l.prog w mg base "_law_some" 2 ["script", "start", "many", "count"] R__law_some := ⟨CX0, _, _, .inl rfl, ok__law_some (P := l.prog) (w := w) (base := base) T F__law_some H__law_bits H__law_cell_at, PySem.W.mg_of X G a3, k3, b__law_some⟩
  have F__law_crowds := fun_mk (st := s__law_crowds) l4 c4 k4
  have b__law_crowds := F__law_crowds.binds (ps := ["many"]) fun _ _ _ _ _ _ us hl => match us, hl with | [_], _ => rfl
  have H__law_crowds : Fn _ l.prog w mg base "_law_crowds" 2 ["many"] R__law_crowds := ⟨CX0, _, _, .inl rfl, ok__law_crowds (P := l.prog) (w := w) (base := base) T F__law_crowds H__law_bits, PySem.W.mg_of X G a4, k4, b__law_crowds⟩
  have F__law_weighed_crowds := fun_mk (st := s__law_weighed_crowds) l5 c5 k5
  have b__law_weighed_crowds := F__law_weighed_crowds.binds (ps := ["script", "start", "many"]) fun _ _ _ _ _ _ us hl => match us, hl with | [_, _, _], _ => rfl
  have H__law_weighed_crowds : Fn _ l.prog w mg base "_law_weighed_crowds" 3 ["script", "start", "many"] R__law_weighed_crowds := ⟨CX0, _, _, .inl rfl, ok__law_weighed_crowds (P := l.prog) (w := w) (base := base) T F__law_weighed_crowds H__law_cell_at H__law_crowds, PySem.W.mg_of X G a5, k5, b__law_weighed_crowds⟩
  have F__law_told := fun_mk (st := s__law_told) l6 c6 k6
  have b__law_told := F__law_told.binds (ps := ["script", "start", "many"]) fun _ _ _ _ _ _ us hl => match us, hl with | [_, _, _], _ => rfl
  have H__law_told : Fn _ l.prog w mg base "_law_told" 4 ["script", "start", "many"] R__law_told := ⟨CX0, _, _, .inl rfl, ok__law_told (P := l.prog) (w := w) (base := base) T F__law_told H__law_cell_at H__law_some H__law_weighed_crowds H__law_bits H__law_crowds, PySem.W.mg_of X G a6, k6, b__law_told⟩
  have F__law_spoiled := fun_mk (st := s__law_spoiled) l7 c7 k7
  have b__law_spoiled := F__law_spoiled.binds (ps := ["text", "way", "cell", "other"]) fun _ _ _ _ _ _ us hl => match us, hl with | [_, _, _, _], _ => rfl
  have H__law_spoiled : Fn _ l.prog w mg base "_law_spoiled" 1 ["text", "way", "cell", "other"] R__law_spoiled := ⟨CX0, _, _, .inl rfl, ok__law_spoiled (P := l.prog) (w := w) (base := base) T F__law_spoiled , PySem.W.mg_of X G a7, k7, b__law_spoiled⟩
  have F__law_in := fun_mk (st := s__law_in) l8 c8 k8
  have b__law_in := F__law_in.binds (ps := ["crowd", "other"]) fun _ _ _ _ _ _ us hl => match us, hl with | [_, _], _ => rfl
  have H__law_in : Fn _ l.prog w mg base "_law_in" 1 ["crowd", "other"] R__law_in := ⟨CX0, _, _, .inl rfl, ok__law_in (P := l.prog) (w := w) (base := base) T F__law_in , PySem.W.mg_of X G a8, k8, b__law_in⟩
  have F__law_carries := fun_mk (st := s__law_carries) l9 c9 k9
  have b__law_carries := F__law_carries.binds (ps := ["told", "crowd"]) fun _ _ _ _ _ _ us hl => match us, hl with | [_, _], _ => rfl
  have H__law_carries : Fn _ l.prog w mg base "_law_carries" 2 ["told", "crowd"] R__law_carries := ⟨CX0, _, _, .inl rfl, ok__law_carries (P := l.prog) (w := w) (base := base) T F__law_carries H__law_in, PySem.W.mg_of X G a9, k9, b__law_carries⟩
  have F__law_least := fun_mk (st := s__law_least) l10 c10 k10
  have b__law_least := F__law_least.binds (ps := ["told", "many"]) fun _ _ _ _ _ _ us hl => match us, hl with | [_, _], _ => rfl
  have H__law_least : Fn _ l.prog w mg base "_law_least" 3 ["told", "many"] R__law_least := ⟨CX0, _, _, .inl rfl, ok__law_least (P := l.prog) (w := w) (base := base) T F__law_least H__law_crowds H__law_carries H__law_in, PySem.W.mg_of X G a10, k10, b__law_least⟩
  have F__law_shown := fun_mk (st := s__law_shown) l11 c11 k11
  have b__law_shown := F__law_shown.binds (ps := ["told", "many"]) fun _ _ _ _ _ _ us hl => match us, hl with | [_, _], _ => rfl
  have H__law_shown : Fn _ l.prog w mg base "_law_shown" 4 ["told", "many"] R__law_shown := ⟨CX0, _, _, .inl rfl, ok__law_shown (P := l.prog) (w := w) (base := base) T F__law_shown H__law_least, PySem.W.mg_of X G a11, k11, b__law_shown⟩
  have F__law_odd := fun_mk (st := s__law_odd) l12 c12 k12
  have b__law_odd := F__law_odd.binds (ps := ["cell"]) fun _ _ _ _ _ _ us hl => match us, hl with | [_], _ => rfl
  have H__law_odd : Fn _ l.prog w mg base "_law_odd" 1 ["cell"] R__law_odd := ⟨CX0, _, _, .inl rfl, ok__law_odd (P := l.prog) (w := w) (base := base) T F__law_odd , PySem.W.mg_of X G a12, k12, b__law_odd⟩
  have F__law_crowd := fun_mk (st := s__law_crowd) l13 c13 k13
  have b__law_crowd := F__law_crowd.binds (ps := ["word", "many"]) fun _ _ _ _ _ _ us hl => match us, hl with | [_, _], _ => rfl
  have H__law_crowd : Fn _ l.prog w mg base "_law_crowd" 1 ["word", "many"] R__law_crowd := ⟨CX0, _, _, .inl rfl, ok__law_crowd (P := l.prog) (w := w) (base := base) T F__law_crowd , PySem.W.mg_of X G a13, k13, b__law_crowd⟩
  have F__law_due := fun_mk (st := s__law_due) l14 c14 k14
  have b__law_due := F__law_due.binds (ps := ["text"]) fun _ _ _ _ _ _ us hl => match us, hl with | [_], _ => rfl
  have H__law_due : Fn _ l.prog w mg base "_law_due" 2 ["text"] R__law_due := ⟨CX0, _, _, .inl rfl, ok__law_due (P := l.prog) (w := w) (base := base) T F__law_due H__law_crowd H__law_in, PySem.W.mg_of X G a14, k14, b__law_due⟩
  have F_number_of := fun_mk (st := s_number_of) l15 c15 k15
  have b_number_of := F_number_of.binds (ps := ["word"]) fun _ _ _ _ _ _ us hl => match us, hl with | [_], _ => rfl
  have H_number_of : Fn _ l.prog w mg base "number_of" 1 ["word"] R_number_of := ⟨L2.CX l.prog w, _, _, .inr rfl, ok_number_of (P := l.prog) (w := w) (base := base) T F_number_of X_BadNote c_FIGURES, PySem.W.mg_of X G a15, k15, b_number_of⟩
  have F_crowd_of := fun_mk (st := s_crowd_of) l16 c16 k16
  have b_crowd_of := F_crowd_of.binds (ps := ["word"]) fun _ _ _ _ _ _ us hl => match us, hl with | [_], _ => rfl
  have H_crowd_of : Fn _ l.prog w mg base "crowd_of" 2 ["word"] R_crowd_of := ⟨L2.CX l.prog w, _, _, .inr rfl, ok_crowd_of (P := l.prog) (w := w) (base := base) T F_crowd_of H_number_of X_BadNote, PySem.W.mg_of X G a16, k16, b_crowd_of⟩
  have F_look_at := fun_mk (st := s_look_at) l17 c17 k17
  have b_look_at := F_look_at.binds (ps := ["many", "crowd"]) fun _ _ _ _ _ _ us hl => match us, hl with | [_, _], _ => rfl
  have H_look_at : FnN _ l.prog w mg base "look_at" 1 ["many", "crowd"] R_look_at := ⟨_, _, ok_look_at (P := l.prog) (w := w) (base := base) T F_look_at X_BadCrowd, PySem.W.mg_of X G a17, k17, b_look_at⟩
  have F_Council___init__ := fun_mk (st := s_Council___init__) l18 c18 k18
  have b_Council___init__ := F_Council___init__.binds (ps := ["self", "many", "crowds"]) fun _ _ _ _ _ _ us hl => match us, hl with | [_, _, _], _ => rfl
  have H_Council : IniN _ l.prog w mg base 2 := ⟨_, _, ok_Council___init__ (P := l.prog) (w := w) (base := base) T F_Council___init__ H_look_at X_BadSize c_MOST, ⟨mk, a18, i18, kc⟩, PySem.W.mg_of X G aC, b_Council___init__⟩
  have F_crowds_of := fun_mk (st := s_crowds_of) l19 c19 k19
  have b_crowds_of := F_crowds_of.binds (ps := ["many"]) fun _ _ _ _ _ _ us hl => match us, hl with | [_], _ => rfl
  have H_crowds_of : Fn _ l.prog w mg base "crowds_of" 1 ["many"] R_crowds_of := ⟨CX0, _, _, .inl rfl, ok_crowds_of (P := l.prog) (w := w) (base := base) T F_crowds_of , PySem.W.mg_of X G a19, k19, b_crowds_of⟩
  have F_lies_in := fun_mk (st := s_lies_in) l20 c20 k20
  have b_lies_in := F_lies_in.binds (ps := ["crowd", "other"]) fun _ _ _ _ _ _ us hl => match us, hl with | [_, _], _ => rfl
  have H_lies_in : Fn _ l.prog w mg base "lies_in" 1 ["crowd", "other"] R_lies_in := ⟨CX0, _, _, .inl rfl, ok_lies_in (P := l.prog) (w := w) (base := base) T F_lies_in , PySem.W.mg_of X G a20, k20, b_lies_in⟩
  have F_Council_bears := fun_mk (st := s_Council_bears) l21 c21 k21
  have b_Council_bears := F_Council_bears.binds (ps := ["self", "crowd"]) fun _ _ _ _ _ _ us hl => match us, hl with | [_, _], _ => rfl
  have H_Council_bears : Mt _ l.prog w mg base "bears" 2 ["self", "crowd"] R_Council_bears := ⟨CX0, _, _, .inl rfl, ok_Council_bears (P := l.prog) (w := w) (base := base) T F_Council_bears H_lies_in, ⟨a21, i21, k21⟩, b_Council_bears⟩
  have F_Council_least := fun_mk (st := s_Council_least) l22 c22 k22
  have b_Council_least := F_Council_least.binds (ps := ["self"]) fun _ _ _ _ _ _ us hl => match us, hl with | [_], _ => rfl
  have H_Council_least : Mt _ l.prog w mg base "least" 3 ["self"] R_Council_least := ⟨CX0, _, _, .inl rfl, ok_Council_least (P := l.prog) (w := w) (base := base) T F_Council_least H_crowds_of H_lies_in H_Council_bears, ⟨a22, i22, k22⟩, b_Council_least⟩
  have F_Council_many := fun_mk (st := s_Council_many) l23 c23 k23
  have b_Council_many := F_Council_many.binds (ps := ["self"]) fun _ _ _ _ _ _ us hl => match us, hl with | [_], _ => rfl
  have H_Council_many : Mt _ l.prog w mg base "many" 1 ["self"] R_Council_many := ⟨CX0, _, _, .inl rfl, ok_Council_many (P := l.prog) (w := w) (base := base) T F_Council_many , ⟨a23, i23, k23⟩, b_Council_many⟩
  have F_shown := fun_mk (st := s_shown) l24 c24 k24
  have b_shown := F_shown.binds (ps := ["council"]) fun _ _ _ _ _ _ us hl => match us, hl with | [_], _ => rfl
  have H_shown : Fn _ l.prog w mg base "shown" 4 ["council"] R_shown := ⟨CX0, _, _, .inl rfl, ok_shown (P := l.prog) (w := w) (base := base) T F_shown H_Council_least H_Council_many, PySem.W.mg_of X G a24, k24, b_shown⟩
  have F_read := fun_mk (st := s_read) l25 c25 k25
  have b_read := F_read.binds (ps := ["text"]) fun _ _ _ _ _ _ us hl => match us, hl with | [_], _ => rfl
  have H_read : Fn _ l.prog w mg base "read" 5 ["text"] R_read := ⟨L2.CX l.prog w, _, _, .inr rfl, ok_read (P := l.prog) (w := w) (base := base) T F_read H_number_of H_crowd_of H_Council H_shown X_BadNote X_BadSize X_BadCrowd (PySem.W.exm_ref eb_BadSize q_hd_BadSize et_BadSize q_t_ss) (PySem.W.exm_ref eb_BadSize q_hd_BadSize et_BadSize q_t_cs) (PySem.W.exm_ref eb_BadCrowd q_hd_BadCrowd et_BadCrowd q_t_cc), PySem.W.mg_of X G a25, k25, b_read⟩
  have F__law_told_by := fun_mk (st := s__law_told_by) l26 c26 k26
  have b__law_told_by := F__law_told_by.binds (ps := ["text"]) fun _ _ _ _ _ _ us hl => match us, hl with | [_], _ => rfl
  have H__law_told_by : Fn _ l.prog w mg base "_law_told_by" 6 ["text"] R__law_told_by := ⟨CX0, _, _, .inl rfl, ok__law_told_by (P := l.prog) (w := w) (base := base) T F__law_told_by H_read gV (PySem.W.mg_none_of X G z_ValueError) gx_BadCrowd gx_BadWeights gx_BadSize gx_Unlike gx_NoMember gx_BadNote K_BadNote, PySem.W.mg_of X G a26, k26, b__law_told_by⟩
  have F__law_right := fun_mk (st := s__law_right) l27 c27 k27
  have b__law_right := F__law_right.binds (ps := ["text", "due"]) fun _ _ _ _ _ _ us hl => match us, hl with | [_, _], _ => rfl
  have H__law_right : Fn _ l.prog w mg base "_law_right" 7 ["text", "due"] R__law_right := ⟨CX0, _, _, .inl rfl, ok__law_right (P := l.prog) (w := w) (base := base) T F__law_right H__law_told_by H_Council_many H_Council_least H_shown cT, PySem.W.mg_of X G a27, k27, b__law_right⟩
  have F_law := fun_mk (st := s_law) l28 c28 k28
  exact (ok_law (P := l.prog) (w := w) (base := base) T F_law H__law_many H__law_cell_at H__law_told H__law_spoiled H__law_shown H__law_odd H__law_due H__law_right).imp fun vs H Q E hq => by
    obtain ⟨a, ns, rfl, hS, hl, q⟩ := hq
    exact ⟨H, [.scr ns], _, Same.refl _, .cons (.inl (.scr hS)) .nil, ⟨ns, rfl, hl, rfl⟩, fun v F' H' _ r => by cases r; exact q H'⟩
end
theorem walk {l : PySem.W.OpenLaw} {q : Program} {loose : List Str} {XP : (Str → Option Value) → Heap → Prop} {YP : World → Heap → Prop} {d : DefRec} {K : Params → PySem.W.Frag} (hn : l.most = some 63) (hdf : d.params.defaults = [])
    (hY : ∀ (w : World) (h : Heap), YP w h → (K w.params).In h)
    (F : ∀ (w : World) (mg : Str → Option Value) (fa : Addr) (h : Heap), (K w.params).In h → h.Ns mainGlobals mg → mg d.name = some (.ref fa) →
      ∃ fd : FuncData, (∀ (s : Shared) (u : Value), BindsTo s fd ⟨[u], []⟩ [("script", u)]) ∧ ∀ base : Heap, (K w.params).In base → base.Ns mainGlobals mg → FnOk l.prog w (K w.params) mg base CX0 8 fa fd ["script"] (spLaw (K w.params))) :
    PySem.W.WalkO q loose XP YP l.row.toRowW d [] (fun f vs => PySem.call f vs) :=
  L2.walk_of (n := 63) (k := 8) (x := "script") (CX := fun _ => CX0) (sp := fun w => spLaw (K w.params)) hn (by decide) hdf ⟨rfl, by decide, by decide⟩ hY F (fun _ _ a ns hl _ hS => ⟨a, ns, rfl, hS, hl, fun _ => rfl⟩) fun _ _ _ _ _ z => z
end Vw
open PySem PySem.W PyProof.Rows
set_option maxRecDepth 100000 in
set_option maxHeartbeats 0 in
theorem PySem.Challenge.cw_votesway_k10_texts_read_holds : PySem.Challenge.rw_votesway_k10_texts_read.Holds := by
  w_on; o_law; k_head; (case hw => w_witness2)
  k_fill
  refine Vw.walk (l := PySem.Challenge.rw_votesway_k10_texts_read) rfl rfl (fun w h Y => PySem.W.kIn_of Y) ?F
  case F =>
    intro w mg fa h KX G hmg
    refine' Vw.all_mk KX G hmg ?aC ?a0 ?l0 ?c0 ?k0 ?a1 ?l1 ?c1 ?k1 ?a2 ?l2 ?c2 ?k2 ?a3 ?l3 ?c3 ?k3 ?a4 ?l4 ?c4 ?k4 ?a5 ?l5 ?c5 ?k5 ?a6 ?l6 ?c6 ?k6 ?a7 ?l7 ?c7 ?k7 ?a8 ?l8 ?c8 ?k8 ?a9 ?l9 ?c9 ?k9 ?a10 ?l10 ?c10 ?k10 ?a11 ?l11 ?c11 ?k11 ?a12 ?l12 ?c12 ?k12 ?a13 ?l13 ?c13 ?k13 ?a14 ?l14 ?c14 ?k14 ?a15 ?l15 ?c15 ?k15 ?a16 ?l16 ?c16 ?k16 ?a17 ?l17 ?c17 ?k17 ?a18 ?i18 ?l18 ?c18 ?k18 ?a19 ?l19 ?c19 ?k19 ?a20 ?l20 ?c20 ?k20 ?a21 ?i21 ?l21 ?c21 ?k21 ?a22 ?i22 ?l22 ?c22 ?k22 ?a23 ?i23 ?l23 ?c23 ?k23 ?a24 ?l24 ?c24 ?k24 ?a25 ?l25 ?c25 ?k25 ?a26 ?l26 ?c26 ?k26 ?a27 ?l27 ?c27 ?k27 ?a28 ?l28 ?c28 ?k28 ?pg ?hd ?po ?sa ?mk ?kc ?nS ?nT ?z_len ?z_range ?z_tuple ?z_sorted ?z_set ?z_sum ?z_max ?z_min ?z_int ?z_str ?z_list ?z_isinstance ?z_all ?z_bool ?z_reversed ?eg_BadNote ?eg_BadCrowd ?eg_BadSize ?eg_BadWeights ?eg_Unlike ?eg_NoMember ?q_gV ?ex_BadNote ?ek_BadNote ?eb_BadNote ?et_BadNote ?ex_BadCrowd ?ek_BadCrowd ?eb_BadCrowd ?et_BadCrowd ?ex_BadSize ?ek_BadSize ?eb_BadSize ?et_BadSize ?q_t_ss ?q_t_cs ?q_t_cc ?q_hn ?q_ht ?q_ca ?q_cm ?z_ValueError ?q_hg_BadNote ?q_hk_BadNote ?q_hd_BadNote ?q_ha_BadNote ?q_hm_BadNote ?q_sv_BadNote ?q_se_BadNote ?q_s_BadNote_BadSize ?q_s_BadNote_BadCrowd ?q_s_BadNote_NoMember ?q_s_BadNote_BadWeights ?q_s_BadNote_Unlike ?q_s_BadNote_BadNote ?q_vb ?q_vd ?q_vt ?q_hd_BadSize ?q_hd_BadCrowd ?q_hd_NoMember ?et_NoMember ?q_hd_BadWeights ?et_BadWeights ?q_hd_Unlike ?et_Unlike ?gc_FIGURES ?gc_MOST
    (case aC => k_is)
    (case a0 => k_is)
    (case l0 => k_is)
    (case c0 => k_is)
    (case k0 => k_is)
    (case a1 => k_is)
    (case l1 => k_is)
    (case c1 => k_is)
    (case k1 => k_is)
    (case a2 => k_is)
    (case l2 => k_is)
    (case c2 => k_is)
    (case k2 => k_is)
    (case a3 => k_is)
    (case l3 => k_is)
    (case c3 => k_is)
    (case k3 => k_is)
    (case a4 => k_is)
    (case l4 => k_is)
    (case c4 => k_is)
    (case k4 => k_is)
    (case a5 => k_is)
    (case l5 => k_is)
    (case c5 => k_is)
    (case k5 => k_is)
    (case a6 => k_is)
    (case l6 => k_is)
    (case c6 => k_is)
    (case k6 => k_is)
    (case a7 => k_is)
    (case l7 => k_is)
    (case c7 => k_is)
    (case k7 => k_is)
    (case a8 => k_is)
    (case l8 => k_is)
    (case c8 => k_is)
    (case k8 => k_is)
    (case a9 => k_is)
    (case l9 => k_is)
    (case c9 => k_is)
    (case k9 => k_is)
    (case a10 => k_is)
    (case l10 => k_is)
    (case c10 => k_is)
    (case k10 => k_is)
    (case a11 => k_is)
    (case l11 => k_is)
    (case c11 => k_is)
    (case k11 => k_is)
    (case a12 => k_is)
    (case l12 => k_is)
    (case c12 => k_is)
    (case k12 => k_is)
    (case a13 => k_is)
    (case l13 => k_is)
    (case c13 => k_is)
    (case k13 => k_is)
    (case a14 => k_is)
    (case l14 => k_is)
    (case c14 => k_is)
    (case k14 => k_is)
    (case a15 => k_is)
    (case l15 => k_is)
    (case c15 => k_is)
    (case k15 => k_is)
    (case a16 => k_is)
    (case l16 => k_is)
    (case c16 => k_is)
    (case k16 => k_is)
    (case a17 => k_is)
    (case l17 => k_is)
    (case c17 => k_is)
    (case k17 => k_is)
    (case a18 => k_is)
    (case i18 => k_is)
    (case l18 => k_is)
    (case c18 => k_is)
    (case k18 => k_is)
    (case a19 => k_is)
    (case l19 => k_is)
    (case c19 => k_is)
    (case k19 => k_is)
    (case a20 => k_is)
    (case l20 => k_is)
    (case c20 => k_is)
    (case k20 => k_is)
    (case a21 => k_is)
    (case i21 => k_is)
    (case l21 => k_is)
    (case c21 => k_is)
    (case k21 => k_is)
    (case a22 => k_is)
    (case i22 => k_is)
    (case l22 => k_is)
    (case c22 => k_is)
    (case k22 => k_is)
    (case a23 => k_is)
    (case i23 => k_is)
    (case l23 => k_is)
    (case c23 => k_is)
    (case k23 => k_is)
    (case a24 => k_is)
    (case l24 => k_is)
    (case c24 => k_is)
    (case k24 => k_is)
    (case a25 => k_is)
    (case l25 => k_is)
    (case c25 => k_is)
    (case k25 => k_is)
    (case a26 => k_is)
    (case l26 => k_is)
    (case c26 => k_is)
    (case k26 => k_is)
    (case a27 => k_is)
    (case l27 => k_is)
    (case c27 => k_is)
    (case k27 => k_is)
    (case a28 => k_is)
    (case l28 => k_is)
    (case c28 => k_is)
    (case k28 => k_is)
    (case pg => k_is)
    (case hd => k_is)
    (case po => k_is)
    (case sa => k_is)
    (case mk => k_is)
    (case kc => k_is)
    (case nS => k_is)
    (case nT => k_is)
    (case z_len => k_is)
    (case z_range => k_is)
    (case z_tuple => k_is)
    (case z_sorted => k_is)
    (case z_set => k_is)
    (case z_sum => k_is)
    (case z_max => k_is)
    (case z_min => k_is)
    (case z_int => k_is)
    (case z_str => k_is)
    (case z_list => k_is)
    (case z_isinstance => k_is)
    (case z_all => k_is)
    (case z_bool => k_is)
    (case z_reversed => k_is)
    (case eg_BadNote => k_is)
    (case eg_BadCrowd => k_is)
    (case eg_BadSize => k_is)
    (case eg_BadWeights => k_is)
    (case eg_Unlike => k_is)
    (case eg_NoMember => k_is)
    (case q_gV => k_is)
    (case ex_BadNote => k_exc)
    (case ek_BadNote => k_is)
    (case eb_BadNote => k_is)
    (case et_BadNote => k_is)
    (case ex_BadCrowd => k_exc)
    (case ek_BadCrowd => k_is)
    (case eb_BadCrowd => k_is)
    (case et_BadCrowd => k_is)
    (case ex_BadSize => k_exc)
    (case ek_BadSize => k_is)
    (case eb_BadSize => k_is)
    (case et_BadSize => k_is)
    (case q_t_ss => k_is)
    (case q_t_cs => k_is)
    (case q_t_cc => k_is)
    (case q_hn => k_is)
    (case q_ht => k_is)
    (case q_ca => k_is)
    (case q_cm => k_is)
    (case z_ValueError => k_is)
    (case q_hg_BadNote => k_is)
    (case q_hk_BadNote => k_is)
    (case q_hd_BadNote => k_is)
    (case q_ha_BadNote => k_is)
    (case q_hm_BadNote => k_is)
    (case q_sv_BadNote => k_is)
    (case q_se_BadNote => k_is)
    (case q_s_BadNote_BadSize => k_is)
    (case q_s_BadNote_BadCrowd => k_is)
    (case q_s_BadNote_NoMember => k_is)
    (case q_s_BadNote_BadWeights => k_is)
    (case q_s_BadNote_Unlike => k_is)
    (case q_s_BadNote_BadNote => k_is)
    (case q_vb => k_is)
    (case q_vd => k_is)
    (case q_vt => k_is)
    (case q_hd_BadSize => k_is)
    (case q_hd_BadCrowd => k_is)
    (case q_hd_NoMember => k_is)
    (case et_NoMember => k_is)
    (case q_hd_BadWeights => k_is)
    (case et_BadWeights => k_is)
    (case q_hd_Unlike => k_is)
    (case et_Unlike => k_is)
    (case gc_FIGURES => k_is)
    (case gc_MOST => k_is)
#print axioms PySem.Challenge.cw_votesway_k10_texts_read_holds
