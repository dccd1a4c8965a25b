import PyProof.Rows.All
import Wide.All
import OpenK.AllK
import Wide.FinOn
import HandS.ForMost
import HandS.ForExc
import HandS.TupAny
import HandS.Conv
import HandS.Strs
import HandS.SetFor
import HandS.SortRule
import HandS.SortInts
import HandS.IsInst
import HandS.ExcIs
import HandS.TryOnly
import HandS.TryMany
import HandS.Replace
import HandS.HotCalls
import HandS.Deep
import PySem.Challenge.RW_votesway_k13_whole_made_councils_asked
set_option Elab.async false
set_option linter.all false
set_option maxRecDepth 100000
set_option maxHeartbeats 4000000
set_option autoImplicit false
/-! The D-layer: what a reading computes, said over plain data (D), no heap in sight. -/
namespace Vw
open PySem L2

inductive D where
  | non | bl (b : Bool) | int (i : Int) | str (x : Str)
  | lst (xs : List D) | tup (xs : List D)
  | cou (n : Int) (told : List (List Int))
  | scr (ns : List Int)
  /-- an object, only by where it stands -/
  | ptr (a : Addr)
def eC (c : List Int) : D := .tup (c.map .int)

/-- what a def's refusals are -/
inductive Err where
  | size | crowd | member | weights | unlike | note
  deriving DecidableEq

structure Cfg where
  K : PySem.W.Frag
  C : Addr
  ex : Err → Addr

mutual
inductive Rep (G : Cfg) (F : Hp) : V → D → Prop
  | non : Rep G F .non .non
  | bl (b : Bool) : Rep G F (.bl b) (.bl b)
  | int (i : Int) : Rep G F (.int i) (.int i)
  | str (x : Str) : Rep G F (.str x) (.str x)
  | lst {a : Addr} {vs : List V} {ds : List D} : F a = some (.lst vs) → Reps G F vs ds → Rep G F (.ref a) (.lst ds)
  | tup {a : Addr} {vs : List V} {ds : List D} : F a = some (.tup vs) → Reps G F vs ds → Rep G F (.ref a) (.tup ds)
  | cou {a dx l : Addr} {vs : List V} {n : Int} {told : List (List Int)} : F a = some (.ins G.C dx [(("size" : Str), V.int n), (("told" : Str), V.ref l)]) → F l = some (.lst vs) → Reps G F vs (told.map eC) → Rep G F (.ref a) (.cou n told)
  | scr {a : Addr} {ns : List Int} : SqL G.K F a (ns.map V.int) → Rep G F (.ref a) (.scr ns)
  | ptr (a : Addr) : Rep G F (.ref a) (.ptr a)
inductive Reps (G : Cfg) (F : Hp) : List V → List D → Prop
  | nil : Reps G F [] []
  | cons {v : V} {vs : List V} {d : D} {ds : List D} : Rep G F v d → Reps G F vs ds → Reps G F (v :: vs) (d :: ds)
end

theorem sq_same {K : PySem.W.Frag} {H H' : Hp} {a : Addr} {xs : List V} (e : Same H H') (h : SqL K H a xs) : SqL K H' a xs := e.seq h

mutual
theorem Rep.mono {G : Cfg} {F F' : Hp} (e : Same F F') : ∀ {v : V} {d : D}, Rep G F v d → Rep G F' v d
  | _, _, .non => .non
  | _, _, .bl b => .bl b
  | _, _, .int i => .int i
  | _, _, .str x => .str x
  | _, _, .lst h r => .lst (e _ _ h) (Reps.mono e r)
  | _, _, .tup h r => .tup (e _ _ h) (Reps.mono e r)
  | _, _, .cou h1 h2 r => .cou (e _ _ h1) (e _ _ h2) (Reps.mono e r)
  | _, _, .scr h => .scr (sq_same e h)
  | _, _, .ptr a => .ptr a
theorem Reps.mono {G : Cfg} {F F' : Hp} (e : Same F F') : ∀ {vs : List V} {ds : List D}, Reps G F vs ds → Reps G F' vs ds
  | _, _, .nil => .nil
  | _, _, .cons h r => .cons (Rep.mono e h) (Reps.mono e r)
end
theorem Reps.length {G : Cfg} {F : Hp} : ∀ {vs : List V} {ds : List D}, Reps G F vs ds → vs.length = ds.length
  | _, _, .nil => rfl
  | _, _, .cons _ r => congrArg (· + 1) (Reps.length r)
theorem Reps.get {G : Cfg} {F : Hp} : ∀ {vs : List V} {ds : List D} {i : Nat} {v : V}, Reps G F vs ds → vs[i]? = some v → ∃ d, ds[i]? = some d ∧ Rep G F v d
  | _, _, _, _, .nil, e => by simp at e
  | _, _, 0, _, .cons r _, e => by simp at e; subst e; exact ⟨_, rfl, r⟩
  | _, _, i + 1, x, .cons _ t, e => by
    obtain ⟨u, h1, h2⟩ := Reps.get (i := i) t (by simpa using e)
    exact ⟨u, by simpa using h1, h2⟩
theorem Reps.getD {G : Cfg} {F : Hp} : ∀ {vs : List V} {ds : List D} {i : Nat} {d : D}, Reps G F vs ds → ds[i]? = some d → ∃ v, vs[i]? = some v ∧ Rep G F v d
  | _, _, _, _, .nil, e => by simp at e
  | _, _, 0, _, .cons r _, e => by simp at e; subst e; exact ⟨_, rfl, r⟩
  | _, _, i + 1, x, .cons _ t, e => by
    obtain ⟨u, h1, h2⟩ := Reps.getD (i := i) t (by simpa using e)
    exact ⟨u, by simpa using h1, h2⟩
theorem Reps.append {G : Cfg} {F : Hp} : ∀ {vs ws : List V} {ds es : List D}, Reps G F vs ds → Reps G F ws es → Reps G F (vs ++ ws) (ds ++ es)
  | _, _, _, _, .nil, s => s
  | _, _, _, _, .cons r t, s => .cons r (Reps.append t s)
theorem Reps.one {G : Cfg} {F : Hp} {v : V} {d : D} (h : Rep G F v d) : Reps G F [v] [d] := .cons h .nil
theorem Reps.take {G : Cfg} {F : Hp} : ∀ {vs : List V} {ds : List D} (n : Nat), Reps G F vs ds → Reps G F (vs.take n) (ds.take n)
  | _, _, 0, _ => .nil
  | _, _, _ + 1, .nil => .nil
  | _, _, n + 1, .cons r t => .cons r (Reps.take n t)
theorem Reps.drop {G : Cfg} {F : Hp} : ∀ {vs : List V} {ds : List D} (n : Nat), Reps G F vs ds → Reps G F (vs.drop n) (ds.drop n)
  | _, _, 0, r => r
  | _, _, _ + 1, .nil => .nil
  | _, _, n + 1, .cons _ t => Reps.drop n t
theorem Reps.set {G : Cfg} {F : Hp} {v : V} {d : D} (r : Rep G F v d) : ∀ {vs : List V} {ds : List D} (i : Nat), Reps G F vs ds → Reps G F (vs.set i v) (ds.set i d)
  | _, _, _, .nil => .nil
  | _, _, 0, .cons _ t => .cons r t
  | _, _, i + 1, .cons q t => .cons q (Reps.set r i t)
theorem Reps.ints {G : Cfg} {F : Hp} : ∀ {vs : List V} {ns : List Int}, Reps G F vs (ns.map D.int) → vs = ns.map V.int
  | _, [], .nil => rfl
  | _, n :: ns, .cons h r => by
    cases h
    rw [Reps.ints r]
    rfl
theorem Reps.ofInts {G : Cfg} {F : Hp} : ∀ (ns : List Int), Reps G F (ns.map V.int) (ns.map D.int)
  | [] => .nil
  | n :: ns => .cons (.int n) (Reps.ofInts ns)

/-! ### growing -/
structure Grow (F H F' H' : Hp) : Prop where
  ef : Same F F'
  eh : Same H H'
  sub : Same F' H'
  new : ∀ a, F a = none → H a ≠ none → F' a = none
theorem Grow.refl {F H : Hp} (s : Same F H) : Grow F H F H := ⟨Same.refl _, Same.refl _, s, fun _ h _ => h⟩
theorem some_ne {H H' : Hp} {a : Addr} (e : Same H H') (h : H a ≠ none) : H' a ≠ none := by
  cases q : H a with
  | none => exact absurd q h
  | some o =>
    rw [e a o q]
    exact fun z => nomatch z
theorem Grow.trans {F H F1 H1 F2 H2 : Hp} (a : Grow F H F1 H1) (b : Grow F1 H1 F2 H2) : Grow F H F2 H2 :=
  ⟨a.ef.trans b.ef, a.eh.trans b.eh, b.sub, fun x h h' => b.new x (a.new x h h') (some_ne a.eh h')⟩
theorem Grow.laid {F H F1 H1 : Hp} (g : Grow F H F1 H1) {p : Addr} {o : HO} (hp : H1 p = none) : Grow F H (upd F1 p o) (upd H1 p o) := by
  have fp : F1 p = none := g.sub.free hp
  have h0 : H p = none := g.eh.free hp
  refine ⟨fun a u h => ?_, fun a u h => ?_, fun a u h => ?_, fun a h h' => ?_⟩
  · rw [upd_ne (ne_of_none (g.ef a u h) fp)]
    exact g.ef a u h
  · rw [upd_ne (ne_of_none h h0)]
    exact g.eh a u h
  · by_cases e : a = p
    · subst e
      rw [upd_same] at h ⊢
      exact h
    · rw [upd_ne e] at h ⊢
      exact g.sub a u h
  · have e : a ≠ p := by
      intro e
      subst e
      exact h' h0
    rw [upd_ne e]
    exact g.new a h h'
/-- a new list that is nobody's yet -/
theorem Grow.fresh {F H F1 H1 : Hp} (g : Grow F H F1 H1) {p : Addr} {o : HO} (hp : H1 p = none) : Grow F H F1 (upd H1 p o) := by
  have h0 : H p = none := g.eh.free hp
  refine ⟨g.ef, fun a u h => ?_, fun a u h => ?_, g.new⟩
  · rw [upd_ne (ne_of_none h h0)]
    exact g.eh a u h
  · rw [upd_ne (ne_of_none (g.sub a u h) hp)]
    exact g.sub a u h
/-- a list that was nobody's is data from now on -/
theorem Grow.take {F H F1 H1 : Hp} (g : Grow F H F1 H1) (s : Same F H) {p : Addr} {o : HO} (h0 : H p = none) (h1 : H1 p = some o) : Grow F H (upd F1 p o) H1 := by
  have f0 : F p = none := s.free h0
  refine ⟨fun a u h => ?_, g.eh, fun a u h => ?_, fun a h h' => ?_⟩
  · rw [upd_ne (ne_of_none h f0)]
    exact g.ef a u h
  · by_cases e : a = p
    · subst e
      rw [upd_same] at h
      rw [h1, ← h]
    · rw [upd_ne e] at h
      exact g.sub a u h
  · have e : a ≠ p := by
      intro e
      subst e
      exact h' h0
    rw [upd_ne e]
    exact g.new a h h'
theorem same_upd {F : Hp} {p : Addr} {o : HO} (h : F p = none) : Same F (upd F p o) := fun a u q => by
  rw [upd_ne (ne_of_none q h)]
  exact q

/-! ### environments -/
inductive Sl where
  | no | im (d : D) | ar (ds : List D) | own (ds : List D)
def SlOk (G : Cfg) (H0 F H : Hp) : Sl → Option (Option V) → Prop
  | .no, _ => True
  | .im d, o => ∃ v, o = some (some v) ∧ Rep G F v d
  | .ar ds, o => ∃ a vs, o = some (some (.ref a)) ∧ H0 a = some (.lst vs) ∧ Reps G F vs ds
  | .own ds, o => ∃ a vs, o = some (some (.ref a)) ∧ H0 a = none ∧ F a = none ∧ H a = some (.lst vs) ∧ Reps G F vs ds
abbrev Rho := List Sl
structure REnv (G : Cfg) (F0 H0 F H : Hp) (σ : L2.St) (ρ : Rho) : Prop where
  s0 : Same F0 H0
  g : Grow F0 H0 F H
  len : σ.length = ρ.length
  sl : ∀ (i : Nat) (s : Sl), ρ[i]? = some s → SlOk G H0 F H s (σ[i]?)
  inj : ∀ (i j : Nat) (ds es : List D) (a : Addr), ρ[i]? = some (.own ds) → ρ[j]? = some (.own es) → σ[i]? = some (some (.ref a)) → σ[j]? = some (some (.ref a)) → i = j
theorem SlOk.grow {G : Cfg} {H0 F H F' H' : Hp} (g : Grow F H F' H') : ∀ {s : Sl} {o : Option (Option V)}, SlOk G H0 F H s o → SlOk G H0 F' H' s o
  | .no, _, _ => trivial
  | .im _, _, ⟨v, e, r⟩ => ⟨v, e, r.mono g.ef⟩
  | .ar _, _, ⟨a, vs, e, h, r⟩ => ⟨a, vs, e, h, r.mono g.ef⟩
  | .own _, _, ⟨a, vs, e, h0, hf, h, r⟩ => ⟨a, vs, e, h0, g.new a hf (by rw [h]; exact fun z => nomatch z), g.eh a _ h, r.mono g.ef⟩
theorem REnv.grow {G : Cfg} {F0 H0 F H F' H' : Hp} {σ : L2.St} {ρ : Rho} (E : REnv G F0 H0 F H σ ρ) (g : Grow F H F' H') : REnv G F0 H0 F' H' σ ρ :=
  ⟨E.s0, E.g.trans g, E.len, fun i s h => (E.sl i s h).grow g, E.inj⟩
theorem REnv.sub {G : Cfg} {F0 H0 F H : Hp} {σ : L2.St} {ρ : Rho} (E : REnv G F0 H0 F H σ ρ) : Same F H := E.g.sub
theorem get_set {α : Type} {l : List α} {i j : Nat} {x : α} : (l.set i x)[j]? = if i = j ∧ j < l.length then some x else l[j]? := by
  rw [List.getElem?_set]
  by_cases h : i = j
  · subst h
    by_cases h2 : i < l.length
    · simp [h2]
    · simp [h2]
  · simp [h]
theorem REnv.setIm {G : Cfg} {F0 H0 F H : Hp} {σ : L2.St} {ρ : Rho} (E : REnv G F0 H0 F H σ ρ) {i : Nat} {v : V} {d : D} (r : Rep G F v d) : REnv G F0 H0 F H (σ.set i (some v)) (ρ.set i (.im d)) := by
  refine ⟨E.s0, E.g, by rw [List.length_set, List.length_set]; exact E.len, fun j s h => ?_, fun j k ds es a h1 h2 h3 h4 => ?_⟩
  · rw [get_set] at h ⊢
    by_cases c : i = j ∧ j < ρ.length
    · rw [if_pos c] at h
      cases h
      rw [if_pos ⟨c.1, by rw [E.len]; exact c.2⟩]
      exact ⟨v, rfl, r⟩
    · rw [if_neg c] at h
      rw [if_neg (by rw [E.len]; exact c)]
      exact E.sl j s h
  · rw [get_set] at h1 h2 h3 h4
    by_cases c1 : i = j ∧ j < ρ.length
    · rw [if_pos c1] at h1
      cases h1
    · by_cases c2 : i = k ∧ k < ρ.length
      · rw [if_pos c2] at h2
        cases h2
      · rw [if_neg c1] at h1
        rw [if_neg c2] at h2
        rw [if_neg (by rw [E.len]; exact c1)] at h3
        rw [if_neg (by rw [E.len]; exact c2)] at h4
        exact E.inj j k ds es a h1 h2 h3 h4
theorem REnv.setNo {G : Cfg} {F0 H0 F H : Hp} {σ : L2.St} {ρ : Rho} (E : REnv G F0 H0 F H σ ρ) {i : Nat} {o : Option V} : REnv G F0 H0 F H (σ.set i o) (ρ.set i .no) := by
  refine ⟨E.s0, E.g, by rw [List.length_set, List.length_set]; exact E.len, fun j s h => ?_, fun j k ds es a h1 h2 h3 h4 => ?_⟩
  · rw [get_set] at h ⊢
    by_cases c : i = j ∧ j < ρ.length
    · rw [if_pos c] at h
      cases h
      trivial
    · rw [if_neg c] at h
      rw [if_neg (by rw [E.len]; exact c)]
      exact E.sl j s h
  · rw [get_set] at h1 h2 h3 h4
    by_cases c1 : i = j ∧ j < ρ.length
    · rw [if_pos c1] at h1
      cases h1
    · by_cases c2 : i = k ∧ k < ρ.length
      · rw [if_pos c2] at h2
        cases h2
      · rw [if_neg c1] at h1
        rw [if_neg c2] at h2
        rw [if_neg (by rw [E.len]; exact c1)] at h3
        rw [if_neg (by rw [E.len]; exact c2)] at h4
        exact E.inj j k ds es a h1 h2 h3 h4
/-- a new list comes to a slot -/
theorem REnv.setOwn {G : Cfg} {F0 H0 F H F' H' : Hp} {σ : L2.St} {ρ : Rho} (E : REnv G F0 H0 F H σ ρ) (g : Grow F H F' H') {i : Nat} {a : Addr} {vs : List V} {ds : List D} (h0 : H a = none) (hf : F' a = none) (h1 : H' a = some (.lst vs)) (r : Reps G F' vs ds) :
    REnv G F0 H0 F' H' (σ.set i (some (.ref a))) (ρ.set i (.own ds)) := by
  have E' := E.grow g
  refine ⟨E.s0, E'.g, by rw [List.length_set, List.length_set]; exact E.len, fun j s h => ?_, fun j k ds es b h1' h2 h3 h4 => ?_⟩
  · rw [get_set] at h ⊢
    by_cases c : i = j ∧ j < ρ.length
    · rw [if_pos c] at h
      cases h
      rw [if_pos ⟨c.1, by rw [E.len]; exact c.2⟩]
      exact ⟨a, vs, rfl, E.g.eh.free h0, hf, h1, r⟩
    · rw [if_neg c] at h
      rw [if_neg (by rw [E.len]; exact c)]
      exact E'.sl j s h
  · have old : ∀ (j : Nat) (es : List D), ρ[j]? = some (Sl.own es) → σ[j]? ≠ some (some (V.ref a)) := fun j es q z => by
      obtain ⟨b, ws, e, _, _, hb, _⟩ := E.sl j _ q
      rw [z] at e
      cases e
      rw [h0] at hb
      cases hb
    rw [get_set] at h1' h2 h3 h4
    by_cases c1 : i = j ∧ j < ρ.length
    · rw [if_pos ⟨c1.1, by rw [E.len]; exact c1.2⟩] at h3
      cases h3
      by_cases c2 : i = k ∧ k < ρ.length
      · exact c1.1.symm.trans c2.1
      · rw [if_neg c2] at h2
        rw [if_neg (by rw [E.len]; exact c2)] at h4
        exact absurd h4 (old k _ h2)
    · rw [if_neg c1] at h1'
      rw [if_neg (by rw [E.len]; exact c1)] at h3
      by_cases c2 : i = k ∧ k < ρ.length
      · rw [if_pos ⟨c2.1, by rw [E.len]; exact c2.2⟩] at h4
        cases h4
        exact absurd h3 (old j _ h1')
      · rw [if_neg c2] at h2
        rw [if_neg (by rw [E.len]; exact c2)] at h4
        exact E.inj j k _ _ b h1' h2 h3 h4
/-- an own list is written -/
theorem REnv.write {G : Cfg} {F0 H0 F H F' H' : Hp} {σ : L2.St} {ρ : Rho} (E : REnv G F0 H0 F H σ ρ) (g : Grow F H F' H') {i : Nat} {a : Addr} {ds es : List D} {ws : List V} (hi : ρ[i]? = some (.own ds)) (hs : σ[i]? = some (some (.ref a))) (r : Reps G F' ws es) :
    REnv G F0 H0 F' (upd H' a (.lst ws)) σ (ρ.set i (.own es)) := by
  have E' := E.grow g
  obtain ⟨b, us, e, b0, bf, bh, br⟩ := E'.sl i _ hi
  rw [hs] at e
  cases e
  refine ⟨E.s0, ⟨E'.g.ef, fun x o h => ?_, fun x o h => ?_, E'.g.new⟩, by rw [List.length_set]; exact E.len, fun j s h => ?_, fun j k ds' es' b h1' h2 h3 h4 => ?_⟩
  · rw [upd_ne (ne_of_none h b0)]
    exact E'.g.eh x o h
  · rw [upd_ne (ne_of_none h bf)]
    exact E'.g.sub x o h
  · rw [get_set] at h
    by_cases c : i = j ∧ j < ρ.length
    · rw [if_pos c] at h
      cases h
      obtain ⟨rfl, _⟩ := c
      exact ⟨a, ws, hs, b0, bf, upd_same, r⟩
    · rw [if_neg c] at h
      have z := E'.sl j s h
      cases s with
      | no => trivial
      | im d => exact z
      | ar d => exact z
      | own d =>
        obtain ⟨b, us', e', b0', bf', bh', br'⟩ := z
        have ne : b ≠ a := by
          intro q
          subst q
          have hij := E.inj i j _ _ b hi h hs e'
          subst hij
          exact c ⟨rfl, by rw [← E.len]; exact (List.getElem?_eq_some_iff.mp hs).1⟩
        exact ⟨b, us', e', b0', bf', by rw [upd_ne ne]; exact bh', br'⟩
  · have back : ∀ (j : Nat) (es' : List D), (ρ.set i (Sl.own es))[j]? = some (Sl.own es') → ∃ es'', ρ[j]? = some (Sl.own es'') := fun j es' q => by
      rw [get_set] at q
      by_cases c : i = j ∧ j < ρ.length
      · obtain ⟨rfl, _⟩ := c
        exact ⟨_, hi⟩
      · rw [if_neg c] at q
        exact ⟨_, q⟩
    obtain ⟨x1, y1⟩ := back j _ h1'
    obtain ⟨x2, y2⟩ := back k _ h2
    exact E.inj j k _ _ b y1 y2 h3 h4
/-- an own list is given up: data from now on -/
theorem REnv.freeze {G : Cfg} {F0 H0 F H : Hp} {σ : L2.St} {ρ : Rho} (E : REnv G F0 H0 F H σ ρ) {i : Nat} {ds : List D} (hi : ρ[i]? = some (.own ds)) : ∃ F', Same F F' ∧ REnv G F0 H0 F' H σ (ρ.set i (.im (.lst ds))) := by
  obtain ⟨a, vs, e, b0, bf, bh, br⟩ := E.sl i _ hi
  refine ⟨upd F a (.lst vs), same_upd bf, E.s0, ⟨fun x o h => same_upd bf x o (E.g.ef x o h), E.g.eh, fun x o h => ?_, fun x h h' => ?_⟩, by rw [List.length_set]; exact E.len, fun j s h => ?_, fun j k ds' es' b h1' h2 h3 h4 => ?_⟩
  · by_cases q : x = a
    · subst q
      rw [upd_same] at h
      rw [bh, ← h]
    · rw [upd_ne q] at h
      exact E.g.sub x o h
  · have q : x ≠ a := by
      intro q
      subst q
      exact h' b0
    rw [upd_ne q]
    exact E.g.new x h h'
  · rw [get_set] at h
    by_cases c : i = j ∧ j < ρ.length
    · rw [if_pos c] at h
      cases h
      obtain ⟨rfl, _⟩ := c
      exact ⟨_, e, .lst upd_same (br.mono (same_upd bf))⟩
    · rw [if_neg c] at h
      have z := E.sl j s h
      cases s with
      | no => trivial
      | im d =>
        obtain ⟨v, e', r'⟩ := z
        exact ⟨v, e', r'.mono (same_upd bf)⟩
      | ar d =>
        obtain ⟨b, us', e', h', r'⟩ := z
        exact ⟨b, us', e', h', r'.mono (same_upd bf)⟩
      | own d =>
        obtain ⟨b, us', e', b0', bf', bh', br'⟩ := z
        have ne : b ≠ a := by
          intro q
          subst q
          have hij := E.inj i j _ _ b hi h e e'
          subst hij
          exact c ⟨rfl, by rw [← E.len]; exact (List.getElem?_eq_some_iff.mp e).1⟩
        exact ⟨b, us', e', b0', by rw [upd_ne ne]; exact bf', bh', br'.mono (same_upd bf)⟩
  · have back : ∀ (j : Nat) (es' : List D), (ρ.set i (Sl.im (.lst ds)))[j]? = some (Sl.own es') → ρ[j]? = some (Sl.own es') := fun j es' q => by
      rw [get_set] at q
      by_cases c : i = j ∧ j < ρ.length
      · rw [if_pos c] at q
        cases q
      · rw [if_neg c] at q
        exact q
    exact E.inj j k _ _ b (back j _ h1') (back k _ h2) h3 h4
/-- less is known -/
def WeakS : Sl → Sl → Prop := fun a b => b = .no ∨ a = b
def Weak (ρ ρ' : Rho) : Prop := ρ.length = ρ'.length ∧ ∀ (i : Nat) (s : Sl), ρ'[i]? = some s → s = .no ∨ ρ[i]? = some s
theorem Weak.refl (ρ : Rho) : Weak ρ ρ := ⟨rfl, fun _ _ h => .inr h⟩
theorem REnv.weak {G : Cfg} {F0 H0 F H : Hp} {σ : L2.St} {ρ ρ' : Rho} (E : REnv G F0 H0 F H σ ρ) (w : Weak ρ ρ') : REnv G F0 H0 F H σ ρ' :=
  ⟨E.s0, E.g, E.len.trans w.1, fun i s h => by
    rcases w.2 i s h with e | e
    · subst e
      trivial
    · exact E.sl i s e, fun i j ds es a h1 h2 h3 h4 => by
    rcases w.2 i _ h1 with e | e
    · cases e
    · rcases w.2 j _ h2 with e' | e'
      · cases e'
      · exact E.inj i j ds es a e e' h3 h4⟩
def weakB : Rho → Rho → Prop
  | [], [] => True
  | a :: r, b :: s => (b = .no ∨ a = b) ∧ weakB r s
  | _, _ => False
theorem Weak.of : ∀ {ρ ρ' : Rho}, weakB ρ ρ' → Weak ρ ρ'
  | [], [], _ => .refl _
  | [], _ :: _, h => h.elim
  | _ :: _, [], h => h.elim
  | a :: r, b :: s, ⟨h1, h2⟩ => by
    have w := Weak.of h2
    refine ⟨congrArg (· + 1) w.1, fun i t h => ?_⟩
    cases i with
    | zero =>
      simp at h
      subst h
      rcases h1 with e | e
      · exact .inl e
      · exact .inr (by rw [e]; rfl)
    | succ i => exact w.2 i t (by simpa using h)
end Vw

namespace Vw
open PySem L2

/-! ### what expressions come to -/
section
variable (G : Cfg)
def EvD (te : TE) (ρ : Rho) (d : D) : Prop := ∀ F0 H0 F H σ, REnv G F0 H0 F H σ ρ → ∀ Q : VK, (∀ v F' H', Grow F H F' H' → Rep G F' v d → Q v H') → te σ H Q
/-- a list to be read (it may be an own one) -/
def EvS (te : TE) (ρ : Rho) (ds : List D) : Prop := ∀ F0 H0 F H σ, REnv G F0 H0 F H σ ρ → ∀ Q : VK, (∀ a vs F' H', Grow F H F' H' → H' a = some (.lst vs) → Reps G F' vs ds → Q (.ref a) H') → te σ H Q
/-- a list that stands still -/
def EvZ (te : TE) (ρ : Rho) (ds : List D) : Prop := ∀ F0 H0 F H σ, REnv G F0 H0 F H σ ρ → ∀ Q : VK, (∀ a vs F' H', Grow F H F' H' → (F' a = some (.lst vs) ∨ H0 a = some (.lst vs)) → Reps G F' vs ds → Q (.ref a) H') → te σ H Q
/-- a new list -/
def EvN (te : TE) (ρ : Rho) (ds : List D) : Prop := ∀ F0 H0 F H σ, REnv G F0 H0 F H σ ρ → ∀ Q : VK, (∀ a vs F' H', Grow F H F' H' → H a = none → F' a = none → H' a = some (.lst vs) → Reps G F' vs ds → Q (.ref a) H') → te σ H Q
def EvT (tt : TT) (ρ : Rho) (b : Bool) : Prop := ∀ F0 H0 F H σ, REnv G F0 H0 F H σ ρ → ∀ Q : Bool → Hp → Prop, (∀ F' H', Grow F H F' H' → Q b H') → tt σ H Q
def RepA (F H : Hp) (v : V) (d : D) : Prop := Rep G F v d ∨ ∃ a vs ds, v = .ref a ∧ d = .lst ds ∧ H a = some (.lst vs) ∧ Reps G F vs ds
def RepAs (F H : Hp) (vs : List V) (ds : List D) : Prop := Paired (RepA G F H) vs ds
def EvA (ta : TA) (ρ : Rho) (ds : List D) : Prop := ∀ F0 H0 F H σ, REnv G F0 H0 F H σ ρ → ∀ Q : List V → Hp → Prop, (∀ vs F' H', Grow F H F' H' → RepAs G F' H' vs ds → Q vs H') → ta σ H Q
def EvO (to : TO) (ρ : Rho) (o : Option Int) : Prop := ∀ F0 H0 F H σ, REnv G F0 H0 F H σ ρ → ∀ Q : Option Int → Hp → Prop, (∀ F' H', Grow F H F' H' → Q o H') → to σ H Q
end
inductive Res where
  | val (d : D) | new (ds : List D) | err (e : Err)
  /-- a new tuple of a text, a new list of ints and an int -/
  | trip (s : Str) (W : List Int) (b : Int)
def Goes (G : Cfg) (F H : Hp) (Q : VK) (E : XK) : Res → Prop
  | .val d => ∀ v F' H', Grow F H F' H' → Rep G F' v d → Q v H'
  | .new ds => ∀ a vs F' H', Grow F H F' H' → H a = none → F' a = none → H' a = some (.lst vs) → Reps G F' vs ds → Q (.ref a) H'
  | .err e => ∀ F' H', Grow F H F' H' → E (.ref (G.ex e)) none H'
  | .trip s W b => ∀ t a F' H', Grow F H F' H' → H t = none → H a = none → F' t = none → F' a = none → t ≠ a → H' t = some (.tup [.str s, .ref a, .int b]) → H' a = some (.lst (W.map V.int)) → Q (.ref t) H'
def EvX (G : Cfg) (E : XK) (te : TE) (ρ : Rho) (r : Res) : Prop := ∀ F0 H0 F H σ, REnv G F0 H0 F H σ ρ → ∀ Q : VK, Goes G F H Q E r → te σ H Q
/-- an operation of two places, of values -/
def RvD (G : Cfg) (r : R2) (x y z : D) : Prop := ∀ F H v w, Same F H → Rep G F v x → Rep G F w y → ∀ Q : VK, (∀ u F' H', Grow F H F' H' → Rep G F' u z → Q u H') → r v w H Q
/-- .. the second a list -/
def RvL (G : Cfg) (r : R2) (x : D) (ds : List D) (z : D) : Prop := ∀ F H v a vs, Same F H → Rep G F v x → H a = some (.lst vs) → Reps G F vs ds → ∀ Q : VK, (∀ u F' H', Grow F H F' H' → Rep G F' u z → Q u H') → r v (.ref a) H Q
/-- .. the first a list -/
def RvF (G : Cfg) (r : R2) (ds : List D) (y : D) (z : D) : Prop := ∀ F H a vs w, Same F H → H a = some (.lst vs) → Reps G F vs ds → Rep G F w y → ∀ Q : VK, (∀ u F' H', Grow F H F' H' → Rep G F' u z → Q u H') → r (.ref a) w H Q
/-- .. both lists -/
def RvLL (G : Cfg) (r : R2) (ds es : List D) (z : D) : Prop := ∀ F H a vs b ws, Same F H → H a = some (.lst vs) → Reps G F vs ds → H b = some (.lst ws) → Reps G F ws es → ∀ Q : VK, (∀ u F' H', Grow F H F' H' → Rep G F' u z → Q u H') → r (.ref a) (.ref b) H Q
/-- a call, of values; to a value, to a new list -/
def RcD (G : Cfg) (r : List V → Hp → VK → Prop) (ds : List D) (z : D) : Prop := ∀ F H vs, Same F H → RepAs G F H vs ds → ∀ Q : VK, (∀ u F' H', Grow F H F' H' → Rep G F' u z → Q u H') → r vs H Q
def RcN (G : Cfg) (r : List V → Hp → VK → Prop) (ds es : List D) : Prop := ∀ F H vs, Same F H → RepAs G F H vs ds → ∀ Q : VK, (∀ a ws F' H', Grow F H F' H' → H a = none → F' a = none → H' a = some (.lst ws) → Reps G F' ws es → Q (.ref a) H') → r vs H Q

section
variable {G : Cfg} {te ta tb : TE} {ρ : Rho} {d x y z : D} {ds es : List D} {t u : TT} {b c : Bool}
theorem evd_new (h : EvN G te ρ ds) : EvD G te ρ (.lst ds) := fun F0 H0 F H σ E Q q => h F0 H0 F H σ E Q fun a vs F' H' g h0 hf h1 r =>
  q _ (upd F' a (.lst vs)) H' (g.take E.sub h0 h1) (.lst upd_same (r.mono (same_upd hf)))
theorem evs_new (h : EvN G te ρ ds) : EvS G te ρ ds := fun F0 H0 F H σ E Q q => h F0 H0 F H σ E Q fun a vs F' H' g h0 hf h1 r => q a vs F' H' g h1 r
theorem evs_of (h : EvD G te ρ (.lst ds)) : EvS G te ρ ds := fun F0 H0 F H σ E Q q => h F0 H0 F H σ E Q fun v F' H' g r => by
  cases r with
  | lst h1 h2 => exact q _ _ F' H' g (g.sub _ _ h1) h2
theorem evz_of (h : EvD G te ρ (.lst ds)) : EvZ G te ρ ds := fun F0 H0 F H σ E Q q => h F0 H0 F H σ E Q fun v F' H' g r => by
  cases r with
  | lst h1 h2 => exact q _ _ F' H' g (.inl h1) h2
theorem evz_new (h : EvN G te ρ ds) : EvZ G te ρ ds := evz_of (evd_new h)
theorem evs_z (h : EvZ G te ρ ds) : EvS G te ρ ds := fun F0 H0 F H σ E Q q => h F0 H0 F H σ E Q fun a vs F' H' g h1 r => q a vs F' H' g (by
  rcases h1 with h1 | h1
  · exact g.sub _ _ h1
  · exact g.eh _ _ (E.g.eh _ _ h1)) r
theorem evd_is (h : EvD G te ρ x) (e : x = y) : EvD G te ρ y := e ▸ h
theorem evt_is (h : EvT G t ρ b) (e : b = c) : EvT G t ρ c := e ▸ h
theorem evs_is (h : EvS G te ρ ds) (e : ds = es) : EvS G te ρ es := e ▸ h
theorem evn_is (h : EvN G te ρ ds) (e : ds = es) : EvN G te ρ es := e ▸ h
theorem evd_var {i : Nat} (h : ρ[i]? = some (.im d)) : EvD G (tVar i) ρ d := fun F0 H0 F H σ E Q q => by
  obtain ⟨v, e, r⟩ := E.sl i _ h
  exact ⟨v, e, q v F H (.refl E.sub) r⟩
theorem evs_own {i : Nat} (h : ρ[i]? = some (.own ds)) : EvS G (tVar i) ρ ds := fun F0 H0 F H σ E Q q => by
  obtain ⟨a, vs, e, _, _, h1, r⟩ := E.sl i _ h
  exact ⟨_, e, q a vs F H (.refl E.sub) h1 r⟩
theorem evz_ar {i : Nat} (h : ρ[i]? = some (.ar ds)) : EvZ G (tVar i) ρ ds := fun F0 H0 F H σ E Q q => by
  obtain ⟨a, vs, e, h1, r⟩ := E.sl i _ h
  exact ⟨_, e, q a vs F H (.refl E.sub) (.inr h1) r⟩
theorem evs_ar {i : Nat} (h : ρ[i]? = some (.ar ds)) : EvS G (tVar i) ρ ds := evs_z (evz_ar h)
theorem evd_int {i : Int} : EvD G (tC (.int i)) ρ (.int i) := fun F0 H0 F H σ E Q q => q _ F H (.refl E.sub) (.int i)
theorem evd_bl : EvD G (tC (.bl b)) ρ (.bl b) := fun F0 H0 F H σ E Q q => q _ F H (.refl E.sub) (.bl b)
theorem evd_str {s : Str} : EvD G (tC (.str s)) ρ (.str s) := fun F0 H0 F H σ E Q q => q _ F H (.refl E.sub) (.str s)
theorem evd_non : EvD G (tC .non) ρ .non := fun F0 H0 F H σ E Q q => q _ F H (.refl E.sub) .non
/-! ### operations -/
theorem evd_op {r : R2} (ha : EvD G ta ρ x) (hb : EvD G tb ρ y) (hr : RvD G r x y z) : EvD G (tOp r ta tb) ρ z := fun F0 H0 F H σ E Q q =>
  ha F0 H0 F H σ E _ fun v F1 H1 g1 r1 => hb F0 H0 F1 H1 σ (E.grow g1) _ fun w F2 H2 g2 r2 => hr F2 H2 v w g2.sub (r1.mono g2.ef) r2 Q fun u F3 H3 g3 r3 => q u F3 H3 ((g1.trans g2).trans g3) r3
theorem evd_opL {r : R2} (ha : EvD G ta ρ x) (hb : EvS G tb ρ ds) (hr : RvL G r x ds z) : EvD G (tOp r ta tb) ρ z := fun F0 H0 F H σ E Q q =>
  ha F0 H0 F H σ E _ fun v F1 H1 g1 r1 => hb F0 H0 F1 H1 σ (E.grow g1) _ fun a vs F2 H2 g2 h2 r2 => hr F2 H2 v a vs g2.sub (r1.mono g2.ef) h2 r2 Q fun u F3 H3 g3 r3 => q u F3 H3 ((g1.trans g2).trans g3) r3
theorem evd_opF {r : R2} (ha : EvS G ta ρ ds) (hb : EvD G tb ρ y) (hr : RvF G r ds y z) : EvD G (tOp r ta tb) ρ z := fun F0 H0 F H σ E Q q =>
  ha F0 H0 F H σ E _ fun a vs F1 H1 g1 h1 r1 => hb F0 H0 F1 H1 σ (E.grow g1) _ fun w F2 H2 g2 r2 => hr F2 H2 a vs w g2.sub (g2.eh _ _ h1) (r1.mono g2.ef) r2 Q fun u F3 H3 g3 r3 => q u F3 H3 ((g1.trans g2).trans g3) r3
theorem evd_opLL {r : R2} (ha : EvS G ta ρ ds) (hb : EvS G tb ρ es) (hr : RvLL G r ds es z) : EvD G (tOp r ta tb) ρ z := fun F0 H0 F H σ E Q q =>
  ha F0 H0 F H σ E _ fun a vs F1 H1 g1 h1 r1 => hb F0 H0 F1 H1 σ (E.grow g1) _ fun c ws F2 H2 g2 h2 r2 => hr F2 H2 a vs c ws g2.sub (g2.eh _ _ h1) (r1.mono g2.ef) h2 r2 Q fun u F3 H3 g3 r3 => q u F3 H3 ((g1.trans g2).trans g3) r3
theorem rvd_val {r : R2} {z : D} (h : ∀ F H v w, Rep G F v x → Rep G F w y → ∀ Q : VK, (∀ u, Rep G F u z → Q u H) → r v w H Q) : RvD G r x y z := fun F H v w s rx ry Q q =>
  h F H v w rx ry Q fun u ru => q u F H (.refl s) ru
theorem rv_I0 {g : Int → Int → V} {i j : Int} (h : ∀ F, Rep G F (g i j) z) : RvD G (rI0 g) (.int i) (.int j) z := rvd_val fun F H v w rx ry Q q => by
  cases rx
  cases ry
  exact ⟨i, j, rfl, rfl, q _ (h F)⟩
theorem rv_I {C : Int → Int → Prop} {g : Int → Int → V} {i j : Int} (hc : C i j) (h : ∀ F, Rep G F (g i j) z) : RvD G (rI C g) (.int i) (.int j) z := rvd_val fun F H v w rx ry Q q => by
  cases rx
  cases ry
  exact ⟨i, j, rfl, rfl, hc, q _ (h F)⟩
section
variable {i j : Int}
theorem evd_add (ha : EvD G ta ρ (.int i)) (hb : EvD G tb ρ (.int j)) : EvD G (tOp (rI0 fun i j => .int (i + j)) ta tb) ρ (.int (i + j)) := evd_op ha hb (rv_I0 fun _ => .int _)
theorem evd_sub (ha : EvD G ta ρ (.int i)) (hb : EvD G tb ρ (.int j)) : EvD G (tOp (rI0 fun i j => .int (i - j)) ta tb) ρ (.int (i - j)) := evd_op ha hb (rv_I0 fun _ => .int _)
theorem evd_mul (ha : EvD G ta ρ (.int i)) (hb : EvD G tb ρ (.int j)) (hc : CMul i j) : EvD G (tOp (rI CMul fun i j => .int (i * j)) ta tb) ρ (.int (i * j)) := evd_op ha hb (rv_I hc fun _ => .int _)
theorem evd_mod (ha : EvD G ta ρ (.int i)) (hb : EvD G tb ρ (.int j)) (hc : 0 < j) : EvD G (tOp (rI (fun _ j => 0 < j) fun i j => .int (i % j)) ta tb) ρ (.int (i % j)) := evd_op ha hb (rv_I (C := fun _ j => 0 < j) hc fun _ => .int _)
theorem evd_fdiv (ha : EvD G ta ρ (.int i)) (hb : EvD G tb ρ (.int j)) (hc : CDiv i j) : EvD G (tOp (rI CDiv fun i j => .int (i / j)) ta tb) ρ (.int (i / j)) := evd_op ha hb (rv_I hc fun _ => .int _)
theorem evd_pow (ha : EvD G ta ρ (.int i)) (hb : EvD G tb ρ (.int j)) (hc : CPow i j) : EvD G (tOp (rI CPow fun i j => .int (i ^ j.toNat)) ta tb) ρ (.int (i ^ j.toNat)) := evd_op ha hb (rv_I hc fun _ => .int _)
theorem evd_lt (ha : EvD G ta ρ (.int i)) (hb : EvD G tb ρ (.int j)) : EvD G (tOp (rI0 fun i j => .bl (decide (i < j))) ta tb) ρ (.bl (decide (i < j))) := evd_op ha hb (rv_I0 fun _ => .bl _)
theorem evd_le (ha : EvD G ta ρ (.int i)) (hb : EvD G tb ρ (.int j)) : EvD G (tOp (rI0 fun i j => .bl (decide (i ≤ j))) ta tb) ρ (.bl (decide (i ≤ j))) := evd_op ha hb (rv_I0 fun _ => .bl _)
theorem evd_gt (ha : EvD G ta ρ (.int i)) (hb : EvD G tb ρ (.int j)) : EvD G (tOp (rI0 fun i j => .bl (decide (j < i))) ta tb) ρ (.bl (decide (j < i))) := evd_op ha hb (rv_I0 fun _ => .bl _)
theorem evd_ge (ha : EvD G ta ρ (.int i)) (hb : EvD G tb ρ (.int j)) : EvD G (tOp (rI0 fun i j => .bl (decide (j ≤ i))) ta tb) ρ (.bl (decide (j ≤ i))) := evd_op ha hb (rv_I0 fun _ => .bl _)
theorem evd_eqI (ha : EvD G ta ρ (.int i)) (hb : EvD G tb ρ (.int j)) : EvD G (tOp rEq ta tb) ρ (.bl (decide (i = j))) := evd_op ha hb (rvd_val fun F H v w rx ry Q q => by
  cases rx
  cases ry
  refine ⟨rfl, q _ ?_⟩
  have e : decide (V.int i = V.int j) = decide (i = j) := decide_eq_decide.mpr ⟨fun h => V.int.inj h, fun h => congrArg _ h⟩
  rw [e]
  exact .bl _)
theorem evd_neI (ha : EvD G ta ρ (.int i)) (hb : EvD G tb ρ (.int j)) : EvD G (tOp rNe ta tb) ρ (.bl (!decide (i = j))) := evd_op ha hb (rvd_val fun F H v w rx ry Q q => by
  cases rx
  cases ry
  refine ⟨rfl, q _ ?_⟩
  have e : decide (V.int i = V.int j) = decide (i = j) := decide_eq_decide.mpr ⟨fun h => V.int.inj h, fun h => congrArg _ h⟩
  rw [e]
  exact .bl _)
end
theorem evd_eqB (ha : EvD G ta ρ (.bl b)) (hb : EvD G tb ρ (.bl c)) : EvD G (tOp rEq ta tb) ρ (.bl (b == c)) := evd_op ha hb (rvd_val fun F H v w rx ry Q q => by
  cases rx
  cases ry
  refine ⟨rfl, q _ ?_⟩
  have e : decide (V.bl b = V.bl c) = (b == c) := by cases b <;> cases c <;> decide
  rw [e]
  exact .bl _)
theorem evd_neB (ha : EvD G ta ρ (.bl b)) (hb : EvD G tb ρ (.bl c)) : EvD G (tOp rNe ta tb) ρ (.bl (!(b == c))) := evd_op ha hb (rvd_val fun F H v w rx ry Q q => by
  cases rx
  cases ry
  refine ⟨rfl, q _ ?_⟩
  have e : decide (V.bl b = V.bl c) = (b == c) := by cases b <;> cases c <;> decide
  rw [e]
  exact .bl _)
theorem evd_eqS {s r : Str} (ha : EvD G ta ρ (.str s)) (hb : EvD G tb ρ (.str r)) : EvD G (tOp rEq ta tb) ρ (.bl (decide (s = r))) := evd_op ha hb (rvd_val fun F H v w rx ry Q q => by
  cases rx
  cases ry
  refine ⟨rfl, q _ ?_⟩
  have e : decide (V.str s = V.str r) = decide (s = r) := decide_eq_decide.mpr ⟨fun h => V.str.inj h, fun h => congrArg _ h⟩
  rw [e]
  exact .bl _)
theorem evd_neS {s r : Str} (ha : EvD G ta ρ (.str s)) (hb : EvD G tb ρ (.str r)) : EvD G (tOp rNe ta tb) ρ (.bl (!decide (s = r))) := evd_op ha hb (rvd_val fun F H v w rx ry Q q => by
  cases rx
  cases ry
  refine ⟨rfl, q _ ?_⟩
  have e : decide (V.str s = V.str r) = decide (s = r) := decide_eq_decide.mpr ⟨fun h => V.str.inj h, fun h => congrArg _ h⟩
  rw [e]
  exact .bl _)
theorem evd_addS {s r : Str} (ha : EvD G ta ρ (.str s)) (hb : EvD G tb ρ (.str r)) (hz : s.length + r.length ≤ 100000) :
    EvD G (tOp (fun x y H Q => ∃ i j, x = .str i ∧ y = .str j ∧ i.length + j.length ≤ sizeLine ∧ Q (.str (i ++ j)) H) ta tb) ρ (.str (s ++ r)) := evd_op ha hb (rvd_val fun F H v w rx ry Q q => by
  cases rx
  cases ry
  exact ⟨s, r, rfl, rfl, Nat.le_trans hz (by decide), q _ (.str _)⟩)
theorem evd_neg {i : Int} (ha : EvD G ta ρ (.int i)) : EvD G (tUn (rU fun i => .int (-i)) ta) ρ (.int (-i)) := fun F0 H0 F H σ E Q q => ha F0 H0 F H σ E _ fun v F1 H1 g1 r1 => by
  cases r1
  exact ⟨i, rfl, q _ F1 H1 g1 (.int _)⟩
theorem evd_isN (ha : EvD G ta ρ x) : EvD G (tOp (fun x y H Q => y = .non ∧ Q (.bl (decide (x = .non))) H) ta (tC .non)) ρ (.bl (match x with | .non => true | _ => false)) := fun F0 H0 F H σ E Q q => ha F0 H0 F H σ E _ fun v F1 H1 g1 r1 => by
  refine ⟨rfl, q _ F1 H1 g1 ?_⟩
  cases r1 <;> exact .bl _
theorem evd_notN (ha : EvD G ta ρ x) : EvD G (tOp (fun x y H Q => y = .non ∧ Q (.bl (!decide (x = .non))) H) ta (tC .non)) ρ (.bl (match x with | .non => false | _ => true)) := fun F0 H0 F H σ E Q q => ha F0 H0 F H σ E _ fun v F1 H1 g1 r1 => by
  refine ⟨rfl, q _ F1 H1 g1 ?_⟩
  cases r1 <;> exact .bl _
/-! ### tests -/
theorem evt_test (h : EvD G te ρ (.bl b)) : EvT G (tTest te) ρ b := fun F0 H0 F H σ E Q q => h F0 H0 F H σ E _ fun v F1 H1 g r => by
  cases r
  exact ⟨b, rfl, q F1 H1 g⟩
theorem evt_B (h : EvD G te ρ (.bl b)) : EvT G (tB te) ρ b := fun F0 H0 F H σ E Q q => h F0 H0 F H σ E _ fun v F1 H1 g r => by
  cases r
  exact ⟨b, rfl, q F1 H1 g⟩
theorem evt_not (h : EvT G t ρ b) : EvT G (tNot t) ρ (!b) := fun F0 H0 F H σ E Q q => h F0 H0 F H σ E _ fun F1 H1 g => q F1 H1 g
theorem evt_and (h : EvT G t ρ b) (h2 : b = true → EvT G u ρ c) : EvT G (tAnd t u) ρ (b && c) := fun F0 H0 F H σ E Q q => h F0 H0 F H σ E _ fun F1 H1 g => by
  cases b with
  | true => exact h2 rfl F0 H0 F1 H1 σ (E.grow g) Q fun F2 H2 g2 => q F2 H2 (g.trans g2)
  | false => exact q F1 H1 g
theorem evt_or (h : EvT G t ρ b) (h2 : b = false → EvT G u ρ c) : EvT G (tOr t u) ρ (b || c) := fun F0 H0 F H σ E Q q => h F0 H0 F H σ E _ fun F1 H1 g => by
  cases b with
  | false => exact h2 rfl F0 H0 F1 H1 σ (E.grow g) Q fun F2 H2 g2 => q F2 H2 (g.trans g2)
  | true => exact q F1 H1 g
/-- a list's truth -/
theorem evt_lst (h : EvS G te ρ ds) : EvT G (fun σ H Q => te σ H fun x H' => ∃ k, TruV G.K x H' k ∧ Q k H') ρ (!ds.isEmpty) := fun F0 H0 F H σ E Q q => h F0 H0 F H σ E _ fun a vs F1 H1 g h1 r => by
  refine ⟨_, .inl ⟨vs, SqL.of h1, rfl⟩, ?_⟩
  have e : vs.isEmpty = ds.isEmpty := by cases r <;> rfl
  rw [e]
  exact q F1 H1 g
theorem evt_tru_bl (h : EvD G te ρ (.bl b)) : EvT G (fun σ H Q => te σ H fun x H' => ∃ k, TruV G.K x H' k ∧ Q k H') ρ b := fun F0 H0 F H σ E Q q => h F0 H0 F H σ E _ fun v F1 H1 g r => by
  cases r
  exact ⟨b, rfl, q F1 H1 g⟩
theorem evt_yes : EvT G tYes ρ true := fun F0 H0 F H σ E Q q => q F H (.refl E.sub)
theorem evd_andV (h : EvD G ta ρ (.bl b)) (h2 : b = true → EvD G tb ρ (.bl c)) : EvD G (tAndV ta tb) ρ (.bl (b && c)) := fun F0 H0 F H σ E Q q => h F0 H0 F H σ E _ fun v F1 H1 g r => by
  cases r
  refine ⟨b, rfl, ?_⟩
  cases b with
  | true => exact h2 rfl F0 H0 F1 H1 σ (E.grow g) Q fun v F2 H2 g2 r2 => q v F2 H2 (g.trans g2) r2
  | false => exact q _ F1 H1 g (.bl _)
theorem evd_orV (h : EvD G ta ρ (.bl b)) (h2 : b = false → EvD G tb ρ (.bl c)) : EvD G (tOrV ta tb) ρ (.bl (b || c)) := fun F0 H0 F H σ E Q q => h F0 H0 F H σ E _ fun v F1 H1 g r => by
  cases r
  refine ⟨b, rfl, ?_⟩
  cases b with
  | false => exact h2 rfl F0 H0 F1 H1 σ (E.grow g) Q fun v F2 H2 g2 r2 => q v F2 H2 (g.trans g2) r2
  | true => exact q _ F1 H1 g (.bl _)
theorem evd_notV (h : EvD G ta ρ (.bl b)) : EvD G (tNotV ta) ρ (.bl (!b)) := fun F0 H0 F H σ E Q q => h F0 H0 F H σ E _ fun v F1 H1 g r => by
  cases r
  exact ⟨b, rfl, q _ F1 H1 g (.bl _)⟩
/-! ### arguments, displays -/
theorem eva_nil : EvA G tNil ρ [] := fun F0 H0 F H σ E Q q => q [] F H (.refl E.sub) .nil
theorem RepA.grow {F H F' H' : Hp} {v : V} (g : Grow F H F' H') (h : RepA G F H v d) : RepA G F' H' v d := by
  rcases h with h | ⟨a, vs, ds, rfl, rfl, h1, r⟩
  · exact .inl (h.mono g.ef)
  · exact .inr ⟨a, vs, ds, rfl, rfl, g.eh _ _ h1, r.mono g.ef⟩
theorem eva_cons {tr : TA} (h : EvD G te ρ x) (hr : EvA G tr ρ ds) : EvA G (tCons te tr) ρ (x :: ds) := fun F0 H0 F H σ E Q q =>
  h F0 H0 F H σ E _ fun v F1 H1 g1 r1 => hr F0 H0 F1 H1 σ (E.grow g1) _ fun vs F2 H2 g2 r2 => q _ F2 H2 (g1.trans g2) (.cons (.inl (r1.mono g2.ef)) r2)
theorem eva_consL {tr : TA} (h : EvS G te ρ es) (hr : EvA G tr ρ ds) : EvA G (tCons te tr) ρ (.lst es :: ds) := fun F0 H0 F H σ E Q q =>
  h F0 H0 F H σ E _ fun a vs F1 H1 g1 h1 r1 => hr F0 H0 F1 H1 σ (E.grow g1) _ fun vs F2 H2 g2 r2 => q _ F2 H2 (g1.trans g2) (.cons (.inr ⟨a, _, _, rfl, rfl, g2.eh _ _ h1, r1.mono g2.ef⟩) r2)
/-- arguments that are data -/
def EvAD (G : Cfg) (ta : TA) (ρ : Rho) (ds : List D) : Prop := ∀ F0 H0 F H σ, REnv G F0 H0 F H σ ρ → ∀ Q : List V → Hp → Prop, (∀ vs F' H', Grow F H F' H' → Reps G F' vs ds → Q vs H') → ta σ H Q
theorem evad_nil : EvAD G tNil ρ [] := fun F0 H0 F H σ E Q q => q [] F H (.refl E.sub) .nil
theorem evad_cons {tr : TA} (h : EvD G te ρ x) (hr : EvAD G tr ρ ds) : EvAD G (tCons te tr) ρ (x :: ds) := fun F0 H0 F H σ E Q q =>
  h F0 H0 F H σ E _ fun v F1 H1 g1 r1 => hr F0 H0 F1 H1 σ (E.grow g1) _ fun vs F2 H2 g2 r2 => q _ F2 H2 (g1.trans g2) (.cons (r1.mono g2.ef) r2)
theorem evd_tup {ta : TA} (h : EvAD G ta ρ ds) (hl : ds.length ≤ 1000 := by simp) : EvD G (tTup ta) ρ (.tup ds) := fun F0 H0 F H σ E Q q => h F0 H0 F H σ E _ fun vs F1 H1 g r =>
  ⟨by rw [r.length]; exact Nat.le_trans hl (by decide), fun p hp => q _ _ _ (g.laid hp) (.tup upd_same (r.mono (same_upd (g.sub.free hp))))⟩
theorem evn_lst {ta : TA} (h : EvAD G ta ρ ds) (hl : ds.length ≤ 1000 := by simp) : EvN G (tLst ta) ρ ds := fun F0 H0 F H σ E Q q => h F0 H0 F H σ E _ fun vs F1 H1 g r =>
  ⟨by rw [r.length]; exact Nat.le_trans hl (by decide), fun p hp => q p vs F1 _ (g.fresh hp) (g.eh.free hp) (g.sub.free hp) upd_same r⟩
theorem evd_cb {r : List V → Hp → VK → Prop} {ta : TA} (h : EvA G ta ρ ds) (hr : RcD G r ds z) : EvD G (tCB r ta) ρ z := fun F0 H0 F H σ E Q q => h F0 H0 F H σ E _ fun vs F1 H1 g r =>
  hr F1 H1 vs g.sub r Q fun u F2 H2 g2 r2 => q u F2 H2 (g.trans g2) r2
theorem evn_cb {r : List V → Hp → VK → Prop} {ta : TA} (h : EvA G ta ρ ds) (hr : RcN G r ds es) : EvN G (tCB r ta) ρ es := fun F0 H0 F H σ E Q q => h F0 H0 F H σ E _ fun vs F1 H1 g r =>
  hr F1 H1 vs g.sub r Q fun a ws F2 H2 g2 h0 hf h1 r2 => q a ws F2 H2 (g.trans g2) (g.eh.free h0) hf h1 r2
theorem evo_none : EvO G tNoPart ρ none := fun F0 H0 F H σ E Q q => q F H (.refl E.sub)
theorem evo_some {i : Int} (h : EvD G te ρ (.int i)) : EvO G (tPart te) ρ (some i) := fun F0 H0 F H σ E Q q => h F0 H0 F H σ E _ fun v F1 H1 g r => by
  cases r
  exact ⟨i, rfl, q F1 H1 g⟩
/-! ### calls of one's own defs -/
def mkSp (G : Cfg) (R : List D → Res → Prop) : Sp := fun vs H Q E => ∃ F ds r, Same F H ∧ RepAs G F H vs ds ∧ R ds r ∧ Goes G F H Q E r
variable {R : List D → Res → Prop} {Ex : XK} {ta : TA}
theorem evd_call (h : EvA G ta ρ ds) (hr : R ds (.val z)) : EvD G (tCall (mkSp G R) [] Ex ta) ρ z := fun F0 H0 F H σ E Q q => h F0 H0 F H σ E _ fun vs F1 H1 g r =>
  ⟨F1, ds, .val z, g.sub, by rw [List.append_nil]; exact r, hr, fun v F2 H2 g2 r2 => q v F2 H2 (g.trans g2) r2⟩
theorem evn_call (h : EvA G ta ρ ds) (hr : R ds (.new es)) : EvN G (tCall (mkSp G R) [] Ex ta) ρ es := fun F0 H0 F H σ E Q q => h F0 H0 F H σ E _ fun vs F1 H1 g r =>
  ⟨F1, ds, .new es, g.sub, by rw [List.append_nil]; exact r, hr, fun a ws F2 H2 g2 h0 hf h1 r2 => q a ws F2 H2 (g.trans g2) (g.eh.free h0) hf h1 r2⟩
theorem Goes.after {F H F1 H1 : Hp} {Q : VK} {r : Res} (g : Grow F H F1 H1) (h : Goes G F H Q Ex r) : Goes G F1 H1 Q Ex r := by
  cases r with
  | val d => exact fun v F2 H2 g2 r2 => h v F2 H2 (g.trans g2) r2
  | new ds => exact fun a ws F2 H2 g2 h0 hf h1 r2 => h a ws F2 H2 (g.trans g2) (g.eh.free h0) hf h1 r2
  | trip s W b => exact fun t a F2 H2 g2 t0 a0 tf af ne ht ha => h t a F2 H2 (g.trans g2) (g.eh.free t0) (g.eh.free a0) tf af ne ht ha
  | err e => exact fun F2 H2 g2 => h F2 H2 (g.trans g2)
theorem evx_call {r : Res} (h : EvA G ta ρ ds) (hr : R ds r) : EvX G Ex (tCall (mkSp G R) [] Ex ta) ρ r := fun F0 H0 F H σ E Q q => h F0 H0 F H σ E _ fun vs F1 H1 g rr =>
  ⟨F1, ds, r, g.sub, by rw [List.append_nil]; exact rr, hr, q.after g⟩
theorem evx_val (h : EvD G te ρ z) : EvX G Ex te ρ (.val z) := fun F0 H0 F H σ E Q q => h F0 H0 F H σ E Q q
theorem evx_new (h : EvN G te ρ es) : EvX G Ex te ρ (.new es) := fun F0 H0 F H σ E Q q => h F0 H0 F H σ E Q q
theorem evd_x (h : EvX G Ex te ρ (.val z)) : EvD G te ρ z := fun F0 H0 F H σ E Q q => h F0 H0 F H σ E Q q
theorem evn_x (h : EvX G Ex te ρ (.new es)) : EvN G te ρ es := fun F0 H0 F H σ E Q q => h F0 H0 F H σ E Q q
/-! ### a council's fields and methods -/
theorem Rep.cou_at {F : Hp} {v : V} {n : Int} {told : List (List Int)} (h : Rep G F v (.cou n told)) : ∃ a dx l vs, v = .ref a ∧ F a = some (.ins G.C dx [(("size" : Str), V.int n), (("told" : Str), V.ref l)]) ∧ F l = some (.lst vs) ∧ Reps G F vs (told.map eC) := by
  cases h with
  | cou h1 h2 h3 => exact ⟨_, _, _, _, rfl, h1, h2, h3⟩
theorem no_str {a b : Str} (h : decide (a = b) = false) : (a == b) = false := by simpa using h
theorem lk_size (n : Int) (l : Addr) : ([(("size" : Str), V.int n), (("told" : Str), V.ref l)] : List (Str × V)).lookup ("size" : Str) = some (.int n) := by
  simp [List.lookup]
theorem lk_told (n : Int) (l : Addr) : ([(("size" : Str), V.int n), (("told" : Str), V.ref l)] : List (Str × V)).lookup ("told" : Str) = some (.ref l) := by
  have e : (("told" : Str) == ("size" : Str)) = false := no_str (by decide +kernel)
  simp [List.lookup, e]
theorem lk_no {n : Int} {l : Addr} {m : Str} (h1 : decide (m = "size") = false) (h2 : decide (m = "told") = false) : ([(("size" : Str), V.int n), (("told" : Str), V.ref l)] : List (Str × V)).lookup m = none := by
  simp only [List.lookup, no_str h1, no_str h2]
variable {n : Int} {told : List (List Int)}
theorem evd_size (h : EvD G te ρ (.cou n told)) (c : Cls G.K G.C) (hn : NoAttr G.K G.C "size") : EvD G (tFld G.K te "size") ρ (.int n) := fun F0 H0 F H σ E Q q => h F0 H0 F H σ E _ fun v F1 H1 g r => by
  obtain ⟨a, dx, l, vs, rfl, h1, h2, h3⟩ := r.cou_at
  exact ⟨a, G.C, dx, _, _, rfl, g.sub _ _ h1, c, hn, lk_size n l, q _ F1 H1 g (.int n)⟩
theorem evd_told (h : EvD G te ρ (.cou n told)) (c : Cls G.K G.C) (hn : NoAttr G.K G.C "told") : EvD G (tFld G.K te "told") ρ (.lst (told.map eC)) := fun F0 H0 F H σ E Q q => h F0 H0 F H σ E _ fun v F1 H1 g r => by
  obtain ⟨a, dx, l, vs, rfl, h1, h2, h3⟩ := r.cou_at
  exact ⟨a, G.C, dx, _, _, rfl, g.sub _ _ h1, c, hn, lk_told n l, q _ F1 H1 g (.lst h2 h3)⟩
theorem evx_meth {m : Str} {r : Res} (h : EvD G te ρ (.cou n told)) (ha : EvA G ta ρ ds) (hr : R (.cou n told :: ds) r) (h1 : decide (m = "size") = false := by decide +kernel) (h2 : decide (m = "told") = false := by decide +kernel) :
    EvX G Ex (tMeth G.C m (mkSp G R) [] Ex te ta) ρ r := fun F0 H0 F H σ E Q q => h F0 H0 F H σ E _ fun v F1 H1 g r1 => by
  obtain ⟨a, dx, l, vs, rfl, k1, k2, k3⟩ := id r1.cou_at
  refine ⟨a, dx, _, rfl, g.sub _ _ k1, lk_no h1 h2, ha F0 H0 F1 H1 σ (E.grow g) _ fun vs F2 H2 g2 rr => ?_⟩
  exact ⟨F2, _, r, g2.sub, by rw [List.append_nil]; exact .cons (.inl (r1.mono g2.ef)) rr, hr, (q.after g).after g2⟩
theorem evd_meth {m : Str} (h : EvD G te ρ (.cou n told)) (ha : EvA G ta ρ ds) (hr : R (.cou n told :: ds) (.val z)) (h1 : decide (m = "size") = false := by decide +kernel) (h2 : decide (m = "told") = false := by decide +kernel) :
    EvD G (tMeth G.C m (mkSp G R) [] Ex te ta) ρ z := evd_x (Ex := Ex) (evx_meth h ha hr h1 h2)
theorem evn_meth {m : Str} (h : EvD G te ρ (.cou n told)) (ha : EvA G ta ρ ds) (hr : R (.cou n told :: ds) (.new es)) (h1 : decide (m = "size") = false := by decide +kernel) (h2 : decide (m = "told") = false := by decide +kernel) :
    EvN G (tMeth G.C m (mkSp G R) [] Ex te ta) ρ es := evn_x (Ex := Ex) (evx_meth h ha hr h1 h2)
end
end Vw

namespace Vw
open PySem L2 PySem.Spec PyProof.Rows

/-! ### statements -/
structure Ks where
  nx : Rho → Prop
  rt : Res → Prop
  bk : Rho → Prop := fun _ => False
  ct : Rho → Prop := fun _ => False
  er : Err → Prop := fun _ => False
structure KOk (G : Cfg) (W : WX) (F0 H0 F : Hp) (D : Ends) (k : Ks) : Prop where
  nx : ∀ ρ, k.nx ρ → ∀ F' H' σ', Same F F' → REnv G F0 H0 F' H' σ' ρ → D.nx σ' H'
  bk : ∀ ρ, k.bk ρ → ∀ F' H' σ', Same F F' → REnv G F0 H0 F' H' σ' ρ → D.bk σ' H'
  ct : ∀ ρ, k.ct ρ → ∀ F' H' σ', Same F F' → REnv G F0 H0 F' H' σ' ρ → D.ct σ' H'
  rt : ∀ r, k.rt r → Goes G F0 H0 D.rt (fun _ _ _ => True) r
  er : ∀ e, k.er e → ∀ F' H' σ', Same F F' → Grow F0 H0 F' H' → W (.ref (G.ex e)) none σ' H'
theorem KOk.later {G : Cfg} {W : WX} {F0 H0 F F1 : Hp} {D : Ends} {k : Ks} (K : KOk G W F0 H0 F D k) (s : Same F F1) : KOk G W F0 H0 F1 D k :=
  ⟨fun ρ h F' H' σ' s' => K.nx ρ h F' H' σ' (s.trans s'), fun ρ h F' H' σ' s' => K.bk ρ h F' H' σ' (s.trans s'), fun ρ h F' H' σ' s' => K.ct ρ h F' H' σ' (s.trans s'), K.rt, fun e h F' H' σ' s' => K.er e h F' H' σ' (s.trans s')⟩
def WS (G : Cfg) (W : WX) (ts : TS) (k : Ks) (ρ : Rho) : Prop := ∀ F0 H0 F H σ D, REnv G F0 H0 F H σ ρ → KOk G W F0 H0 F D k → ts D σ H
/-- what is raised leaves the def -/
abbrev wd (E : XK) : WX := fun cls d _ H => E cls d H
def dropR (k : Ks) (ρ : Rho) : Res → Prop
  | .err e => k.er e
  | .val _ => k.nx ρ
  | .new _ => k.nx ρ
  | .trip _ _ _ => k.nx ρ
def retR (k : Ks) : Res → Prop
  | .err e => k.er e
  | .val d => k.rt (.val d)
  | .new ds => k.rt (.new ds)
  | .trip s W b => k.rt (.trip s W b)
def asgR (k : Ks) (ρ : Rho) (i : Nat) : Res → Prop
  | .err e => k.er e
  | .val d => k.nx (ρ.set i (.im d))
  | .new ds => k.nx (ρ.set i (.own ds))
  | .trip _ _ _ => k.nx (ρ.set i .no)
section
variable {G : Cfg} {W : WX} {k : Ks} {ρ : Rho} {t u : TS} {te ta tb : TE} {tt : TT} {d : D} {ds : List D} {b : Bool} {E : XK}
theorem ws_mono {k' : Ks} (h : WS G W t k ρ) (h1 : ∀ ρ, k.nx ρ → k'.nx ρ) (h2 : ∀ r, k.rt r → k'.rt r) (h3 : ∀ ρ, k.bk ρ → k'.bk ρ) (h4 : ∀ ρ, k.ct ρ → k'.ct ρ) (h5 : ∀ e, k.er e → k'.er e) : WS G W t k' ρ := fun F0 H0 F H σ D R K =>
  h F0 H0 F H σ D R ⟨fun ρ z => K.nx ρ (h1 ρ z), fun ρ z => K.bk ρ (h3 ρ z), fun ρ z => K.ct ρ (h4 ρ z), fun r z => K.rt r (h2 r z), fun e z => K.er e (h5 e z)⟩
theorem ws_weak {ρ' : Rho} (w : Weak ρ ρ') (h : WS G W t k ρ') : WS G W t k ρ := fun F0 H0 F H σ D R K => h F0 H0 F H σ D (R.weak w) K
theorem ws_freeze (i : Nat) (hi : ρ[i]? = some (.own ds)) (h : WS G W t k (ρ.set i (.im (.lst ds)))) : WS G W t k ρ := fun F0 H0 F H σ D R K => by
  obtain ⟨F', s, R'⟩ := R.freeze hi
  exact h F0 H0 F' H σ D R' (K.later s)
theorem ws_seq (h : WS G W t { k with nx := fun ρ' => WS G W u k ρ' } ρ) : WS G W (tSeq t u) k ρ := fun F0 H0 F H σ D R K =>
  h F0 H0 F H σ { D with nx := u D } R ⟨fun ρ' z F' H' σ' s R' => z F0 H0 F' H' σ' D R' (K.later s), K.bk, K.ct, K.rt, K.er⟩
theorem ws_next (h : k.nx ρ) : WS G W tNext k ρ := fun F0 H0 F H σ D R K => K.nx ρ h F H σ (Same.refl _) R
theorem ws_break (h : k.bk ρ) : WS G W tBreak k ρ := fun F0 H0 F H σ D R K => K.bk ρ h F H σ (Same.refl _) R
theorem ws_cont (h : k.ct ρ) : WS G W tCont k ρ := fun F0 H0 F H σ D R K => K.ct ρ h F H σ (Same.refl _) R
theorem ws_asgD {i : Nat} (h : EvD G te ρ d) (n : k.nx (ρ.set i (.im d))) : WS G W (tAsg te (gName i)) k ρ := fun F0 H0 F H σ D R K =>
  h F0 H0 F H σ R _ fun v F' H' g r => K.nx _ n F' H' _ g.ef ((R.grow g).setIm r)
theorem ws_asgN {i : Nat} (h : EvN G te ρ ds) (n : k.nx (ρ.set i (.own ds))) : WS G W (tAsg te (gName i)) k ρ := fun F0 H0 F H σ D R K =>
  h F0 H0 F H σ R _ fun a vs F' H' g h0 hf h1 r => K.nx _ n F' H' _ g.ef (R.setOwn g h0 hf h1 r)
theorem ws_ret (h : EvD G te ρ d) (n : k.rt (.val d)) : WS G W (tRet te) k ρ := fun F0 H0 F H σ D R K =>
  h F0 H0 F H σ R _ fun v F' H' g r => K.rt _ n v F' H' (R.g.trans g) r
theorem ws_retN (h : EvN G te ρ ds) (n : k.rt (.new ds)) : WS G W (tRet te) k ρ := fun F0 H0 F H σ D R K =>
  h F0 H0 F H σ R _ fun a vs F' H' g h0 hf h1 r => K.rt _ n a vs F' H' (R.g.trans g) (R.g.eh.free h0) hf h1 r
theorem ws_retOwn {i : Nat} (h : ρ[i]? = some (.own ds)) (n : k.rt (.new ds)) : WS G W (tRet (tVar i)) k ρ := fun F0 H0 F H σ D R K => by
  obtain ⟨a, vs, e, h0, hf, h1, r⟩ := R.sl i _ h
  exact ⟨_, e, K.rt _ n a vs F H R.g h0 hf h1 r⟩
theorem ws_retX {r : Res} (h : EvX G E te ρ r) (n : retR k r) : WS G (wd E) (tRet te) k ρ := fun F0 H0 F H σ D R K =>
  h F0 H0 F H σ R _ (by
    cases r with
    | val d => exact fun v F' H' g r => K.rt _ n v F' H' (R.g.trans g) r
    | new ds => exact fun a vs F' H' g h0 hf h1 r => K.rt _ n a vs F' H' (R.g.trans g) (R.g.eh.free h0) hf h1 r
    | trip s W b => exact fun t a F' H' g t0 a0 tf af ne ht ha => K.rt _ n t a F' H' (R.g.trans g) (R.g.eh.free t0) (R.g.eh.free a0) tf af ne ht ha
    | err e => exact fun F' H' g => K.er e n F' H' σ g.ef (R.g.trans g))
theorem ws_drop (h : EvD G te ρ d) (n : k.nx ρ) : WS G W (tDrop te) k ρ := fun F0 H0 F H σ D R K =>
  h F0 H0 F H σ R _ fun v F' H' g r => K.nx _ n F' H' _ g.ef (R.grow g)
theorem ws_dropX {r : Res} (h : EvX G E te ρ r) (n : dropR k ρ r) : WS G (wd E) (tDrop te) k ρ := fun F0 H0 F H σ D R K =>
  h F0 H0 F H σ R _ (by
    cases r with
    | val d => exact fun v F' H' g r => K.nx _ n F' H' _ g.ef (R.grow g)
    | new ds => exact fun a vs F' H' g h0 hf h1 r => K.nx _ n F' H' _ g.ef (R.grow g)
    | trip s W b => exact fun t a F' H' g t0 a0 tf af ne ht ha => K.nx _ n F' H' _ g.ef (R.grow g)
    | err e => exact fun F' H' g => K.er e n F' H' σ g.ef (R.g.trans g))
theorem ws_asgX {i : Nat} {r : Res} (h : EvX G E te ρ r) (n : asgR k ρ i r) : WS G (wd E) (tAsg te (gName i)) k ρ := fun F0 H0 F H σ D R K =>
  h F0 H0 F H σ R _ (by
    cases r with
    | val d => exact fun v F' H' g r => K.nx _ n F' H' _ g.ef ((R.grow g).setIm r)
    | new ds => exact fun a vs F' H' g h0 hf h1 r => K.nx _ n F' H' _ g.ef (R.setOwn g h0 hf h1 r)
    | trip s W b => exact fun t a F' H' g t0 a0 tf af ne ht ha => K.nx _ n F' H' _ g.ef (R.grow g).setNo
    | err e => exact fun F' H' g => K.er e n F' H' σ g.ef (R.g.trans g))
theorem ws_if (h : EvT G tt ρ b) (h1 : b = true → WS G W t k ρ) (h2 : b = false → WS G W u k ρ) : WS G W (tIfS tt t u) k ρ := fun F0 H0 F H σ D R K =>
  h F0 H0 F H σ R _ fun F' H' g => by
    cases b with
    | true => exact h1 rfl F0 H0 F' H' σ D (R.grow g) (K.later g.ef)
    | false => exact h2 rfl F0 H0 F' H' σ D (R.grow g) (K.later g.ef)
theorem ws_when (h : EvT G tt ρ b) (h1 : b = true → WS G W t k ρ) (h2 : b = false → k.nx ρ) : WS G W (tIfS tt t tNext) k ρ := ws_if h h1 fun e => ws_next (h2 e)
theorem ws_append {i : Nat} (hi : ρ[i]? = some (.own ds)) (h : EvD G te ρ d) (hz : ds.length ≤ 100000) (n : k.nx (ρ.set i (.own (ds ++ [d])))) : WS G W (tDrop (tBM G.K "list" rAppend (tVar i) (tCons te tNil))) k ρ := fun F0 H0 F H σ D R K => by
  obtain ⟨a, vs, e, h0, hf, h1, r⟩ := id (R.sl i _ hi)
  refine ⟨_, e, Or.inl ⟨rfl, vs, SqL.of h1⟩, h F0 H0 F H σ R _ fun v F' H' g rv => ⟨a, vs, v, rfl, rfl, g.eh _ _ h1, ?_, ?_⟩⟩
  · rw [r.length]
    exact Nat.lt_of_le_of_lt hz (by decide)
  · exact K.nx _ n F' _ σ g.ef (R.write g hi e ((r.mono g.ef).append (.one rv)))
theorem ws_extend {i : Nat} {es : List D} (hi : ρ[i]? = some (.own ds)) (h : EvS G te ρ es) (hz : ds.length + es.length ≤ 100000) (n : k.nx (ρ.set i (.own (ds ++ es)))) : WS G W (tDrop (tBM G.K "list" rExtend (tVar i) (tCons te tNil))) k ρ := fun F0 H0 F H σ D R K => by
  obtain ⟨a, vs, e, h0, hf, h1, r⟩ := id (R.sl i _ hi)
  refine ⟨_, e, Or.inl ⟨rfl, vs, SqL.of h1⟩, h F0 H0 F H σ R _ fun c ws F' H' g hc rv => ⟨a, c, vs, ws, rfl, rfl, g.eh _ _ h1, hc, ?_, ?_⟩⟩
  · rw [r.length, rv.length]
    exact Nat.le_trans hz (by decide)
  · exact K.nx _ n F' _ σ g.ef (R.write g hi e ((r.mono g.ef).append rv))
theorem ws_clear {i : Nat} (hi : ρ[i]? = some (.own ds)) (n : k.nx (ρ.set i (.own []))) : WS G W (tDrop (tBM0 G.K "list" rClear (tVar i))) k ρ := fun F0 H0 F H σ D R K => by
  obtain ⟨a, vs, e, h0, hf, h1, r⟩ := id (R.sl i _ hi)
  exact ⟨_, e, Or.inl ⟨rfl, vs, SqL.of h1⟩, a, vs, rfl, rfl, h1, K.nx _ n F _ σ (Same.refl _) (R.write (.refl R.sub) hi e .nil)⟩
/-- f(..).append(e), f(..).clear(): a new list is changed and dropped -/
theorem ws_appendNew (ha : EvN G ta ρ ds) (h : EvD G te ρ d) (hz : ds.length ≤ 100000) (n : k.nx ρ) : WS G W (tDrop (tBM G.K "list" rAppend ta (tCons te tNil))) k ρ := fun F0 H0 F H σ D R K =>
  ha F0 H0 F H σ R _ fun a vs F1 H1 g1 h0 hf h1 r => by
  refine ⟨Or.inl ⟨rfl, vs, SqL.of h1⟩, h F0 H0 F1 H1 σ (R.grow g1) _ fun v F' H' g rv => ⟨a, vs, v, rfl, rfl, g.eh _ _ h1, ?_, ?_⟩⟩
  · rw [r.length]
    exact Nat.lt_of_le_of_lt hz (by decide)
  · have g2 := g1.trans g
    have hf2 : F' a = none := g.new a hf (by rw [h1]; exact fun z => nomatch z)
    refine K.nx _ n F' _ σ g2.ef (R.grow ⟨g2.ef, fun x o q => ?_, fun x o q => ?_, g2.new⟩)
    · rw [upd_ne (ne_of_none q h0)]
      exact g2.eh x o q
    · rw [upd_ne (ne_of_none q hf2)]
      exact g2.sub x o q
theorem ws_clearNew (ha : EvN G ta ρ ds) (n : k.nx ρ) : WS G W (tDrop (tBM0 G.K "list" rClear ta)) k ρ := fun F0 H0 F H σ D R K =>
  ha F0 H0 F H σ R _ fun a vs F1 H1 g1 h0 hf h1 r => by
  refine ⟨Or.inl ⟨rfl, vs, SqL.of h1⟩, a, vs, rfl, rfl, h1, ?_⟩
  refine K.nx _ n F1 _ σ g1.ef (R.grow ⟨g1.ef, fun x o q => ?_, fun x o q => ?_, g1.new⟩)
  · rw [upd_ne (ne_of_none q h0)]
    exact g1.eh x o q
  · rw [upd_ne (ne_of_none q hf)]
    exact g1.sub x o q
/-- x = y, y an own list: it is data from now on -/
theorem ws_move {i j : Nat} (hj : ρ[j]? = some (.own ds)) (n : k.nx ((ρ.set j (.im (.lst ds))).set i (.im (.lst ds)))) : WS G W (tAsg (tVar j) (gName i)) k ρ :=
  ws_freeze j hj (ws_asgD (evd_var (by rw [List.getElem?_set_self (List.getElem?_eq_some_iff.mp hj).1])) n)
theorem ws_setL {i j : Nat} (hi : ρ[i]? = some (.own ds)) (h : EvD G te ρ d) (hb : EvD G tb ρ (.int (j : Int))) (hj : j < ds.length) (n : k.nx (ρ.set i (.own (ds.set j d)))) : WS G W (tAsg te (gSub (tVar i) tb rSetL)) k ρ := fun F0 H0 F H σ D R K =>
  h F0 H0 F H σ R _ fun v F1 H1 g1 rv => by
  obtain ⟨a, vs, e, h0, hf, h1, r⟩ := id ((R.grow g1).sl i _ hi)
  refine ⟨_, e, hb F0 H0 F1 H1 σ (R.grow g1) _ fun w F2 H2 g2 rw_ => ?_⟩
  cases rw_
  refine ⟨a, vs, (j : Int), j, rfl, rfl, g2.eh _ _ h1, ?_, ?_⟩
  · unfold ixN
    have : j < vs.length := by rw [r.length]; exact hj
    rw [if_pos (by omega), if_pos (by omega)]
    simp
  · exact K.nx _ n F2 _ σ (g1.trans g2).ef (R.write (g1.trans g2) hi e (((r.mono g2.ef)).set (rv.mono g2.ef) j))
theorem ws_never (h : False) : WS G W t k ρ := h.elim
/-- raise X("..") -/
theorem ws_raise {e : Err} (h : k.er e) : WS G W (fun _ σ H => W (.ref (G.ex e)) none σ H) k ρ := fun F0 H0 F H σ D R K => K.er e h F H σ (Same.refl _) R.g
end

/-! ### loops -/
inductive Go (S : Type) where
  | go (s : S) | brk (s : S) | stop (r : Res) | err (e : Err)
def foldGo {S α : Type} (step : S → α → Go S) : S → List α → Go S
  | s, [] => .go s
  | s, x :: xs => match step s x with
    | .go s' => foldGo step s' xs
    | g => g
theorem foldGo_take {S α : Type} {step : S → α → Go S} : ∀ {xs : List α} {s s1 : S} {i : Nat} {x : α}, foldGo step s (xs.take i) = .go s1 → xs[i]? = some x → foldGo step s (xs.take (i + 1)) = (match step s1 x with | .go s' => .go s' | g => g)
  | [], _, _, _, _, _, h => by simp at h
  | y :: ys, s, s1, 0, x, h, h2 => by
    simp at h2
    subst h2
    have e : s = s1 := by
      simp [foldGo] at h
      exact h
    subst e
    simp only [List.take_succ_cons, List.take_zero, foldGo]
  | y :: ys, s, s1, i + 1, x, h, h2 => by
    simp only [List.take_succ_cons, foldGo] at h ⊢
    cases q : step s y with
    | go s' =>
      rw [q] at h
      exact foldGo_take h (by simpa using h2)
    | brk s' => rw [q] at h; cases h
    | stop r => rw [q] at h; cases h
    | err r => rw [q] at h; cases h
theorem foldGo_out {S α : Type} {step : S → α → Go S} {g : Go S} : ∀ {xs : List α} {s s1 : S} {i : Nat} {x : α}, foldGo step s (xs.take i) = .go s1 → xs[i]? = some x → step s1 x = g → (∀ s, g ≠ .go s) → foldGo step s xs = g
  | [], _, _, _, _, _, h, _, _ => by simp at h
  | y :: ys, s, s1, 0, x, h, h2, h3, h4 => by
    simp at h2
    subst h2
    have e : s = s1 := by
      simp [foldGo] at h
      exact h
    subst e
    simp only [foldGo]
    rw [h3]
    cases g with
    | go s' => exact absurd rfl (h4 s')
    | brk _ => rfl
    | stop _ => rfl
    | err _ => rfl
  | y :: ys, s, s1, i + 1, x, h, h2, h3, h4 => by
    simp only [List.take_succ_cons, foldGo] at h ⊢
    cases q : step s y with
    | go s' =>
      rw [q] at h
      exact foldGo_out h (by simpa using h2) h3 h4
    | brk s' => rw [q] at h; cases h
    | stop r => rw [q] at h; cases h
    | err r => rw [q] at h; cases h
/-- what a turn is to reach -/
def kTurn {S : Type} (env : S → Rho) (g : Go S) : Ks where
  nx ρ := ∃ s, g = .go s ∧ Weak ρ (env s)
  ct ρ := ∃ s, g = .go s ∧ Weak ρ (env s)
  bk ρ := ∃ s, g = .brk s ∧ Weak ρ (env s)
  rt r := g = .stop r
  er e := g = .err e
def endGo {S : Type} (k : Ks) (env : S → Rho) : Go S → Prop
  | .go s => k.nx (env s)
  | .brk s => k.nx (env s)
  | .stop r => k.rt r
  | .err e => k.er e
section
variable {G : Cfg} {W : WX} {k : Ks} {ρ : Rho} {tb : TS} {tl : TE} {S α : Type} {j : Nat}
/-- the turn, for any walk -/
theorem turn_ok {F0 H0 F1 : Hp} {Dn : Ends} {env : S → Rho} {step : S → α → Go S} {s0 s1 : S} {xs : List α} {enc : α → D} {i : Nat} {x : α} {v : V} {σ : L2.St} {H : Hp} {F : Hp} {tg : TG}
    (K : KOk G W F0 H0 F1 Dn k) (hd : endGo k env (foldGo step s0 xs)) (f : foldGo step s0 (xs.take i) = .go s1) (hx : xs[i]? = some x) (s : Same F1 F) {ρ2 : Rho} {σ2 : L2.St} {H2 F2 : Hp} (s2 : Same F F2) (R2 : REnv G F0 H0 F2 H2 σ2 ρ2)
    (hb : WS G W tb (kTurn env (step s1 x)) ρ2) :
    tb { Dn with nx := (fun σ H => ∃ F s', Same F1 F ∧ foldGo step s0 (xs.take (i + 1)) = .go s' ∧ REnv G F0 H0 F H σ (env s')), ct := (fun σ H => ∃ F s', Same F1 F ∧ foldGo step s0 (xs.take (i + 1)) = .go s' ∧ REnv G F0 H0 F H σ (env s')), bk := Dn.nx } σ2 H2 := by
  refine hb F0 H0 F2 H2 σ2 _ R2 ⟨?_, ?_, ?_, ?_, ?_⟩
  · rintro ρ' ⟨s', e, w⟩ F' H' σ' sm R'
    refine ⟨F', s', (s.trans s2).trans sm, ?_, R'.weak w⟩
    rw [foldGo_take f hx, e]
  · rintro ρ' ⟨s', e, w⟩ F' H' σ' sm R'
    have q := foldGo_out f hx e (fun _ z => nomatch z)
    rw [q] at hd
    exact K.nx _ hd F' H' σ' ((s.trans s2).trans sm) (R'.weak w)
  · rintro ρ' ⟨s', e, w⟩ F' H' σ' sm R'
    refine ⟨F', s', (s.trans s2).trans sm, ?_, R'.weak w⟩
    rw [foldGo_take f hx, e]
  · intro r e
    have q := foldGo_out f hx e (fun _ z => nomatch z)
    rw [q] at hd
    exact K.rt _ hd
  · intro e h F' H' σ' sm g
    have q := foldGo_out f hx h (fun _ z => nomatch z)
    rw [q] at hd
    exact K.er _ hd F' H' σ' ((s.trans s2).trans sm) g
theorem Reps.item {F : Hp} {vs : List V} {xs : List α} {enc : α → D} {i : Nat} {v : V} (r : Reps G F vs (xs.map enc)) (h : vs[i]? = some v) : ∃ x, xs[i]? = some x ∧ Rep G F v (enc x) := by
  obtain ⟨d, h1, h2⟩ := r.get h
  rw [List.getElem?_map] at h1
  cases q : xs[i]? with
  | none => rw [q] at h1; cases h1
  | some x =>
    rw [q] at h1
    cases h1
    exact ⟨x, rfl, h2⟩
theorem end_ok {F0 H0 F1 : Hp} {Dn : Ends} {env : S → Rho} {step : S → α → Go S} {s0 : S} {xs : List α} {n : Nat} (hn : xs.length = n) (K : KOk G W F0 H0 F1 Dn k) (hd : endGo k env (foldGo step s0 xs)) {σ : L2.St} {H : Hp}
    (h : ∃ F s', Same F1 F ∧ foldGo step s0 (xs.take n) = .go s' ∧ REnv G F0 H0 F H σ (env s')) : Dn.nx σ H := by
  obtain ⟨F, s', s, e, R⟩ := h
  rw [← hn, List.take_length] at e
  rw [e] at hd
  exact K.nx _ hd F H σ s R
theorem ws_forL (xs : List α) (enc : α → D) (env : S → Rho) (step : S → α → Go S) (s0 : S) (hl : EvZ G tl ρ (xs.map enc)) (h0 : Weak ρ (env s0))
    (hs : ∀ i s x, xs[i]? = some x → foldGo step s0 (xs.take i) = .go s → WS G W tb (kTurn env (step s x)) ((env s).set j (.im (enc x)))) (hd : endGo k env (foldGo step s0 xs)) : WS G W (tFor (iList G.K tl) (gName j) tb) k ρ := fun F0 H0 F H σ Dn R K =>
  hl F0 H0 F H σ R _ fun a vs F1 H1 g hz r => by
  have st : ∀ F' H', Same F1 F' → (Grow F0 H0 F' H') → H' a = some (.lst vs) := fun F' H' s g' => by
    rcases hz with hz | hz
    · exact g'.sub _ _ (s _ _ hz)
    · exact g'.eh _ _ hz
  have R1 := R.grow g
  have K1 := K.later g.ef
  have hn : xs.length = vs.length := by rw [r.length, List.length_map]
  refine ⟨a, rfl, ⟨vs, SqL.of (st F1 H1 (Same.refl _) R1.g)⟩, for_list (fun i σ H => ∃ F s', Same F1 F ∧ foldGo step s0 (xs.take i) = .go s' ∧ REnv G F0 H0 F H σ (env s')) ⟨F1, s0, Same.refl _, rfl, R1.weak h0⟩ (fun i σ H _ ⟨F, s', s, _, R⟩ => SqL.of (st F H s R.g)) ?_ (fun σ H h => end_ok hn K1 hd h)⟩
  rintro i v σ' H' hv ⟨F', s', s, f, R'⟩
  obtain ⟨x, hx, rx⟩ := r.item hv
  exact turn_ok (enc := enc) (v := v) (tg := gName j) (σ := σ') (H := H') K1 hd f hx s (Same.refl _) (R'.setIm (rx.mono s)) (hs i s' x hx f)
theorem ws_forT (xs : List α) (enc : α → D) (env : S → Rho) (step : S → α → Go S) (s0 : S) (hl : EvD G tl ρ (.tup (xs.map enc))) (h0 : Weak ρ (env s0))
    (hs : ∀ i s x, xs[i]? = some x → foldGo step s0 (xs.take i) = .go s → WS G W tb (kTurn env (step s x)) ((env s).set j (.im (enc x)))) (hd : endGo k env (foldGo step s0 xs)) : WS G W (tFor (iTup G.K tl) (gName j) tb) k ρ := fun F0 H0 F H σ Dn R K =>
  hl F0 H0 F H σ R _ fun v0 F1 H1 g r0 => by
  cases r0 with
  | tup hz r =>
  rename_i a vs
  have st : ∀ F' H', Same F1 F' → (Grow F0 H0 F' H') → H' a = some (.tup vs) := fun F' H' s g' => g'.sub _ _ (s _ _ hz)
  have R1 := R.grow g
  have K1 := K.later g.ef
  have hn : xs.length = vs.length := by rw [r.length, List.length_map]
  refine ⟨a, rfl, ⟨vs, SqT.of (st F1 H1 (Same.refl _) R1.g)⟩, for_tup (fun i σ H => ∃ F s', Same F1 F ∧ foldGo step s0 (xs.take i) = .go s' ∧ REnv G F0 H0 F H σ (env s')) ⟨F1, s0, Same.refl _, rfl, R1.weak h0⟩ (fun i σ H _ ⟨F, s', s, _, R⟩ => SqT.of (st F H s R.g)) ?_ (fun σ H h => end_ok hn K1 hd h)⟩
  rintro i v σ' H' hv ⟨F', s', s, f, R'⟩
  obtain ⟨x, hx, rx⟩ := r.item hv
  exact turn_ok (enc := enc) (v := v) (tg := gName j) (σ := σ') (H := H') K1 hd f hx s (Same.refl _) (R'.setIm (rx.mono s)) (hs i s' x hx f)
/-- for a, b in a list of pairs -/
theorem ws_forP {j2 : Nat} (xs : List α) (e1 e2 : α → D) (env : S → Rho) (step : S → α → Go S) (s0 : S) (hl : EvZ G tl ρ (xs.map fun x => D.tup [e1 x, e2 x])) (h0 : Weak ρ (env s0))
    (hs : ∀ i s x, xs[i]? = some x → foldGo step s0 (xs.take i) = .go s → WS G W tb (kTurn env (step s x)) (((env s).set j (.im (e1 x))).set j2 (.im (e2 x)))) (hd : endGo k env (foldGo step s0 xs)) : WS G W (tFor (iList G.K tl) (gTup G.K 2 (gCons (gName j) (gCons (gName j2) gNil))) tb) k ρ := fun F0 H0 F H σ Dn R K =>
  hl F0 H0 F H σ R _ fun a vs F1 H1 g hz r => by
  have st : ∀ F' H', Same F1 F' → (Grow F0 H0 F' H') → H' a = some (.lst vs) := fun F' H' s g' => by
    rcases hz with hz | hz
    · exact g'.sub _ _ (s _ _ hz)
    · exact g'.eh _ _ hz
  have R1 := R.grow g
  have K1 := K.later g.ef
  have hn : xs.length = vs.length := by rw [r.length, List.length_map]
  refine ⟨a, rfl, ⟨vs, SqL.of (st F1 H1 (Same.refl _) R1.g)⟩, for_list (fun i σ H => ∃ F s', Same F1 F ∧ foldGo step s0 (xs.take i) = .go s' ∧ REnv G F0 H0 F H σ (env s')) ⟨F1, s0, Same.refl _, rfl, R1.weak h0⟩ (fun i σ H _ ⟨F, s', s, _, R⟩ => SqL.of (st F H s R.g)) ?_ (fun σ H h => end_ok hn K1 hd h)⟩
  rintro i v σ' H' hv ⟨F', s', s, f, R'⟩
  obtain ⟨x, hx, rx⟩ := r.item hv
  cases rx with
  | tup hp rp =>
  cases rp with
  | cons r1 rp =>
  cases rp with
  | cons r2 rp =>
  cases rp
  refine ⟨_, _, rfl, SqT.of (R'.g.sub _ _ (s _ _ hp)), rfl, _, _, rfl, _, _, rfl, rfl, ?_⟩
  exact turn_ok (enc := e1) (v := .non) (tg := gName j) (σ := σ') (H := H') K1 hd f hx s (Same.refl _) ((R'.setIm (r1.mono s)).setIm (r2.mono s)) (hs i s' x hx f)
theorem ws_forR1 {ta : TA} {n : Int} (env : S → Rho) (step : S → Nat → Go S) (s0 : S) (hl : EvA G ta ρ [.int n]) (hn : -100000 ≤ n ∧ n ≤ 100000) (h0 : Weak ρ (env s0))
    (hs : ∀ (i : Nat) (s : S), (i : Int) < n → foldGo step s0 ((List.range n.toNat).take i) = .go s → WS G W tb (kTurn env (step s i)) ((env s).set j (.im (.int (i : Int))))) (hd : endGo k env (foldGo step s0 (List.range n.toNat))) : WS G W (tFor (iRng1 ta) (gName j) tb) k ρ := fun F0 H0 F H σ Dn R K =>
  hl F0 H0 F H σ R _ fun vs F1 H1 g r => by
  obtain rfl : vs = [.int n] := by
    cases r with
    | cons r1 r2 =>
      cases r2
      rcases r1 with r1 | ⟨_, _, _, _, e, _⟩
      · cases r1
        rfl
      · cases e
  have R1 := R.grow g
  have K1 := K.later g.ef
  refine ⟨n, rfl, by omega, by omega, for_range (lo := 0) (n := n.toNat) (fun i σ H => ∃ F s', Same F1 F ∧ foldGo step s0 ((List.range n.toNat).take i) = .go s' ∧ REnv G F0 H0 F H σ (env s')) ⟨F1, s0, Same.refl _, rfl, R1.weak h0⟩ ?_ (fun σ H h => end_ok (by simp) K1 hd h)⟩
  rintro i σ' H' hi ⟨F', s', s, f, R'⟩
  have e0 : (0 : Int) + (i : Int) = (i : Int) := Int.zero_add _
  rw [e0]
  have hx : (List.range n.toNat)[i]? = some i := by simp [hi]
  exact turn_ok (enc := fun i : Nat => D.int i) (v := .int i) (tg := gName j) (σ := σ') (H := H') K1 hd f hx s (Same.refl _) (R'.setIm (.int _)) (hs i s' (by omega) f)
theorem ws_forR2 {ta : TA} {lo n : Int} (env : S → Rho) (step : S → Nat → Go S) (s0 : S) (hl : EvA G ta ρ [.int lo, .int n]) (hn : -100000 ≤ lo ∧ lo ≤ 100000 ∧ -100000 ≤ n ∧ n ≤ 100000) (h0 : Weak ρ (env s0))
    (hs : ∀ (i : Nat) (s : S), lo + (i : Int) < n → foldGo step s0 ((List.range (n - lo).toNat).take i) = .go s → WS G W tb (kTurn env (step s i)) ((env s).set j (.im (.int (lo + (i : Int)))))) (hd : endGo k env (foldGo step s0 (List.range (n - lo).toNat))) : WS G W (tFor (iRng2 ta) (gName j) tb) k ρ := fun F0 H0 F H σ Dn R K =>
  hl F0 H0 F H σ R _ fun vs F1 H1 g r => by
  obtain rfl : vs = [.int lo, .int n] := by
    cases r with
    | cons r1 r2 =>
      cases r2 with
      | cons r2 r3 =>
      cases r3
      rcases r1 with r1 | ⟨_, _, _, _, e, _⟩
      · rcases r2 with r2 | ⟨_, _, _, _, e, _⟩
        · cases r1
          cases r2
          rfl
        · cases e
      · cases e
  have R1 := R.grow g
  have K1 := K.later g.ef
  refine ⟨lo, n, rfl, ⟨by omega, by omega, by omega, by omega⟩, for_range (lo := lo) (n := (n - lo).toNat) (fun i σ H => ∃ F s', Same F1 F ∧ foldGo step s0 ((List.range (n - lo).toNat).take i) = .go s' ∧ REnv G F0 H0 F H σ (env s')) ⟨F1, s0, Same.refl _, rfl, R1.weak h0⟩ ?_ (fun σ H h => end_ok (by simp) K1 hd h)⟩
  rintro i σ' H' hi ⟨F', s', s, f, R'⟩
  have hx : (List.range (n - lo).toNat)[i]? = some i := by simp [hi]
  exact turn_ok (enc := fun i : Nat => D.int i) (v := .int i) (tg := gName j) (σ := σ') (H := H') K1 hd f hx s (Same.refl _) (R'.setIm (.int _)) (hs i s' (by omega) f)
end

/-! ### comprehensions -/
def wipeR (ρ : Rho) : List Nat → Rho
  | [] => ρ
  | v :: vs => (wipeR ρ vs).set v .no
theorem REnv.wipe {G : Cfg} {F0 H0 F H : Hp} {σ : L2.St} {ρ : Rho} (E : REnv G F0 H0 F H σ ρ) : ∀ vs : List Nat, REnv G F0 H0 F H (L2.wipe σ vs) (wipeR ρ vs)
  | [] => E
  | v :: vs => (REnv.wipe E vs).setNo
theorem wipe_get (σ : L2.St) (i : Nat) : ∀ vs : List Nat, (L2.wipe σ vs)[i]? = if i ∈ vs ∧ i < σ.length then some none else σ[i]?
  | [] => by simp [L2.wipe]
  | v :: vs => by
    unfold L2.wipe
    rw [get_set, wipe_get σ i vs, wipe_length]
    by_cases h : v = i
    · subst h
      by_cases h2 : v < σ.length
      · simp [h2]
      · simp [h2]
    · have : i ≠ v := fun e => h e.symm
      simp [h, this]
theorem wipe_set {σ : L2.St} {vs : List Nat} {j : Nat} {x : Option V} (hj : j ∈ vs) : L2.wipe ((L2.wipe σ vs).set j x) vs = L2.wipe σ vs := by
  apply List.ext_getElem?
  intro i
  rw [wipe_get, get_set, wipe_get, List.length_set, wipe_length]
  by_cases h : i ∈ vs ∧ i < σ.length
  · rw [if_pos h, if_pos h]
  · rw [if_neg h, if_neg h]
    by_cases h2 : j = i ∧ i < σ.length
    · exact absurd ⟨h2.1 ▸ hj, h2.2⟩ h
    · rw [if_neg h2]
section
variable {G : Cfg} {ρ : Rho} {tl te : TE} {tt : TT} {α : Type} {j : Nat} {vs : List Nat}
/-- what stands within a comprehension's turn -/
def Cmp (G : Cfg) (F0 H0 F1 H1 : Hp) (Dl : Addr) (σ : L2.St) (ρ : Rho) (out : List D) (H : Hp) : Prop :=
  ∃ F acc, Grow F1 H1 F H ∧ Same F0 H0 ∧ H1 Dl = none ∧ F Dl = none ∧ H Dl = some (.lst acc) ∧ Reps G F acc out
theorem filter_yes {α : Type} (xs : List α) : (xs.filter fun _ => true) = xs := List.filter_eq_self.mpr fun _ _ => rfl
theorem filt_take {α : Type} {xs : List α} {i : Nat} {x : α} {p : α → Bool} {g : α → D} (h : xs[i]? = some x) : ((xs.take (i + 1)).filter p).map g = ((xs.take i).filter p).map g ++ (if p x then [g x] else []) := by
  have e : xs.take (i + 1) = xs.take i ++ [x] := by
    rw [List.take_add_one, h]
    rfl
  rw [e, List.filter_append, List.map_append]
  by_cases hp : p x
  · simp [hp]
  · simp [hp]
theorem filt_len {α : Type} {xs : List α} {p : α → Bool} {g : α → D} (i : Nat) : (((xs.take i).filter p).map g).length ≤ xs.length := by
  rw [List.length_map]
  refine Nat.le_trans (List.length_filter_le _ _) ?_
  rw [List.length_take]
  exact Nat.min_le_right _ _
/-- one turn -/
theorem cmp_turn {F0 H0 F1 H1 : Hp} {Dl : Addr} {σ : L2.St} {xs : List α} {p : α → Bool} {g : α → D} {i : Nat} {x : α} {v : V} {d : D} {H : Hp} (R : REnv G F0 H0 F1 H1 σ ρ) (hz : xs.length ≤ 100000) (hx : xs[i]? = some x) (hj : j ∈ vs) (rv : Rep G F1 v d)
    (ht : EvT G tt ((wipeR ρ vs).set j (.im d)) (p x)) (he : p x = true → EvD G te ((wipeR ρ vs).set j (.im d)) (g x)) (c : Cmp G F0 H0 F1 H1 Dl σ ρ (((xs.take i).filter p).map g) H) :
    L2.wipe ((L2.wipe σ vs).set j (some v)) vs = L2.wipe σ vs ∧ tt ((L2.wipe σ vs).set j (some v)) H fun b H3 => if b = true then te ((L2.wipe σ vs).set j (some v)) H3 fun y H4 => ∃ acc, H4 Dl = some (.lst acc) ∧ acc.length < sizeLine ∧ Cmp G F0 H0 F1 H1 Dl σ ρ (((xs.take (i + 1)).filter p).map g) (upd H4 Dl (.lst (acc ++ [y]))) else Cmp G F0 H0 F1 H1 Dl σ ρ (((xs.take (i + 1)).filter p).map g) H3 := by
  obtain ⟨F, acc, gr, s0, n1, nf, hD, r⟩ := c
  refine ⟨wipe_set hj, ?_⟩
  have R' : REnv G F0 H0 F H ((L2.wipe σ vs).set j (some v)) ((wipeR ρ vs).set j (.im d)) := ((R.grow gr).wipe vs).setIm (rv.mono gr.ef)
  rw [filt_take hx]
  refine ht F0 H0 F H _ R' _ fun F3 H3 g3 => ?_
  have keepD : F3 Dl = none := g3.new _ nf (by rw [hD]; exact fun z => nomatch z)
  cases hp : p x with
  | false => exact ⟨F3, acc, gr.trans g3, s0, n1, keepD, g3.eh _ _ hD, by simpa using r.mono g3.ef⟩
  | true =>
    refine he hp F0 H0 F3 H3 _ (R'.grow g3) _ fun y F4 H4 g4 ry => ?_
    have hD4 : H4 Dl = some (.lst acc) := g4.eh _ _ (g3.eh _ _ hD)
    have keepD4 : F4 Dl = none := g4.new _ keepD (by rw [g3.eh _ _ hD]; exact fun z => nomatch z)
    have g14 := (gr.trans g3).trans g4
    refine ⟨acc, hD4, ?_, F4, acc ++ [y], ⟨g14.ef, fun a o q => ?_, fun a o q => ?_, g14.new⟩, s0, n1, keepD4, upd_same, ?_⟩
    · rw [r.length]
      exact Nat.lt_of_le_of_lt (Nat.le_trans (filt_len i) hz) (by decide)
    · rw [upd_ne (ne_of_none q n1)]
      exact g14.eh a o q
    · rw [upd_ne (ne_of_none q keepD4)]
      exact g14.sub a o q
    · simp only [if_true]
      exact ((r.mono (g3.trans g4).ef).append (.one ry))
theorem evn_lcL (xs : List α) (enc : α → D) (p : α → Bool) (g : α → D) (hl : EvS G tl ρ (xs.map enc)) (hz : xs.length ≤ 100000) (hj : j ∈ vs)
    (ht : ∀ x ∈ xs, EvT G tt ((wipeR ρ vs).set j (.im (enc x))) (p x)) (he : ∀ x ∈ xs, p x = true → EvD G te ((wipeR ρ vs).set j (.im (enc x))) (g x)) :
    EvN G (tLc (iList G.K tl) (gName j) tt te vs) ρ ((xs.filter p).map g) := fun F0 H0 F H σ E Q q => hl F0 H0 F H σ E _ fun a ws F1 H1 g1 h1 r => by
  refine ⟨a, rfl, ⟨ws, SqL.of h1⟩, fun Dl hD => ?_⟩
  have hn : xs.length = ws.length := by rw [r.length, List.length_map]
  refine lc_list (xs := ws) (fun i H => Cmp G F0 H0 F1 H1 Dl σ ρ (((xs.take i).filter p).map g) H) ⟨F1, [], (Grow.refl (E.grow g1).sub).fresh hD, E.s0, hD, (E.grow g1).sub.free hD, upd_same, .nil⟩ (fun i H _ ⟨F, acc, gr, _⟩ => SqL.of (gr.eh _ _ h1)) ?_ ?_
  · intro i v H' hv c
    obtain ⟨x, hx, rx⟩ := r.item hv
    have hm : x ∈ xs := List.mem_of_getElem? hx
    exact cmp_turn (E.grow g1) hz hx hj rx (ht x hm) (he x hm) c
  · rintro H' ⟨F', acc, gr, s0, n1, nf, hD', r'⟩
    rw [← hn, List.take_length] at r'
    exact q Dl acc F' H' (g1.trans gr) (g1.eh.free n1) nf hD' r'
theorem evn_lcT (xs : List α) (enc : α → D) (p : α → Bool) (g : α → D) (hl : EvD G tl ρ (.tup (xs.map enc))) (hz : xs.length ≤ 100000) (hj : j ∈ vs)
    (ht : ∀ x ∈ xs, EvT G tt ((wipeR ρ vs).set j (.im (enc x))) (p x)) (he : ∀ x ∈ xs, p x = true → EvD G te ((wipeR ρ vs).set j (.im (enc x))) (g x)) :
    EvN G (tLc (iTup G.K tl) (gName j) tt te vs) ρ ((xs.filter p).map g) := fun F0 H0 F H σ E Q q => hl F0 H0 F H σ E _ fun v0 F1 H1 g1 r0 => by
  cases r0 with
  | tup h1f r =>
  rename_i a ws
  have h1 : H1 a = some (.tup ws) := g1.sub _ _ h1f
  refine ⟨a, rfl, ⟨ws, SqT.of h1⟩, fun Dl hD => ?_⟩
  have hn : xs.length = ws.length := by rw [r.length, List.length_map]
  refine lc_tup (xs := ws) (fun i H => Cmp G F0 H0 F1 H1 Dl σ ρ (((xs.take i).filter p).map g) H) ⟨F1, [], (Grow.refl (E.grow g1).sub).fresh hD, E.s0, hD, (E.grow g1).sub.free hD, upd_same, .nil⟩ (fun i H _ ⟨F, acc, gr, _⟩ => SqT.of (gr.eh _ _ h1)) ?_ ?_
  · intro i v H' hv c
    obtain ⟨x, hx, rx⟩ := r.item hv
    have hm : x ∈ xs := List.mem_of_getElem? hx
    exact cmp_turn (E.grow g1) hz hx hj rx (ht x hm) (he x hm) c
  · rintro H' ⟨F', acc, gr, s0, n1, nf, hD', r'⟩
    rw [← hn, List.take_length] at r'
    exact q Dl acc F' H' (g1.trans gr) (g1.eh.free n1) nf hD' r'
theorem evn_lcR1 {ta : TA} {n : Int} (p : Nat → Bool) (g : Nat → D) (hl : EvA G ta ρ [.int n]) (hz : -100000 ≤ n ∧ n ≤ 100000) (hj : j ∈ vs)
    (ht : ∀ x : Nat, (x : Int) < n → EvT G tt ((wipeR ρ vs).set j (.im (.int x))) (p x)) (he : ∀ x : Nat, (x : Int) < n → p x = true → EvD G te ((wipeR ρ vs).set j (.im (.int x))) (g x)) :
    EvN G (tLc (iRng1 ta) (gName j) tt te vs) ρ (((List.range n.toNat).filter p).map g) := fun F0 H0 F H σ E Q q => hl F0 H0 F H σ E _ fun us F1 H1 g1 r => by
  obtain rfl : us = [.int n] := by
    cases r with
    | cons r1 r2 =>
      cases r2
      rcases r1 with r1 | ⟨_, _, _, _, e, _⟩
      · cases r1
        rfl
      · cases e
  refine ⟨n, rfl, by omega, by omega, fun Dl hD => ?_⟩
  refine lc_range (lo := 0) (n := n.toNat) (fun i H => Cmp G F0 H0 F1 H1 Dl σ ρ ((((List.range n.toNat).take i).filter p).map g) H) ⟨F1, [], (Grow.refl (E.grow g1).sub).fresh hD, E.s0, hD, (E.grow g1).sub.free hD, upd_same, .nil⟩ ?_ ?_
  · intro i H' hi c
    have e0 : (0 : Int) + (i : Int) = (i : Int) := Int.zero_add _
    rw [e0]
    have hx : (List.range n.toNat)[i]? = some i := by simp [hi]
    exact cmp_turn (E.grow g1) (by simp; omega) hx hj (.int _) (ht i (by omega)) (he i (by omega)) c
  · rintro H' ⟨F', acc, gr, s0, n1, nf, hD', r'⟩
    rw [show (List.range n.toNat).take n.toNat = List.range n.toNat from List.take_of_length_le (by simp)] at r'
    exact q Dl acc F' H' (g1.trans gr) (g1.eh.free n1) nf hD' r'
theorem evn_lcR2 {ta : TA} {lo n : Int} (p : Nat → Bool) (g : Nat → D) (hl : EvA G ta ρ [.int lo, .int n]) (hz : -50000 ≤ lo ∧ lo ≤ 50000 ∧ -50000 ≤ n ∧ n ≤ 50000) (hj : j ∈ vs)
    (ht : ∀ x : Nat, lo + (x : Int) < n → EvT G tt ((wipeR ρ vs).set j (.im (.int (lo + x)))) (p x)) (he : ∀ x : Nat, lo + (x : Int) < n → p x = true → EvD G te ((wipeR ρ vs).set j (.im (.int (lo + x)))) (g x)) :
    EvN G (tLc (iRng2 ta) (gName j) tt te vs) ρ (((List.range (n - lo).toNat).filter p).map g) := fun F0 H0 F H σ E Q q => hl F0 H0 F H σ E _ fun us F1 H1 g1 r => by
  obtain rfl : us = [.int lo, .int n] := by
    cases r with
    | cons r1 r2 =>
      cases r2 with
      | cons r2 r3 =>
      cases r3
      rcases r1 with r1 | ⟨_, _, _, _, e, _⟩
      · rcases r2 with r2 | ⟨_, _, _, _, e, _⟩
        · cases r1
          cases r2
          rfl
        · cases e
      · cases e
  refine ⟨lo, n, rfl, ⟨by omega, by omega, by omega, by omega⟩, fun Dl hD => ?_⟩
  refine lc_range (lo := lo) (n := (n - lo).toNat) (fun i H => Cmp G F0 H0 F1 H1 Dl σ ρ ((((List.range (n - lo).toNat).take i).filter p).map g) H) ⟨F1, [], (Grow.refl (E.grow g1).sub).fresh hD, E.s0, hD, (E.grow g1).sub.free hD, upd_same, .nil⟩ ?_ ?_
  · intro i H' hi c
    have hx : (List.range (n - lo).toNat)[i]? = some i := by simp [hi]
    exact cmp_turn (E.grow g1) (by simp; omega) hx hj (.int _) (ht i (by omega)) (he i (by omega)) c
  · rintro H' ⟨F', acc, gr, s0, n1, nf, hD', r'⟩
    rw [show (List.range (n - lo).toNat).take (n - lo).toNat = List.range (n - lo).toNat from List.take_of_length_le (by simp)] at r'
    exact q Dl acc F' H' (g1.trans gr) (g1.eh.free n1) nf hD' r'
end

/-! ### a def -/
def slot (d : D) : Sl := match d with
  | .lst ds => .ar ds
  | d => .im d
/-- the environment at the entry of a def with n names -/
def rho0 (n : Nat) (ds : List D) : Rho := ds.map slot ++ List.replicate (n - ds.length) .no
def kEnd (r : Res) : Ks where
  nx _ := r = .val .non
  rt r' := r' = r
  er e := r = .err e
theorem slot_ok {G : Cfg} {F H : Hp} {v : V} {d : D} (h : RepA G F H v d) (s : Same F H) : SlOk G H F H (slot d) (some (some v)) := by
  rcases h with h | ⟨a, vs, ds, rfl, rfl, h1, r⟩
  · cases h with
    | lst h1 r => exact ⟨_, _, rfl, s _ _ h1, r⟩
    | non => exact ⟨_, rfl, .non⟩
    | bl b => exact ⟨_, rfl, .bl b⟩
    | int b => exact ⟨_, rfl, .int b⟩
    | str b => exact ⟨_, rfl, .str b⟩
    | tup h1 r => exact ⟨_, rfl, .tup h1 r⟩
    | cou h1 h2 r => exact ⟨_, rfl, .cou h1 h2 r⟩
    | scr h => exact ⟨_, rfl, .scr h⟩
    | ptr a => exact ⟨_, rfl, .ptr a⟩
  · exact ⟨a, vs, rfl, h1, r⟩
theorem slot_own {d : D} {es : List D} : slot d ≠ .own es := by
  cases d <;> exact fun z => nomatch z
theorem slots_ok {G : Cfg} {F H : Hp} (s : Same F H) : ∀ {vs : List V} {ds : List D} {i : Nat} {t : Sl}, RepAs G F H vs ds → (ds.map slot)[i]? = some t → SlOk G H F H t ((vs.map some)[i]?)
  | _, _, _, _, .nil, h => by simp at h
  | _, _, 0, _, .cons r _, h => by
    simp at h
    subst h
    exact slot_ok r s
  | _, _, i + 1, _, .cons _ r, h => by
    have z := slots_ok s (i := i) r (by simpa using h)
    simpa using z
theorem renv_start {G : Cfg} {F H : Hp} {vs : List V} {ds : List D} {N : List Str} (s : Same F H) (r : RepAs G F H vs ds) (hl : ds.length ≤ N.length) : REnv G F H F H (L2.start N vs) (rho0 N.length ds) := by
  have len : vs.length = ds.length := Paired.length r
  refine ⟨s, .refl s, ?_, fun i t h => ?_, fun i j ds' es a h1 h2 h3 h4 => ?_⟩
  · unfold L2.start rho0
    simp [len]
  · unfold rho0 at h
    unfold L2.start
    rw [List.getElem?_append] at h ⊢
    by_cases c : i < (ds.map slot).length
    · rw [if_pos c] at h
      rw [if_pos (by rw [List.length_map, len]; rw [List.length_map] at c; exact c)]
      exact slots_ok s r h
    · rw [if_neg c] at h
      rw [List.getElem?_replicate] at h
      split at h
      · cases h
        trivial
      · cases h
  · unfold rho0 at h1
    rw [List.getElem?_append] at h1
    by_cases c : i < (ds.map slot).length
    · rw [if_pos c, List.getElem?_map] at h1
      cases q : ds[i]? with
      | none => rw [q] at h1; cases h1
      | some d =>
        rw [q] at h1
        exact absurd (Option.some.inj h1) slot_own
    · rw [if_neg c, List.getElem?_replicate] at h1
      split at h1 <;> cases h1
/-- a def's body, said over data -/
theorem body_ok {G : Cfg} {t : TS} {N : List Str} {ds : List D} {r : Res} {E : XK} {F H : Hp} {vs : List V} {Q : VK} (hw : WS G (wd E) t (kEnd r) (rho0 N.length ds)) (hl : ds.length ≤ N.length) (s : Same F H) (ra : RepAs G F H vs ds) (g : Goes G F H Q E r) :
    t { nx := fun _ H' => Q .non H', rt := Q } (L2.start N vs) H := by
  refine hw F H F H _ _ (renv_start s ra hl) ⟨?_, ?_, ?_, ?_, ?_⟩
  · rintro ρ e F' H' σ' _ R
    have e' : r = .val .non := e
    rw [e'] at g
    exact g .non F' H' R.g .non
  · exact fun _ z => z.elim
  · exact fun _ z => z.elim
  · intro r' e
    have e' : r' = r := e
    subst e'
    cases r' with
    | val d => exact g
    | new d => exact g
    | trip s W b => exact g
    | err e => exact fun _ _ _ => trivial
  · intro e z F' H' σ' _ g'
    have e' : r = .err e := z
    rw [e'] at g
    exact g F' H' g'
section
variable {P : Program} {w : World} {K : PySem.W.Frag} {mg : Str → Option Value} {base : Heap}
/-- THE RULE for a def that raises nothing -/
theorem okD {G : Cfg} {x qual : Str} {st : Stmt} {f : Addr} {fd : FuncData} {N ps : List Str} {k : Nat} {R : List D → Res → Prop} (F : Fun K x qual st f fd) (S : FnScope N ps (defScope st)) (hlen : ∀ ds r, R ds r → ds.length = ps.length) (hps : ps.length ≤ N.length)
    (hbody : ∀ (cdv : Value) (A : Around) (outer : List Env) (s : Shared) (H : Hp) (E : XK), Room k (A.deeper (envOfC qual (defScope st) s.heap.objs.size f cdv)) →
      ∃ t, PSs (cxOf CX0 P w K mg base N qual (defScope st) f cdv A outer s H E).nox (defBody st) t ∧ ∀ ds r, R ds r → WS G (wd E) t (kEnd r) (rho0 N.length ds)) : FnOk P w K mg base CX0 (k + 1) f fd ps (mkSp G R) := by
  refine F.ok S (fun vs H Q E h => ?_) (fun cdv A outer s H vs Q E hr h => ?_)
  · obtain ⟨F, ds, r, _, ra, hR, _⟩ := h
    rw [Paired.length ra]
    exact hlen ds r hR
  · obtain ⟨t, hp, hw⟩ := hbody cdv A outer s H E hr
    obtain ⟨F, ds, r, sf, ra, hR, g⟩ := h
    exact ⟨t, hp, body_ok (hw ds r hR) (by rw [hlen ds r hR]; exact hps) sf ra g⟩
/-- .. that may raise -/
theorem okX {G : Cfg} {x qual : Str} {st : Stmt} {f : Addr} {fd : FuncData} {N ps : List Str} {k : Nat} {R : List D → Res → Prop} (F : Fun K x qual st f fd) (S : FnScope N ps (defScope st)) (hlen : ∀ ds r, R ds r → ds.length = ps.length) (hps : ps.length ≤ N.length)
    (hbody : ∀ (cdv : Value) (A : Around) (outer : List Env) (s : Shared) (H : Hp) (E : XK), Room k (A.deeper (envOfC qual (defScope st) s.heap.objs.size f cdv)) →
      ∃ t, PSs (cxOf (L2.CX P w) P w K mg base N qual (defScope st) f cdv A outer s H E) (defBody st) t ∧ ∀ ds r, R ds r → WS G (wd E) t (kEnd r) (rho0 N.length ds)) : FnOk P w K mg base (L2.CX P w) (k + 1) f fd ps (mkSp G R) := by
  refine F.okX S (fun vs H Q E h => ?_) (fun cdv A outer s H vs Q E hr h => ?_)
  · obtain ⟨F, ds, r, _, ra, hR, _⟩ := h
    rw [Paired.length ra]
    exact hlen ds r hR
  · obtain ⟨t, hp, hw⟩ := hbody cdv A outer s H E hr
    obtain ⟨F, ds, r, sf, ra, hR, g⟩ := h
    exact ⟨t, hp, body_ok (hw ds r hR) (by rw [hlen ds r hR]; exact hps) sf ra g⟩
end
end Vw

namespace Vw
open PySem L2 PySem.Spec PyProof.Rows

/-! ### set(t), t a tuple of ints -/
def rSetT (w : World) (K : PySem.W.Frag) : List V → Hp → VK → Prop := fun vs H Q => ∃ (a : Addr) (ns : List Int), vs = [V.ref a] ∧ SqT K H a (ns.map V.int) ∧ ns.length ≤ 1000 ∧
  ∀ p c, H p = none → c ≤ ns.length → Q (.ref p) (upd H p (SetO w p (fun j => decide (j ∈ ns)) c))
theorem cr_setT {X : Cx} (hc : X.calm = true) : CallR X (.type "set") (rSetT X.w X.K) := by
  intro pins s σ H vs us Q I r h
  obtain ⟨a, ns, rfl, hq, hl, q⟩ := h
  rw [Vals.ref1 r]
  obtain ⟨its, rv, pt, hz⟩ := I.tuple hq
  have hi : IntsAre its.toArray.toList ns := ints_of_vals rv
  refine call_set_tupI ns (I.ok.hd hc) (show s.heap.IsTuple a its.toArray from pt) hi (by unfold scanBound; omega) fun h' tk c R1 hcn k => ?_
  have hn : H s.heap.objs.size = none := I.hok.fresh (Nat.le_refl _)
  exact ⟨.ref s.heap.objs.size, _, I.laid (t' := tk) k (Nat.le_refl _) (setO_new R1), rfl, q _ c hn hcn⟩

/-! ### rules of built-ins, over data -/
section
variable {G : Cfg} {te ta tb : TE} {ρ : Rho} {d x y z : D} {ds es : List D} {t u : TT} {b c : Bool}
theorem rcd_one {r : List V → Hp → VK → Prop} (h : ∀ F H v, Same F H → RepA G F H v x → ∀ Q : VK, (∀ u F' H', Grow F H F' H' → Rep G F' u z → Q u H') → r [v] H Q) : RcD G r [x] z := fun F H vs s ra Q q => by
  cases ra with
  | cons r1 r2 =>
    cases r2
    exact h F H _ s r1 Q q
theorem rcn_one {r : List V → Hp → VK → Prop} (h : ∀ F H v, Same F H → RepA G F H v x → ∀ Q : VK, (∀ a ws F' H', Grow F H F' H' → H a = none → F' a = none → H' a = some (.lst ws) → Reps G F' ws es → Q (.ref a) H') → r [v] H Q) : RcN G r [x] es := fun F H vs s ra Q q => by
  cases ra with
  | cons r1 r2 =>
    cases r2
    exact h F H _ s r1 Q q
theorem RepA.lst {F H : Hp} {v : V} (s : Same F H) (h : RepA G F H v (.lst ds)) : ∃ a vs, v = .ref a ∧ H a = some (.lst vs) ∧ Reps G F vs ds := by
  rcases h with h | ⟨a, vs, ds', rfl, e, h1, r⟩
  · cases h with
    | lst h1 r => exact ⟨_, _, rfl, s _ _ h1, r⟩
  · cases e
    exact ⟨a, vs, rfl, h1, r⟩
theorem RepA.flat {F H : Hp} {v : V} (h : RepA G F H v x) (hx : ∀ ds, x ≠ .lst ds) : Rep G F v x := by
  rcases h with h | ⟨a, vs, ds', rfl, e, h1, r⟩
  · exact h
  · exact absurd e (hx _)
theorem RepA.tup {F H : Hp} {v : V} (s : Same F H) (h : RepA G F H v (.tup ds)) : ∃ a vs, v = .ref a ∧ F a = some (.tup vs) ∧ H a = some (.tup vs) ∧ Reps G F vs ds := by
  cases h.flat (fun _ z => nomatch z) with
  | tup h1 r => exact ⟨_, _, rfl, h1, s _ _ h1, r⟩
/-- the arguments of a call with one argument -/
theorem ea1 (h : EvD G te ρ x) : EvA G (tCons te tNil) ρ [x] := eva_cons h eva_nil
theorem ea1L (h : EvS G te ρ ds) : EvA G (tCons te tNil) ρ [.lst ds] := eva_consL h eva_nil
theorem ea2 (h : EvD G ta ρ x) (h2 : EvD G tb ρ y) : EvA G (tCons ta (tCons tb tNil)) ρ [x, y] := eva_cons h (ea1 h2)
/-! #### len -/
theorem evd_lenL (h : EvS G te ρ ds) : EvD G (tCB (fun xs H Q => ∃ p ys, xs = [V.ref p] ∧ (SqL G.K H p ys ∨ SqT G.K H p ys) ∧ Q (.int ys.length) H) (tCons te tNil)) ρ (.int ds.length) :=
  evd_cb (ea1L h) (rcd_one fun F H v s r Q q => by
    obtain ⟨a, vs, rfl, h1, rr⟩ := r.lst s
    refine ⟨a, vs, rfl, .inl (SqL.of h1), q _ F H (.refl s) ?_⟩
    rw [rr.length]
    exact .int _)
theorem evd_lenT (h : EvD G te ρ (.tup ds)) : EvD G (tCB (fun xs H Q => ∃ p ys, xs = [V.ref p] ∧ (SqL G.K H p ys ∨ SqT G.K H p ys) ∧ Q (.int ys.length) H) (tCons te tNil)) ρ (.int ds.length) :=
  evd_cb (ea1 h) (rcd_one fun F H v s r Q q => by
    obtain ⟨a, vs, rfl, h1, h2, rr⟩ := r.tup s
    refine ⟨a, vs, rfl, .inr (SqT.of h2), q _ F H (.refl s) ?_⟩
    rw [rr.length]
    exact .int _)
theorem evd_lenScr {ns : List Int} (h : EvD G te ρ (.scr ns)) : EvD G (tCB (fun xs H Q => ∃ p ys, xs = [V.ref p] ∧ (SqL G.K H p ys ∨ SqT G.K H p ys) ∧ Q (.int ys.length) H) (tCons te tNil)) ρ (.int ns.length) :=
  evd_cb (ea1 h) (rcd_one fun F H v s r Q q => by
    cases r.flat (fun _ z => nomatch z) with
    | scr h1 =>
      refine ⟨_, _, rfl, .inl (sq_same s h1), q _ F H (.refl s) ?_⟩
      rw [List.length_map]
      exact .int _)
theorem evd_lenS {s : Str} (h : EvD G te ρ (.str s)) (hz : s.length ≤ 100000) : EvD G (tCB (fun xs H Q => ∃ z, xs = [V.str z] ∧ z.length ≤ sizeLine ∧ Q (.int z.length) H) (tCons te tNil)) ρ (.int s.length) :=
  evd_cb (ea1 h) (rcd_one fun F H v sm r Q q => by
    cases r.flat (fun _ z => nomatch z)
    exact ⟨s, rfl, Nat.le_trans hz (by decide), q _ F H (.refl sm) (.int _)⟩)
/-! #### subscripts -/
theorem evd_ixL {i : Int} {j : Nat} (ha : EvS G ta ρ ds) (hb : EvD G tb ρ (.int i)) (hi : i = j) (hj : ds[j]? = some d) : EvD G (tOp (rIxL G.K) ta tb) ρ d := evd_opF ha hb fun F H a vs w s h1 r rw_ Q q => by
  cases rw_
  subst hi
  obtain ⟨v, hv, rv⟩ := r.getD hj
  exact ⟨a, vs, _, v, rfl, rfl, SqL.of h1, atI_nat hv, q v F H (.refl s) rv⟩
theorem evd_ixT {i : Int} {j : Nat} (ha : EvD G ta ρ (.tup ds)) (hb : EvD G tb ρ (.int i)) (hi : i = j) (hj : ds[j]? = some d) : EvD G (tOp (rIxT G.K) ta tb) ρ d := evd_op ha hb fun F H v w s rv rw_ Q q => by
  cases rw_
  subst hi
  cases rv with
  | tup h1 r =>
    obtain ⟨v, hv, rv⟩ := r.getD hj
    exact ⟨_, _, _, v, rfl, rfl, SqT.of (s _ _ h1), atI_nat hv, q v F H (.refl s) rv⟩
/-- t[-1] -/
theorem evd_ixTlast (ha : EvD G ta ρ (.tup ds)) (hb : EvD G tb ρ (.int (-1))) (hj : ds[ds.length - 1]? = some d) : EvD G (tOp (rIxT G.K) ta tb) ρ d := evd_op ha hb fun F H v w s rv rw_ Q q => by
  cases rw_
  cases rv with
  | tup h1 r =>
    rename_i a vs
    obtain ⟨v, hv, rv⟩ := r.getD hj
    refine ⟨a, vs, -1, v, rfl, rfl, SqT.of (s _ _ h1), ?_, q v F H (.refl s) rv⟩
    have hl := r.length
    have hd : ds.length - 1 < ds.length := (List.getElem?_eq_some_iff.mp hj).1
    unfold atI ixN
    rw [if_neg (by decide), if_pos (by omega)]
    show vs[((-1 : Int) + (vs.length : Int)).toNat]? = some v
    have e : ((-1 : Int) + (vs.length : Int)).toNat = ds.length - 1 := by omega
    rw [e]
    exact hv
theorem evd_ixScr {ns : List Int} {i : Int} {j : Nat} {n : Int} (ha : EvD G ta ρ (.scr ns)) (hb : EvD G tb ρ (.int i)) (hi : i = j) (hj : ns[j]? = some n) : EvD G (tOp (rIxL G.K) ta tb) ρ (.int n) := evd_op ha hb fun F H v w s rv rw_ Q q => by
  cases rw_
  subst hi
  cases rv with
  | scr h1 =>
    refine ⟨_, _, _, .int n, rfl, rfl, sq_same s h1, atI_nat ?_, q _ F H (.refl s) (.int n)⟩
    rw [List.getElem?_map, hj]
    rfl
/-! #### in -/
theorem inV_ints (k : Int) : ∀ ns : List Int, inV (.int k) (ns.map V.int) = decide (k ∈ ns)
  | [] => by simp [inV]
  | n :: ns => by
    have ih := inV_ints k ns
    unfold inV at ih ⊢
    rw [List.map_cons, List.any_cons, ih]
    have e : eqV (V.int n) (V.int k) = decide (k = n) := by
      have h : eqV (V.int n) (V.int k) = (n == k) := rfl
      rw [h]
      by_cases q : n = k
      · subst q; simp
      · have : k ≠ n := fun e => q e.symm
        simp [q, this]
    rw [e]
    by_cases q : k = n
    · simp [q]
    · simp [q]
theorem flat_ints (ns : List Int) : (ns.map V.int).all flatV = true := by
  rw [List.all_eq_true]
  intro v hv
  obtain ⟨n, _, rfl⟩ := List.mem_map.mp hv
  rfl
theorem evd_inT {i : Int} {ns : List Int} (ha : EvD G ta ρ (.int i)) (hb : EvD G tb ρ (.tup (ns.map .int))) : EvD G (tOp (rIn G.K false) ta tb) ρ (.bl (decide (i ∈ ns))) := evd_op ha hb fun F H v w s rv rw_ Q q => by
  cases rv
  cases rw_ with
  | tup h1 r =>
    have e := r.ints
    subst e
    refine ⟨_, _, rfl, .inr (SqT.of (s _ _ h1)), rfl, flat_ints ns, q _ F H (.refl s) ?_⟩
    rw [inV_ints]
    exact .bl _
theorem evd_ninT {i : Int} {ns : List Int} (ha : EvD G ta ρ (.int i)) (hb : EvD G tb ρ (.tup (ns.map .int))) : EvD G (tOp (rIn G.K true) ta tb) ρ (.bl (!decide (i ∈ ns))) := evd_op ha hb fun F H v w s rv rw_ Q q => by
  cases rv
  cases rw_ with
  | tup h1 r =>
    have e := r.ints
    subst e
    refine ⟨_, _, rfl, .inr (SqT.of (s _ _ h1)), rfl, flat_ints ns, q _ F H (.refl s) ?_⟩
    rw [inV_ints]
    exact .bl _
/-! #### sum, min, max, int -/
theorem evd_sum {ns : List Int} (h : EvS G te ρ (ns.map .int)) : EvD G (tCB (rSum G.K) (tCons te tNil)) ρ (.int ns.sum) :=
  evd_cb (ea1L h) (rcd_one fun F H v s r Q q => by
    obtain ⟨a, vs, rfl, h1, rr⟩ := r.lst s
    have e := rr.ints
    subst e
    exact ⟨a, ns, rfl, SqL.of h1, q _ F H (.refl s) (.int _)⟩)
theorem evd_min {ns : List Int} {m : Int} (h : EvS G te ρ (ns.map .int)) (hm : m ∈ ns) (hle : ∀ y ∈ ns, m ≤ y) : EvD G (tCB (rMin G.K) (tCons te tNil)) ρ (.int m) :=
  evd_cb (ea1L h) (rcd_one fun F H v s r Q q => by
    obtain ⟨a, vs, rfl, h1, rr⟩ := r.lst s
    have e := rr.ints
    subst e
    refine ⟨a, ns, rfl, SqL.of h1, List.length_pos_of_mem hm, fun m' hm' hle' => ?_⟩
    have : m' = m := Int.le_antisymm (hle' m hm) (hle m' hm')
    subst this
    exact q _ F H (.refl s) (.int _))
theorem rcd_two {r : List V → Hp → VK → Prop} {i j : Int} {n : Int} (h : ∀ H (Q : VK), Q (.int n) H → r [.int i, .int j] H Q) : RcD G r [.int i, .int j] (.int n) := fun F H vs s ra Q q => by
  cases ra with
  | cons r1 r2 =>
    cases r2 with
    | cons r2 r3 =>
    cases r3
    cases r1.flat (fun _ z => nomatch z)
    cases r2.flat (fun _ z => nomatch z)
    exact h H Q (q _ F H (.refl s) (.int n))
theorem evd_max2 {i j : Int} (ha : EvD G ta ρ (.int i)) (hb : EvD G tb ρ (.int j)) : EvD G (tCB (fun xs H Q => ∃ i j, xs = [V.int i, V.int j] ∧ Q (.int (if j > i then j else i)) H) (tCons ta (tCons tb tNil))) ρ (.int (max i j)) :=
  evd_cb (ea2 ha hb) (rcd_two fun H Q q => ⟨i, j, rfl, by
    have e : (if j > i then j else i) = max i j := by split <;> omega
    rw [e]
    exact q⟩)
theorem evd_min2 {i j : Int} (ha : EvD G ta ρ (.int i)) (hb : EvD G tb ρ (.int j)) : EvD G (tCB (fun xs H Q => ∃ i j, xs = [V.int i, V.int j] ∧ Q (.int (if j < i then j else i)) H) (tCons ta (tCons tb tNil))) ρ (.int (min i j)) :=
  evd_cb (ea2 ha hb) (rcd_two fun H Q q => ⟨i, j, rfl, by
    have e : (if j < i then j else i) = min i j := by split <;> omega
    rw [e]
    exact q⟩)
theorem evd_intB (h : EvD G te ρ (.bl b)) : EvD G (tCB (fun xs H Q => (∃ i, xs = [V.int i] ∧ Q (.int i) H) ∨ ∃ k, xs = [V.bl k] ∧ Q (.int (if k then 1 else 0)) H) (tCons te tNil)) ρ (.int (if b then 1 else 0)) :=
  evd_cb (ea1 h) (rcd_one fun F H v s r Q q => by
    cases r.flat (fun _ z => nomatch z)
    exact .inr ⟨b, rfl, q _ F H (.refl s) (.int _)⟩)
theorem evd_strI {i : Int} (h : EvD G te ρ (.int i)) (hi : i.natAbs.log2 < 1920) : EvD G (tCB (fun xs H Q => ∃ i, xs = [V.int i] ∧ i.natAbs.log2 < 1920 ∧ Q (.str (toString i)) H) (tCons te tNil)) ρ (.str (toString i)) :=
  evd_cb (ea1 h) (rcd_one fun F H v s r Q q => by
    cases r.flat (fun _ z => nomatch z)
    exact ⟨i, rfl, hi, q _ F H (.refl s) (.str _)⟩)
/-! #### tuple(..), list(..), + -/
theorem evd_tupleL (h : EvS G te ρ ds) (hz : ds.length ≤ 100000) : EvD G (tCB (fun xs H Q => ∃ p ys, xs = [V.ref p] ∧ ((SqL G.K H p ys ∧ ∀ l, H l = none → Q (.ref l) (upd H l (.tup ys))) ∨ (SqT G.K H p ys ∧ Q (.ref p) H))) (tCons te tNil)) ρ (.tup ds) :=
  evd_cb (ea1L h) (rcd_one fun F H v s r Q q => by
    obtain ⟨a, vs, rfl, h1, rr⟩ := r.lst s
    exact ⟨a, vs, rfl, .inl ⟨SqL.of h1, fun l hl => q _ _ _ ((Grow.refl s).laid hl) (.tup upd_same (rr.mono (same_upd (s.free hl))))⟩⟩)
theorem evd_tupleT (h : EvD G te ρ (.tup ds)) : EvD G (tCB (fun xs H Q => ∃ p ys, xs = [V.ref p] ∧ ((SqL G.K H p ys ∧ ∀ l, H l = none → Q (.ref l) (upd H l (.tup ys))) ∨ (SqT G.K H p ys ∧ Q (.ref p) H))) (tCons te tNil)) ρ (.tup ds) :=
  evd_cb (ea1 h) (rcd_one fun F H v s r Q q => by
    obtain ⟨a, vs, rfl, h1, h2, rr⟩ := r.tup s
    exact ⟨a, vs, rfl, .inr ⟨SqT.of h2, q _ F H (.refl s) (.tup h1 rr)⟩⟩)
theorem evn_listL (h : EvS G te ρ ds) : EvN G (tCB (fun xs H Q => ∃ p ys, xs = [V.ref p] ∧ (SqL G.K H p ys ∨ SqT G.K H p ys) ∧ ∀ l, H l = none → Q (.ref l) (upd H l (.lst ys))) (tCons te tNil)) ρ ds :=
  evn_cb (ea1L h) (rcn_one fun F H v s r Q q => by
    obtain ⟨a, vs, rfl, h1, rr⟩ := r.lst s
    exact ⟨a, vs, rfl, .inl (SqL.of h1), fun l hl => q l vs _ _ ((Grow.refl s).fresh hl) hl (s.free hl) upd_same rr⟩)
theorem evn_listT (h : EvD G te ρ (.tup ds)) : EvN G (tCB (fun xs H Q => ∃ p ys, xs = [V.ref p] ∧ (SqL G.K H p ys ∨ SqT G.K H p ys) ∧ ∀ l, H l = none → Q (.ref l) (upd H l (.lst ys))) (tCons te tNil)) ρ ds :=
  evn_cb (ea1 h) (rcn_one fun F H v s r Q q => by
    obtain ⟨a, vs, rfl, h1, h2, rr⟩ := r.tup s
    exact ⟨a, vs, rfl, .inr (SqT.of h2), fun l hl => q l vs _ _ ((Grow.refl s).fresh hl) hl (s.free hl) upd_same rr⟩)
theorem evd_catT (ha : EvD G ta ρ (.tup ds)) (hb : EvD G tb ρ (.tup es)) (hz : ds.length + es.length ≤ 100000) : EvD G (tOp (rCatA G.K) ta tb) ρ (.tup (ds ++ es)) := evd_op ha hb fun F H v w s rv rw_ Q q => by
  cases rv with
  | tup h1 r1 =>
    cases rw_ with
    | tup h2 r2 =>
      refine ⟨_, _, _, _, rfl, rfl, SqT.of (s _ _ h1), SqT.of (s _ _ h2), ?_, fun e => ?_, fun _ e => ?_, fun _ _ p hp => ?_⟩
      · rw [r1.length, r2.length]
        exact Nat.le_trans hz (by decide)
      · subst e
        cases r1
        exact q _ F H (.refl s) (.tup h2 r2)
      · subst e
        cases r2
        exact q _ F H (.refl s) (by rw [List.append_nil]; exact .tup h1 r1)
      · exact q _ _ _ ((Grow.refl s).laid hp) (.tup upd_same ((r1.append r2).mono (same_upd (s.free hp))))
theorem evn_cat (ha : EvS G ta ρ ds) (hb : EvS G tb ρ es) (hz : ds.length + es.length ≤ 100000) : EvN G (tOp rCat ta tb) ρ (ds ++ es) := fun F0 H0 F H σ E Q q =>
  ha F0 H0 F H σ E _ fun a vs F1 H1 g1 h1 r1 => hb F0 H0 F1 H1 σ (E.grow g1) _ fun c ws F2 H2 g2 h2 r2 =>
    ⟨a, c, vs, ws, rfl, rfl, g2.eh _ _ h1, h2, by rw [r1.length, r2.length]; exact Nat.le_trans hz (by decide), fun p hp =>
      q p _ F2 _ ((g1.trans g2).fresh hp) ((g1.trans g2).eh.free hp) (g2.sub.free hp) upd_same ((r1.mono g2.ef).append r2)⟩
/-! #### sorted -/
theorem evn_sortedSet {w : World} {ns ms : List Int} (h : EvD G te ρ (.tup (ns.map .int))) (hl : ns.length ≤ 60) (hp : ms.Pairwise (· < ·)) (hm : ∀ k : Int, k ∈ ms ↔ k ∈ ns) :
    EvN G (tCB (rSortedSet w) (tCons (tCB (rSetT w G.K) (tCons te tNil)) tNil)) ρ (ms.map .int) := fun F0 H0 F H σ E Q q =>
  h F0 H0 F H σ E _ fun v F1 H1 g1 r1 => by
  cases r1 with
  | tup h1 r =>
    have e := r.ints
    subst e
    refine ⟨_, ns, rfl, SqT.of (g1.sub _ _ h1), Nat.le_trans hl (by decide), fun p c hp' hc => ?_⟩
    refine ⟨p, _, c, rfl, upd_same, by omega, fun ks l hk hk2 hlen hl' => ?_⟩
    have ek : ks = ms := by
      have : ∀ k, k ∈ ks ↔ k ∈ ms := fun k => by rw [hk2 k, hm k, decide_eq_true_eq]
      have p1 : ks.Perm ms := (List.perm_ext_iff_of_nodup (hk.imp fun {a b} h => Int.ne_of_lt h) (hp.imp fun {a b} h => Int.ne_of_lt h)).mpr this
      exact p1.eq_of_pairwise (fun a b _ _ h1 h2 => by omega) hk hp
    subst ek
    have g2 : Grow F H F1 (upd H1 p (SetO w p (fun j => decide (j ∈ ns)) c)) := g1.fresh hp'
    have l1 : H1 l = none := by
      rw [← hl']
      exact (upd_ne (fun e => by rw [e, upd_same] at hl'; cases hl')).symm
    exact q l _ F1 _ (g2.fresh hl') (g2.eh.free hl') (g2.sub.free hl') upd_same (.ofInts ks)
theorem evn_sortedI {ns ms : List Int} (h : EvS G te ρ (ns.map .int)) (hp : ms.Pairwise (· ≤ ·)) (hm : ms.Perm ns) : EvN G (tCB (rSortedI G.K) (tCons te tNil)) ρ (ms.map .int) :=
  evn_cb (ea1L h) (rcn_one fun F H v s r Q q => by
    obtain ⟨a, vs, rfl, h1, rr⟩ := r.lst s
    have e := rr.ints
    subst e
    refine ⟨a, ns, rfl, SqL.of h1, fun ks p hk hk2 hp' => ?_⟩
    have ek : ks = ms := (hk.trans hm.symm).eq_of_pairwise (fun a b _ _ h1 h2 => by omega) hk2 hp
    subst ek
    exact q p _ F _ ((Grow.refl s).fresh hp') hp' (s.free hp') upd_same (.ofInts ks))
/-! #### slices -/
def cut {α : Type} (xs : List α) (lo hi : Option Int) : List α := (xs.drop (HT.sIx xs.length 0 lo)).take (HT.sIx xs.length xs.length hi - HT.sIx xs.length 0 lo)
theorem Reps.cut {F : Hp} {vs : List V} (r : Reps G F vs ds) (lo hi : Option Int) : Reps G F (cutV vs lo hi) (cut ds lo hi) := by
  unfold cutV Vw.cut
  rw [r.length]
  exact (r.drop _).take _
theorem evn_slL {tl th : TO} {lo hi : Option Int} (h : EvS G te ρ ds) (h1 : EvO G tl ρ lo) (h2 : EvO G th ρ hi) : EvN G (tSl (rSlL G.K) te tl th) ρ (cut ds lo hi) := fun F0 H0 F H σ E Q q =>
  h F0 H0 F H σ E _ fun a vs F1 H1 g1 a1 r1 => h1 F0 H0 F1 H1 σ (E.grow g1) _ fun F2 H2 g2 => h2 F0 H0 F2 H2 σ (E.grow (g1.trans g2)) _ fun F3 H3 g3 =>
    ⟨a, vs, rfl, SqL.of (g3.eh _ _ (g2.eh _ _ a1)), fun p hp => q p _ F3 _ (((g1.trans g2).trans g3).fresh hp) (((g1.trans g2).trans g3).eh.free hp) (g3.sub.free hp) upd_same ((r1.mono (g2.trans g3).ef).cut lo hi)⟩
theorem cut_whole {α : Type} {xs : List α} {lo hi : Option Int} (h : HT.sIx xs.length 0 lo = 0 ∧ HT.sIx xs.length xs.length hi = xs.length) : cut xs lo hi = xs := by
  unfold cut
  rw [h.1, h.2]
  simp
theorem evd_slT {tl th : TO} {lo hi : Option Int} (h : EvD G te ρ (.tup ds)) (h1 : EvO G tl ρ lo) (h2 : EvO G th ρ hi) : EvD G (tSl (rSlA G.K) te tl th) ρ (.tup (cut ds lo hi)) := fun F0 H0 F H σ E Q q =>
  h F0 H0 F H σ E _ fun v F1 H1 g1 r1 => h1 F0 H0 F1 H1 σ (E.grow g1) _ fun F2 H2 g2 => h2 F0 H0 F2 H2 σ (E.grow (g1.trans g2)) _ fun F3 H3 g3 => by
  have g := (g1.trans g2).trans g3
  have rr := r1.mono (g2.trans g3).ef
  cases rr with
  | tup a1 r =>
    rename_i a vs
    refine ⟨a, vs, rfl, SqT.of (g3.sub _ _ a1), fun e => ?_, fun _ p hp => ?_⟩
    · exact q _ F3 H3 g (by rw [cut_whole (by rw [← r.length]; exact e)]; exact .tup a1 r)
    · exact q _ _ _ (g.laid hp) (.tup upd_same ((r.cut lo hi).mono (same_upd (g3.sub.free hp))))
theorem evd_slS {tl th : TO} {lo hi : Option Int} {s : Str} (h : EvD G te ρ (.str s)) (hz : s.length ≤ 100000) (h1 : EvO G tl ρ lo) (h2 : EvO G th ρ hi) : EvD G (tSl rSlS te tl th) ρ (.str (cutS s lo hi)) := fun F0 H0 F H σ E Q q =>
  h F0 H0 F H σ E _ fun v F1 H1 g1 r1 => h1 F0 H0 F1 H1 σ (E.grow g1) _ fun F2 H2 g2 => h2 F0 H0 F2 H2 σ (E.grow (g1.trans g2)) _ fun F3 H3 g3 => by
  cases r1
  exact ⟨s, rfl, Nat.le_trans hz (by decide), q _ F3 H3 ((g1.trans g2).trans g3) (.str _)⟩
theorem evn_rep {n : Int} (ha : EvS G ta ρ ds) (hb : EvD G tb ρ (.int n)) (hn : 0 ≤ n ∧ n ≤ 1000) (hz : ds.length ≤ 100) : EvN G (tOp rRep ta tb) ρ (List.replicate n.toNat ds).flatten := fun F0 H0 F H σ E Q q =>
  ha F0 H0 F H σ E _ fun a vs F1 H1 g1 h1 r1 => hb F0 H0 F1 H1 σ (E.grow g1) _ fun v F2 H2 g2 r2 => by
  cases r2
  refine ⟨a, n, vs, rfl, rfl, g2.eh _ _ h1, by omega, by omega, ?_, ?_⟩
  · rw [r1.length]
    have : ds.length * n.toNat ≤ 100 * 1000 := Nat.mul_le_mul hz (by omega)
    exact Nat.le_trans this (by decide)
  · intro p hp
    refine q p _ F2 _ ((g1.trans g2).fresh hp) ((g1.trans g2).eh.free hp) (g2.sub.free hp) upd_same ?_
    have go : ∀ k : Nat, Reps G F2 (List.replicate k vs).flatten (List.replicate k ds).flatten := fun k => by
      induction k with
      | zero => exact .nil
      | succ k ih =>
        rw [List.replicate_succ, List.replicate_succ, List.flatten_cons, List.flatten_cons]
        exact (r1.mono g2.ef).append ih
    exact go _
end
/-! #### == of data -/
mutual
def py : D → PyData
  | .non => .none
  | .bl b => .bool b
  | .int i => .int i
  | .str x => .str x
  | .lst ds => .list (pys ds)
  | .tup ds => .tuple (pys ds)
  | .cou _ _ => .none
  | .scr _ => .none
  | .ptr _ => .none
def pys : List D → List PyData
  | [] => []
  | d :: ds => py d :: pys ds
end
mutual
def pl : D → Bool
  | .lst ds => pls ds
  | .tup ds => pls ds
  | .cou _ _ => false
  | .scr _ => false
  | .ptr _ => false
  | .non => true
  | .bl _ => true
  | .int _ => true
  | .str _ => true
def pls : List D → Bool
  | [] => true
  | d :: ds => pl d && pls ds
end
mutual
theorem Rep.dp {G : Cfg} {F H : Hp} (s : Same F H) : ∀ {v : V} {d : D}, Rep G F v d → pl d = true → Dp G.K H v (py d)
  | _, _, .non, _ => .non
  | _, _, .bl b, _ => .bl b
  | _, _, .int i, _ => .int i
  | _, _, .str x, _ => .str x
  | _, _, .lst h r, p => .lst (SqL.of (s _ _ h)) (Reps.dp s r (by unfold pl at p; exact p))
  | _, _, .tup h r, p => .tup (SqT.of (s _ _ h)) (Reps.dp s r (by unfold pl at p; exact p))
  | _, _, .cou h1 h2 r, p => by unfold pl at p; cases p
  | _, _, .scr h, p => by unfold pl at p; cases p
  | _, _, .ptr a, p => by unfold pl at p; cases p
theorem Reps.dp {G : Cfg} {F H : Hp} (s : Same F H) : ∀ {vs : List V} {ds : List D}, Reps G F vs ds → pls ds = true → DpAll G.K H vs (pys ds)
  | _, _, .nil, _ => .nil
  | _, _, .cons h r, p => by
    unfold pls at p
    have p' := Bool.and_eq_true_iff.mp p
    exact .cons (Rep.dp s h p'.1) (Reps.dp s r p'.2)
end
structure Enc {α : Type} [DecidableEq α] (e : α → D) (n : Nat) : Prop where
  pl : ∀ a, pl (e a) = true
  lay : ∀ a, PyData.canLay0 (py (e a)) = true
  dep : ∀ a, (py (e a)).depth ≤ n
  eqv : ∀ a b, PyData.eqv (py (e a)) (py (e b)) = decide (a = b)
theorem encI : Enc D.int 0 := ⟨fun _ => rfl, fun _ => rfl, fun _ => by simp [py, PyData.depth], fun a b => by simp only [py, PyData.eqv]; by_cases h : a = b <;> simp [h]⟩
theorem encB : Enc D.bl 0 := ⟨fun _ => rfl, fun _ => rfl, fun _ => by simp [py, PyData.depth], fun a b => by cases a <;> cases b <;> simp [py, PyData.eqv]⟩
theorem Enc.pls {α : Type} [DecidableEq α] {e : α → D} {n : Nat} (h : Enc e n) : ∀ xs : List α, pls (xs.map e) = true
  | [] => rfl
  | x :: xs => by
    rw [List.map_cons]
    unfold Vw.pls
    rw [h.pl x, Enc.pls h xs]
    rfl
theorem Enc.lays {α : Type} [DecidableEq α] {e : α → D} {n : Nat} (h : Enc e n) : ∀ xs : List α, PyData.canLayAll0 (pys (xs.map e)) = true
  | [] => rfl
  | x :: xs => by
    rw [List.map_cons]
    unfold pys PyData.canLayAll0
    rw [h.lay x, Enc.lays h xs]
    rfl
theorem Enc.deps {α : Type} [DecidableEq α] {e : α → D} {n : Nat} (h : Enc e n) : ∀ xs : List α, PyData.depthAll (pys (xs.map e)) ≤ n
  | [] => by simp [pys, PyData.depthAll]
  | x :: xs => by
    rw [List.map_cons]
    unfold pys PyData.depthAll
    exact Nat.max_le.mpr ⟨h.dep x, Enc.deps h xs⟩
theorem Enc.eqvs {α : Type} [DecidableEq α] {e : α → D} {n : Nat} (h : Enc e n) : ∀ xs ys : List α, PyData.eqvAll (pys (xs.map e)) (pys (ys.map e)) = decide (xs = ys)
  | [], [] => by simp [pys, PyData.eqvAll]
  | [], y :: ys => by simp [pys, PyData.eqvAll]
  | x :: xs, [] => by simp [pys, PyData.eqvAll]
  | x :: xs, y :: ys => by
    rw [List.map_cons, List.map_cons]
    unfold pys PyData.eqvAll
    rw [h.eqv x y, Enc.eqvs h xs ys]
    by_cases h1 : x = y
    · by_cases h2 : xs = ys
      · simp [h1, h2]
      · simp [h1, h2]
    · simp [h1]
theorem Enc.tup {α : Type} [DecidableEq α] {e : α → D} {n : Nat} (h : Enc e n) : Enc (fun xs : List α => D.tup (xs.map e)) (n + 1) :=
  ⟨fun a => by unfold Vw.pl; exact h.pls a, fun a => by unfold py PyData.canLay0; exact h.lays a, fun a => by unfold py PyData.depth; exact Nat.succ_le_succ (h.deps a), fun a b => by unfold py PyData.eqv; exact h.eqvs a b⟩
theorem Enc.lst {α : Type} [DecidableEq α] {e : α → D} {n : Nat} (h : Enc e n) : Enc (fun xs : List α => D.lst (xs.map e)) (n + 1) :=
  ⟨fun a => by unfold Vw.pl; exact h.pls a, fun a => by unfold py PyData.canLay0; exact h.lays a, fun a => by unfold py PyData.depth; exact Nat.succ_le_succ (h.deps a), fun a b => by unfold py PyData.eqv; exact h.eqvs a b⟩
theorem Enc.pair {α β : Type} [DecidableEq α] [DecidableEq β] {e : α → D} {f : β → D} {n : Nat} (h : Enc e n) (h2 : Enc f n) : Enc (fun p : α × β => D.tup [e p.1, f p.2]) (n + 1) :=
  ⟨fun a => by simp [Vw.pl, Vw.pls, h.pl, h2.pl], fun a => by simp [py, pys, PyData.canLay0, PyData.canLayAll0, h.lay, h2.lay], fun a => by
    simp only [py, pys, PyData.depth, PyData.depthAll]
    have := h.dep a.1
    have := h2.dep a.2
    omega, fun a b => by
    obtain ⟨a1, a2⟩ := a
    obtain ⟨b1, b2⟩ := b
    simp only [py, pys, PyData.eqv, PyData.eqvAll, h.eqv, h2.eqv, Bool.and_true]
    by_cases h1 : a1 = b1
    · by_cases h2 : a2 = b2
      · simp [h1, h2]
      · simp [h1, h2]
    · simp [h1]⟩
theorem encC : Enc (fun xs : List Int => D.tup (xs.map D.int)) 1 := encI.tup
theorem enc_eC : Enc eC 1 := encC
theorem Enc.shaped {α : Type} [DecidableEq α] {e : α → D} {n : Nat} (h : Enc e n) (hn : n ≤ 60) (a : α) : SeqAt.shaped (py (e a)) = true := by
  unfold SeqAt.shaped
  rw [h.lay a]
  exact decide_eq_true (Nat.le_trans (h.dep a) (by omega))
theorem Enc.shapedL {α : Type} [DecidableEq α] {e : α → D} {n : Nat} (h : Enc e n) (hn : n ≤ 59) (xs : List α) : SeqAt.shaped (.list (pys (xs.map e))) = true := by
  have z := h.lst.shaped (Nat.succ_le_succ hn) xs
  unfold py at z
  exact z
section
variable {G : Cfg} {te ta tb : TE} {ρ : Rho} {α : Type} [DecidableEq α] {e : α → D} {n : Nat}
theorem evd_eqE {a b : α} (h : Enc e n) (ha : EvD G ta ρ (e a)) (hb : EvD G tb ρ (e b)) (hn : n ≤ 60 := by decide) : EvD G (tOp (rEqD G.K) ta tb) ρ (.bl (decide (a = b))) := evd_op ha hb fun F H v w s rv rw_ Q q =>
  ⟨_, _, rv.dp s (h.pl a), rw_.dp s (h.pl b), h.shaped hn a, h.shaped hn b, q _ F H (.refl s) (by rw [h.eqv]; exact .bl _)⟩
theorem evd_neE {a b : α} (h : Enc e n) (ha : EvD G ta ρ (e a)) (hb : EvD G tb ρ (e b)) (hn : n ≤ 60 := by decide) : EvD G (tOp (rNeD G.K) ta tb) ρ (.bl (!decide (a = b))) := evd_op ha hb fun F H v w s rv rw_ Q q =>
  ⟨_, _, rv.dp s (h.pl a), rw_.dp s (h.pl b), h.shaped hn a, h.shaped hn b, q _ F H (.refl s) (by rw [h.eqv]; exact .bl _)⟩
theorem evd_eqL {a b : List α} (h : Enc e n) (ha : EvS G ta ρ (a.map e)) (hb : EvS G tb ρ (b.map e)) (hn : n ≤ 59 := by decide) : EvD G (tOp (rEqD G.K) ta tb) ρ (.bl (decide (a = b))) := evd_opLL ha hb fun F H x vs y ws s h1 r1 h2 r2 Q q =>
  ⟨_, _, .lst (SqL.of h1) (r1.dp s (h.pls a)), .lst (SqL.of h2) (r2.dp s (h.pls b)), h.shapedL hn a, h.shapedL hn b, q _ F H (.refl s) (by unfold PyData.eqv; rw [h.eqvs]; exact .bl _)⟩
theorem evd_neL {a b : List α} (h : Enc e n) (ha : EvS G ta ρ (a.map e)) (hb : EvS G tb ρ (b.map e)) (hn : n ≤ 59 := by decide) : EvD G (tOp (rNeD G.K) ta tb) ρ (.bl (!decide (a = b))) := evd_opLL ha hb fun F H x vs y ws s h1 r1 h2 r2 Q q =>
  ⟨_, _, .lst (SqL.of h1) (r1.dp s (h.pls a)), .lst (SqL.of h2) (r2.dp s (h.pls b)), h.shapedL hn a, h.shapedL hn b, q _ F H (.refl s) (by unfold PyData.eqv; rw [h.eqvs]; exact .bl _)⟩
/-- crowds -/
theorem evd_eqC {a b : List Int} (ha : EvD G ta ρ (.tup (a.map .int))) (hb : EvD G tb ρ (.tup (b.map .int))) : EvD G (tOp (rEqD G.K) ta tb) ρ (.bl (decide (a = b))) := evd_eqE (e := fun xs : List Int => D.tup (xs.map D.int)) encC ha hb
theorem evd_neC {a b : List Int} (ha : EvD G ta ρ (.tup (a.map .int))) (hb : EvD G tb ρ (.tup (b.map .int))) : EvD G (tOp (rNeD G.K) ta tb) ρ (.bl (!decide (a = b))) := evd_neE (e := fun xs : List Int => D.tup (xs.map D.int)) encC ha hb
end
end Vw

namespace Vw
open PySem L2 PySem.Spec PyProof.Rows

/-! ### sorted of rows (n, (k1, k2, ..)) -/
theorem lexLt_irr : ∀ xs : List Int, HT.lexLt xs xs = false
  | [] => rfl
  | x :: xs => by rw [HT.lexLt_cons, if_pos rfl]; exact lexLt_irr xs
theorem lexLt_asym : ∀ xs ys : List Int, HT.lexLt xs ys = true → HT.lexLt ys xs = false
  | [], [], h => by cases h
  | [], _ :: _, _ => rfl
  | _ :: _, [], h => by cases h
  | x :: xs, y :: ys, h => by
    rw [HT.lexLt_cons] at h ⊢
    by_cases e : x = y
    · subst e
      rw [if_pos rfl] at h ⊢
      exact lexLt_asym xs ys h
    · rw [if_neg e] at h
      rw [if_neg (fun q => e q.symm)]
      have := of_decide_eq_true h
      exact decide_eq_false (by omega)
theorem lexLt_tr : ∀ xs ys zs : List Int, HT.lexLt ys xs = false → HT.lexLt zs ys = false → HT.lexLt zs xs = false
  | [], [], zs, _, h => h
  | [], _ :: _, [], _, h => by cases h
  | [], _ :: _, _ :: _, _, _ => rfl
  | _ :: _, [], _, h, _ => by cases h
  | _ :: _, _ :: _, [], _, h => by cases h
  | x :: xs, y :: ys, z :: zs, h1, h2 => by
    rw [HT.lexLt_cons] at h1 h2 ⊢
    by_cases e1 : y = x
    · subst e1
      rw [if_pos rfl] at h1
      by_cases e2 : z = y
      · subst e2
        rw [if_pos rfl] at h2 ⊢
        exact lexLt_tr xs ys zs h1 h2
      · rw [if_neg e2] at h2 ⊢
        exact h2
    · rw [if_neg e1] at h1
      have a1 := of_decide_eq_false h1
      by_cases e2 : z = y
      · subst e2
        rw [if_neg e1]
        exact decide_eq_false a1
      · rw [if_neg e2] at h2
        have a2 := of_decide_eq_false h2
        have e3 : z ≠ x := fun q => by omega
        rw [if_neg e3]
        exact decide_eq_false (by omega)
theorem lexLt_tot : ∀ xs ys : List Int, HT.lexLt xs ys = false → HT.lexLt ys xs = false → xs = ys
  | [], [], _, _ => rfl
  | [], _ :: _, h, _ => by cases h
  | _ :: _, [], _, h => by cases h
  | x :: xs, y :: ys, h1, h2 => by
    rw [HT.lexLt_cons] at h1 h2
    by_cases e : x = y
    · subst e
      rw [if_pos rfl] at h1 h2
      rw [lexLt_tot xs ys h1 h2]
    · rw [if_neg e] at h1
      rw [if_neg (fun q => e q.symm)] at h2
      have a1 := of_decide_eq_false h1
      have a2 := of_decide_eq_false h2
      omega
def lexR (p q : Int × List Int) : Bool := if p.1 = q.1 then HT.lexLt p.2 q.2 else decide (p.1 < q.1)
theorem lexR_asym (p q : Int × List Int) (h : lexR p q = true) : lexR q p = false := by
  unfold lexR at h ⊢
  by_cases e : p.1 = q.1
  · rw [if_pos e] at h
    rw [if_pos e.symm]
    exact lexLt_asym _ _ h
  · rw [if_neg e] at h
    rw [if_neg (fun z => e z.symm)]
    have := of_decide_eq_true h
    exact decide_eq_false (by omega)
theorem lexR_tr (x y z : Int × List Int) (h1 : lexR y x = false) (h2 : lexR z y = false) : lexR z x = false := by
  unfold lexR at h1 h2 ⊢
  by_cases e1 : y.1 = x.1
  · rw [if_pos e1] at h1
    by_cases e2 : z.1 = y.1
    · rw [if_pos e2] at h2
      rw [if_pos (e2.trans e1)]
      exact lexLt_tr _ _ _ h1 h2
    · rw [if_neg e2] at h2
      rw [if_neg (fun q => e2 (q.trans e1.symm))]
      have := of_decide_eq_false h2
      exact decide_eq_false (by omega)
  · rw [if_neg e1] at h1
    have a1 := of_decide_eq_false h1
    by_cases e2 : z.1 = y.1
    · rw [if_neg (fun q => e1 (e2.symm.trans q))]
      exact decide_eq_false (by omega)
    · rw [if_neg e2] at h2
      have a2 := of_decide_eq_false h2
      rw [if_neg (fun q => by omega)]
      exact decide_eq_false (by omega)
theorem lexR_tot (p q : Int × List Int) (h1 : lexR p q = false) (h2 : lexR q p = false) : p = q := by
  unfold lexR at h1 h2
  by_cases e : p.1 = q.1
  · rw [if_pos e] at h1
    rw [if_pos e.symm] at h2
    exact Prod.ext e (lexLt_tot _ _ h1 h2)
  · rw [if_neg e] at h1
    rw [if_neg (fun z => e z.symm)] at h2
    have a1 := of_decide_eq_false h1
    have a2 := of_decide_eq_false h2
    omega
theorem swo_R {α : Type} (k : α → Int × List Int) : SrtO.Swo fun v u => lexR (k v) (k u) := ⟨fun x y h => lexR_asym _ _ h, fun x y z h1 h2 => lexR_tr _ _ _ h1 h2⟩

def IsRow (h : Heap) (v : Value) (x : Int) (ns : List Int) : Prop := ∃ a o t b its n, v = .ref a ∧ h.get? a = some o ∧ o.cls = .type "tuple" ∧ o.data = .seq #[.int x t, .ref b] n ∧ IsTup h b its ∧ IntsAre its.toList ns
theorem IsRow.keeps {h h' : Heap} {v : Value} {x : Int} {ns : List Int} (p : IsRow h v x ns) (k : ∀ b o, h.get? b = some o → o.cls = .type "tuple" → h'.get? b = some o) : IsRow h' v x ns := by
  obtain ⟨a, o, t, b, its, n, e, ho, hc, hd, ⟨o2, ho2, hc2, hd2⟩, hi⟩ := p
  exact ⟨a, o, t, b, its, n, e, k _ _ ho hc, hc, hd, ⟨o2, k _ _ ho2 hc2, hc2, hd2⟩, hi⟩
theorem rowsfirsts {h : Heap} : ∀ {vs : List Value}, (∀ v ∈ vs, ∃ x y, IsRow h v x y) → ∃ fs : List Value, PySem.W.KatTups h vs fs ∧ fs.length = vs.length ∧ ∀ f ∈ fs, ∃ x t, f = Value.int x t
  | [], _ => ⟨[], PySem.W.KatTups.nil, rfl, fun _ hm => by simp at hm⟩
  | v :: vs, hp => by
    obtain ⟨fs, h1, h2, h3⟩ := rowsfirsts (vs := vs) fun v' hm => hp v' (List.mem_cons_of_mem _ hm)
    obtain ⟨x, y, a, o, t, b, its, n, e, ho, hc, hd, _⟩ := hp v (List.mem_cons_self ..)
    subst e
    refine ⟨.int x t :: fs, PySem.W.KatTups.cons ho hc hd rfl h1, by rw [List.length_cons, List.length_cons, h2], fun f hm => ?_⟩
    rcases List.mem_cons.mp hm with rfl | hm
    · exact ⟨x, t, rfl⟩
    · exact h3 f hm
theorem readsInts {h : Heap} : ∀ {us : List Value} {ns : List Int}, IntsAre us ns → ∃ as, ReadsAll h us (pys (ns.map D.int)) as
  | _, _, .nil => ⟨_, .nil⟩
  | _, _, .cons n t r => by
    obtain ⟨as, z⟩ := readsInts (h := h) r
    exact ⟨_, .cons (.int n t) z⟩
section
variable {prog : Program} {w : World} {A : Around} {E : Value → Shared → Prop} {s : Shared}
theorem eqAt_rows {a b : Addr} {xs ys : Array Value} {ns ms : List Int} (hx : IsTup s.heap a xs) (hy : IsTup s.heap b ys) (ix : IntsAre xs.toList ns) (iy : IntsAre ys.toList ms) (hu : A.units + 64 < cLine) : SeqAt.EqAt A s (.ref a) (.ref b) (decide (ns = ms)) := by
  obtain ⟨o1, h1, c1, n1, d1⟩ := hx
  obtain ⟨o2, h2, c2, n2, d2⟩ := hy
  obtain ⟨as, r1⟩ := readsInts (h := s.heap) ix
  obtain ⟨bs, r2⟩ := readsInts (h := s.heap) iy
  have R1' := Reads.tuple h1 c1 d1 r1
  have R2' := Reads.tuple h2 c2 d2 r2
  have p1 : py (.tup (ns.map D.int)) = .tuple (pys (ns.map D.int)) := by unfold py; rfl
  have p2 : py (.tup (ms.map D.int)) = .tuple (pys (ms.map D.int)) := by unfold py; rfl
  rw [← p1] at R1'
  rw [← p2] at R2'
  have R1 := R1'
  have R2 := R2'
  have z := SeqAt.eqAt_reads _ _ A s _ _ _ _ R1 R2 (encC.lay ns) (encC.lay ms) (by have := encC.dep ns; omega)
  rw [encC.eqv] at z
  exact z
theorem row_cmp {vs : List Value} {k : Value → Int × List Int} (hu : A.units + 64 < cLine) (hp : ∀ v ∈ vs, IsRow s.heap v (k v).1 (k v).2) : SrtO.Cmp prog w A s (tuples' true) (fun p => p.1 ∈ vs) (SrtO.lt2 fun v u => lexR (k v) (k u)) := by
  intro p q hm hm'
  have h1 := hp _ hm
  have h2 := hp _ hm'
  show wpAny (model prog w) A (keyLt' (tuples' true) p.1 q.1) (fun r s' => s' = s ∧ r = lexR (k p.1) (k q.1)) (fun _ _ => False) s
  unfold lexR
  generalize (k p.1).1 = x at h1 ⊢
  generalize (k p.1).2 = ns at h1 ⊢
  generalize (k q.1).1 = x' at h2 ⊢
  generalize (k q.1).2 = ms at h2 ⊢
  obtain ⟨a, o, t, b, its, n, e, ho, hc, hd, tb, ib⟩ := h1
  obtain ⟨a', o', t', b', its', n', e', ho', hc', hd', tb', ib'⟩ := h2
  rw [e, e']
  refine PySem.W.kat_lt ho hd ho' hd' ?_
  show PySem.W.KatLex prog w A true (decide (2 < 2)) _ [(.int x t, .int x' t'), (.ref b, .ref b')] 0 s
  refine PySem.W.kat_cons (SeqAt.EqAt.int_int x t x' t' prog w _ _ ?_)
  refine PySem.W.kat_go (fun e1 => ?_) (fun e1 => ?_)
  · have ex : x = x' := by simpa using e1
    refine PySem.W.kat_yes (PySem.W.kat_cons (eqAt_rows tb tb' ib ib' hu prog w _ _ ?_))
    refine PySem.W.kat_go (fun e2 => ?_) (fun e2 => ?_)
    · have ey : ns = ms := of_decide_eq_true e2
      have e3 : (if x = x' then HT.lexLt ns ms else decide (x < x')) = false := by
        rw [if_pos ex, ey]
        exact lexLt_irr ms
      exact PySem.W.kat_yes (PySem.W.kat_nil ⟨rfl, e3.symm⟩)
    · have e3 : (if x = x' then HT.lexLt ns ms else decide (x < x')) = HT.lexLt ns ms := if_pos ex
      refine PySem.W.kat_no (PySem.W.kat_one _ _ (HT.lt_tupInts tb tb' ib ib' (by omega) ?_))
      exact (show s = s ∧ HT.lexLt ns ms = (if x = x' then HT.lexLt ns ms else decide (x < x')) from ⟨rfl, e3.symm⟩)
  · have ex : ¬ x = x' := by simpa using e1
    have e3 : (if x = x' then HT.lexLt ns ms else decide (x < x')) = decide (x < x') := if_neg ex
    exact PySem.W.kat_no (oneLt_int ⟨rfl, e3.symm⟩)
theorem rows_sortable {a : Addr} {vs : List Value} {k : Value → Int × List Int} (hu : A.units + 64 < cLine) (h0 : 0 < vs.length) (hp : ∀ v ∈ vs, IsRow s.heap v (k v).1 (k v).2) (ha : ∀ o, s.heap.get? a = some o → o.cls ≠ .type "tuple") : SrtO.SortableO prog w A s a vs fun v u => lexR (k v) (k u) := by
  intro h' keep
  have hp' : ∀ v ∈ vs, IsRow h' v (k v).1 (k v).2 := fun v hm => (hp v hm).keeps fun b o e c => keep b o (fun z => by subst z; exact ha o e c) e
  obtain ⟨fs, h1, h2, h3⟩ := rowsfirsts fun v hm => ⟨_, _, hp' v hm⟩
  refine ⟨tuples' true, fun Q E hq => ?_, row_cmp hu hp'⟩
  refine PySem.W.kat_kind (T := .type "int") h1 (by omega) (fun f hm => ?_) (by rfl) ?_
  · obtain ⟨x, t, rfl⟩ := h3 f hm
    exact PySem.W.Looks.now
  · have e : (Value.type "int" != Value.type "tuple") = true := by first | decide +kernel | rfl | decide
    rw [e]
    exact hq
theorem sorted_rows {l : Addr} {vs : List Value} {k : Value → Int × List Int} {Q : Value → Shared → Prop} (hu : A.units + 100 < cLine) (hl : s.heap.IsList l vs.toArray) (hz : vs.length ≤ sizeLine) (hp : ∀ v ∈ vs, IsRow s.heap v (k v).1 (k v).2)
    (h : ∀ (h' : Heap) (d : Addr) (out : List Value), SrtO.Srtd (fun v u => lexR (k v) (k u)) out → SrtO.Stb (fun v u => lexR (k v) (k u)) out vs → (∀ b o, s.heap.get? b = some o → h'.get? b = some o) → s.heap.objs.size ≤ d → (∃ n, h'.get? d = some (seqObj "list" out.toArray n)) → Q (.ref d) { s with heap := h' }) :
    wpAny (model prog w) A (call (.builtin "sorted") [.ref l]) Q E s := by
  refine SrtO.sorted_ord (swo_R k) hl hz (fun h2 h₁ a ha kk => ?_) fun out hs hb => ?_
  · refine rows_sortable (s := { s with heap := h₁ }) (by show A.units + 1 + 1 + 64 < cLine; omega) (by omega) (fun v hm => (hp v hm).keeps fun b o e _ => (kk b o e).2) fun o e => ?_
    have e' : some o = some (seqObj "list" vs.toArray 0) := e.symm.trans ha
    cases e'
    intro c
    exact absurd (Value.type.inj c) (by decide)
  · exact h _ _ out hs hb (fun b o e => sortedAll_old e) (Nat.le_succ _) (sortedAll_at s.heap vs out.toArray)
end
abbrev ltW (k : V → Int × List Int) (x y : V) : Bool := lexR (k x) (k y)
def rSortedW (K : PySem.W.Frag) : List V → Hp → VK → Prop := fun vs H Q => ∃ (a : Addr) (xs : List V) (k : V → Int × List Int), vs = [V.ref a] ∧ SqL K H a xs ∧ (∀ x ∈ xs, ∃ t u, x = V.ref t ∧ H t = some (.tup [.int (k x).1, .ref u]) ∧ H u = some (.tup ((k x).2.map V.int))) ∧
  ∀ ys p, SrtO.Srtd (ltW k) ys → ys.Perm xs → H p = none → Q (.ref p) (upd H p (.lst ys))
theorem cr_sortedW {X : Cx} (hu : X.A.units + 100 < cLine) : CallR X (.builtin "sorted") (rSortedW X.K) := by
  intro pins s σ H vs us Q I r h
  obtain ⟨a, xs, k, rfl, hs, hx, q⟩ := h
  obtain ⟨its, rv, hl, hz⟩ := I.list hs
  obtain ⟨u, rfl, ru⟩ := vals1 r
  obtain rfl : u = Value.ref a := ru
  obtain ⟨e1, e2⟩ := refs_back rv fun x m => by
    obtain ⟨t, _, e, _⟩ := hx x m
    exact ⟨t, e⟩
  refine sorted_rows (k := fun u => k (backV u)) hu hl.isList (by rw [← rv.length]; exact hz) (fun v hv => ?_) fun h' d out h1 h2 kp hd hn => ?_
  · obtain ⟨t, rfl⟩ := e2 v hv
    have hm : V.ref t ∈ xs := by rw [e1]; exact List.mem_map.mpr ⟨_, hv, rfl⟩
    obtain ⟨t', u', e, ht, hu'⟩ := hx _ hm
    cases e
    obtain ⟨_, its2, r2, o, ho, hc, n, hd⟩ := I.hok _ _ ht
    obtain ⟨_, its3, r3, tup3⟩ := I.hok _ _ hu'
    obtain ⟨u1, u2, rfl, ri, rj⟩ := vals2 r2
    obtain ⟨t1, rfl⟩ := ri
    cases (show u2 = Value.ref u' from rj)
    exact ⟨t, o, t1, u', its3.toArray, n, rfl, ho, hc, hd, tup3, ints_of_vals r3⟩
  · have h3 : ∀ u ∈ out, ∃ a, u = Value.ref a := fun u hu => e2 u (h2.perm.mem_iff.mp hu)
    obtain ⟨n, hn⟩ := hn
    have hb : (out.map backV).Perm xs := by
      rw [e1]
      exact h2.perm.map backV
    refine ⟨.ref d, upd H d (.lst (out.map backV)), I.laid (t' := s.toks) kp hd ⟨?_, out, n, vals_back h3, hn⟩, rfl, q _ d (SrtO.srtd_map h1) hb (I.hok.fresh hd)⟩
    rw [hb.length_eq]
    exact hz
/-- over data: rows without a double, sorted -/
theorem reps_perm {G : Cfg} {F : Hp} {α : Type} (e : α → D) : ∀ {vs ws : List V} {xs : List α}, Reps G F vs (xs.map e) → ws.Perm vs → ∃ ys : List α, ys.Perm xs ∧ Reps G F ws (ys.map e) := by
  intro vs ws xs r p
  induction p generalizing xs with
  | nil => exact ⟨xs, .refl _, r⟩
  | cons x p ih =>
    cases xs with
    | nil => cases r
    | cons y ys =>
      cases r with
      | cons r1 r2 =>
        obtain ⟨zs, p2, r3⟩ := ih r2
        exact ⟨y :: zs, .cons y p2, .cons r1 r3⟩
  | swap x y l =>
    cases xs with
    | nil => cases r
    | cons a ys =>
      cases r with
      | cons r1 r2 =>
        cases ys with
        | nil => cases r2
        | cons b zs =>
          cases r2 with
          | cons r2 r3 => exact ⟨b :: a :: zs, .swap a b zs, .cons r2 (.cons r1 r3)⟩
  | trans p1 p2 ih1 ih2 =>
    obtain ⟨ys, q1, r1⟩ := ih2 r
    obtain ⟨zs, q2, r2⟩ := ih1 r1
    exact ⟨zs, q2.trans q1, r2⟩
def eRow (p : Int × List Int) : D := .tup [.int p.1, .tup (p.2.map .int)]
theorem ints_inj : ∀ {a b : List Int}, a.map V.int = b.map V.int → a = b
  | [], [], _ => rfl
  | [], _ :: _, h => by cases h
  | _ :: _, [], h => by cases h
  | x :: xs, y :: ys, h => by
    simp only [List.map_cons, List.cons.injEq, V.int.injEq] at h
    rw [h.1, ints_inj h.2]
open Classical in
theorem evn_sortedW {G : Cfg} {te : TE} {ρ : Rho} {xs ys : List (Int × List Int)} (h : EvS G te ρ (xs.map eRow)) (hp : ys.Perm xs) (hs : ys.Pairwise fun a b => lexR b a = false) : EvN G (tCB (rSortedW G.K) (tCons te tNil)) ρ (ys.map eRow) :=
  evn_cb (ea1L h) (rcn_one fun F H v s r Q q => by
    obtain ⟨a, vs, rfl, h1, rr⟩ := r.lst s
    -- the key of a value: what it represents
    have key : ∀ x : V, ∃ p : Int × List Int, ∀ p', Rep G F x (eRow p') → p' = p := fun x => by
      by_cases hx : ∃ p, Rep G F x (eRow p)
      · obtain ⟨p, hp⟩ := hx
        refine ⟨p, fun p' hp' => ?_⟩
        cases hp with
        | tup a1 b1 =>
          cases hp' with
          | tup a2 b2 =>
            rw [a1] at a2
            cases a2
            cases b1 with
            | cons c1 d1 =>
              cases b2 with
              | cons c2 d2 =>
                cases d1 with
                | cons c3 d3 =>
                  cases d2 with
                  | cons c4 d4 =>
                    cases c1
                    obtain ⟨p1, p2⟩ := p
                    obtain ⟨q1, q2⟩ := p'
                    cases c2
                    cases c3 with
                    | tup f1 g1 =>
                      cases c4 with
                      | tup f2 g2 =>
                        rw [f1] at f2
                        cases f2
                        have e1 := g1.ints
                        have e2 := g2.ints
                        rw [e1] at e2
                        simp only at e2
                        rw [ints_inj e2]
      · exact ⟨(0, []), fun p' hp' => absurd ⟨p', hp'⟩ hx⟩
    let k : V → Int × List Int := fun x => (key x).choose
    have hk : ∀ x p, Rep G F x (eRow p) → k x = p := fun x p hp => ((key x).choose_spec p hp).symm
    refine ⟨a, vs, k, rfl, SqL.of h1, fun x hx => ?_, fun ws p hw hpw hp' => ?_⟩
    · obtain ⟨i, hi⟩ := List.getElem?_of_mem hx
      obtain ⟨y, _, ry⟩ := rr.item hi
      have e := hk x y ry
      rw [e]
      cases ry with
      | tup a1 b1 =>
        cases b1 with
        | cons c1 d1 =>
          cases d1 with
          | cons c3 d3 =>
            cases d3
            cases c1
            cases c3 with
            | tup f1 g1 =>
              have e1 := g1.ints
              subst e1
              exact ⟨_, _, rfl, s _ _ a1, s _ _ f1⟩
    · obtain ⟨zs, pz, rz⟩ := reps_perm eRow rr hpw
      have hz : zs.Pairwise fun a b => lexR b a = false := by
        have go : ∀ {us : List V} {zs : List (Int × List Int)}, Reps G F us (zs.map eRow) → SrtO.Srtd (ltW k) us → zs.Pairwise fun a b => lexR b a = false := by
          intro us zs
          induction zs generalizing us with
          | nil => intro _ _; exact .nil
          | cons z zs ih =>
            intro r1 r2
            cases r1 with
            | cons r1 r3 =>
              have q2 := List.pairwise_cons.mp r2
              refine .cons (fun y hy => ?_) (ih r3 q2.2)
              obtain ⟨i, hi⟩ := List.getElem?_of_mem hy
              obtain ⟨u, hu1, hu2⟩ := r3.getD (i := i) (d := eRow y) (by rw [List.getElem?_map, hi]; rfl)
              have q3 := q2.1 u (List.mem_of_getElem? hu1)
              unfold ltW at q3
              rw [hk _ _ r1, hk _ _ hu2] at q3
              exact q3
        exact go rz hw
      have ez : zs = ys := (pz.trans hp.symm).eq_of_pairwise (fun a b _ _ h1 h2 => lexR_tot _ _ h2 h1) hz hs
      subst ez
      exact q p _ F _ ((Grow.refl s).fresh hp') hp' (s.free hp') upd_same rz)
end Vw

namespace Vw
open PySem L2 PySem.Spec PyProof.Rows

theorem call_sorted_tup {prog : Program} {w : World} {A : Around} {E : Value → Shared → Prop} {s : Shared} {t : Addr} {vs : List Value} {ns : List Int} {Q : Value → Shared → Prop} (ht : IsTup s.heap t vs.toArray) (hi : IntsAre vs ns) (hz : vs.length ≤ sizeLine)
    (h : ∀ (h1 h' : Heap) (d : Addr) (out : List Value) (ms : List Int), IntsAre out ms → ms.Perm ns → ms.Pairwise (· ≤ ·) → (∀ b o, s.heap.get? b = some o → h1.get? b = some o) → (∀ b o, h1.get? b = some o → h'.get? b = some o) → h1.objs.size ≤ d → (∃ n, h'.get? d = some (seqObj "list" out.toArray n)) → Q (.ref d) { s with heap := h' }) :
    wpAny (model prog w) A (call (.builtin "sorted") [.ref t]) Q E s := by
  obtain ⟨o, ho, hc, n, hd⟩ := ht
  refine Calls.call_function_entry kind_sorted plain_sorted entry_sorted (args_sorted1 _) ?_
  unfold Builtin.«sorted»
  refine wpAny_bind (m := checkCount "sorted" 1 1 _) (wpAny_pure ?_)
  refine wpAny_bind (wpAny_collect_seq t (.inr rfl) ho hc hd (fun h1 k1 => ?_) (by simpa using hz))
  have ev : vs.toArray.toList = vs := by simp
  rw [ev]
  refine wpAny_bind (wpAny_newList ?_ hz)
  show wpAny _ _ _ _ _ { s with heap := h1.push (seqObj "list" vs.toArray 0) }
  have hoL : (h1.push (seqObj "list" vs.toArray 0)).get? h1.objs.size = some (seqObj "list" vs.toArray 0) := Heap.get?_push_size _ rfl
  have old : ∀ (out : Array Value) (b : Addr) (x : Obj), h1.get? b = some x → (sortedHeap (h1.push (seqObj "list" vs.toArray 0)) h1.objs.size vs out).get? b = some x := fun out b x q => by
    have hb := Heap.lt_size q
    rw [sortedHeap_old (Nat.ne_of_lt hb) (by rw [Heap.size_push]; exact Nat.lt_succ_of_lt hb)]
    exact Heap.get?_push_of_some _ q
  refine wpAny_bind (wpAny_holding (wpAny_call_entry slot_list_sort ⟨_, hoL, rfl⟩ entry_list_sort (SrtO.list_sort_ord SrtO.swo_int hoL hz (fun h2 => SrtO.ints_sortable hi h2) fun out g1 g2 => ⟨_, rfl, ?_⟩) (args_list_sort _)))
  obtain ⟨q1, q2, q3⟩ := SrtO.ints_out hi g1 g2
  exact wpAny_pure ⟨_, rfl, h h1 _ h1.objs.size out _ q1 q2 q3 k1 (old out.toArray) (Nat.le_refl _) (sortedHeap_at hoL)⟩
def rSortedIT (K : PySem.W.Frag) : List V → Hp → VK → Prop := fun vs H Q => ∃ (a : Addr) (ns : List Int), vs = [V.ref a] ∧ SqT K H a (ns.map V.int) ∧ ∀ (ms : List Int) (p : Addr), ms.Perm ns → ms.Pairwise (· ≤ ·) → H p = none → Q (.ref p) (upd H p (.lst (ms.map V.int)))
theorem k_sortedIT {X : Cx} (K : PySem.W.Frag) (hK : X.K = K := by rfl) : CallR X (.builtin "sorted") (rSortedIT K) := by
  subst hK
  intro pins s σ H vs us Q I r h
  obtain ⟨a, ns, rfl, hs, q⟩ := h
  obtain ⟨its, rv, ht, hz⟩ := I.tuple hs
  rw [Vals.ref1 r]
  have hi : IntsAre its ns := rv.ints
  have hlen := rv.length
  rw [List.length_map] at hlen hz
  refine call_sorted_tup ht hi (by omega) fun h1 h' d out ms g1 g2 g3 keep1 keep hd hn => ?_
  obtain ⟨n, hn⟩ := hn
  exact ⟨.ref d, upd H d (.lst (ms.map V.int)), (I.kept (t' := s.toks) keep1).laid (t' := s.toks) keep hd ⟨by rw [List.length_map, g2.length_eq]; exact hz, out, n, vals_of_ints g1, hn⟩, rfl, q ms d g2 g3 ((I.kept (t' := s.toks) keep1).hok.fresh hd)⟩
theorem evn_sortedIT {G : Cfg} {te : TE} {ρ : Rho} {ns ms : List Int} (h : EvD G te ρ (.tup (ns.map .int))) (hp : ms.Pairwise (· ≤ ·)) (hm : ms.Perm ns) : EvN G (tCB (rSortedIT G.K) (tCons te tNil)) ρ (ms.map .int) :=
  evn_cb (ea1 h) (rcn_one fun F H v s r Q q => by
    obtain ⟨a, vs, rfl, h1, h2, rr⟩ := r.tup s
    have e := rr.ints
    subst e
    refine ⟨a, ns, rfl, SqT.of h2, fun ks p hk hk2 hp' => ?_⟩
    have ek : ks = ms := (hk.trans hm.symm).eq_of_pairwise (fun a b _ _ h1 h2 => by omega) hk2 hp
    subst ek
    exact q p _ F _ ((Grow.refl s).fresh hp') hp' (s.free hp') upd_same (.ofInts ks))
theorem ws_while {G : Cfg} {W : WX} {k : Ks} {ρ : Rho} {c : TT} {tb : TS} {S : Type} (env : S → Rho) (μ : S → Nat) (Inv : S → Prop) (s0 : S) (h0 : Weak ρ (env s0)) (hi : Inv s0)
    (hs : ∀ s, Inv s → ∃ b, EvT G c (env s) b ∧ (b = true → ∃ s', μ s' < μ s ∧ Inv s' ∧ WS G W tb { nx := fun ρ' => Weak ρ' (env s'), ct := fun ρ' => Weak ρ' (env s'), rt := fun _ => False } (env s)) ∧ (b = false → k.nx (env s))) : WS G W (tWhile c tb) k ρ := fun F0 H0 F H σ Dn R K => by
  refine ⟨fun m σ' H' => ∃ F' s, Same F F' ∧ REnv G F0 H0 F' H' σ' (env s) ∧ Inv s ∧ μ s = m, ⟨μ s0, F, s0, .refl _, R.weak h0, hi, rfl⟩, ?_⟩
  rintro m σ' H' ⟨F', s, sm, R', hi', rfl⟩
  obtain ⟨b, hb, h1, h2⟩ := hs s hi'
  refine hb F0 H0 F' H' σ' R' _ fun F1 H1 g => ?_
  cases b with
  | false => exact K.nx _ (h2 rfl) F1 H1 σ' (sm.trans g.ef) (R'.grow g)
  | true =>
    obtain ⟨s', hlt, hi2, hw⟩ := h1 rfl
    refine ⟨fun σ2 H2 => ∃ F2, Same F F2 ∧ REnv G F0 H0 F2 H2 σ2 (env s'), fun σ2 H2 ⟨F2, q1, q2⟩ => ⟨μ s', hlt, F2, s', q1, q2, hi2, rfl⟩, ?_⟩
    exact hw F0 H0 F1 H1 σ' _ (R'.grow g) ⟨fun ρ' w F2 H2 σ2 q1 q2 => ⟨F2, (sm.trans g.ef).trans q1, q2.weak w⟩, fun _ z => z.elim, fun ρ' w F2 H2 σ2 q1 q2 => ⟨F2, (sm.trans g.ef).trans q1, q2.weak w⟩, fun _ z => z.elim, fun _ z => z.elim⟩
end Vw

namespace Vw
open PySem L2 PySem.Spec PyProof.Rows

/-! ### loops as functions -/
theorem fold_all {α : Type} {p : α → Bool} {r : Res} : ∀ xs : List α, foldGo (fun (_ : Unit) x => if p x then Go.go () else .stop r) () xs = if xs.all p then .go () else .stop r
  | [] => rfl
  | x :: xs => by
    simp only [foldGo, List.all_cons]
    by_cases h : p x
    · simp only [h, if_true, Bool.true_and]
      exact fold_all xs
    · simp [h]
theorem fold_allG {α : Type} {p : α → Bool} {g : Go Unit} (hg : ∀ s, g ≠ .go s) : ∀ xs : List α, foldGo (fun (_ : Unit) x => if p x then Go.go () else g) () xs = if xs.all p then .go () else g
  | [] => rfl
  | x :: xs => by
    simp only [foldGo, List.all_cons]
    by_cases h : p x
    · simp only [h, if_true, Bool.true_and]
      exact fold_allG hg xs
    · cases g with
      | go s => exact absurd rfl (hg s)
      | brk _ => simp [h]
      | stop _ => simp [h]
      | err _ => simp [h]
theorem fold_any {α : Type} {p : α → Bool} {r : Res} : ∀ xs : List α, foldGo (fun (_ : Unit) x => if p x then Go.stop r else .go ()) () xs = if xs.any p then .stop r else .go ()
  | [] => rfl
  | x :: xs => by
    simp only [foldGo, List.any_cons]
    by_cases h : p x
    · simp [h]
    · simp only [h, Bool.false_or]
      exact fold_any xs
theorem fold_go {α S : Type} {f : S → α → S} : ∀ (xs : List α) (s : S), foldGo (fun s x => Go.go (f s x)) s xs = .go (xs.foldl f s)
  | [], _ => rfl
  | x :: xs, s => by
    simp only [foldGo, List.foldl_cons]
    exact fold_go xs (f s x)
theorem fold_go_take {α S : Type} {f : S → α → S} {xs : List α} {s s' : S} {i : Nat} (h : foldGo (fun s x => Go.go (f s x)) s (xs.take i) = .go s') : s' = (xs.take i).foldl f s := by
  rw [fold_go] at h
  exact (Go.go.inj h).symm

/-! ### what the top has written -/
structure Txt (G : Cfg) (mg : Str → Option Value) : Prop where
  cl : Cls G.K G.C
  nS : NoAttr G.K G.C "size"
  nT : NoAttr G.K G.C "told"
  g_Council : mg "Council" = some (.ref G.C)
  len : mg "len" = none
  range : mg "range" = none
  tuple : mg "tuple" = none
  sorted : mg "sorted" = none
  set : mg "set" = none
  sum : mg "sum" = none
  max : mg "max" = none
  min : mg "min" = none
  int : mg "int" = none
  str : mg "str" = none
  list : mg "list" = none
  isinstance : mg "isinstance" = none
  all : mg "all" = none
  bool : mg "bool" = none
  reversed : mg "reversed" = none
/-- an own exception's class -/
structure ExT (G : Cfg) (mg : Str → Option Value) (nm : Str) (C : Addr) : Prop where
  g : mg nm = some (.ref C)
  x : PySem.W.excIn G.K C [.type "ValueError", .type "Exception", .type "BaseException", .type "object"] "ValueError.__new__" = true
  k : PySem.W.keepIn G.K (.ref C) = true
  b : PySem.W.subIn G.K (.ref C) (.type "BaseException") = some true
  t : PySem.W.typeIn G.K (.ref C) = some (.type "type")
structure Fn (G : Cfg) (P : Program) (w : World) (mg : Str → Option Value) (base : Heap) (x : Str) (k : Nat) (ps : List Str) (R : List D → Res → Prop) : Prop where
  ex : ∃ (CX : CXT) (f : Addr) (fd : FuncData), (CX = CX0 ∨ CX = L2.CX P w) ∧ FnOk P w G.K mg base CX k f fd ps (mkSp G R) ∧ mg x = some (.ref f) ∧ PySem.W.keepIn G.K (.ref f) = true ∧ Binds G.K fd ps []
/-- a method -/
structure Mt (G : Cfg) (P : Program) (w : World) (mg : Str → Option Value) (base : Heap) (m : Str) (k : Nat) (ps : List Str) (R : List D → Res → Prop) : Prop where
  ex : ∃ (CX : CXT) (f : Addr) (fd : FuncData), (CX = CX0 ∨ CX = L2.CX P w) ∧ FnOk P w G.K mg base CX k f fd ps (mkSp G R) ∧ Meth G.K G.C m f ∧ Binds G.K fd ps []
section
variable {X : Cx} {G : Cfg} {x m : Str} {k : Nat} {ps : List Str} {R : List D → Res → Prop} {e o : Expr} {es : List Expr} {p pos apos : Pos} {ta : TA} {te : TE} {W : WX} {E : XK}
theorem pass_of {CX : CXT} (h : CX = CX0 ∨ CX = L2.CX X.prog X.w) : Passes CX X E0 := by
  rcases h with h | h
  · subst h
    exact pass0
  · subst h
    exact passL
theorem pass_x {CX : CXT} (h : CX = CX0 ∨ CX = L2.CX X.prog X.w) (tk : Takes X (wd E)) : Passes CX X E := by
  rcases h with h | h
  · subst h
    exact fun _ _ _ _ _ _ _ h => h.elim
  · subst h
    exact passes_call tk fun _ _ _ _ h => h
theorem pe_callF (H : Fn G X.prog X.w X.mg X.base x k ps R) (hr : Room k X.A) (hg : Gl X x) (ha : PA X (e :: es) ta) (hK : G.K = X.K := by rfl) (hdb : (x == ("__debug__" : Str)) = false := by decide)
    (he : starEach (e :: es) X.env = (false, eval e X.env) :: starEach es X.env := by rfl) (hpl : (backTo pos (starEach es X.env)).any (·.1) = false := by rfl) :
    PE X (.Call (.Name x p) (e :: es) [] pos) (tCall (mkSp G R) [] E0 ta) := by
  obtain ⟨CX, f, fd, hx, hf, hm, hk, hb⟩ := H.ex
  rw [hK] at hf hk hb
  exact pe_call hf hr hg hm hk hb .nil (pass_of hx) ha hdb he hpl
theorem pe_callX (H : Fn G X.prog X.w X.mg X.base x k ps R) (hr : Room k X.A) (hg : Gl X x) (tk : Takes X (wd E)) (ha : PA X (e :: es) ta) (hK : G.K = X.K := by rfl) (hdb : (x == ("__debug__" : Str)) = false := by decide)
    (he : starEach (e :: es) X.env = (false, eval e X.env) :: starEach es X.env := by rfl) (hpl : (backTo pos (starEach es X.env)).any (·.1) = false := by rfl) :
    PE X (.Call (.Name x p) (e :: es) [] pos) (tCall (mkSp G R) [] E ta) := by
  obtain ⟨CX, f, fd, hx, hf, hm, hk, hb⟩ := H.ex
  rw [hK] at hf hk hb
  exact pe_call hf hr hg hm hk hb .nil (pass_x hx tk) ha hdb he hpl
theorem pe_methF {pl : Sem Bool} (he : PE X o te) (c : Cls G.K G.C) (H : Mt G X.prog X.w X.mg X.base m k ps R) (hr : Room k X.A) (ha : PA X (e :: es) ta) (hK : G.K = X.K := by rfl)
    (hst : starEach (e :: es) X.env = (false, eval e X.env) :: starEach es X.env := by rfl) (hpl : (backTo pos (starEach es X.env)).any (·.1) = false := by rfl)
    (ht : eval (.Call (.Attribute o m apos) (e :: es) [] pos) X.env = (do
      let ov ← eval o X.env
      standAt apos.atName
      let (f, first) ← holding [ov] (getMethod ov m pl)
      callWith pos f first (backTo pos (starEach (e :: es) X.env)) (backToKw pos (keywordEach [] X.env))) := by rfl) :
    PE X (.Call (.Attribute o m apos) (e :: es) [] pos) (tMeth G.C m (mkSp G R) [] E0 te ta) := by
  obtain ⟨CX, f, fd, hx, hf, hm, hb⟩ := H.ex
  rw [hK] at hf hm hb c
  exact pe_meth (pl := pl) he c hm hf hr hb .nil (pass_of hx) ha hst hpl ht
theorem pe_methX {pl : Sem Bool} (he : PE X o te) (c : Cls G.K G.C) (H : Mt G X.prog X.w X.mg X.base m k ps R) (hr : Room k X.A) (tk : Takes X (wd E)) (ha : PA X (e :: es) ta) (hK : G.K = X.K := by rfl)
    (hst : starEach (e :: es) X.env = (false, eval e X.env) :: starEach es X.env := by rfl) (hpl : (backTo pos (starEach es X.env)).any (·.1) = false := by rfl)
    (ht : eval (.Call (.Attribute o m apos) (e :: es) [] pos) X.env = (do
      let ov ← eval o X.env
      standAt apos.atName
      let (f, first) ← holding [ov] (getMethod ov m pl)
      callWith pos f first (backTo pos (starEach (e :: es) X.env)) (backToKw pos (keywordEach [] X.env))) := by rfl) :
    PE X (.Call (.Attribute o m apos) (e :: es) [] pos) (tMeth G.C m (mkSp G R) [] E te ta) := by
  obtain ⟨CX, f, fd, hx, hf, hm, hb⟩ := H.ex
  rw [hK] at hf hm hb c
  exact pe_meth (pl := pl) he c hm hf hr hb .nil (pass_x hx tk) ha hst hpl ht
theorem pe_methF0 {pl : Sem Bool} (he : PE X o te) (c : Cls G.K G.C) (H : Mt G X.prog X.w X.mg X.base m k ps R) (hr : Room k X.A) (hK : G.K = X.K := by rfl)
    (ht : eval (.Call (.Attribute o m apos) [] [] pos) X.env = (do
      let ov ← eval o X.env
      standAt apos.atName
      let (f, first) ← holding [ov] (getMethod ov m pl)
      callWith pos f first (backTo pos (starEach [] X.env)) (backToKw pos (keywordEach [] X.env))) := by rfl) :
    PE X (.Call (.Attribute o m apos) [] [] pos) (tMeth G.C m (mkSp G R) [] E0 te tNil) := by
  obtain ⟨CX, f, fd, hx, hf, hm, hb⟩ := H.ex
  rw [hK] at hf hm hb c
  exact pe_meth0 (pl := pl) he c hm hf hr hb .nil (pass_of hx) ht

/-! ### Council(many, crowds) -/
/-- the refusal of a list of crowds, or what is told -/
def goodFrom (n : Int) : Int → List Int → Bool
  | _, [] => true
  | last, m :: c => if m ≤ last ∨ m ≥ n then false else goodFrom n m c
def crowdOk (n : Int) (c : List Int) : Bool := goodFrom n (-1) c
def couRes (n : Int) (cs : List (List Int)) : Res := if n < 1 ∨ n > 5 then .err .size else if cs.all (crowdOk n) then .val (.cou n cs) else .err .crowd
def spInit (G : Cfg) : Sp := fun vs H Q E => ∃ (F : Hp) (x dx : Addr) (n : Int) (a : Addr) (cvs : List V) (cs : List (List Int)), vs = [.ref x, .int n, .ref a] ∧ Same F H ∧ F x = none ∧ F dx = none ∧ H x = some (.ins G.C dx []) ∧
  H a = some (.lst cvs) ∧ Reps G F cvs (cs.map eC) ∧ cs.length ≤ 10000 ∧ (match couRes n cs with
  | .err e => ∀ H', Same H H' → E (.ref (G.ex e)) none H'
  | _ => ∀ (l : Addr) (F' H' : Hp), Same F F' → (∀ b, F b = none → H b ≠ none → F' b = none) → H l = none → F' l = none → (∀ b o, H b = some o → b ≠ x → H' b = some o) → (∀ b o, F' b = some o → H' b = some o) →
      H' x = some (.ins G.C dx [(("size" : Str), V.int n), (("told" : Str), V.ref l)]) → (∃ ws, H' l = some (.lst ws) ∧ Reps G F' ws (cs.map eC)) → Q .non H')
structure Ini (G : Cfg) (P : Program) (w : World) (mg : Str → Option Value) (base : Heap) (k : Nat) : Prop where
  ex : ∃ (CX : CXT) (f : Addr) (fd : FuncData), (CX = CX0 ∨ CX = L2.CX P w) ∧ FnOk P w G.K mg base CX k f fd ["self", "many", "crowds"] (spInit G) ∧ Mk G.K G.C f ∧ mg "Council" = some (.ref G.C) ∧ Binds G.K fd ["self", "many", "crowds"] []
theorem pe_makeF (H : Ini G X.prog X.w X.mg X.base k) (hr : Room (k + 1) X.A) (hg : Gl X "Council") (ha : PA X (e :: es) ta) (hK : G.K = X.K := by rfl)
    (he : starEach (e :: es) X.env = (false, eval e X.env) :: starEach es X.env := by rfl) (hpl : (backTo pos (starEach es X.env)).any (·.1) = false := by rfl) :
    PE X (.Call (.Name "Council" p) (e :: es) [] pos) (tMake G.C (spInit G) [] E0 ta) := by
  obtain ⟨CX, f, fd, hx, hf, hm, hc, hb⟩ := H.ex
  rw [hK] at hf hm hb
  exact pe_make hm hf hr hg hc hb .nil (pass_of hx) ha (by decide) he hpl
theorem pe_makeX (H : Ini G X.prog X.w X.mg X.base k) (hr : Room (k + 1) X.A) (hg : Gl X "Council") (tk : Takes X (wd E)) (ha : PA X (e :: es) ta) (hK : G.K = X.K := by rfl)
    (he : starEach (e :: es) X.env = (false, eval e X.env) :: starEach es X.env := by rfl) (hpl : (backTo pos (starEach es X.env)).any (·.1) = false := by rfl) :
    PE X (.Call (.Name "Council" p) (e :: es) [] pos) (tMake G.C (spInit G) [] E ta) := by
  obtain ⟨CX, f, fd, hx, hf, hm, hc, hb⟩ := H.ex
  rw [hK] at hf hm hb
  exact pe_make hm hf hr hg hc hb .nil (pass_x hx tk) ha (by decide) he hpl
end
section
variable {G : Cfg} {ρ : Rho} {n : Int} {cs : List (List Int)} {E : XK} {ta : TA}
theorem evx_make (h : EvA G ta ρ [.int n, .lst (cs.map eC)]) (hz : cs.length ≤ 10000) : EvX G E (tMake G.C (spInit G) [] E ta) ρ (couRes n cs) := fun F0 H0 F H σ R Q q =>
  h F0 H0 F H σ R _ fun vs F1 H1 g r => by
  intro x dx nx ndx nex
  cases r with
  | cons r1 r2 =>
  cases r2 with
  | cons r2 r3 =>
  cases r3
  cases r1.flat (fun _ z => nomatch z)
  obtain ⟨a, cvs, rfl, ha, rc⟩ := r2.lst g.sub
  have f1x : F1 x = none := g.sub.free nx
  have f1d : F1 dx = none := g.sub.free ndx
  have s1 : Same H1 (upd (upd H1 dx (.own x)) x (.ins G.C dx [])) := fun b o e => by
    rw [upd_ne (ne_of_none e nx), upd_ne (ne_of_none e ndx)]
    exact e
  refine ⟨F1, x, dx, n, a, cvs, cs, rfl, g.sub.trans s1, f1x, f1d, upd_same, s1 _ _ ha, rc, hz, ?_⟩
  cases e : couRes n cs with
  | err er =>
    show ∀ H', _ → _
    intro H' s
    rw [e] at q
    exact q F1 H' (g.trans ⟨.refl _, s1.trans s, (g.sub.trans s1).trans s, fun _ h _ => h⟩)
  | new ds =>
    unfold couRes at e
    split at e
    · cases e
    · split at e <;> cases e
  | trip s W b =>
    unfold couRes at e
    split at e
    · cases e
    · split at e <;> cases e
  | val d =>
    show ∀ (l : Addr) (F' H' : Hp), _
    intro l F' H' sF nF hl fl kp sub hx ⟨ws, hw, rw_⟩
    have ed : d = .cou n cs := by
      unfold couRes at e
      split at e
      · cases e
      · split at e
        · cases e
          rfl
        · cases e
    subst ed
    rw [e] at q
    refine ⟨rfl, ?_⟩
    have l1 : H1 l = none := s1.free hl
    have nlx : l ≠ x := by
      intro e
      subst e
      rw [upd_same] at hl
      cases hl
    have nxl : x ≠ l := fun z => nlx z.symm
    have fx : F' x = none := nF x f1x (by rw [upd_same]; exact fun z => nomatch z)
    -- the council and its list are data from now on
    have F2 : Same F' (upd (upd F' l (.lst ws)) x (.ins G.C dx [(("size" : Str), V.int n), (("told" : Str), V.ref l)])) := fun b o e => by
      rw [upd_ne (ne_of_none e fx), upd_ne (ne_of_none e fl)]
      exact e
    refine q (.ref x) (upd (upd F' l (.lst ws)) x (.ins G.C dx [(("size" : Str), V.int n), (("told" : Str), V.ref l)])) H' (g.trans ⟨sF.trans F2, fun b o e => ?_, fun b o e => ?_, fun b e e' => ?_⟩) ?_
    · exact kp b o (s1 b o e) (ne_of_none e nx)
    · by_cases q1 : b = x
      · subst q1
        rw [upd_same] at e
        cases e
        exact hx
      · rw [upd_ne q1] at e
        by_cases q2 : b = l
        · subst q2
          rw [upd_same] at e
          cases e
          exact hw
        · rw [upd_ne q2] at e
          exact sub b o e
    · have q1 : b ≠ x := by
        intro z
        subst z
        exact e' nx
      have q2 : b ≠ l := by
        intro z
        subst z
        exact e' l1
      rw [upd_ne q1, upd_ne q2]
      exact nF b e (some_ne s1 e')
    · exact .cou upd_same (by rw [upd_ne nlx, upd_same]) (rw_.mono F2)
end
end Vw
/-! ### the rules with the written part named (within a comprehension's block it can't be read off) -/
namespace Vw
open PySem L2 PySem.Spec PyProof.Rows
section
variable {X : Cx} (K : PySem.W.Frag)
theorem k_catA (h : X.K = K := by rfl) : OpR X (binaryOp .Add) (rCatA K) := h ▸ op_catA
theorem k_in (h : X.K = K := by rfl) : OpR X (compareOp .In) (rIn K false) := h ▸ op_in_seq
theorem k_notIn (h : X.K = K := by rfl) : OpR X (compareOp .NotIn) (rIn K true) := h ▸ op_notIn_seq
theorem k_eqD (hu : X.A.units + 64 < cLine) (h : X.K = K := by rfl) : OpR X (compareOp .Eq) (rEqD K) := h ▸ op_eqD hu
theorem k_neD (hu : X.A.units + 64 < cLine) (h : X.K = K := by rfl) : OpR X (compareOp .NotEq) (rNeD K) := h ▸ op_neD hu
theorem k_ixL (h : X.K = K := by rfl) : IxR X (rIxL K) := h ▸ ix_list
theorem k_ixT (h : X.K = K := by rfl) : IxR X (rIxT K) := h ▸ ix_tup
theorem k_slL (h : X.K = K := by rfl) : SlR X (rSlL K) := h ▸ sl_list
theorem k_slT (h : X.K = K := by rfl) : SlR X (rSlA K) := h ▸ sl_tupA
theorem k_len (h : X.K = K := by rfl) : CallR X (.builtin "len") (fun xs H Q => ∃ p ys, xs = [.ref p] ∧ (SqL K H p ys ∨ SqT K H p ys) ∧ Q (.int ys.length) H) := h ▸ call_len_seq
theorem k_list (h : X.K = K := by rfl) : CallR X (.type "list") (fun xs H Q => ∃ p ys, xs = [.ref p] ∧ (SqL K H p ys ∨ SqT K H p ys) ∧ ∀ l, H l = none → Q (.ref l) (upd H l (.lst ys))) := h ▸ call_list_of
theorem k_tuple (h : X.K = K := by rfl) : CallR X (.type "tuple") (fun xs H Q => ∃ p ys, xs = [.ref p] ∧ ((SqL K H p ys ∧ ∀ l, H l = none → Q (.ref l) (upd H l (.tup ys))) ∨ (SqT K H p ys ∧ Q (.ref p) H))) := h ▸ call_tuple_of
theorem k_sum (hc : X.calm = true) (h : X.K = K := by rfl) : CallR X (.builtin "sum") (rSum K) := h ▸ cr_sum hc
theorem k_min (hc : X.calm = true) (h : X.K = K := by rfl) : CallR X (.builtin "min") (rMin K) := h ▸ cr_min hc
theorem k_all (hc : X.calm = true) (h : X.K = K := by rfl) : CallR X (.builtin "all") (rAll K) := h ▸ cr_all hc
theorem k_sortedI (h : X.K = K := by rfl) : CallR X (.builtin "sorted") (rSortedI K) := h ▸ cr_sortedI
theorem k_sortedPO (h : X.K = K := by rfl) : CallR X (.builtin "sorted") (rSortedPO K) := h ▸ cr_sortedPO
theorem k_sortedW (hu : X.A.units + 100 < cLine) (h : X.K = K := by rfl) : CallR X (.builtin "sorted") (rSortedW K) := h ▸ cr_sortedW hu
theorem k_sortedSet (w : World) (hc : X.calm = true) (h : X.w = w := by rfl) : CallR X (.builtin "sorted") (rSortedSet w) := h ▸ cr_sortedSet hc
theorem hu100 {k : Nat} {A : Around} (hr : Room k A) : A.units + 100 < cLine := by have := hr.un; omega
theorem k_setT (w : World) (hc : X.calm = true) (h1 : X.w = w := by rfl) (h : X.K = K := by rfl) : CallR X (.type "set") (rSetT w K) := by
  have z := cr_setT (X := X) hc
  rw [h1, h] at z
  exact z
theorem k_isi (h : X.K = K := by rfl) : CallR X (.builtin "isinstance") (rIsi K) := h ▸ call_isi
theorem k_pl {tg l : Expr} {tl : TE} (hl : PE X l tl) (h : X.K = K := by rfl) : PI X tg l (iList K tl) := h ▸ pi_list hl
theorem k_pt {tg l : Expr} {tl : TE} (hl : PE X l tl) (h : X.K = K := by rfl) : PI X tg l (iTup K tl) := h ▸ pi_tup hl
theorem k_truth {a : Expr} {ta : TE} (ha : PE X a ta) (he : ∀ whole, isTrue a X.env whole = (do let v ← whole; standAt a.pos; holding [v] (truthy v))) (h : X.K = K := by rfl) :
    PT X a (fun σ H Q => ta σ H fun x H' => ∃ k, TruV K x H' k ∧ Q k H') := h ▸ pt_truth ha he
theorem k_fld {o : Expr} {ta : TE} {f : Str} {pos : Pos} (ha : PE X o ta) (hb : attributeBase o f X.env (eval o X.env) = eval o X.env) (h : X.K = K := by rfl) : PE X (.Attribute o f pos) (tFld K ta f) := h ▸ pe_fld ha hb
end
/-- the law's: at most 63 ints are handed in, True comes out -/
def spLaw (K : PySem.W.Frag) : Sp := fun vs H Q _ => ∃ (a : Addr) (ns : List Int), vs = [.ref a] ∧ SqL K H a (ns.map V.int) ∧ ns.length ≤ 63 ∧ ∀ H', Q (.bl true) H'
end Vw

namespace Vw
open PySem L2 PySem.Spec PyProof.Rows
/-! ### isinstance -/
def tyD : D → Option String
  | .int _ => some "int"
  | .bl _ => some "bool"
  | .str _ => some "str"
  | .lst _ => some "list"
  | .tup _ => some "tuple"
  | _ => none
section
variable {G : Cfg} {te : TE} {ρ : Rho} {x : D} {ds : List D} {a b : String} {r : Bool}
theorem tyX_of {F H : Hp} {v : V} (s : Same F H) (h : Rep G F v x) (hx : tyD x = some a) : TyX G.K H v (.type a) := by
  cases h with
  | non => cases hx
  | bl b => cases hx; exact .base (.bl b)
  | int i => cases hx; exact .base (.int i)
  | str i => cases hx; exact .base (.str i)
  | lst h1 _ => cases hx; exact .base (.lst (s _ _ h1))
  | tup h1 _ => cases hx; exact .base (.tup (s _ _ h1))
  | cou _ _ _ => cases hx
  | scr _ => cases hx
  | ptr _ => cases hx
theorem evd_isi (h : EvD G te ρ x) (hx : tyD x = some a) (hk : kitB a b = some r) : EvD G (tCB (rIsi G.K) (tCons te (tCons (tC (.ty b)) tNil))) ρ (.bl r) := fun F0 H0 F H σ E Q q =>
  h F0 H0 F H σ E _ fun v F1 H1 g r1 => ⟨v, .ty b, .type a, .type b, r, rfl, .ty b, tyX_of g.sub r1 hx, kit_ty hk, q _ F1 H1 g (.bl r)⟩
theorem evd_isiL (h : EvS G te ρ ds) (hk : kitB "list" b = some r) : EvD G (tCB (rIsi G.K) (tCons te (tCons (tC (.ty b)) tNil))) ρ (.bl r) := fun F0 H0 F H σ E Q q =>
  h F0 H0 F H σ E _ fun c vs F1 H1 g h1 r1 => ⟨.ref c, .ty b, .type "list", .type b, r, rfl, .ty b, .base (.lst h1), kit_ty hk, q _ F1 H1 g (.bl r)⟩
end
theorem kit_ii : kitB "int" "int" = some true := by decide +kernel
theorem kit_ib : kitB "int" "bool" = some false := by decide +kernel
theorem kit_bb : kitB "bool" "bool" = some true := by decide +kernel
theorem kit_ll : kitB "list" "list" = some true := by decide +kernel
theorem kit_tt : kitB "tuple" "tuple" = some true := by decide +kernel
theorem kit_ss : kitB "str" "str" = some true := by decide +kernel
/-! ### list(range(n)), tuple(range(n)) -/
section
variable {G : Cfg} {te : TE} {ρ : Rho}
theorem reps_rg (F : Hp) (n : Int) : Reps G F (rgV 0 n) ((List.range n.toNat).map fun k : Nat => D.int (k : Int)) := by
  have e : n - 0 = n := by omega
  unfold rgV
  rw [e]
  have go : ∀ l : List Nat, Reps G F (l.map fun i : Nat => V.int (0 + (i : Int))) (l.map fun k : Nat => D.int (k : Int)) := by
    intro l
    induction l with
    | nil => exact .nil
    | cons x l ih =>
      rw [List.map_cons, List.map_cons, Int.zero_add]
      exact .cons (.int _) ih
  exact go _
theorem evn_listRg {n : Int} (h : EvD G te ρ (.int n)) (hn : 0 ≤ n ∧ n ≤ 1000) : EvN G (tLstRg (tRg1 te)) ρ ((List.range n.toNat).map fun k : Nat => D.int (k : Int)) := fun F0 H0 F H σ E Q q => h F0 H0 F H σ E _ fun v F1 H1 g r => by
  cases r
  exact ⟨n, rfl, .of_le (by omega) (by omega) (by omega) (by omega), fun p hp => q p _ F1 _ (g.fresh hp) (g.eh.free hp) (g.sub.free hp) upd_same (reps_rg F1 n)⟩
theorem evd_tupRg {n : Int} (h : EvD G te ρ (.int n)) (hn : 0 ≤ n ∧ n ≤ 1000) : EvD G (tTupRg (tRg1 te)) ρ (.tup ((List.range n.toNat).map fun k : Nat => D.int (k : Int))) := fun F0 H0 F H σ E Q q => h F0 H0 F H σ E _ fun v F1 H1 g r => by
  cases r
  exact ⟨n, rfl, .of_le (by omega) (by omega) (by omega) (by omega), fun p hp => q _ _ _ (g.laid hp) (.tup upd_same ((reps_rg F1 n).mono (same_upd (g.sub.free hp))))⟩
end
def eO : Option Int → D
  | none => .non
  | some i => .int i
def vO : Option Int → V
  | none => .non
  | some i => .int i
def rCntO (K : PySem.W.Frag) : V → List V → Hp → VK → Prop := fun x xs H Q => ∃ (p : Addr) (os : List (Option Int)) (k : Int), x = .ref p ∧ xs = [.int k] ∧ SqL K H p (os.map vO) ∧ Q (.int (os.count (some k) : Nat)) H
theorem cntO_gives {A : Around} {s : Shared} {k : Int} {t : Tok} (hu : A.units < cLine) : ∀ {os : List (Option Int)} {us : List Value}, Vals (os.map vO) us → (∀ y ∈ us, SeqAt.EqAt A s y (.int k t) (eqk k y)) ∧ us.countP (eqk k) = os.count (some k)
  | [], _, .nil => ⟨fun y hy => absurd hy (by simp), rfl⟩
  | o :: os, u :: us, .cons r rr => by
    obtain ⟨h1, h2⟩ := cntO_gives (k := k) (t := t) hu rr
    refine ⟨fun y hy => ?_, ?_⟩
    · rcases List.mem_cons.mp hy with e | e
      · rw [e]
        cases o with
        | none =>
          cases (show u = Value.none from r)
          exact SeqAt.eqAt_reads .none (.int k) A s _ _ _ _ Reads.none (Reads.int k t) rfl rfl (by show A.units + min 0 0 < cLine; omega)
        | some i =>
          obtain ⟨t', e2⟩ := (show ∃ t', u = Value.int i t' from r)
          cases e2
          exact (MeetsSeq.EqGives.int i k t' t).at A s
      · exact h1 y e
    · rw [List.countP_cons, List.count_cons, h2]
      cases o with
      | none =>
        cases (show u = Value.none from r)
        rfl
      | some i =>
        obtain ⟨t', e2⟩ := (show ∃ t', u = Value.int i t' from r)
        cases e2
        show _ + (if (i == k) = true then 1 else 0) = _ + (if (some i == some k) = true then 1 else 0)
        have : (some i == some k) = (i == k) := rfl
        rw [this]
theorem mt_countO {X : Cx} (hu : X.A.units + 64 < cLine) : MtR X "list.count" (rCntO X.K) := by
  intro pins s σ H x xs v us Q I rx rxs h
  obtain ⟨p, os, k, rfl, rfl, hs, q⟩ := h
  cases rx
  obtain ⟨u, rfl, ru⟩ := rxs.one
  obtain ⟨t, rfl⟩ := ru
  obtain ⟨its, rv, ⟨⟨cls, dd, data, sl⟩, n, ho, hc, hdn, hd⟩, hlen⟩ := I.list hs
  simp only at hc hd
  subst hc hd
  refine call_meets PySem.F.slot_list_count ⟨_, ho, rfl⟩ PySem.F.entry_list_count (PySem.F.args_list_count_2 _ _) (SeqAt.list_countAt p its.toArray n dd sl (.int k t) (eqk k)) ⟨ho, fun y hy => (cntO_gives (by first | (show X.A.units + 1 < cLine; omega) | (show X.A.units < cLine; omega)) rv).1 y (by simpa using hy), ?_⟩
  have ec : its.toArray.toList.countP (eqk k) = os.count (some k) := (cntO_gives (A := X.A) (s := s) (t := t) (by omega) rv).2
  rw [ec]
  exact ⟨.int (os.count (some k) : Nat), H, I.tok _, ⟨s.toks, rfl⟩, q⟩
theorem k_count {X : Cx} (K : PySem.W.Frag) (hu : X.A.units + 64 < cLine) (h : X.K = K := by rfl) : MtR X "list.count" (rCntO K) := h ▸ mt_countO hu
theorem reps_O {G : Cfg} {F : Hp} : ∀ {vs : List V} {os : List (Option Int)}, Reps G F vs (os.map eO) → vs = os.map vO
  | _, [], .nil => rfl
  | _, o :: os, .cons h r => by
    rw [reps_O r]
    cases o with
    | none => cases h; rfl
    | some i => cases h; rfl
theorem evd_count {G : Cfg} {te tk : TE} {ρ : Rho} {os : List (Option Int)} {k : Int} (h : EvS G te ρ (os.map eO)) (hk : EvD G tk ρ (.int k)) : EvD G (tBM G.K "list" (rCntO G.K) te (tCons tk tNil)) ρ (.int (os.count (some k) : Nat)) := fun F0 H0 F H σ E Q q =>
  h F0 H0 F H σ E _ fun a vs F1 H1 g1 h1 r1 => by
  refine ⟨Or.inl ⟨rfl, vs, SqL.of h1⟩, hk F0 H0 F1 H1 σ (E.grow g1) _ fun v F2 H2 g2 r2 => ?_⟩
  cases r2
  have e := reps_O r1
  subst e
  exact ⟨a, os, k, rfl, rfl, SqL.of (g2.eh _ _ h1), q _ F2 H2 (g1.trans g2) (.int _)⟩
end Vw

/-! the mathematics: what the defs compute -/
namespace Vw
abbrev Crowd := List Int
def liesIn (a b : Crowd) : Bool := a.all fun m => decide (m ∈ b)
def bears (told : List Crowd) (c : Crowd) : Bool := told.any fun t => liesIn t c
def firstOf (c : Crowd) : Int := c.getLastD (-1) + 1
def longer (n : Nat) (c : Crowd) : List Crowd := (List.range ((n : Int) - firstOf c).toNat).map fun (k : Nat) => c ++ [firstOf c + (k : Int)]
def crowdsSt (n : Nat) : Nat → List Crowd × List Crowd
  | 0 => ([[]], [[]])
  | k + 1 => ((crowdsSt n k).1 ++ (crowdsSt n k).2.flatMap (longer n), (crowdsSt n k).2.flatMap (longer n))
def crowdsOf (n : Nat) : List Crowd := (crowdsSt n n).1
theorem crowdsSt_len : ∀ n < 6, ∀ k < 6, (crowdsSt n k).1.length ≤ 32 ∧ (crowdsSt n k).2.length ≤ 32 ∧ ((crowdsSt n k).2.flatMap (longer n)).length ≤ 32 := by decide +kernel
theorem crowdsSt_first : ∀ n < 6, ∀ k < 6, ∀ c ∈ (crowdsSt n k).2, 0 ≤ firstOf c ∧ firstOf c ≤ 6 := by decide +kernel
theorem crowdsSt_clen : ∀ n < 6, ∀ k < 6, ∀ c ∈ (crowdsSt n k).2, c.length ≤ 6 := by decide +kernel
theorem crowdsOf_len {n : Nat} (h : n ≤ 5) : (crowdsOf n).length ≤ 32 := (crowdsSt_len n (by omega) n (by omega)).1
theorem crowdsOf_good : ∀ n < 6, ∀ c ∈ crowdsOf n, crowdOk (n : Int) c = true := by decide +kernel
theorem crowdsOf_clen : ∀ n < 6, ∀ c ∈ crowdsOf n, c.length ≤ 5 := by decide +kernel
def leastStep (told : List Crowd) (found : List Crowd) (c : Crowd) : List Crowd := if bears told c && !(found.any fun one => liesIn one c) then found ++ [c] else found
def least (n : Nat) (told : List Crowd) : List Crowd := (crowdsOf n).foldl (leastStep told) []
theorem leastStep_len (told : List Crowd) : ∀ (cs found : List Crowd), (cs.foldl (leastStep told) found).length ≤ found.length + cs.length
  | [], found => by simp
  | c :: cs, found => by
    rw [List.foldl_cons]
    have h := leastStep_len told cs (leastStep told found c)
    have h2 : (leastStep told found c).length ≤ found.length + 1 := by
      unfold leastStep
      split <;> simp
    rw [List.length_cons]
    omega
theorem least_len {n : Nat} (h : n ≤ 5) (told : List Crowd) : (least n told).length ≤ 32 := by
  have := leastStep_len told (crowdsOf n) []
  have := crowdsOf_len h
  unfold least
  simp at *
  omega
/-! ### the script -/
def cell (ns : List Int) (k : Nat) : Int := ns.getD k 0
def bitStep (s : Crowd × Int) (k : Nat) : Crowd × Int := (if s.2 % 2 = 1 then s.1 ++ [(k : Int)] else s.1, s.2 / 2)
def bits (x : Int) (m : Nat) : Crowd := ((List.range m).foldl bitStep ([], x)).1
theorem bitStep_len : ∀ (ks : List Nat) (s : Crowd × Int), (ks.foldl bitStep s).1.length ≤ s.1.length + ks.length
  | [], s => by simp
  | k :: ks, s => by
    rw [List.foldl_cons]
    have h := bitStep_len ks (bitStep s k)
    have h2 : (bitStep s k).1.length ≤ s.1.length + 1 := by
      unfold bitStep
      simp only
      split <;> simp
    rw [List.length_cons]
    omega
theorem bits_len (x : Int) (m : Nat) : (bits x m).length ≤ m := by
  have := bitStep_len (List.range m) ([], x)
  simp at this
  exact this
def rowOf (c : Crowd) : Int × List Int := ((c.length : Int), c)
def lawCrowds (n : Nat) : List Crowd := crowdsOf n
def powOf (n : Nat) : Nat := [1, 2, 4, 8, 16, 32].getD n 1
theorem lawCrowds_perm : ∀ n < 6, ((crowdsOf n).map rowOf).Perm (((List.range (powOf n)).map fun (k : Nat) => bits (k : Int) n).map rowOf) := by decide +kernel
theorem lawCrowds_sorted : ∀ n < 6, ((crowdsOf n).map rowOf).Pairwise (fun a b => lexR b a = false) := by decide +kernel
def manyOf (x : Int) : Nat := [5, 1, 2, 3, 4, 5, 4, 5].getD (x % 8).toNat 5
theorem manyOf_le (x : Int) : 1 ≤ manyOf x ∧ manyOf x ≤ 5 := by
  unfold manyOf
  have h1 : 0 ≤ x % 8 := Int.emod_nonneg x (by decide)
  have h2 : x % 8 < 8 := Int.emod_lt_of_pos x (by decide)
  generalize x % 8 = y at h1 h2
  have h : y.toNat < 8 := by omega
  generalize y.toNat = k at h
  revert k
  decide
def some' (ns : List Int) (start m count : Nat) : List Crowd := (List.range count).map fun (k : Nat) => bits (cell ns (start + k) % 32) m
def wts (ns : List Int) (start m : Nat) : List Int := (List.range m).map fun (k : Nat) => cell ns (start + k) % 7
def weigh (ws : List Int) (c : Crowd) : Int := (c.map fun i => ws.getD i.toNat 0).sum
def weighedCrowds (ns : List Int) (start m : Nat) : List Crowd := (crowdsOf m).filter fun c => decide (1 + cell ns (start + m) % max 1 (wts ns start m).sum ≤ weigh (wts ns start m) c)
def evens (m : Nat) (size : Int) : List Crowd := (crowdsOf m).filter fun c => decide ((c.length : Int) = size)
def toldOf (ns : List Int) (start m : Nat) : List Crowd :=
  let way := cell ns start % 5
  if way = 0 then some' ns (start + 2) m (cell ns (start + 1) % 7).toNat
  else if way = 1 then weighedCrowds ns (start + 2) m
  else if way = 3 then
    let ev := evens m (2 + cell ns (start + 1) % 2)
    let out := bits (cell ns (start + 2) % 1024 * (if 0 < cell ns (start + 3) % 3 then 1 else 0)) 10
    ((List.range ev.length).filter fun (k : Nat) => !decide ((k : Int) ∈ out)).map fun (k : Nat) => ev.getD k []
  else (some' ns (start + 2) m (2 + (cell ns (start + 1) % 6).toNat)).filter fun c => decide (1 < (c.length : Int)) || decide (way = 2)
def lawLeast (told : List Crowd) (n : Nat) : List Crowd :=
  let carrying := (crowdsOf n).filter (bears told)
  carrying.filter fun c => decide ((carrying.filter fun one => !decide (one = c) && liesIn one c).length = 0)
end Vw

/-! plain laws -/
namespace Vw
theorem liesIn_iff {a b : Crowd} : liesIn a b = true ↔ ∀ m ∈ a, m ∈ b := by
  unfold liesIn
  rw [List.all_eq_true]
  simp
theorem liesIn_trans {a b c : Crowd} (h1 : liesIn a b = true) (h2 : liesIn b c = true) : liesIn a c = true := liesIn_iff.mpr fun m hm => liesIn_iff.mp h2 m (liesIn_iff.mp h1 m hm)
theorem liesIn_refl (a : Crowd) : liesIn a a = true := liesIn_iff.mpr fun _ h => h
theorem bears_mono {told : List Crowd} {c d : Crowd} (h : bears told c = true) (hl : liesIn c d = true) : bears told d = true := by
  unfold bears at h ⊢
  obtain ⟨t, ht, hc⟩ := List.any_eq_true.mp h
  exact List.any_eq_true.mpr ⟨t, ht, liesIn_trans hc hl⟩
theorem crowdsOf_order' : ∀ n < 6, ∀ j < 33, ∀ i < 33, (match (crowdsOf n)[i]?, (crowdsOf n)[j]? with | some d, some c => !liesIn d c || decide (d = c) || decide (i < j) | _, _ => true) = true := by decide +kernel
theorem crowdsOf_nodup : ∀ n < 6, (crowdsOf n).Nodup := by decide +kernel
theorem crowdsOf_order {n : Nat} (hn : n ≤ 5) {i j : Nat} {d c : Crowd} (hi : (crowdsOf n)[i]? = some d) (hj : (crowdsOf n)[j]? = some c) (hl : liesIn d c = true) (hne : d ≠ c) : i < j := by
  have hl1 := crowdsOf_len hn
  have h1 : i < 33 := by have := (List.getElem?_eq_some_iff.mp hi).1; omega
  have h2 : j < 33 := by have := (List.getElem?_eq_some_iff.mp hj).1; omega
  have h := crowdsOf_order' n (by omega) j h2 i h1
  rw [hi, hj] at h
  simpa [hl, hne] using h
/-- c carries, and no other crowd that carries lies in it -/
def isLeast (told : List Crowd) (n : Nat) (c : Crowd) : Bool := bears told c && (crowdsOf n).all fun one => !bears told one || decide (one = c) || !liesIn one c
theorem isLeast_iff {told : List Crowd} {n : Nat} {c : Crowd} : isLeast told n c = true ↔ bears told c = true ∧ ∀ one ∈ crowdsOf n, bears told one = true → one ≠ c → liesIn one c = false := by
  unfold isLeast
  rw [Bool.and_eq_true, List.all_eq_true]
  constructor
  · rintro ⟨h1, h2⟩
    refine ⟨h1, fun one ho hb hne => ?_⟩
    have := h2 one ho
    simpa [hb, hne] using this
  · rintro ⟨h1, h2⟩
    refine ⟨h1, fun one ho => ?_⟩
    cases hb : bears told one with
    | false => rfl
    | true =>
      by_cases hne : one = c
      · simp [hne]
      · simp [h2 one ho hb hne]
theorem least_below {told : List Crowd} {n : Nat} (hn : n ≤ 5) : ∀ (i : Nat) (c : Crowd), (crowdsOf n)[i]? = some c → bears told c = true → ∃ j d, j ≤ i ∧ (crowdsOf n)[j]? = some d ∧ isLeast told n d = true ∧ liesIn d c = true := by
  intro i
  induction i using Nat.strongRecOn with
  | ind i ih =>
    intro c hc hb
    by_cases h : isLeast told n c = true
    · exact ⟨i, c, Nat.le_refl _, hc, h, liesIn_refl c⟩
    · have : ∃ one ∈ crowdsOf n, bears told one = true ∧ one ≠ c ∧ liesIn one c = true := by
        apply Classical.byContradiction
        intro no
        refine h (isLeast_iff.mpr ⟨hb, fun one ho hbo hne => ?_⟩)
        cases q : liesIn one c with
        | false => rfl
        | true => exact absurd ⟨one, ho, hbo, hne, q⟩ no
      obtain ⟨one, ho, hbo, hne, hl⟩ := this
      obtain ⟨k, hk⟩ := List.getElem?_of_mem ho
      have hki : k < i := crowdsOf_order hn hk hc hl hne
      obtain ⟨j, d, hj, hd, hm, hl2⟩ := ih k hki one hk hbo
      exact ⟨j, d, by omega, hd, hm, liesIn_trans hl2 hl⟩
theorem least_prefix {told : List Crowd} {n : Nat} (hn : n ≤ 5) : ∀ i, ((crowdsOf n).take i).foldl (leastStep told) [] = ((crowdsOf n).take i).filter (isLeast told n)
  | 0 => rfl
  | i + 1 => by
    have ih := least_prefix (told := told) hn i
    cases hc : (crowdsOf n)[i]? with
    | none =>
      have hl : (crowdsOf n).length ≤ i := List.getElem?_eq_none_iff.mp hc
      rw [List.take_of_length_le (by omega)]
      rw [List.take_of_length_le hl] at ih
      exact ih
    | some c =>
      rw [List.take_add_one, hc]
      simp only [Option.toList_some]
      rw [List.foldl_append, ih, List.filter_append, List.foldl_cons, List.foldl_nil]
      have key : (bears told c && !(((crowdsOf n).take i).filter (isLeast told n)).any fun one => liesIn one c) = isLeast told n c := by
        cases h : isLeast told n c with
        | true =>
          obtain ⟨h1, h2⟩ := isLeast_iff.mp h
          rw [h1, Bool.true_and, Bool.not_eq_true']
          refine List.any_eq_false.mpr fun one hone => ?_
          obtain ⟨m1, m2⟩ := List.mem_filter.mp hone
          have hcs : one ∈ crowdsOf n := List.mem_of_mem_take m1
          have hne : one ≠ c := by
            intro e
            subst e
            obtain ⟨k, hk⟩ := List.getElem?_of_mem m1
            have hki : k < i := by
              have := (List.getElem?_eq_some_iff.mp hk).1
              rw [List.length_take] at this
              omega
            rw [List.getElem?_take_of_lt hki] at hk
            obtain ⟨hk1, hk2⟩ := List.getElem?_eq_some_iff.mp hk
            obtain ⟨hc1, hc2⟩ := List.getElem?_eq_some_iff.mp hc
            have := (List.getElem_inj (crowdsOf_nodup n (by omega))).mp (hk2.trans hc2.symm)
            omega
          have := h2 one hcs (isLeast_iff.mp m2).1 hne
          rw [this]
          decide
        | false =>
          cases hb : bears told c with
          | false => rfl
          | true =>
            rw [Bool.true_and, Bool.not_eq_false']
            obtain ⟨j, d, hj, hd, hm, hl⟩ := least_below hn i c hc hb
            have hji : j < i := by
              rcases Nat.lt_or_ge j i with q | q
              · exact q
              · have : j = i := by omega
                subst this
                rw [hc] at hd
                cases hd
                rw [h] at hm
                cases hm
            refine List.any_eq_true.mpr ⟨d, List.mem_filter.mpr ⟨?_, hm⟩, hl⟩
            exact List.mem_of_getElem? (i := j) (by rw [List.getElem?_take_of_lt hji]; exact hd)
      unfold leastStep
      rw [key]
      cases h : isLeast told n c with
      | true => simp [h]
      | false => simp [h]
theorem least_eq {told : List Crowd} {n : Nat} (hn : n ≤ 5) : least n told = (crowdsOf n).filter (isLeast told n) := by
  have h := least_prefix (told := told) hn (crowdsOf n).length
  rw [List.take_length] at h
  exact h
theorem lawLeast_eq {told : List Crowd} {n : Nat} : lawLeast told n = (crowdsOf n).filter (isLeast told n) := by
  unfold lawLeast
  simp only
  rw [List.filter_filter]
  refine List.filter_congr fun c hc => ?_
  rw [Bool.and_comm]
  unfold isLeast
  cases hb : bears told c with
  | false => rfl
  | true =>
    rw [Bool.true_and, Bool.true_and, Bool.eq_iff_iff, decide_eq_true_eq, List.all_eq_true, List.length_eq_zero_iff, List.filter_eq_nil_iff]
    constructor
    · intro h one ho
      cases hbo : bears told one with
      | false => rfl
      | true =>
        have := h one (List.mem_filter.mpr ⟨ho, hbo⟩)
        by_cases e : one = c
        · simp [e]
        · simpa [e] using this
    · intro h one ho
      obtain ⟨h1, h2⟩ := List.mem_filter.mp ho
      have := h one h1
      by_cases e : one = c
      · simp [e]
      · simpa [e, h2] using this
theorem least_lawLeast {told : List Crowd} {n : Nat} (hn : n ≤ 5) : least n told = lawLeast told n := by rw [least_eq hn, lawLeast_eq]
/-! ### the crowds told are crowds -/
theorem bits_good' : ∀ m : Nat, m < 6 → ∀ x : Nat, x < 32 → crowdOk (m : Int) (bits (x : Int) m) = true ∧ (bits (x : Int) m).length ≤ 5 := by decide +kernel
theorem bits_good {m : Nat} (hm : m ≤ 5) (x : Int) : crowdOk (m : Int) (bits (x % 32) m) = true ∧ (bits (x % 32) m).length ≤ 5 := by
  have h1 : 0 ≤ x % 32 := Int.emod_nonneg x (by decide)
  have h2 : x % 32 < 32 := Int.emod_lt_of_pos x (by decide)
  have h := bits_good' m (by omega) (x % 32).toNat (by omega)
  rw [Int.toNat_of_nonneg h1] at h
  exact h
theorem some_good {ns : List Int} {start m count : Nat} (hm : m ≤ 5) : ∀ c ∈ some' ns start m count, crowdOk (m : Int) c = true ∧ c.length ≤ 5 := fun c hc => by
  obtain ⟨k, _, rfl⟩ := List.mem_map.mp hc
  exact bits_good hm _
theorem cs_good {m : Nat} (hm : m ≤ 5) {c : Crowd} (hc : c ∈ crowdsOf m) : crowdOk (m : Int) c = true ∧ c.length ≤ 5 := ⟨crowdsOf_good m (by omega) c hc, crowdsOf_clen m (by omega) c hc⟩
theorem told_good {ns : List Int} {start m : Nat} (hm : m ≤ 5) : ∀ c ∈ toldOf ns start m, crowdOk (m : Int) c = true ∧ c.length ≤ 5 := by
  intro c hc
  unfold toldOf at hc
  simp only at hc
  split at hc
  · exact some_good hm c hc
  · split at hc
    · exact cs_good hm (List.mem_filter.mp hc).1
    · split at hc
      · obtain ⟨k, hk, rfl⟩ := List.mem_map.mp hc
        have hk2 := List.mem_range.mp (List.mem_filter.mp hk).1
        have : (evens m (2 + cell ns (start + 1) % 2)).getD k [] ∈ evens m (2 + cell ns (start + 1) % 2) := by
          rw [List.getD_eq_getElem?_getD, List.getElem?_eq_getElem hk2]
          exact List.getElem_mem hk2
        exact cs_good hm (List.mem_filter.mp this).1
      · exact some_good hm c (List.mem_filter.mp hc).1
theorem told_len {ns : List Int} {start m : Nat} (hm : m ≤ 5) : (toldOf ns start m).length ≤ 32 := by
  unfold toldOf
  simp only
  split
  · simp [some']
    have : cell ns (start + 1) % 7 < 7 := Int.emod_lt_of_pos _ (by decide)
    omega
  · split
    · exact Nat.le_trans (List.length_filter_le _ _) (crowdsOf_len hm)
    · split
      · rw [List.length_map]
        refine Nat.le_trans (List.length_filter_le _ _) ?_
        rw [List.length_range]
        exact Nat.le_trans (List.length_filter_le _ _) (crowdsOf_len hm)
      · refine Nat.le_trans (List.length_filter_le _ _) ?_
        simp [some']
        have : cell ns (start + 1) % 6 < 6 := Int.emod_lt_of_pos _ (by decide)
        omega
theorem cut_mem {α : Type} {xs : List α} {lo hi : Option Int} {x : α} (h : x ∈ cut xs lo hi) : x ∈ xs := List.mem_of_mem_drop (List.mem_of_mem_take h)
theorem cut_len {α : Type} {xs : List α} {lo hi : Option Int} : (cut xs lo hi).length ≤ xs.length := by
  unfold cut
  rw [List.length_take, List.length_drop]
  omega
theorem cut_map {α β : Type} (f : α → β) (xs : List α) (lo hi : Option Int) : (cut xs lo hi).map f = cut (xs.map f) lo hi := by
  unfold cut
  rw [List.map_take, List.map_drop, List.length_map]
theorem couRes_ok {m : Nat} {cs : List Crowd} (h1 : 1 ≤ m) (h5 : m ≤ 5) (h : ∀ c ∈ cs, crowdOk (m : Int) c = true) : couRes (m : Int) cs = .val (.cou m cs) := by
  unfold couRes
  rw [if_neg (by omega), if_pos (List.all_eq_true.mpr h)]
end Vw

/-! members: with them, vetoes, idle ones, who can do all -/
namespace Vw
def insU (x : Int) : List Int → List Int
  | [] => [x]
  | y :: ys => if x < y then x :: y :: ys else if x = y then y :: ys else y :: insU x ys
def sortU : List Int → List Int
  | [] => []
  | x :: xs => insU x (sortU xs)
theorem insU_mem {x k : Int} : ∀ {ys : List Int}, k ∈ insU x ys ↔ k = x ∨ k ∈ ys
  | [] => by simp [insU]
  | y :: ys => by
    unfold insU
    split
    · simp
    · split
      · rename_i h
        subst h
        simp
      · rw [List.mem_cons, insU_mem, List.mem_cons]
        constructor
        · rintro (h | h | h)
          · exact .inr (.inl h)
          · exact .inl h
          · exact .inr (.inr h)
        · rintro (h | h | h)
          · exact .inr (.inl h)
          · exact .inl h
          · exact .inr (.inr h)
theorem insU_sorted {x : Int} : ∀ {ys : List Int}, ys.Pairwise (· < ·) → (insU x ys).Pairwise (· < ·)
  | [], _ => by simp [insU]
  | y :: ys, h => by
    have h' := List.pairwise_cons.mp h
    unfold insU
    split
    · rename_i q
      refine List.pairwise_cons.mpr ⟨fun a ha => ?_, h⟩
      rcases List.mem_cons.mp ha with e | ha
      · rw [e]
        exact q
      · have := h'.1 a ha
        omega
    · split
      · exact h
      · rename_i q1 q2
        refine List.pairwise_cons.mpr ⟨fun a ha => ?_, insU_sorted h'.2⟩
        rcases insU_mem.mp ha with e | ha
        · omega
        · exact h'.1 a ha
theorem sortU_mem {k : Int} : ∀ {xs : List Int}, k ∈ sortU xs ↔ k ∈ xs
  | [] => by simp [sortU]
  | x :: xs => by
    unfold sortU
    rw [insU_mem, sortU_mem, List.mem_cons]
theorem sortU_sorted : ∀ xs : List Int, (sortU xs).Pairwise (· < ·)
  | [] => .nil
  | x :: xs => insU_sorted (sortU_sorted xs)
theorem insU_len {x : Int} : ∀ ys : List Int, (insU x ys).length ≤ ys.length + 1
  | [] => by simp [insU]
  | y :: ys => by
    unfold insU
    split
    · simp
    · split
      · simp
      · have := insU_len (x := x) ys
        simp
        omega
theorem sortU_len : ∀ xs : List Int, (sortU xs).length ≤ xs.length
  | [] => by simp [sortU]
  | x :: xs => by
    unfold sortU
    have := insU_len (x := x) (sortU xs)
    have := sortU_len xs
    simp
    omega
/-- two rising lists of the same members are one -/
theorem sorted_ext {a b : List Int} (ha : a.Pairwise (· < ·)) (hb : b.Pairwise (· < ·)) (h : ∀ k, k ∈ a ↔ k ∈ b) : a = b := by
  have p : a.Perm b := (List.perm_ext_iff_of_nodup (ha.imp fun {a b} h => Int.ne_of_lt h) (hb.imp fun {a b} h => Int.ne_of_lt h)).mpr h
  exact p.eq_of_pairwise (fun a b _ _ h1 h2 => by omega) ha hb
def withThem (c more : Crowd) : Crowd := sortU (c ++ more)
theorem withThem_mem {c more : Crowd} {k : Int} : k ∈ withThem c more ↔ k ∈ c ∨ k ∈ more := by
  unfold withThem
  rw [sortU_mem, List.mem_append]
theorem withThem_len (c more : Crowd) : (withThem c more).length ≤ c.length + more.length := by
  unfold withThem
  have := sortU_len (c ++ more)
  rw [List.length_append] at this
  exact this
theorem good_sorted {n : Int} : ∀ {c : List Int} {last : Int}, goodFrom n last c = true → c.Pairwise (· < ·)
  | [], _, _ => .nil
  | x :: c, last, h => by
    unfold goodFrom at h
    split at h
    · cases h
    · refine .cons (fun m hm => ?_) (good_sorted h)
      have go : ∀ {c : List Int} {last : Int}, goodFrom n last c = true → ∀ m ∈ c, last < m := by
        intro c
        induction c with
        | nil => intro _ _ m hm; simp at hm
        | cons y c ih =>
          intro last h m hm
          unfold goodFrom at h
          split at h
          · cases h
          · rename_i q
            rcases List.mem_cons.mp hm with e | hm
            · omega
            · have := ih h m hm
              omega
      exact go h m hm
theorem good_of {n : Int} : ∀ {c : List Int} {last : Int}, c.Pairwise (· < ·) → (∀ m ∈ c, last < m ∧ m < n) → goodFrom n last c = true
  | [], _, _, _ => rfl
  | x :: c, last, h, hb => by
    have h' := List.pairwise_cons.mp h
    have hx := hb x (List.mem_cons_self ..)
    unfold goodFrom
    rw [if_neg (by omega)]
    exact good_of h'.2 fun m hm => ⟨h'.1 m hm, (hb m (List.mem_cons_of_mem _ hm)).2⟩
theorem good_bounds {n : Int} : ∀ {c : List Int} {last : Int}, goodFrom n last c = true → ∀ m ∈ c, last < m ∧ m < n
  | [], _, _, m, hm => by simp at hm
  | x :: c, last, h, m, hm => by
    unfold goodFrom at h
    split at h
    · cases h
    · rename_i q
      rcases List.mem_cons.mp hm with e | hm
      · omega
      · have := good_bounds h m hm
        omega
theorem crowdOk_iff {n : Int} {c : Crowd} : crowdOk n c = true ↔ c.Pairwise (· < ·) ∧ ∀ m ∈ c, 0 ≤ m ∧ m < n := by
  unfold crowdOk
  constructor
  · intro h
    exact ⟨good_sorted h, fun m hm => by have := good_bounds h m hm; omega⟩
  · rintro ⟨h1, h2⟩
    exact good_of h1 fun m hm => by have := h2 m hm; omega
theorem with_ok {n : Int} {c : Crowd} {m : Int} (h : crowdOk n c = true) (h0 : 0 ≤ m) (h1 : m < n) : crowdOk n (withThem c [m]) = true := by
  rw [crowdOk_iff] at h ⊢
  refine ⟨sortU_sorted _, fun k hk => ?_⟩
  rcases withThem_mem.mp hk with q | q
  · exact h.2 k q
  · have : k = m := by simpa using q
    omega
theorem crowdOk_mem {n : Int} {c : Crowd} (h : crowdOk n c = true) : ∀ m ∈ c, 0 ≤ m ∧ m < n := (crowdOk_iff.mp h).2
theorem foldl_pick {α β : Type} (p : α → Bool) (f : α → β) : ∀ (xs : List α) (acc : List β), xs.foldl (fun acc x => if p x = true then acc ++ [f x] else acc) acc = acc ++ (xs.filter p).map f
  | [], acc => by simp
  | x :: xs, acc => by
    rw [List.foldl_cons, foldl_pick p f xs, List.filter_cons]
    split <;> simp
theorem foldl_pick_len {α β : Type} (p : α → Bool) (f : α → β) (xs : List α) (i : Nat) : ((xs.take i).foldl (fun acc x => if p x = true then acc ++ [f x] else acc) []).length ≤ xs.length := by
  rw [foldl_pick, List.nil_append, List.length_map]
  refine Nat.le_trans (List.length_filter_le _ _) ?_
  rw [List.length_take]
  exact Nat.min_le_right _ _
def rng (n : Nat) : List Int := (List.range n).map fun (k : Nat) => (k : Int)
def isVeto (n : Nat) (told : List Crowd) (m : Nat) : Bool := decide ((crowdsOf n).filter (fun c => !decide ((m : Int) ∈ c) && bears told c) = [])
def vetoesOf (n : Nat) (told : List Crowd) : List Int := ((List.range n).filter (isVeto n told)).map fun (k : Nat) => (k : Int)
def isIdle (n : Nat) (told : List Crowd) (m : Nat) : Bool := !!((least n told).filter fun c => decide ((m : Int) ∈ c)).isEmpty
def idleOf (n : Nat) (told : List Crowd) : List Int := ((List.range n).filter (isIdle n told)).map fun (k : Nat) => (k : Int)
def canStep (told : List Crowd) (a b : Int) (c : Crowd) : Bool := !(!decide (a ∈ c) && !decide (b ∈ c)) || !(bears told (withThem c [b]) && !bears told (withThem c [a]))
def canAll (n : Nat) (told : List Crowd) (a b : Int) : Bool := (crowdsOf n).all (canStep told a b)
theorem canAll_self (n : Nat) (told : List Crowd) (a : Int) : canAll n told a a = true := by
  unfold canAll
  rw [List.all_eq_true]
  intro c _
  unfold canStep
  cases decide (a ∈ c) <;> cases bears told (withThem c [a]) <;> rfl
end Vw

/-! swings, orders, powers -/
namespace Vw
def fact : Nat → Nat
  | 0 => 1
  | n + 1 => fact n * (n + 1)
def swings1 (told : List Crowd) (m : Int) (c : Crowd) : Bool := !decide (m ∈ c) && (!bears told c && bears told (withThem c [m]))
def swingsOf (n : Nat) (told : List Crowd) (m : Int) : List Crowd := (crowdsOf n).filter (swings1 told m)
def swingCounts (n : Nat) (told : List Crowd) : List Int := (List.range n).map fun (m : Nat) => ((swingsOf n told m).length : Int)
def topOf (n : Nat) (told : List Crowd) (m : Int) : Nat := ((swingsOf n told m).map fun c => fact c.length * fact (n - 1 - c.length)).sum
def lowestOf (a b : Nat) : Int × Int := (((a / Nat.gcd a b : Nat) : Int), ((b / Nat.gcd a b : Nat) : Int))
def powersOf (n : Nat) (told : List Crowd) : List (Int × Int) := (List.range n).map fun (m : Nat) => lowestOf (topOf n told m) (fact n)
def ordersOf : Nat → List Int → List (List Int)
  | 0, _ => [[]]
  | d + 1, ms => if ms = [] then [[]] else ms.flatMap fun m => (ordersOf d (ms.filter fun one => !decide (one = m))).map fun o => m :: o
def swing (told : List Crowd) (c : Crowd) (m : Int) : Bool := !bears told c && bears told (withThem c [m])
def swaysAux (told : List Crowd) : List Int → List Int → Option Int
  | _, [] => none
  | ahead, x :: xs => if swing told (sortU ahead) x = true then some x else swaysAux told (ahead ++ [x]) xs
def swaysOf (told : List Crowd) (o : List Int) : Option Int := swaysAux told [] o
theorem swaysAux_mem {told : List Crowd} {m : Int} : ∀ {xs ahead : List Int}, swaysAux told ahead xs = some m → m ∈ xs
  | [], _, h => by cases h
  | x :: xs, ahead, h => by
    unfold swaysAux at h
    split at h
    · cases h
      exact List.mem_cons_self ..
    · exact List.mem_cons_of_mem _ (swaysAux_mem h)
theorem bears_sub {told : List Crowd} {c d : Crowd} (h : bears told c = true) (hs : ∀ k ∈ c, k ∈ d) : bears told d = true := bears_mono h (liesIn_iff.mpr hs)
theorem swaysAux_iff {told : List Crowd} {m : Int} : ∀ {xs ahead : List Int}, (ahead ++ xs).Nodup → m ∈ xs → (swaysAux told ahead xs = some m ↔ swing told (sortU (ahead ++ xs.takeWhile fun x => !decide (x = m))) m = true)
  | [], _, _, h => by simp at h
  | x :: xs, ahead, nd, h => by
    unfold swaysAux
    by_cases e : x = m
    · subst e
      have et : (x :: xs).takeWhile (fun y => !decide (y = x)) = [] := by simp
      rw [et, List.append_nil]
      constructor
      · intro q
        split at q
        · assumption
        · have := swaysAux_mem q
          have nd2 := (List.nodup_append.mp nd).2.1
          exact absurd this (List.nodup_cons.mp nd2).1
      · intro q
        rw [if_pos q]
    · have et : (x :: xs).takeWhile (fun y => !decide (y = m)) = x :: xs.takeWhile fun y => !decide (y = m) := by simp [e]
      have hm : m ∈ xs := by
        rcases List.mem_cons.mp h with q | q
        · exact absurd q.symm e
        · exact q
      rw [et, show ahead ++ x :: xs.takeWhile (fun y => !decide (y = m)) = (ahead ++ [x]) ++ xs.takeWhile fun y => !decide (y = m) by simp]
      have ih := swaysAux_iff (told := told) (m := m) (xs := xs) (ahead := ahead ++ [x]) (by simpa using nd) hm
      split
      · rename_i q
        constructor
        · intro z
          cases z
          exact absurd rfl e
        · intro z
          unfold swing at q z
          have b1 : bears told (withThem (sortU ahead) [x]) = true := (Bool.and_eq_true_iff.mp q).2
          have b2 := (Bool.and_eq_true_iff.mp z).1
          have b3 := bears_sub (d := sortU ((ahead ++ [x]) ++ xs.takeWhile fun y => !decide (y = m))) b1 fun k hk => by
            rw [sortU_mem]
            rcases withThem_mem.mp hk with p | p
            · rw [sortU_mem] at p
              simp [p]
            · simp at p
              simp [p]
          rw [b3] at b2
          cases b2
      · exact ih
def predOf (m : Int) (o : List Int) : Crowd := sortU (o.takeWhile fun x => !decide (x = m))
theorem orders_mem : ∀ n < 6, ∀ o ∈ ordersOf n (rng n), (sortU o = rng n) ∧ o.length = n := by decide +kernel
theorem orders_len : ∀ n < 6, (ordersOf n (rng n)).length = fact n := by decide +kernel
theorem orders_small : ∀ n < 6, fact n ≤ 120 := by decide
theorem orders_pred : ∀ n < 6, ∀ m < n, ∀ c ∈ crowdsOf n, ((ordersOf n (rng n)).map (predOf (m : Int))).count c = if (m : Int) ∈ c then 0 else fact c.length * fact (n - 1 - c.length) := by decide +kernel
theorem orders_predin : ∀ n < 6, ∀ m < n, ∀ o ∈ ordersOf n (rng n), predOf (m : Int) o ∈ crowdsOf n := by decide +kernel
theorem orders_nodup : ∀ n < 6, ∀ o ∈ ordersOf n (rng n), o.Nodup := by decide +kernel
theorem sum_bump {c : Crowd} (f : Crowd → Nat) : ∀ {cs : List Crowd}, cs.Nodup → (cs.map fun x => f x + if x = c then 1 else 0).sum = (cs.map f).sum + if c ∈ cs then 1 else 0
  | [], _ => by simp
  | y :: ys, nd => by
    have nd' := List.nodup_cons.mp nd
    rw [List.map_cons, List.map_cons, List.sum_cons, List.sum_cons, sum_bump f nd'.2]
    by_cases e : y = c
    · subst e
      simp [nd'.1]
      omega
    · have : c ≠ y := fun q => e q.symm
      simp [e, this]
      omega
theorem countP_sum (p : Crowd → Bool) {cs : List Crowd} (nd : cs.Nodup) : ∀ L : List Crowd, (∀ x ∈ L, x ∈ cs) → L.countP p = ((cs.filter p).map fun c => L.count c).sum
  | [], _ => by
    have go : ∀ l : List Crowd, (l.map fun c => ([] : List Crowd).count c).sum = 0 := fun l => by
      induction l with
      | nil => rfl
      | cons a l ih => rw [List.map_cons, List.sum_cons, ih]; rfl
    rw [go]
    rfl
  | x :: L, h => by
    have ih := countP_sum p nd L fun y hy => h y (List.mem_cons_of_mem _ hy)
    have e : ((cs.filter p).map fun c => (x :: L).count c) = (cs.filter p).map fun c => L.count c + if c = x then 1 else 0 := by
      refine List.map_congr_left fun c _ => ?_
      rw [List.count_cons]
      by_cases q : c = x
      · subst q
        simp
      · have : x ≠ c := fun z => q z.symm
        simp [q, this]
    rw [e, sum_bump _ (nd.filter p), List.countP_cons, ih]
    have hx := h x (List.mem_cons_self ..)
    by_cases q : p x = true
    · rw [if_pos q, if_pos (List.mem_filter.mpr ⟨hx, q⟩)]
    · rw [if_neg q, if_neg (fun z => q (List.mem_filter.mp z).2)]
theorem sum_filter (q : Crowd → Bool) (f : Crowd → Nat) : ∀ l : List Crowd, (l.map fun c => if q c = true then 0 else f c).sum = ((l.filter fun c => !q c).map f).sum
  | [] => rfl
  | c :: l => by
    rw [List.map_cons, List.sum_cons, sum_filter q f l, List.filter_cons]
    cases q c <;> simp
theorem mem_rng {n : Nat} {m : Nat} (h : m < n) : (m : Int) ∈ rng n := List.mem_map.mpr ⟨m, List.mem_range.mpr h, rfl⟩
theorem sways_count {n : Nat} (hn : n ≤ 5) (told : List Crowd) {m : Nat} (hm : m < n) : ((ordersOf n (rng n)).map (swaysOf told)).count (some (m : Int)) = topOf n told m := by
  have e1 : ((ordersOf n (rng n)).map (swaysOf told)).count (some (m : Int)) = (ordersOf n (rng n)).countP fun o => swing told (predOf (m : Int) o) m := by
    unfold List.count
    rw [List.countP_map]
    refine List.countP_congr fun o ho => ?_
    have h1 := orders_mem n (by omega) o ho
    have h2 := orders_nodup n (by omega) o ho
    have h3 : (m : Int) ∈ o := by
      have := mem_rng hm
      rw [← h1.1, sortU_mem] at this
      exact this
    have h4 := swaysAux_iff (told := told) (m := (m : Int)) (xs := o) (ahead := []) (by simpa using h2) h3
    show (swaysOf told o == some (m : Int)) = true ↔ _
    rw [beq_iff_eq]
    unfold swaysOf
    rw [h4]
    rfl
  have e2 : ((ordersOf n (rng n)).countP fun o => swing told (predOf (m : Int) o) m) = ((ordersOf n (rng n)).map (predOf (m : Int))).countP fun c => swing told c m := by
    rw [List.countP_map]
    rfl
  rw [e1, e2, countP_sum _ (crowdsOf_nodup n (by omega)) _ (fun c hc => by
    obtain ⟨o, ho, rfl⟩ := List.mem_map.mp hc
    exact orders_predin n (by omega) m hm o ho)]
  have e3 : (((crowdsOf n).filter fun c => swing told c m).map fun c => ((ordersOf n (rng n)).map (predOf (m : Int))).count c) = ((crowdsOf n).filter fun c => swing told c m).map fun c => if decide ((m : Int) ∈ c) = true then 0 else fact c.length * fact (n - 1 - c.length) := by
    refine List.map_congr_left fun c hc => ?_
    rw [orders_pred n (by omega) m hm c (List.mem_filter.mp hc).1]
    by_cases q : (m : Int) ∈ c <;> simp [q]
  rw [e3, sum_filter, List.filter_filter]
  rfl
theorem topOf_le {n : Nat} (hn : n ≤ 5) (told : List Crowd) {m : Nat} (hm : m < n) : topOf n told m ≤ fact n := by
  rw [← sways_count hn told hm, ← orders_len n (by omega)]
  have := List.count_le_length (a := some (m : Int)) (l := (ordersOf n (rng n)).map (swaysOf told))
  rw [List.length_map] at this
  exact this
theorem fact_pos : ∀ n, 0 < fact n
  | 0 => by decide
  | n + 1 => Nat.mul_pos (fact_pos n) (Nat.succ_pos n)
theorem lowest_cross {a b : Nat} (hb : 0 < b) : (lowestOf a b).1 * (b : Int) = (a : Int) * (lowestOf a b).2 := by
  unfold lowestOf
  have hg := Nat.gcd_pos_of_pos_right a hb
  have h1 : a / Nat.gcd a b * Nat.gcd a b = a := Nat.div_mul_cancel (Nat.gcd_dvd_left a b)
  have h2 : b / Nat.gcd a b * Nat.gcd a b = b := Nat.div_mul_cancel (Nat.gcd_dvd_right a b)
  show ((a / Nat.gcd a b : Nat) : Int) * (b : Int) = (a : Int) * ((b / Nat.gcd a b : Nat) : Int)
  have : a / Nat.gcd a b * b = a * (b / Nat.gcd a b) := by
    generalize Nat.gcd a b = g at h1 h2 ⊢
    generalize a / g = x at h1 ⊢
    generalize b / g = y at h2 ⊢
    rw [← h1, ← h2, Nat.mul_comm y g, Nat.mul_assoc]
  exact_mod_cast this
theorem lowest_bottom {a b : Nat} (hb : 0 < b) : 1 ≤ (lowestOf a b).2 ∧ (lowestOf a b).2 ≤ b := by
  unfold lowestOf
  have hg := Nat.gcd_pos_of_pos_right a hb
  have h1 : 0 < b / Nat.gcd a b := Nat.div_pos (Nat.le_of_dvd hb (Nat.gcd_dvd_right a b)) hg
  have h2 : b / Nat.gcd a b ≤ b := Nat.div_le_self _ _
  constructor
  · show (1 : Int) ≤ ((b / Nat.gcd a b : Nat) : Int)
    omega
  · show ((b / Nat.gcd a b : Nat) : Int) ≤ (b : Int)
    omega
theorem lowest_top {a b : Nat} : 0 ≤ (lowestOf a b).1 ∧ (lowestOf a b).1 ≤ a := by
  unfold lowestOf
  have h2 : a / Nat.gcd a b ≤ a := Nat.div_le_self _ _
  constructor
  · exact Int.natCast_nonneg _
  · show ((a / Nat.gcd a b : Nat) : Int) ≤ (a : Int)
    omega
theorem lowest_coprime {a b : Nat} (hb : 0 < b) (d : Nat) (hd : 2 ≤ d) : ¬ ((lowestOf a b).1 % (d : Int) = 0 ∧ (lowestOf a b).2 % (d : Int) = 0) := by
  rintro ⟨h1, h2⟩
  unfold lowestOf at h1 h2
  have hg := Nat.gcd_pos_of_pos_right a hb
  have d1 : d ∣ a / Nat.gcd a b := by
    have : ((d : Nat) : Int) ∣ ((a / Nat.gcd a b : Nat) : Int) := Int.dvd_of_emod_eq_zero h1
    exact_mod_cast this
  have d2 : d ∣ b / Nat.gcd a b := by
    have : ((d : Nat) : Int) ∣ ((b / Nat.gcd a b : Nat) : Int) := Int.dvd_of_emod_eq_zero h2
    exact_mod_cast this
  have hc : Nat.gcd (a / Nat.gcd a b) (b / Nat.gcd a b) = 1 := by rw [Nat.gcd_div (Nat.gcd_dvd_left a b) (Nat.gcd_dvd_right a b), Nat.div_self hg]
  have : d ∣ 1 := hc ▸ Nat.dvd_gcd d1 d2
  have := Nat.le_of_dvd (by decide) this
  omega
theorem crowds_room : ∀ n < 6, ∀ m < n, ∀ c ∈ crowdsOf n, (m : Int) ∉ c → c.length ≤ n - 1 := by decide +kernel
end Vw

namespace Vw
open PySem L2 PySem.Spec PyProof.Rows
/-! ### try .. except, isinstance of a council and of an exception -/
structure CouT (K : PySem.W.Frag) (C : Addr) : Prop where
  ha : PySem.W.findIn K (.ref C) "__class__" = some (some (.builtin "object.__class__"))
  hn : PySem.W.specialIn K (.builtin "object.__class__") "__get__" = some (some (.builtin "getset_descriptor.__get__"))
  ht : PySem.W.takesIn K (.builtin "object.__class__") = some true
  hm : PySem.W.mroIn K C (.type "object") = some true
theorem evd_isiC {G : Cfg} {te : TE} {ρ : Rho} {n : Int} {told : List (List Int)} (h : EvD G te ρ (.cou n told)) (c : CouT G.K G.C) (cl : Cls G.K G.C) : EvD G (tCB (rIsi G.K) (tCons te (tCons (tC (.ref G.C)) tNil))) ρ (.bl true) := fun F0 H0 F H σ E Q q =>
  h F0 H0 F H σ E _ fun v F1 H1 g r1 => by
  obtain ⟨a, dx, l, vs, rfl, h1, _, _⟩ := r1.cou_at
  exact ⟨.ref a, .ref G.C, .ref G.C, .ref G.C, true, rfl, .own G.C, .base (.ins (g.sub _ _ h1) cl c.ha c.hn c.ht c.hm), by show (if (Value.ref G.C == Value.ref G.C) = true then _ else _) = _; rw [if_pos (by simp)], q _ F1 H1 g (.bl true)⟩
/-- what is known of an exception's class: V the class of all refusals -/
structure ExK (G : Cfg) (V : Addr) (e : Err) (ts : List Err) : Prop where
  c : ExcC G.K (G.ex e)
  m : PySem.W.exmOne G.K (.ref (G.ex e)) (.ref V) = some true
  k : ∀ x : Err, x ∈ ts → PySem.W.kitOne G.K (.ref (G.ex e)) (.ref (G.ex x)) = some (decide (e = x))
  v : PySem.W.kitOne G.K (.ref (G.ex e)) (.type "ValueError") = some true
theorem kit_self {K : PySem.W.Frag} {E : Addr} : PySem.W.kitOne K (.ref E) (.ref E) = some true := by
  show (if (Value.ref E == Value.ref E) = true then _ else _) = _
  rw [if_pos (by simp)]
theorem kit_other {K : PySem.W.Frag} {E Y : Addr} (hd : PySem.W.hasDictIn K Y = true) (ht : PySem.W.typeIn K (.ref Y) = some (.type "type")) (hs : PySem.W.subIn K (.ref E) (.ref Y) = some false) (hE : PySem.W.subIn K (.ref E) (.ref E) = some true) : PySem.W.kitOne K (.ref E) (.ref Y) = some false := by
  have ne : ¬ (Value.ref E == Value.ref Y) = true := fun z => by
    have e : Value.ref E = Value.ref Y := beq_iff_eq.mp z
    rw [← e, hE] at hs
    cases hs
  obtain ⟨cd, hc, _⟩ := PySem.W.any_some hd
  show (if _ then _ else PySem.W.kitCls K _ _) = _
  rw [if_neg ne]
  show (if ((PySem.W.clsIn K Y).isSome && PySem.W.typeIn K (.ref Y) == some (.type "type")) = true then _ else none) = _
  rw [hc, ht, if_pos (by simp), hs]
theorem kit_ve {K : PySem.W.Frag} {E : Addr} (hs : PySem.W.subIn K (.ref E) (.type "ValueError") = some true) : PySem.W.kitOne K (.ref E) (.type "ValueError") = some true := by
  show (if (Value.ref E == Value.type "ValueError") = true then _ else PySem.W.kitCls K _ _) = _
  rw [if_neg (by simp)]
  show (if PySem.W.kitMeta "ValueError" = true then _ else none) = _
  rw [hs]
  exact if_pos (show PySem.W.kitMeta "ValueError" = true by decide +kernel)
def rIsEx (K : PySem.W.Frag) (cls : Value) (d : Option Addr) (a : Addr) : List V → Hp → VK → Prop := fun xs H Q => d = none ∧ ∃ D, cls = .ref D ∧ ExcC K D ∧ rIsE K D a xs H Q
theorem k_isE {X : Cx} {K : PySem.W.Frag} {a : Addr} {cls : Value} {oe : Obj} {d : Option Addr} {pn : List (Addr × Obj)} (hz : Zc cls d oe) (hf : ∃ vs, oe.data = .fields vs) (hK : X.K = K := by rfl) : CallR (X.suite a ((a, oe) :: pn)) (.builtin "isinstance") (rIsEx K cls d a) := by
  subst hK
  intro pins s σ H xs us Q I r h
  obtain ⟨rfl, D, rfl, c, h⟩ := h
  exact call_isE c hz hf pins s σ H xs us Q I r h
section
variable {X : Cx} {G : Cfg} {x m : Str} {k : Nat} {ps : List Str} {R : List D → Res → Prop} {e o : Expr} {es : List Expr} {p pos apos : Pos} {ta : TA} {te : TE} {W : WX}
theorem passS {CX : CXT} (h : CX = CX0 ∨ CX = L2.CX X.prog X.w) (tk : Takes X W) (σ : L2.St) : PassesAt CX X σ (WE W σ) := by
  rcases h with h | h
  · subst h
    exact fun _ _ _ _ _ _ h => h.elim
  · subst h
    exact passAt tk σ
theorem pe_callS' (H : Fn G X.prog X.w X.mg X.base x k ps R) (hr : Room k X.A) (hg : Gl X x) (tk : Takes X W) (ha : PA X (e :: es) ta) (hK : G.K = X.K := by rfl) (hdb : (x == ("__debug__" : Str)) = false := by decide)
    (he : starEach (e :: es) X.env = (false, eval e X.env) :: starEach es X.env := by rfl) (hpl : (backTo pos (starEach es X.env)).any (·.1) = false := by rfl) :
    PE X (.Call (.Name x p) (e :: es) [] pos) (tCallS (mkSp G R) (WE W) ta) := by
  obtain ⟨CX, f, fd, hx, hf, hm, hk, hb⟩ := H.ex
  rw [hK] at hf hk hb
  exact pe_callS hf hr hg hm hk hb (fun σ => passS hx tk σ) ha hdb he hpl
def tMethW (C : Addr) (m : Str) (sp : Sp) (E : L2.St → XK) (ta : TE) (t : TA) : TE := fun σ H Q => ta σ H fun x H1 => ∃ a dx fs, x = .ref a ∧ H1 a = some (.ins C dx fs) ∧ fs.lookup m = none ∧
  t σ H1 fun vs H2 => sp (x :: vs) H2 Q (E σ)
theorem pe_methS' {pl : Sem Bool} (he : PE X o te) (c : Cls G.K G.C) (H : Mt G X.prog X.w X.mg X.base m k ps R) (hr : Room k X.A) (tk : Takes X W) (ha : PA X (e :: es) ta) (hK : G.K = X.K := by rfl)
    (hst : starEach (e :: es) X.env = (false, eval e X.env) :: starEach es X.env := by rfl) (hpl : (backTo pos (starEach es X.env)).any (·.1) = false := by rfl)
    (ht : eval (.Call (.Attribute o m apos) (e :: es) [] pos) X.env = (do
      let ov ← eval o X.env
      standAt apos.atName
      let (f, first) ← holding [ov] (getMethod ov m pl)
      callWith pos f first (backTo pos (starEach (e :: es) X.env)) (backToKw pos (keywordEach [] X.env))) := by rfl) :
    PE X (.Call (.Attribute o m apos) (e :: es) [] pos) (tMethW G.C m (mkSp G R) (WE W) te ta) := by
  obtain ⟨CX, f, fd, hx, hf, hm, hb⟩ := H.ex
  rw [hK] at hf hm hb c
  refine ⟨fun pins s σ H Q I h => ?_⟩
  refine PySem.W.methodCall_KW (pl := pl) (thn (he.run pins s σ H _ I h) fun u s1 ⟨x, H1, I1, rx, a, dx, fs, ex, ea, l, q⟩ => ?_) ht
  subst ex
  obtain rfl : u = Value.ref a := rx
  refine getmeth_ok I1 ea c hm l ?_
  refine PySem.W.callWith_K (first := [.ref a]) (h₀ := X.base) I.ok.mod.kin hm.kp (thn (ha.run pos pins s1 σ H1 _ I1 q) fun us s2 ⟨vs, H2, I2, r, q2⟩ => ⟨I2.kIn, ?_⟩) hst hpl
  exact run_fnS (us := .ref a :: us) (vs := .ref a :: vs) (E := WE W) hf hr hb (passS hx tk σ) I2 (.cons rfl r) q2
def tMakeW (C : Addr) (sp : Sp) (E : L2.St → XK) (t : TA) : TE := fun σ H Q => t σ H fun vs H1 => ∀ x dx, H1 x = none → H1 dx = none → dx ≠ x →
  sp (.ref x :: vs) (upd (upd H1 dx (.own x)) x (.ins C dx [])) (fun v H2 => v = .non ∧ Q (.ref x) H2) (E σ)
theorem run_makeS {CX : CXT} {C f : Addr} {fd : FuncData} {sp : Sp} {E : L2.St → XK} {pins : List (Addr × Obj)} {σ : L2.St} {H : Hp} {s : Shared} {Q : VK} {us : List Value} {vs : List V} (M : Mk X.K C f) (F : FnOk X.prog X.w X.K X.mg X.base CX k f fd ps sp) (hr : Room (k + 1) X.A) (hb : Binds X.K fd ps [])
    (hx : PassesAt CX X σ (E σ)) (I : Inv X pins σ H s) (r : Vals vs us)
    (h : ∀ x dx, H x = none → H dx = none → dx ≠ x → sp (.ref x :: vs) (upd (upd H dx (.own x)) x (.ins C dx [])) (fun v H2 => v = .non ∧ Q (.ref x) H2) (E σ)) :
    wpAny (model X.prog X.w) X.A (call (.ref C) us) (EP X pins σ Q) X.xe s := by
  have hq := h (s.heap.objs.size + 1) s.heap.objs.size (I.hok.fresh (Nat.le_succ _)) (I.hok.fresh (Nat.le_refl _)) (Nat.ne_of_lt (Nat.lt_succ_self _))
  have I2 := Inv.made (C := C) I
  have r2 : Vals (V.ref (s.heap.objs.size + 1) :: vs) (Value.ref (s.heap.objs.size + 1) :: us) := .cons rfl r
  have hl : (Value.ref (s.heap.objs.size + 1) :: us ++ []).length = ps.length := by
    have e := r2.length
    rw [F.len _ _ _ _ hq] at e
    rw [List.append_nil]
    exact e.symm
  have hb2 := hb _ (Value.ref (s.heap.objs.size + 1) :: us) I2.kIn hl
  rw [List.append_nil] at hb2
  refine wpAny_call (make_map (f := f) I.kIn M.makes M.init (beq_iff_eq.mp M.fn) (codeAny_mono (F.run _ X.stack _ _ ⟨Value.ref (s.heap.objs.size + 1) :: us, []⟩ (Value.ref (s.heap.objs.size + 1) :: us) _ _ (E σ) (hr.make C us [])
    (I2.env0.make C us []) hb2 r2 hq) fun r s' hq' => ?_))
  cases r with
  | error e => exact hx pins _ _ e s' I2 hq'
  | ok fl =>
    cases fl with
    | ret u =>
      obtain ⟨v, H', I3, rv, ev, q3⟩ := I2.after hq'
      subst ev
      exact ⟨rv, ⟨V.ref (s.heap.objs.size + 1), H', I3, rfl, q3⟩⟩
    | next => exact False.elim hq'
    | brk => exact False.elim hq'
    | cont => exact False.elim hq'
theorem pe_makeS' (H : Ini G X.prog X.w X.mg X.base k) (hr : Room (k + 1) X.A) (hg : Gl X "Council") (tk : Takes X W) (ha : PA X (e :: es) ta) (hK : G.K = X.K := by rfl)
    (he : starEach (e :: es) X.env = (false, eval e X.env) :: starEach es X.env := by rfl) (hpl : (backTo pos (starEach es X.env)).any (·.1) = false := by rfl) :
    PE X (.Call (.Name "Council" p) (e :: es) [] pos) (tMakeW G.C (spInit G) (WE W) ta) := by
  obtain ⟨CX, f, fd, hx, hf, hm, hc, hb⟩ := H.ex
  rw [hK] at hf hm hb
  refine ⟨fun pins s σ H Q I h => ?_⟩
  refine wpAny_Call_Name_kw (ld_glob I hg hc ?_ (by decide))
  refine PySem.W.callWith_K (h₀ := X.base) I.ok.mod.kin hm.kp (thn (ha.run pos pins s σ H _ I h) fun us s1 ⟨vs, H1, I1, r, q⟩ => ⟨I1.kIn, ?_⟩) he hpl
  exact run_makeS (E := WE W) hm hf hr hb (passS hx tk σ) I1 r q
end
/-! ### the readings -/
theorem evx_is {G : Cfg} {E : XK} {te : TE} {ρ : Rho} {r r' : Res} (h : EvX G E te ρ r) (e : r = r') : EvX G E te ρ r' := e ▸ h

def TryQ (G : Cfg) (W' : WX) (D : Ends) (σ : L2.St) (F H : Hp) : Res → Prop
  | .err e => ∀ F' H', Grow F H F' H' → W' (.ref (G.ex e)) none σ H'
  | .val _ => ∀ F' H', Grow F H F' H' → D.nx σ H'
  | .new _ => ∀ F' H', Grow F H F' H' → D.nx σ H'
  | .trip _ _ _ => ∀ F' H', Grow F H F' H' → D.nx σ H'
def TryB (G : Cfg) (tb : WX → TS) (ρ : Rho) (r : Res) : Prop := ∀ F0 H0 F H σ, REnv G F0 H0 F H σ ρ → ∀ (W' : WX) (D : Ends), TryQ G W' D σ F H r → tb W' D σ H
section
variable {G : Cfg} {ρ : Rho} {ta : TA} {te : TE} {tt : TT} {t u : WX → TS} {r : Res} {b : Bool} {R : List D → Res → Prop} {ds : List D} {n : Int} {told cs : List (List Int)} {m : Str}
theorem Goes.dropped {F H F1 H1 : Hp} {W' : WX} {D : Ends} {σ : L2.St} (g : Grow F H F1 H1) (q : TryQ G W' D σ F H r) : Goes G F1 H1 (fun _ H' => D.nx σ H') (WE W' σ) r := by
  cases r with
  | val d => exact fun _ F' H' g' _ => q F' H' (g.trans g')
  | new ds => exact fun _ _ F' H' g' _ _ _ _ => q F' H' (g.trans g')
  | trip s W b => exact fun _ _ F' H' g' _ _ _ _ _ _ _ => q F' H' (g.trans g')
  | err e => exact fun F' H' g' => q F' H' (g.trans g')
theorem tryb_call (h : EvA G ta ρ ds) (hr : R ds r) : TryB G (fun W => tDrop (tCallS (mkSp G R) (WE W) ta)) ρ r := fun F0 H0 F H σ E W' D q =>
  h F0 H0 F H σ E _ fun vs F1 H1 g rr => ⟨F1, ds, r, g.sub, rr, hr, Goes.dropped g q⟩
theorem tryb_meth (h : EvD G te ρ (.cou n told)) (ha : EvA G ta ρ ds) (hr : R (.cou n told :: ds) r) (h1 : decide (m = "size") = false := by decide +kernel) (h2 : decide (m = "told") = false := by decide +kernel) : TryB G (fun W => tDrop (tMethW G.C m (mkSp G R) (WE W) te ta)) ρ r := fun F0 H0 F H σ E W' D q =>
  h F0 H0 F H σ E _ fun v F1 H1 g r1 => by
  obtain ⟨a, dx, l, vs, rfl, h3, h4, h5⟩ := r1.cou_at
  refine ⟨a, dx, _, rfl, g.sub _ _ h3, lk_no h1 h2, ha F0 H0 F1 H1 σ (E.grow g) _ fun ws F2 H2 g2 r2 => ⟨F2, .cou n told :: ds, r, g2.sub, .cons (.inl (r1.mono g2.ef)) r2, hr, Goes.dropped (g.trans g2) q⟩⟩
theorem tryb_make (h : EvA G ta ρ [.int n, .lst (cs.map eC)]) (hz : cs.length ≤ 10000) : TryB G (fun W => tDrop (tMakeW G.C (spInit G) (WE W) ta)) ρ (couRes n cs) := fun F0 H0 F H σ E W' D q => by
  have := evx_make (G := G) (E := WE W' σ) h hz F0 H0 F H σ E (fun _ H' => D.nx σ H') (Goes.dropped (.refl E.sub) q)
  unfold tMake at this
  simp only [List.append_nil] at this
  exact this
theorem tryb_if (h : EvT G tt ρ b) (h1 : b = true → TryB G t ρ r) (h2 : b = false → TryB G u ρ r) : TryB G (fun W => tIfS tt (t W) (u W)) ρ r := fun F0 H0 F H σ E W' D q =>
  h F0 H0 F H σ E _ fun F1 H1 g => by
  have q' : TryQ G W' D σ F1 H1 r := by
    cases r with
    | val d => exact fun F' H' g' => q F' H' (g.trans g')
    | new ds => exact fun F' H' g' => q F' H' (g.trans g')
    | trip s W b => exact fun F' H' g' => q F' H' (g.trans g')
    | err e => exact fun F' H' g' => q F' H' (g.trans g')
  cases b with
  | true =>
    rw [if_pos rfl]
    exact h1 rfl F0 H0 F1 H1 σ (E.grow g) W' D q'
  | false =>
    rw [if_neg (by decide)]
    exact h2 rfl F0 H0 F1 H1 σ (E.grow g) W' D q'
/-- behind the suite the exception's name is gone -/
def kSuite (k : Ks) (i : Nat) : Ks where
  nx ρ := k.nx (ρ.set i .no)
  rt := k.rt
  bk ρ := k.bk (ρ.set i .no)
  ct ρ := k.ct (ρ.set i .no)
def tTryAs (K : PySem.W.Frag) (c : Value) (i : Nat) (tb : WX → TS) (ts : Addr → Value → Option Addr → TS) (Wout : WX) : TS := fun D σ H => tb (wAs K c i ts Wout D) D σ H
def tTryOnly (K : PySem.W.Frag) (c : Value) (tb : WX → TS) (ts : Addr → Value → Option Addr → TS) (Wout : WX) : TS := fun D σ H => tb (wOnly K c ts Wout D) D σ H
def TryS (G : Cfg) (V : Addr) (k : Ks) (i : Nat) (ts : Addr → Value → Option Addr → TS) (ρ : Rho) : Res → Prop
  | .err e => PySem.W.exmOne G.K (.ref (G.ex e)) (.ref V) = some true ∧ ∀ a, WS G (fun _ _ _ _ => True) (ts a (.ref (G.ex e)) none) (kSuite k i) (ρ.set i (.im (.ptr a)))
  | .val _ => k.nx ρ
  | .new _ => k.nx ρ
  | .trip _ _ _ => k.nx ρ
theorem ws_tryAs {W Wout : WX} {k : Ks} {tb : WX → TS} {ts : Addr → Value → Option Addr → TS} {V : Addr} {i : Nat} (h : TryB G tb ρ r)
    (hm : TryS G V k i ts ρ r) :
    WS G W (tTryAs G.K (.ref V) i tb ts Wout) k ρ := fun F0 H0 F H σ D E K => by
  refine h F0 H0 F H σ E _ D ?_
  cases r with
  | val d => exact fun F' H' g' => K.nx ρ hm F' H' σ g'.ef (E.grow g')
  | new ds => exact fun F' H' g' => K.nx ρ hm F' H' σ g'.ef (E.grow g')
  | trip s W b => exact fun F' H' g' => K.nx ρ hm F' H' σ g'.ef (E.grow g')
  | err e =>
    refine fun F' H' g' => ⟨true, hm.1, fun _ a _ => ?_, fun z => nomatch z⟩
    refine hm.2 a F0 H0 F' H' _ _ ((E.grow g').setIm (.ptr a)) ⟨fun ρ' hn F2 H2 σ2 s2 R2 => K.nx _ hn F2 H2 _ (g'.ef.trans s2) R2.setNo, fun ρ' hn F2 H2 σ2 s2 R2 => K.bk _ hn F2 H2 _ (g'.ef.trans s2) R2.setNo, fun ρ' hn F2 H2 σ2 s2 R2 => K.ct _ hn F2 H2 _ (g'.ef.trans s2) R2.setNo, K.rt, fun _ z => z.elim⟩
theorem ws_tryOnly {W Wout : WX} {k : Ks} {tb : WX → TS} {ts : Addr → Value → Option Addr → TS} {V : Addr} (h : TryB G tb ρ r)
    (hm : match r with | .err e => PySem.W.exmOne G.K (.ref (G.ex e)) (.ref V) = some true ∧ ∀ a, WS G (fun _ _ _ _ => True) (ts a (.ref (G.ex e)) none) { k with er := fun _ => False } ρ | _ => k.nx ρ) :
    WS G W (tTryOnly G.K (.ref V) tb ts Wout) k ρ := fun F0 H0 F H σ D E K => by
  refine h F0 H0 F H σ E _ D ?_
  cases r with
  | val d => exact fun F' H' g' => K.nx ρ hm F' H' σ g'.ef (E.grow g')
  | new ds => exact fun F' H' g' => K.nx ρ hm F' H' σ g'.ef (E.grow g')
  | trip s W b => exact fun F' H' g' => K.nx ρ hm F' H' σ g'.ef (E.grow g')
  | err e =>
    refine fun F' H' g' => ⟨true, hm.1, fun _ a _ => ?_, fun z => nomatch z⟩
    exact hm.2 a F0 H0 F' H' _ _ (E.grow g') ⟨fun ρ' hn F2 H2 σ2 s2 R2 => K.nx _ hn F2 H2 _ (g'.ef.trans s2) R2, fun ρ' hn F2 H2 σ2 s2 R2 => K.bk _ hn F2 H2 _ (g'.ef.trans s2) R2, fun ρ' hn F2 H2 σ2 s2 R2 => K.ct _ hn F2 H2 _ (g'.ef.trans s2) R2, K.rt, fun _ z => z.elim⟩
/-- isinstance(e, x), e in slot i -/
theorem evd_isE {a V : Addr} {e : Err} {x : Err} {ts : List Err} (k : ExK G V e ts) (h : EvD G te ρ (.ptr a)) (hx : x ∈ ts := by decide) : EvD G (tCB (rIsEx G.K (.ref (G.ex e)) none a) (tCons te (tCons (tC (.ref (G.ex x))) tNil))) ρ (.bl (decide (e = x))) := fun F0 H0 F H σ E Q q =>
  h F0 H0 F H σ E _ fun v F1 H1 g r1 => by
    cases r1
    exact ⟨rfl, _, rfl, k.c, .ref (G.ex x), .ref (G.ex x), _, rfl, fun u hu => hu, k.k x hx, q _ F1 H1 g (.bl _)⟩
theorem evd_isEV {a V : Addr} {e : Err} {ts : List Err} (k : ExK G V e ts) (h : EvD G te ρ (.ptr a)) : EvD G (tCB (rIsEx G.K (.ref (G.ex e)) none a) (tCons te (tCons (tC (.ty "ValueError")) tNil))) ρ (.bl true) := fun F0 H0 F H σ E Q q =>
  h F0 H0 F H σ E _ fun v F1 H1 g r1 => by
    cases r1
    exact ⟨rfl, _, rfl, k.c, .ty "ValueError", .type "ValueError", _, rfl, fun u hu => hu, k.v, q _ F1 H1 g (.bl _)⟩
end
section
variable {X : Cx} {K : PySem.W.Frag} {x n : Str} {c : Value} {i : Nat} {body suite : List Stmt} {b₀ : Stmt} {np pos pos' : Pos} {tb : WX → TS} {ts : Addr → Value → Option Addr → TS} {Wout : WX}
theorem ps_tryAs (hs : X.stack = X.env :: X.outer) (hf : X.env.frame = some X.env.locals) (hN : X.N.Nodup) (hi : X.N[i]? = some n) (hln : X.env.kindOf n = some .local) (hc : Names X x c) (tk : Takes X Wout)
    (hb : ∀ (W : WX) (pn : List (Addr × Obj)) (xe : Value → Shared → Prop), Takes (X.tr pn xe) W → PassesOwn (model X.prog X.w) X.A X.env xe → PSs (X.tr pn xe) body (tb W))
    (hsu : ∀ (a : Addr) (oe : Obj) (cls : Value) (d : Option Addr) (pn : List (Addr × Obj)), Zc cls d oe → (∃ vs, oe.data = .fields vs) → PSs (X.suite a ((a, oe) :: pn)) (b₀ :: suite) (ts a cls d)) (hK : X.K = K := by rfl) :
    PS X (.Try body [.ExceptHandler (some (.Name x np)) (some n) (b₀ :: suite) pos'] [] [] pos) (tTryAs K c i tb ts Wout) := by
  subst hK
  exact ps_try_as hs hf hN hi hln hc tk hb hsu
theorem ps_tryOnly (hs : X.stack = X.env :: X.outer) (hf : X.env.frame = some X.env.locals) (hc : Names X x c) (tk : Takes X Wout)
    (hb : ∀ (W : WX) (pn : List (Addr × Obj)) (xe : Value → Shared → Prop), Takes (X.tr pn xe) W → PassesOwn (model X.prog X.w) X.A X.env xe → PSs (X.tr pn xe) body (tb W))
    (hsu : ∀ (a : Addr) (oe : Obj) (cls : Value) (d : Option Addr) (pn : List (Addr × Obj)), Zc cls d oe → (∃ vs, oe.data = .fields vs) → PSs (X.suite a ((a, oe) :: pn)) (b₀ :: suite) (ts a cls d)) (hK : X.K = K := by rfl) :
    PS X (.Try body [.ExceptHandler (some (.Name x np)) none (b₀ :: suite) pos'] [] [] pos) (tTryOnly K c tb ts Wout) := by
  subst hK
  exact ps_try_only hs hf hc tk hb hsu
end
end Vw

/-! councils made of others, or told by weights -/
namespace Vw
def Mono (n : Nat) (P : Crowd → Bool) : Prop := ∀ c ∈ crowdsOf n, ∀ d ∈ crowdsOf n, liesIn c d = true → P c = true → P d = true
theorem bears_filter {n : Nat} {P : Crowd → Bool} (hP : Mono n P) {c : Crowd} (hc : c ∈ crowdsOf n) : bears ((crowdsOf n).filter P) c = P c := by
  cases h : P c with
  | true => exact List.any_eq_true.mpr ⟨c, List.mem_filter.mpr ⟨hc, h⟩, liesIn_refl c⟩
  | false =>
    refine List.any_eq_false.mpr fun t ht hl => ?_
    obtain ⟨h1, h2⟩ := List.mem_filter.mp ht
    rw [hP t h1 c hc hl h2] at h
    cases h
theorem mono_bears (n : Nat) (told : List Crowd) : Mono n (bears told) := fun c _ d _ hl h => bears_mono h hl
theorem bears_append (a b : List Crowd) (c : Crowd) : bears (a ++ b) c = (bears a c || bears b c) := List.any_append ..
theorem bears_least {n : Nat} (hn : n ≤ 5) {told : List Crowd} {c : Crowd} (hc : c ∈ crowdsOf n) : bears (least n told) c = bears told c := by
  rw [least_eq hn]
  cases h : bears told c with
  | true =>
    obtain ⟨i, hi⟩ := List.getElem?_of_mem hc
    obtain ⟨j, d, _, hd, hm, hl⟩ := least_below hn i c hi h
    exact List.any_eq_true.mpr ⟨d, List.mem_filter.mpr ⟨List.mem_of_getElem? hd, hm⟩, hl⟩
  | false =>
    refine List.any_eq_false.mpr fun t ht hl => ?_
    have := (isLeast_iff.mp (List.mem_filter.mp ht).2).1
    rw [bears_mono this hl] at h
    cases h
/-- all crowds of n are listed -/
theorem all_crowds' : ∀ n < 6, ∀ x < 32, bits ((x : Nat) : Int) n ∈ crowdsOf n := by decide +kernel
theorem sub_sorted {a b : List Int} (ha : a.Pairwise (· < ·)) (hb : b.Pairwise (· < ·)) (h : ∀ k ∈ a, k ∈ b) : a.Sublist b := by
  induction b generalizing a with
  | nil =>
    cases a with
    | nil => exact .slnil
    | cons x a => exact absurd (h x (List.mem_cons_self ..)) (by simp)
  | cons y b ih =>
    cases a with
    | nil => exact List.nil_sublist _
    | cons x a =>
      have hb' := List.pairwise_cons.mp hb
      have ha' := List.pairwise_cons.mp ha
      by_cases e : x = y
      · subst e
        refine List.Sublist.cons_cons x (ih ha'.2 hb'.2 fun k hk => ?_)
        rcases List.mem_cons.mp (h k (List.mem_cons_of_mem _ hk)) with q | q
        · have := ha'.1 k hk
          omega
        · exact q
      · have hx : x ∈ b := by
          rcases List.mem_cons.mp (h x (List.mem_cons_self ..)) with q | q
          · exact absurd q e
          · exact q
        have hy := hb'.1 x hx
        refine List.Sublist.cons y (ih ha hb'.2 fun k hk => ?_)
        rcases List.mem_cons.mp (h k hk) with q | q
        · rcases List.mem_cons.mp hk with q2 | q2
          · omega
          · have := ha'.1 k q2
            omega
        · exact q
def allSubs : List Int → List (List Int)
  | [] => [[]]
  | x :: l => allSubs l ++ (allSubs l).map fun s => x :: s
theorem mem_allSubs {l s : List Int} (h : s.Sublist l) : s ∈ allSubs l := by
  induction h with
  | slnil => exact List.mem_singleton.mpr rfl
  | cons a _ ih => exact List.mem_append.mpr (.inl ih)
  | cons_cons a _ ih => exact List.mem_append.mpr (.inr (List.mem_map.mpr ⟨_, ih, rfl⟩))
theorem allSubs_crowds : ∀ n < 6, ∀ s ∈ allSubs (rng n), s ∈ crowdsOf n := by decide +kernel
theorem rng_sorted (n : Nat) : (rng n).Pairwise (· < ·) := by
  unfold rng
  refine List.Pairwise.map _ (fun a b h => ?_) List.pairwise_lt_range
  show (a : Int) < (b : Int)
  omega
theorem mem_rng_iff {n : Nat} {k : Int} : k ∈ rng n ↔ 0 ≤ k ∧ k < n := by
  unfold rng
  rw [List.mem_map]
  constructor
  · rintro ⟨m, hm, rfl⟩
    have := List.mem_range.mp hm
    omega
  · rintro ⟨h0, h1⟩
    exact ⟨k.toNat, List.mem_range.mpr (by omega), by omega⟩
theorem crowd_listed {n : Nat} (hn : n ≤ 5) {c : Crowd} (h : crowdOk (n : Int) c = true) : c ∈ crowdsOf n := by
  obtain ⟨h1, h2⟩ := crowdOk_iff.mp h
  exact allSubs_crowds n (by omega) c (mem_allSubs (sub_sorted h1 (rng_sorted n) fun k hk => mem_rng_iff.mpr (h2 k hk)))
/-! ### weights -/
def byCrowds (ws : List Int) (bar : Int) : List Crowd := (crowdsOf ws.length).filter fun c => decide (bar ≤ weigh ws c)
def byWeights (ws : List Int) (bar : Int) : Res := if ws.length < 1 ∨ ws.length > 5 then .err .size else if bar < 0 ∨ (ws.any fun x => decide (x < 0)) = true then .err .weights else .val (.cou ws.length (byCrowds ws bar))
theorem ex_min : ∀ {ws : List Int}, ws ≠ [] → ∃ m ∈ ws, ∀ y ∈ ws, m ≤ y
  | [], h => absurd rfl h
  | [x], _ => ⟨x, List.mem_cons_self .., fun y hy => by simp at hy; omega⟩
  | x :: z :: ws, _ => by
    obtain ⟨m, h1, h2⟩ := ex_min (ws := z :: ws) (by simp)
    by_cases q : x ≤ m
    · exact ⟨x, List.mem_cons_self .., fun y hy => by
        rcases List.mem_cons.mp hy with e | e
        · omega
        · have := h2 y e
          omega⟩
    · exact ⟨m, List.mem_cons_of_mem _ h1, fun y hy => by
        rcases List.mem_cons.mp hy with e | e
        · omega
        · exact h2 y e⟩
theorem min_neg {ws : List Int} {m : Int} (h1 : m ∈ ws) (h2 : ∀ y ∈ ws, m ≤ y) : decide (m < 0) = ws.any fun x => decide (x < 0) := by
  rw [Bool.eq_iff_iff, List.any_eq_true]
  constructor
  · intro h
    exact ⟨m, h1, h⟩
  · rintro ⟨x, hx, h⟩
    have := h2 x hx
    have h' := of_decide_eq_true h
    exact decide_eq_true (by omega)
theorem getD_nonneg {ws : List Int} (h : ∀ x ∈ ws, 0 ≤ x) (i : Nat) : 0 ≤ ws.getD i 0 := by
  rw [List.getD_eq_getElem?_getD]
  cases q : ws[i]? with
  | none => exact Int.le_refl 0
  | some x => exact h x (List.mem_of_getElem? q)
theorem weigh_sub {ws : List Int} (h : ∀ x ∈ ws, 0 ≤ x) {a b : Crowd} (hs : a.Sublist b) : weigh ws a ≤ weigh ws b := by
  unfold weigh
  induction hs with
  | slnil => exact Int.le_refl _
  | cons x _ ih =>
    rw [List.map_cons, List.sum_cons]
    have := getD_nonneg h x.toNat
    omega
  | cons_cons x _ ih =>
    rw [List.map_cons, List.map_cons, List.sum_cons, List.sum_cons]
    omega
theorem cs_sorted {n : Nat} (hn : n ≤ 5) {c : Crowd} (h : c ∈ crowdsOf n) : c.Pairwise (· < ·) := (crowdOk_iff.mp (cs_good hn h).1).1
theorem mono_weigh {n : Nat} (hn : n ≤ 5) {ws : List Int} (h : ∀ x ∈ ws, 0 ≤ x) (bar : Int) : Mono n fun c => decide (bar ≤ weigh ws c) := fun c hc d hd hl hw => by
  have := weigh_sub h (sub_sorted (cs_sorted hn hc) (cs_sorted hn hd) (liesIn_iff.mp hl))
  have hw' := of_decide_eq_true hw
  exact decide_eq_true (by omega)
theorem by_good {ws : List Int} {bar : Int} (h5 : ws.length ≤ 5) : ∀ c ∈ byCrowds ws bar, crowdOk (ws.length : Int) c = true := fun c hc => (cs_good h5 (List.mem_filter.mp hc).1).1
theorem byCrowds_len {ws : List Int} {bar : Int} (h5 : ws.length ≤ 5) : (byCrowds ws bar).length ≤ 32 := Nat.le_trans (List.length_filter_le _ _) (crowdsOf_len h5)
/-! ### both, either, turned, without -/
def bothOf (n : Nat) (a b : List Crowd) : List Crowd := (crowdsOf n).filter fun c => bears a c && bears b c
def eitherOf (n : Nat) (a b : List Crowd) : List Crowd := least n a ++ least n b
def lessThem (c gone : Crowd) : Crowd := c.filter fun m => !decide (m ∈ gone)
def turnedOf (n : Nat) (told : List Crowd) : List Crowd := (crowdsOf n).filter fun c => !bears told (lessThem (rng n) c)
theorem bears_both {n : Nat} {a b : List Crowd} {c : Crowd} (hc : c ∈ crowdsOf n) : bears (bothOf n a b) c = (bears a c && bears b c) :=
  bears_filter (fun c _ d _ hl h => by
    rw [Bool.and_eq_true] at h ⊢
    exact ⟨bears_mono h.1 hl, bears_mono h.2 hl⟩) hc
theorem bears_either {n : Nat} (hn : n ≤ 5) {a b : List Crowd} {c : Crowd} (hc : c ∈ crowdsOf n) : bears (eitherOf n a b) c = (bears a c || bears b c) := by
  unfold eitherOf
  rw [bears_append, bears_least hn hc, bears_least hn hc]
theorem less_mem {c gone : Crowd} {k : Int} : k ∈ lessThem c gone ↔ k ∈ c ∧ k ∉ gone := by
  unfold lessThem
  rw [List.mem_filter]
  simp
theorem less_ok {n : Nat} (c : Crowd) : crowdOk (n : Int) (lessThem (rng n) c) = true := crowdOk_iff.mpr ⟨(rng_sorted n).filter _, fun m hm => mem_rng_iff.mp (less_mem.mp hm).1⟩
theorem less_len {n : Nat} (c : Crowd) : (lessThem (rng n) c).length ≤ n := by
  have := List.length_filter_le (fun m => !decide (m ∈ c)) (rng n)
  unfold lessThem
  simp [rng] at *
  exact this
theorem bears_turned {n : Nat} {told : List Crowd} {c : Crowd} (hc : c ∈ crowdsOf n) : bears (turnedOf n told) c = !bears told (lessThem (rng n) c) :=
  bears_filter (P := fun c => !bears told (lessThem (rng n) c)) (fun c _ d _ hl h => by
    rw [Bool.not_eq_true'] at h ⊢
    cases q : bears told (lessThem (rng n) d) with
    | false => rfl
    | true =>
      rw [bears_mono q (d := lessThem (rng n) c) (liesIn_iff.mpr fun m hm => by
        have := less_mem.mp hm
        exact less_mem.mpr ⟨this.1, fun z => this.2 (liesIn_iff.mp hl m z)⟩)] at h
      cases h) hc
theorem both_len {n : Nat} (hn : n ≤ 5) (a b : List Crowd) : (bothOf n a b).length ≤ 32 := Nat.le_trans (List.length_filter_le _ _) (crowdsOf_len hn)
theorem turned_len {n : Nat} (hn : n ≤ 5) (a : List Crowd) : (turnedOf n a).length ≤ 32 := Nat.le_trans (List.length_filter_le _ _) (crowdsOf_len hn)
theorem either_len {n : Nat} (hn : n ≤ 5) (a b : List Crowd) : (eitherOf n a b).length ≤ 64 := by
  unfold eitherOf
  have h1 := least_len hn a
  have h2 := least_len hn b
  rw [List.length_append]
  omega
theorem filter_good {n : Nat} (hn : n ≤ 5) (P : Crowd → Bool) : ∀ c ∈ (crowdsOf n).filter P, crowdOk (n : Int) c = true := fun c hc => (cs_good hn (List.mem_filter.mp hc).1).1
theorem least_good {n : Nat} (hn : n ≤ 5) (told : List Crowd) : ∀ c ∈ least n told, c ∈ crowdsOf n := fun c hc => by
  rw [least_eq hn] at hc
  exact (List.mem_filter.mp hc).1
theorem either_good {n : Nat} (hn : n ≤ 5) (a b : List Crowd) : ∀ c ∈ eitherOf n a b, crowdOk (n : Int) c = true := fun c hc => by
  rcases List.mem_append.mp hc with h | h
  · exact (cs_good hn (least_good hn _ c h)).1
  · exact (cs_good hn (least_good hn _ c h)).1
/-- a member leaves -/
def elder0 (m : Int) (c : Crowd) : Crowd := c.map fun one => one + if one ≥ m then 1 else 0
def elder (m : Int) (carried : Bool) (c : Crowd) : Crowd := if carried = true then withThem (elder0 m c) [m] else elder0 m c
def withoutOf (n : Nat) (told : List Crowd) (m : Int) (carried : Bool) : List Crowd := (crowdsOf (n - 1)).filter fun c => bears told (elder m carried c)
theorem elder0_sorted {m : Int} {c : Crowd} (h : c.Pairwise (· < ·)) : (elder0 m c).Pairwise (· < ·) := by
  unfold elder0
  refine List.Pairwise.map _ (fun a b hab => ?_) h
  show a + _ < b + _
  split <;> split <;> omega
theorem elder0_mem {m k : Int} {c : Crowd} : k ∈ elder0 m c ↔ ∃ one ∈ c, k = one + if one ≥ m then 1 else 0 := by
  unfold elder0
  rw [List.mem_map]
  constructor
  · rintro ⟨a, h1, h2⟩
    exact ⟨a, h1, h2.symm⟩
  · rintro ⟨a, h1, h2⟩
    exact ⟨a, h1, h2.symm⟩
theorem elder0_not {m : Int} (c : Crowd) : m ∉ elder0 m c := fun h => by
  obtain ⟨one, _, e⟩ := elder0_mem.mp h
  split at e <;> omega
theorem elder0_ok {n : Nat} (h1 : 1 ≤ n) {m : Int} {c : Crowd} (hc : crowdOk ((n - 1 : Nat) : Int) c = true) (hm : 0 ≤ m ∧ m < n) : crowdOk (n : Int) (elder0 m c) = true := by
  obtain ⟨p, q⟩ := crowdOk_iff.mp hc
  refine crowdOk_iff.mpr ⟨elder0_sorted p, fun k hk => ?_⟩
  obtain ⟨one, ho, rfl⟩ := elder0_mem.mp hk
  have := q one ho
  split <;> omega
theorem elder_ok {n : Nat} (h1 : 1 ≤ n) {m : Int} {c : Crowd} (carried : Bool) (hc : crowdOk ((n - 1 : Nat) : Int) c = true) (hm : 0 ≤ m ∧ m < n) : crowdOk (n : Int) (elder m carried c) = true := by
  unfold elder
  split
  · exact with_ok (elder0_ok h1 hc hm) hm.1 hm.2
  · exact elder0_ok h1 hc hm
theorem elder_in {m : Int} {carried : Bool} {c d : Crowd} (h : liesIn c d = true) : liesIn (elder m carried c) (elder m carried d) = true := by
  have h0 : liesIn (elder0 m c) (elder0 m d) = true := liesIn_iff.mpr fun k hk => by
    obtain ⟨one, ho, e⟩ := elder0_mem.mp hk
    exact elder0_mem.mpr ⟨one, liesIn_iff.mp h one ho, e⟩
  unfold elder
  split
  · refine liesIn_iff.mpr fun k hk => ?_
    rcases withThem_mem.mp hk with q | q
    · exact withThem_mem.mpr (.inl (liesIn_iff.mp h0 k q))
    · exact withThem_mem.mpr (.inr q)
  · exact h0
theorem bears_without {n : Nat} {told : List Crowd} {m : Int} {carried : Bool} {c : Crowd} (hc : c ∈ crowdsOf (n - 1)) : bears (withoutOf n told m carried) c = bears told (elder m carried c) :=
  bears_filter (P := fun c => bears told (elder m carried c)) (fun c _ d _ hl h => bears_mono h (elder_in hl)) hc
theorem without_len {n : Nat} (hn : n ≤ 5) (told : List Crowd) (m : Int) (carried : Bool) : (withoutOf n told m carried).length ≤ 32 := Nat.le_trans (List.length_filter_le _ _) (crowdsOf_len (by omega))
/-! ### flags -/
def flagsBy (xs : List Err) (e : Err) : List Bool := (xs.map fun x => decide (e = x)) ++ [true]
end Vw

/-! powers as a whole -/
namespace Vw
theorem bears_ext {told : List Crowd} {c d : Crowd} (h : ∀ k, k ∈ c ↔ k ∈ d) : bears told c = bears told d := by
  cases q : bears told c with
  | true => exact (bears_sub q fun k hk => (h k).mp hk).symm
  | false =>
    cases q2 : bears told d with
    | false => rfl
    | true =>
      rw [bears_sub q2 fun k hk => (h k).mpr hk] at q
      cases q
theorem sum_subset {α : Type} [DecidableEq α] (w : α → Nat) : ∀ {A B : List α}, A.Nodup → (∀ x ∈ A, x ∈ B) → (A.map w).sum ≤ (B.map w).sum
  | [], _, _, _ => Nat.zero_le _
  | x :: A, B, nd, h => by
    have nd' := List.nodup_cons.mp nd
    have hx := h x (List.mem_cons_self ..)
    have hp : (B.map w).sum = w x + ((B.erase x).map w).sum := by
      have := ((List.perm_cons_erase hx).map w).sum_nat
      rw [List.map_cons, List.sum_cons] at this
      exact this
    have ih := sum_subset w (A := A) (B := B.erase x) nd'.2 fun y hy => by
      have hne : y ≠ x := fun e => nd'.1 (e ▸ hy)
      exact (List.mem_erase_of_ne hne).mpr (h y (List.mem_cons_of_mem _ hy))
    rw [List.map_cons, List.sum_cons, hp]
    omega
theorem inj_le {A B : List Crowd} (f : Crowd → Crowd) (w : Crowd → Nat) (hA : A.Nodup) (hi : ∀ x ∈ A, ∀ y ∈ A, f x = f y → x = y) (hm : ∀ x ∈ A, f x ∈ B) (hw : ∀ x ∈ A, w (f x) = w x) : (A.map w).sum ≤ (B.map w).sum := by
  have e : A.map w = (A.map f).map w := by
    rw [List.map_map]
    exact List.map_congr_left fun x hx => (hw x hx).symm
  rw [e]
  refine sum_subset w ?_ fun x hx => ?_
  · exact List.pairwise_map.mpr (hA.imp_of_mem fun {x y} hx hy hne e => hne (hi x hx y hy e))
  · obtain ⟨y, hy, rfl⟩ := List.mem_map.mp hx
    exact hm y hy
def wOf (n : Nat) (c : Crowd) : Nat := fact c.length * fact (n - 1 - c.length)
theorem topOf_eq (n : Nat) (told : List Crowd) (m : Int) : topOf n told m = ((swingsOf n told m).map (wOf n)).sum := rfl
theorem len_sum (l : List Crowd) : l.length = (l.map fun _ => 1).sum := by
  induction l with
  | nil => rfl
  | cons x l ih =>
    rw [List.length_cons, List.map_cons, List.sum_cons, ih]
    omega
theorem swings_nodup {n : Nat} (hn : n ≤ 5) (told : List Crowd) (m : Int) : (swingsOf n told m).Nodup := (crowdsOf_nodup n (by omega)).filter _
theorem mem_swings {n : Nat} {told : List Crowd} {m : Int} {c : Crowd} : c ∈ swingsOf n told m ↔ c ∈ crowdsOf n ∧ m ∉ c ∧ bears told c = false ∧ bears told (withThem c [m]) = true := by
  unfold swingsOf swings1
  rw [List.mem_filter]
  simp
/-! ### all powers together -/
theorem sways_none {told : List Crowd} : ∀ {xs ahead : List Int}, bears told (sortU ahead) = true → swaysAux told ahead xs = none
  | [], _, _ => rfl
  | x :: xs, ahead, h => by
    unfold swaysAux
    rw [if_neg (by unfold swing; rw [h]; simp)]
    exact sways_none (bears_sub h fun k hk => by rw [sortU_mem] at hk ⊢; simp [hk])
theorem sways_some {told : List Crowd} : ∀ {xs ahead : List Int}, bears told (sortU ahead) = false → (swaysAux told ahead xs).isSome = bears told (sortU (ahead ++ xs))
  | [], ahead, h => by
    rw [List.append_nil, h]
    rfl
  | x :: xs, ahead, h => by
    have e : bears told (withThem (sortU ahead) [x]) = bears told (sortU (ahead ++ [x])) := bears_ext fun k => by
      rw [withThem_mem, sortU_mem, sortU_mem, List.mem_append]
    unfold swaysAux
    cases q : bears told (sortU (ahead ++ [x])) with
    | true =>
      rw [if_pos (by unfold swing; rw [h, e, q]; rfl)]
      exact (bears_sub q fun k hk => by rw [sortU_mem] at hk ⊢; simp at hk ⊢; rcases hk with hk | hk <;> simp [hk]).symm
    | false =>
      rw [if_neg (by unfold swing; rw [e, q]; simp), sways_some (ahead := ahead ++ [x]) q]
      simp
theorem count_sum (n : Nat) : ∀ L : List (Option Int), (∀ x, some x ∈ L → x ∈ rng n) → ((List.range n).map fun (m : Nat) => L.count (some (m : Int))).sum = L.countP fun o => o.isSome
  | [], _ => by
    have : ∀ l : List Nat, (l.map fun (m : Nat) => ([] : List (Option Int)).count (some (m : Int))).sum = 0 := fun l => by
      induction l with
      | nil => rfl
      | cons a l ih => rw [List.map_cons, List.sum_cons, ih]; rfl
    rw [this]
    rfl
  | o :: L, h => by
    have ih := count_sum n L fun x hx => h x (List.mem_cons_of_mem _ hx)
    cases o with
    | none =>
      have e : ((List.range n).map fun (m : Nat) => (none :: L).count (some (m : Int))) = (List.range n).map fun (m : Nat) => L.count (some (m : Int)) := List.map_congr_left fun m _ => by rw [List.count_cons]; simp
      rw [e, ih, List.countP_cons]
      simp
    | some x =>
      have hx := mem_rng_iff.mp (h x (List.mem_cons_self ..))
      obtain ⟨z, rfl⟩ : ∃ z : Nat, (z : Int) = x := ⟨x.toNat, by omega⟩
      have hz : z < n := by omega
      have go : ∀ (l : List Nat), l.Nodup → (l.map fun (m : Nat) => (some (z : Int) :: L).count (some (m : Int))).sum = (l.map fun (m : Nat) => L.count (some (m : Int))).sum + if z ∈ l then 1 else 0 := by
        intro l
        induction l with
        | nil => intro _; rfl
        | cons a l ihl =>
          intro nd
          have nd' := List.nodup_cons.mp nd
          rw [List.map_cons, List.map_cons, List.sum_cons, List.sum_cons, ihl nd'.2, List.count_cons]
          by_cases q : z = a
          · subst q
            simp [nd'.1]
            omega
          · have q2 : ¬ (z : Int) = (a : Int) := by omega
            simp [q, q2]
            omega
      rw [go _ List.nodup_range, ih, List.countP_cons, if_pos (List.mem_range.mpr hz)]
      simp
theorem sum_tops {n : Nat} (hn : n ≤ 5) (told : List Crowd) : ((List.range n).map fun (m : Nat) => topOf n told m).sum = if bears told (rng n) = true ∧ bears told [] = false then fact n else 0 := by
  have e : ((List.range n).map fun (m : Nat) => topOf n told m) = (List.range n).map fun (m : Nat) => ((ordersOf n (rng n)).map (swaysOf told)).count (some (m : Int)) := List.map_congr_left fun m hm => (sways_count hn told (List.mem_range.mp hm)).symm
  rw [e, count_sum n _ fun x hx => by
    obtain ⟨o, ho, hs⟩ := List.mem_map.mp hx
    have := swaysAux_mem hs
    rw [← (orders_mem n (by omega) o ho).1, sortU_mem]
    exact this]
  rw [List.countP_map]
  by_cases h0 : bears told [] = true
  · rw [if_neg (by rw [h0]; simp)]
    refine List.countP_eq_zero.mpr fun o _ => ?_
    show ¬ (swaysAux told [] o).isSome = true
    rw [sways_none (show bears told (sortU []) = true from h0)]
    decide
  · have h0' : bears told [] = false := by
      cases q : bears told [] with
      | true => exact absurd q h0
      | false => rfl
    have hs : ∀ o ∈ ordersOf n (rng n), (swaysAux told [] o).isSome = bears told (rng n) := fun o ho => by
      rw [sways_some (show bears told (sortU []) = false from h0'), List.nil_append, (orders_mem n (by omega) o ho).1]
    cases q : bears told (rng n) with
    | true =>
      rw [if_pos ⟨rfl, h0'⟩, ← orders_len n (by omega)]
      refine List.countP_eq_length.mpr fun o ho => ?_
      show (swaysAux told [] o).isSome = true
      rw [hs o ho, q]
    | false =>
      rw [if_neg (by simp)]
      refine List.countP_eq_zero.mpr fun o ho => ?_
      show ¬ (swaysAux told [] o).isSome = true
      rw [hs o ho, q]
      decide
/-! ### a member who can do all that another one can -/
def swapAB (a b : Int) (c : Crowd) : Crowd := if a ∈ c then withThem (lessThem c [a]) [b] else c
def swapOk (n : Nat) (a b : Int) (c : Crowd) : Bool :=
  decide (swapAB a b c ∈ crowdsOf n) && (decide (a ∉ swapAB a b c) && (decide ((swapAB a b c).length = c.length) && (decide (withThem (swapAB a b c) [a] = withThem c [b]) &&
    (decide (lessThem c [a] ∈ crowdsOf n) && (decide (a ∉ lessThem c [a]) && (decide (b ∉ lessThem c [a]) && (decide (withThem (lessThem c [a]) [a] = c) && (decide (b ∈ swapAB a b c) && decide (swapAB b a (swapAB a b c) = c)))))))))
theorem swap_all : ∀ n < 6, ∀ a < n, ∀ b < n, ∀ c ∈ crowdsOf n, (decide (a = b) || (decide ((b : Int) ∈ c) || (!decide ((a : Int) ∈ c) || swapOk n a b c))) = true := by decide +kernel
theorem swap_facts (n : Nat) (hn : n < 6) (a : Nat) (ha : a < n) (b : Nat) (hb : b < n) (c : Crowd) (hc : c ∈ crowdsOf n) (hab : a ≠ b) (hbc : (b : Int) ∉ c) (hac : (a : Int) ∈ c) :
    swapAB a b c ∈ crowdsOf n ∧ (a : Int) ∉ swapAB a b c ∧ (swapAB a b c).length = c.length ∧ withThem (swapAB a b c) [(a : Int)] = withThem c [(b : Int)] ∧
    lessThem c [(a : Int)] ∈ crowdsOf n ∧ (a : Int) ∉ lessThem c [(a : Int)] ∧ (b : Int) ∉ lessThem c [(a : Int)] ∧ withThem (lessThem c [(a : Int)]) [(a : Int)] = c ∧ (b : Int) ∈ swapAB a b c ∧ swapAB b a (swapAB a b c) = c := by
  have h := swap_all n hn a ha b hb c hc
  rw [decide_eq_false hab, decide_eq_false hbc, decide_eq_true hac, Bool.false_or, Bool.false_or, Bool.not_true, Bool.false_or] at h
  unfold swapOk at h
  simpa only [Bool.and_eq_true, decide_eq_true_eq] using h
theorem can_step {n : Nat} {told : List Crowd} {a b : Int} (h : canAll n told a b = true) {c : Crowd} (hc : c ∈ crowdsOf n) (ha : a ∉ c) (hb : b ∉ c) (hw : bears told (withThem c [b]) = true) : bears told (withThem c [a]) = true := by
  have := List.all_eq_true.mp h c hc
  unfold canStep at this
  rw [hw] at this
  simp [ha, hb] at this
  exact this
theorem can_sums {n : Nat} (hn : n ≤ 5) {told : List Crowd} {a b : Nat} (ha : a < n) (hb : b < n) (h : canAll n told a b = true) (w : Crowd → Nat) (hw : ∀ c d : Crowd, c.length = d.length → w c = w d) : ((swingsOf n told b).map w).sum ≤ ((swingsOf n told a).map w).sum := by
  by_cases hab : a = b
  · rw [hab]
    exact Nat.le_refl _
  have key : ∀ c ∈ swingsOf n told b, swapAB a b c ∈ swingsOf n told a ∧ (swapAB a b c).length = c.length ∧ ((a : Int) ∈ c → (b : Int) ∈ swapAB a b c ∧ swapAB b a (swapAB a b c) = c) := fun c hc => by
    obtain ⟨c1, c2, c3, c4⟩ := mem_swings.mp hc
    by_cases q : (a : Int) ∈ c
    · obtain ⟨f1, f2, f3, f4, f5, f6, f7, f8, f9, f10⟩ := swap_facts n (by omega) a ha b hb c c1 hab c2 q
      refine ⟨mem_swings.mpr ⟨f1, f2, ?_, by rw [f4]; exact c4⟩, f3, fun _ => ⟨f9, f10⟩⟩
      cases z : bears told (swapAB a b c) with
      | false => rfl
      | true =>
        have e : swapAB a b c = withThem (lessThem c [(a : Int)]) [(b : Int)] := by unfold swapAB; rw [if_pos q]
        rw [e] at z
        have := can_step h f5 f6 f7 z
        rw [f8, c3] at this
        cases this
    · have e : swapAB a b c = c := by unfold swapAB; rw [if_neg q]
      rw [e]
      exact ⟨mem_swings.mpr ⟨c1, q, c3, can_step h c1 q c2 c4⟩, rfl, fun z => absurd z q⟩
  refine inj_le (swapAB a b) w (swings_nodup hn told b) (fun x hx y hy e => ?_) (fun x hx => (key x hx).1) (fun x hx => hw _ _ (key x hx).2.1)
  have bx := (mem_swings.mp hx).2.1
  have by_ := (mem_swings.mp hy).2.1
  by_cases qx : (a : Int) ∈ x
  · by_cases qy : (a : Int) ∈ y
    · rw [← ((key x hx).2.2 qx).2, ← ((key y hy).2.2 qy).2, e]
    · have ey : swapAB a b y = y := by unfold swapAB; rw [if_neg qy]
      have := ((key x hx).2.2 qx).1
      rw [e, ey] at this
      exact absurd this by_
  · have ex : swapAB a b x = x := by unfold swapAB; rw [if_neg qx]
    by_cases qy : (a : Int) ∈ y
    · have := ((key y hy).2.2 qy).1
      rw [← e, ex] at this
      exact absurd this bx
    · have ey : swapAB a b y = y := by unfold swapAB; rw [if_neg qy]
      rw [ex, ey] at e
      exact e
theorem can_top {n : Nat} (hn : n ≤ 5) {told : List Crowd} {a b : Nat} (ha : a < n) (hb : b < n) (h : canAll n told a b = true) : topOf n told b ≤ topOf n told a :=
  can_sums hn ha hb h (wOf n) fun c d e => by unfold wOf; rw [e]
theorem can_swings {n : Nat} (hn : n ≤ 5) {told : List Crowd} {a b : Nat} (ha : a < n) (hb : b < n) (h : canAll n told a b = true) : (swingsOf n told b).length ≤ (swingsOf n told a).length := by
  rw [len_sum, len_sum (swingsOf n told a)]
  exact can_sums hn ha hb h (fun _ => 1) fun _ _ _ => rfl
/-! ### idle members -/
theorem with_listed {n : Nat} (hn : n ≤ 5) {c : Crowd} {m : Nat} (hc : c ∈ crowdsOf n) (hm : m < n) : withThem c [(m : Int)] ∈ crowdsOf n := crowd_listed hn (with_ok (cs_good hn hc).1 (by omega) (by omega))
theorem idle_swings {n : Nat} (hn : n ≤ 5) {told : List Crowd} {m : Nat} (hm : m < n) (h : isIdle n told m = true) : swingsOf n told m = [] := by
  refine List.eq_nil_iff_forall_not_mem.mpr fun c hc => ?_
  obtain ⟨c1, c2, c3, c4⟩ := mem_swings.mp hc
  obtain ⟨i, hi⟩ := List.getElem?_of_mem (with_listed hn c1 hm)
  obtain ⟨j, d, _, hd, hl, hin⟩ := least_below hn i _ hi c4
  have hdl : d ∈ least n told := by rw [least_eq hn]; exact List.mem_filter.mpr ⟨List.mem_of_getElem? hd, hl⟩
  have hnd : (m : Int) ∉ d := fun z => by
    unfold isIdle at h
    have : d ∈ (least n told).filter fun c => decide ((m : Int) ∈ c) := List.mem_filter.mpr ⟨hdl, by simpa using z⟩
    cases q : (least n told).filter fun c => decide ((m : Int) ∈ c) with
    | nil => rw [q] at this; cases this
    | cons x l => rw [q] at h; cases h
  have hb := (isLeast_iff.mp hl).1
  rw [bears_sub hb fun k hk => by
    rcases withThem_mem.mp (liesIn_iff.mp hin k hk) with q | q
    · exact q
    · have : k = (m : Int) := by simpa using q
      subst this
      exact absurd hk hnd] at c3
  cases c3
theorem lowest_nought {b : Nat} (hb : 0 < b) : lowestOf 0 b = (0, 1) := by
  unfold lowestOf
  rw [Nat.gcd_zero_left, Nat.zero_div, Nat.div_self hb]
  rfl
/-! ### turned -/
theorem swings_congr {n : Nat} (hn : n ≤ 5) {t1 t2 : List Crowd} (h : ∀ c ∈ crowdsOf n, bears t1 c = bears t2 c) {m : Nat} (hm : m < n) : swingsOf n t1 m = swingsOf n t2 m := by
  unfold swingsOf
  refine List.filter_congr fun c hc => ?_
  unfold swings1
  rw [h c hc, h _ (with_listed hn hc hm)]
def mirror (n : Nat) (m : Int) (c : Crowd) : Crowd := lessThem (rng n) (withThem c [m])
theorem less_facts : ∀ n < 6, ∀ c ∈ crowdsOf n, lessThem (rng n) c ∈ crowdsOf n ∧ lessThem (rng n) (lessThem (rng n) c) = c := by decide +kernel
set_option synthInstance.maxSize 4000 in
set_option synthInstance.maxHeartbeats 4000000 in
theorem mirror_facts : ∀ n < 6, ∀ m < n, ∀ c ∈ crowdsOf n, (m : Int) ∉ c → mirror n m c ∈ crowdsOf n ∧ (m : Int) ∉ mirror n m c ∧ (mirror n m c).length = n - 1 - c.length ∧ withThem (mirror n m c) [(m : Int)] = lessThem (rng n) c ∧ mirror n m (mirror n m c) = c ∧ c.length ≤ n - 1 := by decide +kernel
theorem turned_twice {n : Nat} (hn : n ≤ 5) (told : List Crowd) : ∀ c ∈ crowdsOf n, bears (turnedOf n (turnedOf n told)) c = bears told c := fun c hc => by
  have h1 := (less_facts n (by omega) c hc)
  rw [bears_turned hc, bears_turned h1.1, h1.2, Bool.not_not]
theorem turned_sums {n : Nat} (hn : n ≤ 5) (told : List Crowd) {m : Nat} (hm : m < n) (w : Crowd → Nat) (hw : ∀ c d : Crowd, d.length = n - 1 - c.length → c.length ≤ n - 1 → w d = w c) : ((swingsOf n (turnedOf n told) m).map w).sum ≤ ((swingsOf n told m).map w).sum := by
  refine inj_le (mirror n m) w (swings_nodup hn _ m) (fun x hx y hy e => ?_) (fun c hc => ?_) (fun c hc => ?_)
  · have fx := mirror_facts n (by omega) m hm x (mem_swings.mp hx).1 (mem_swings.mp hx).2.1
    have fy := mirror_facts n (by omega) m hm y (mem_swings.mp hy).1 (mem_swings.mp hy).2.1
    rw [← fx.2.2.2.2.1, ← fy.2.2.2.2.1, e]
  · obtain ⟨c1, c2, c3, c4⟩ := mem_swings.mp hc
    obtain ⟨f1, f2, f3, f4, f5, f6⟩ := mirror_facts n (by omega) m hm c c1 c2
    rw [bears_turned c1] at c3
    rw [bears_turned (with_listed hn c1 hm)] at c4
    exact mem_swings.mpr ⟨f1, f2, by unfold mirror; simpa using c4, by rw [f4]; simpa using c3⟩
  · obtain ⟨c1, c2, c3, c4⟩ := mem_swings.mp hc
    obtain ⟨f1, f2, f3, f4, f5, f6⟩ := mirror_facts n (by omega) m hm c c1 c2
    exact hw _ _ f3 f6
theorem turned_same {n : Nat} (hn : n ≤ 5) (told : List Crowd) {m : Nat} (hm : m < n) (w : Crowd → Nat) (hw : ∀ c d : Crowd, d.length = n - 1 - c.length → c.length ≤ n - 1 → w d = w c) : ((swingsOf n (turnedOf n told) m).map w).sum = ((swingsOf n told m).map w).sum := by
  have h1 := turned_sums hn told hm w hw
  have h2 := turned_sums hn (turnedOf n told) hm w hw
  rw [swings_congr hn (turned_twice hn told) hm] at h2
  omega
theorem turned_powers {n : Nat} (hn : n ≤ 5) (told : List Crowd) : powersOf n (turnedOf n told) = powersOf n told := by
  unfold powersOf
  refine List.map_congr_left fun m hm => ?_
  have : topOf n (turnedOf n told) m = topOf n told m := turned_same hn told (List.mem_range.mp hm) (wOf n) fun c d e h => by
    unfold wOf
    rw [e, show n - 1 - (n - 1 - c.length) = c.length by omega, Nat.mul_comm]
  rw [this]
theorem turned_counts {n : Nat} (hn : n ≤ 5) (told : List Crowd) : swingCounts n (turnedOf n told) = swingCounts n told := by
  unfold swingCounts
  refine List.map_congr_left fun m hm => ?_
  have : (swingsOf n (turnedOf n told) m).length = (swingsOf n told m).length := by
    rw [len_sum, len_sum (swingsOf n told m)]
    exact turned_same hn told (List.mem_range.mp hm) (fun _ => 1) fun _ _ _ _ => rfl
  rw [this]
/-! ### fractions -/
theorem fact_divides : ∀ n < 6, 120 % fact n = 0 := by decide
theorem lowest_back {a b : Nat} (hb : 0 < b) : ((lowestOf a b).1 * (Nat.gcd a b : Nat) = a) ∧ ((lowestOf a b).2 * (Nat.gcd a b : Nat) = b) ∧ 0 < Nat.gcd a b := by
  unfold lowestOf
  have h1 : a / Nat.gcd a b * Nat.gcd a b = a := Nat.div_mul_cancel (Nat.gcd_dvd_left a b)
  have h2 : b / Nat.gcd a b * Nat.gcd a b = b := Nat.div_mul_cancel (Nat.gcd_dvd_right a b)
  refine ⟨?_, ?_, Nat.gcd_pos_of_pos_right a hb⟩
  · show ((a / Nat.gcd a b : Nat) : Int) * (Nat.gcd a b : Nat) = a
    exact_mod_cast h1
  · show ((b / Nat.gcd a b : Nat) : Int) * (Nat.gcd a b : Nat) = b
    exact_mod_cast h2
theorem part_of {a b : Nat} (hb : 0 < b) (hd : 120 % b = 0) : (120 : Int) / (lowestOf a b).2 * (lowestOf a b).1 = ((120 / b * a : Nat) : Int) := by
  unfold lowestOf
  have hg := Nat.gcd_pos_of_pos_right a hb
  have h1 : a / Nat.gcd a b * Nat.gcd a b = a := Nat.div_mul_cancel (Nat.gcd_dvd_left a b)
  have h2 : b / Nat.gcd a b * Nat.gcd a b = b := Nat.div_mul_cancel (Nat.gcd_dvd_right a b)
  have h3 : 120 / b * b = 120 := Nat.div_mul_cancel (Nat.dvd_of_mod_eq_zero hd)
  show (120 : Int) / ((b / Nat.gcd a b : Nat) : Int) * ((a / Nat.gcd a b : Nat) : Int) = _
  have hq : 0 < b / Nat.gcd a b := Nat.div_pos (Nat.le_of_dvd hb (Nat.gcd_dvd_right a b)) hg
  generalize Nat.gcd a b = g at *
  generalize a / g = p at *
  generalize b / g = q at *
  generalize 120 / b = t at *
  have : 120 / q = t * g := by
    refine Nat.div_eq_of_eq_mul_left hq ?_
    rw [Nat.mul_assoc, Nat.mul_comm g q, h2, h3]
  have e : (120 : Int) / (q : Int) = ((120 / q : Nat) : Int) := by push_cast; rfl
  rw [e, this, ← h1]
  push_cast
  rw [Int.mul_assoc, Int.mul_comm (g : Int) (p : Int)]
theorem mine_theirs {a1 a2 b : Nat} (hb : 0 < b) (h : a2 ≤ a1) : (lowestOf a2 b).1 * (lowestOf a1 b).2 ≤ (lowestOf a1 b).1 * (lowestOf a2 b).2 := by
  obtain ⟨e1, f1, g1⟩ := lowest_back (a := a1) hb
  obtain ⟨e2, f2, g2⟩ := lowest_back (a := a2) hb
  generalize (lowestOf a1 b).1 = p1 at *
  generalize (lowestOf a1 b).2 = q1 at *
  generalize (lowestOf a2 b).1 = p2 at *
  generalize (lowestOf a2 b).2 = q2 at *
  generalize Nat.gcd a1 b = x at *
  generalize Nat.gcd a2 b = y at *
  have hx : (0 : Int) < (x : Int) * (y : Int) := Int.mul_pos (by omega) (by omega)
  refine Int.le_of_mul_le_mul_right ?_ hx
  have l1 : p2 * q1 * ((x : Int) * y) = (p2 * y) * (q1 * x) := by
    rw [Int.mul_comm (x : Int) y, Int.mul_assoc, ← Int.mul_assoc q1, Int.mul_comm q1 y, Int.mul_assoc (y : Int), ← Int.mul_assoc p2]
  have l2 : p1 * q2 * ((x : Int) * y) = (p1 * x) * (q2 * y) := by
    rw [Int.mul_assoc, ← Int.mul_assoc q2, Int.mul_comm q2 x, Int.mul_assoc (x : Int), ← Int.mul_assoc p1]
  rw [l1, l2, e1, e2, f1, f2]
  exact Int.mul_le_mul_of_nonneg_right (by omega) (by omega)
end Vw

namespace Vw
open PySem L2 PySem.Spec PyProof.Rows
/-! ### texts, over lists of code points -/
def st (l : List Nat) : Str := ⟨l.toArray⟩
theorem st_inj {a b : List Nat} : st a = st b ↔ a = b := by
  constructor
  · intro h
    have h2 := congrArg (fun s : Str => s.cps.toList) h
    simpa [st] using h2
  · intro h
    rw [h]
theorem st_len (l : List Nat) : (st l).length = l.length := by show l.toArray.size = _; simp
theorem st_cps (l : List Nat) : (st l).cps.toList = l := by show l.toArray.toList = l; simp
theorem st_of (s : Str) : s = st s.cps.toList := by
  cases s
  simp [st]
theorem st_app (a b : List Nat) : st a ++ st b = st (a ++ b) := by
  show (⟨a.toArray ++ b.toArray⟩ : Str) = ⟨(a ++ b).toArray⟩
  simp
def joinL (sep : List Nat) : List (List Nat) → List Nat
  | [] => []
  | [x] => x
  | x :: y :: r => x ++ sep ++ joinL sep (y :: r)
theorem joinEq (y : Str) (parts : List Str) : Txt.join y parts = Str.join y parts := StrLaws.glued_eq_join y parts
theorem join_st (sep : List Nat) : ∀ ps : List (List Nat), Txt.join (st sep) (ps.map st) = st (joinL sep ps) := by
  intro ps
  rw [joinEq]
  induction ps with
  | nil => rfl
  | cons x r ih =>
    cases r with
    | nil => rfl
    | cons y r =>
      show st x ++ st sep ++ Str.join (st sep) (List.map st (y :: r)) = _
      rw [ih, st_app, st_app]
      rfl
def splitL (c : Nat) : List Nat → List (List Nat)
  | [] => [[]]
  | x :: l => if x = c then [] :: splitL c l else match splitL c l with
    | [] => [[x]]
    | p :: ps => (x :: p) :: ps
theorem splitL_cons (c x : Nat) (l : List Nat) : splitL c (x :: l) = if x = c then [] :: splitL c l else match splitL c l with | [] => [[x]] | p :: ps => (x :: p) :: ps := rfl
theorem splitL_ne (c : Nat) : ∀ l, splitL c l ≠ []
  | [] => by simp [splitL]
  | x :: l => by
    unfold splitL
    split
    · simp
    · split <;> simp
theorem splitL_pre (c : Nat) {p : List Nat} (hp : c ∉ p) (l : List Nat) : splitL c (p ++ c :: l) = p :: splitL c l := by
  induction p with
  | nil =>
    show (if c = c then _ else _) = _
    rw [if_pos rfl]
  | cons x p ih =>
    have hx : x ≠ c := fun e => hp (by rw [e]; exact List.mem_cons_self ..)
    rw [List.cons_append, splitL_cons, if_neg hx, ih fun z => hp (List.mem_cons_of_mem _ z)]
theorem splitL_free (c : Nat) {p : List Nat} (hp : c ∉ p) : splitL c p = [p] := by
  induction p with
  | nil => rfl
  | cons x p ih =>
    have hx : x ≠ c := fun e => hp (by rw [e]; exact List.mem_cons_self ..)
    rw [splitL_cons, if_neg hx, ih fun z => hp (List.mem_cons_of_mem _ z)]
theorem split_join (c : Nat) : ∀ ps : List (List Nat), ps ≠ [] → (∀ p ∈ ps, c ∉ p) → splitL c (joinL [c] ps) = ps
  | [], h, _ => absurd rfl h
  | [x], _, h => splitL_free c (h x (List.mem_cons_self ..))
  | x :: y :: r, _, h => by
    show splitL c (x ++ [c] ++ joinL [c] (y :: r)) = _
    rw [List.append_assoc]
    show splitL c (x ++ c :: joinL [c] (y :: r)) = _
    rw [splitL_pre c (h x (List.mem_cons_self ..)), split_join c (y :: r) (by simp) fun p hp => h p (List.mem_cons_of_mem _ hp)]
theorem split_st (c : Nat) (l : List Nat) : Txt.split (st l) (st [c]) = (splitL c l).map st := by
  obtain ⟨ps, hps⟩ : ∃ ps : List (List Nat), Txt.split (st l) (st [c]) = ps.map st := ⟨(Txt.split (st l) (st [c])).map fun s => s.cps.toList, by
    rw [List.map_map]
    conv => lhs; rw [← List.map_id (Txt.split (st l) (st [c]))]
    exact List.map_congr_left fun s _ => st_of s⟩
  have h1 := StrLaws.join_split (st l) (st [c])
  rw [← joinEq, hps, join_st, st_inj] at h1
  have hne : ps ≠ [] := fun e => by
    have := split_pos (st l) (st [c])
    rw [hps, e] at this
    simp at this
  have hfree : ∀ p ∈ ps, c ∉ p := fun p hp hc => by
    refine StrLaws.split_free (st l) c (st p) ?_ (by rw [st_cps]; exact hc)
    show st p ∈ Txt.split (st l) (st [c])
    rw [hps]
    exact List.mem_map.mpr ⟨p, hp, rfl⟩
  rw [hps, ← h1, split_join c ps hne hfree]
theorem splitL_len (c : Nat) : ∀ l, (splitL c l).length ≤ l.length + 1
  | [] => by simp [splitL]
  | x :: l => by
    have ih := splitL_len c l
    unfold splitL
    split
    · simp; omega
    · split
      · simp
      · rename_i p ps e
        rw [e] at ih
        simp at *
        omega
theorem splitL_each (c : Nat) : ∀ l, ∀ p ∈ splitL c l, p.length ≤ l.length
  | [], p, h => by
    have : p = [] := by simpa [splitL] using h
    rw [this]
    exact Nat.le_refl _
  | x :: l, p, h => by
    have ih := splitL_each c l
    unfold splitL at h
    split at h
    · rcases List.mem_cons.mp h with e | e
      · subst e
        exact Nat.zero_le _
      · have := ih p e
        simp
        omega
    · split at h
      · have : p = [x] := by simpa using h
        subst this
        simp
      · rename_i q qs e
        rcases List.mem_cons.mp h with e2 | e2
        · subst e2
          have := ih q (by rw [e]; exact List.mem_cons_self ..)
          simp
          omega
        · have := ih p (by rw [e]; exact List.mem_cons_of_mem _ e2)
          simp
          omega
theorem cut_st (l : List Nat) (lo hi : Option Int) : cutS (st l) lo hi = st (cut l lo hi) := by
  unfold cutS cut
  rw [st_cps, st_len]
  rfl
theorem cut_take {α : Type} (l : List α) (k : Nat) : cut l none (some (k : Int)) = l.take k := by
  unfold cut
  rw [HT.sIx_none, HT.sIx_nat, List.drop_zero, Nat.sub_zero]
  by_cases h : k ≤ l.length
  · rw [Nat.min_eq_left h]
  · rw [Nat.min_eq_right (by omega), List.take_of_length_le (Nat.le_refl _), List.take_of_length_le (by omega)]
theorem cut_drop {α : Type} (l : List α) (k : Nat) : cut l (some (k : Int)) none = l.drop k := by
  unfold cut
  rw [HT.sIx_none, HT.sIx_nat, List.take_of_length_le (by rw [List.length_drop]; exact Nat.le_refl _)]
  by_cases h : k ≤ l.length
  · rw [Nat.min_eq_left h]
  · rw [Nat.min_eq_right (by omega), List.drop_eq_nil_of_le (Nat.le_refl _), List.drop_eq_nil_of_le (by omega)]
theorem cut_mid {α : Type} (l : List α) (j k : Nat) (h : j ≤ k) : cut l (some (j : Int)) (some (k : Int)) = (l.drop j).take (k - j) := by
  unfold cut
  rw [HT.sIx_nat, HT.sIx_nat]
  by_cases h1 : k ≤ l.length
  · rw [Nat.min_eq_left h1, Nat.min_eq_left (by omega)]
  · rw [Nat.min_eq_right (by omega : l.length ≤ k)]
    by_cases h2 : j ≤ l.length
    · rw [Nat.min_eq_left h2, List.take_of_length_le (by rw [List.length_drop]; exact Nat.le_refl _), List.take_of_length_le (by rw [List.length_drop]; omega)]
    · rw [Nat.min_eq_right (by omega), List.drop_eq_nil_of_le (Nat.le_refl _), List.drop_eq_nil_of_le (by omega), List.take_nil, List.take_nil]
/-! ### readings of texts -/
section
variable {G : Cfg} {ρ : Rho} {ta tb te : TE}
theorem reps_strs {F : Hp} : ∀ {vs : List V} {ys : List Str}, Reps G F vs (ys.map D.str) → vs = ys.map V.str
  | _, [], .nil => rfl
  | _, y :: ys, .cons h r => by
    cases h
    rw [reps_strs r]
    rfl
theorem Reps.ofStrs {F : Hp} : ∀ (ys : List Str), Reps G F (ys.map V.str) (ys.map D.str)
  | [] => .nil
  | y :: ys => .cons (.str y) (Reps.ofStrs ys)
def rJoin (K : PySem.W.Frag) : V → List V → Hp → VK → Prop := fun x xs H Q => ∃ a p, ∃ ys : List Str, x = .str a ∧ xs = [.ref p] ∧ (SqL K H p (ys.map V.str) ∨ SqT K H p (ys.map V.str)) ∧
  (ys.map (·.length)).sum + ys.length * a.length ≤ 16777216 ∧ Q (.str (Txt.join a ys)) H
def rSplit : V → List V → Hp → VK → Prop := fun x xs H Q => ∃ a b, x = .str a ∧ xs = [.str b] ∧ (b.length == 0) = false ∧ a.length + 2 ≤ sizeLine ∧ rNewStrs (Txt.split a b) H Q
def rIndexS : V → List V → Hp → VK → Prop := fun x xs H Q => ∃ a b i rest, x = .str a ∧ xs = [.str b] ∧ Builtin.Str.occurrences a b 0 a.length 1 = i :: rest ∧ Q (.int (i : Nat)) H
theorem evd_join {sep : List Nat} {ps : List (List Nat)} (h : EvD G ta ρ (.str (st sep))) (hl : EvS G tb ρ (ps.map fun p => .str (st p))) (hz : (ps.map List.length).sum + ps.length * sep.length ≤ 100000) : EvD G (tM1 (rJoin G.K) ta tb) ρ (.str (st (joinL sep ps))) := fun F0 H0 F H σ E Q q =>
  h F0 H0 F H σ E _ fun v F1 H1 g1 r1 => by
  cases r1
  refine ⟨⟨_, rfl⟩, hl F0 H0 F1 H1 σ (E.grow g1) _ fun a vs F2 H2 g2 h2 r2 => ?_⟩
  have e2 : (ps.map fun p => D.str (st p)) = (ps.map st).map D.str := by rw [List.map_map]; rfl
  rw [e2] at r2
  have e := reps_strs r2
  subst e
  refine ⟨st sep, a, ps.map st, rfl, rfl, .inl (SqL.of h2), ?_, ?_⟩
  · have e3 : ((ps.map st).map fun s : Str => s.length) = ps.map List.length := by
      rw [List.map_map]
      exact List.map_congr_left fun p _ => st_len p
    rw [e3, List.length_map, st_len]
    omega
  · rw [join_st]
    exact q _ F2 H2 (g1.trans g2) (.str _)
theorem evn_split {c : Nat} {l : List Nat} (h : EvD G ta ρ (.str (st l))) (hb : EvD G tb ρ (.str (st [c]))) (hz : l.length ≤ 100000) : EvN G (tM1 rSplit ta tb) ρ ((splitL c l).map fun p => .str (st p)) := fun F0 H0 F H σ E Q q =>
  h F0 H0 F H σ E _ fun v F1 H1 g1 r1 => by
  cases r1
  refine ⟨⟨_, rfl⟩, hb F0 H0 F1 H1 σ (E.grow g1) _ fun u F2 H2 g2 r2 => ?_⟩
  cases r2
  refine ⟨st l, st [c], rfl, rfl, rfl, ?_, fun p hp => ?_⟩
  · have e : sizeLine = 9007199254740991 ∨ 200000 ≤ sizeLine := .inr (by decide)
    rw [st_len]
    rcases e with e | e <;> omega
  · have g := g1.trans g2
    refine q p _ F2 _ (g.fresh hp) (g.eh.free hp) (g.sub.free hp) upd_same ?_
    rw [split_st]
    have e2 : ((splitL c l).map fun p => D.str (st p)) = ((splitL c l).map st).map D.str := by rw [List.map_map]; rfl
    rw [e2]
    exact .ofStrs _
theorem evd_inS {c : Nat} {l : List Nat} (ha : EvD G ta ρ (.str (st [c]))) (hb : EvD G tb ρ (.str (st l))) : EvD G (tOp (fun x y H Q => ∃ i j, x = .str i ∧ y = .str j ∧ Q (.bl (!(Builtin.Str.occurrences j i 0 j.length 1).isEmpty)) H) ta tb) ρ (.bl (decide (c ∈ l))) := evd_op ha hb (rvd_val fun F H v w rx ry Q q => by
  cases rx
  cases ry
  refine ⟨_, _, rfl, rfl, ?_⟩
  have e := StrLaws.found_one (st l) c
  rw [st_cps] at e
  show Q (.bl (!(Builtin.Str.occurrences (st l) ⟨#[c]⟩ 0 (st l).length 1).isEmpty)) H
  rw [e]
  exact q _ (.bl _))
theorem evd_ninS {c : Nat} {l : List Nat} (ha : EvD G ta ρ (.str (st [c]))) (hb : EvD G tb ρ (.str (st l))) : EvD G (tOp (fun x y H Q => ∃ i j, x = .str i ∧ y = .str j ∧ Q (.bl (!(!(Builtin.Str.occurrences j i 0 j.length 1).isEmpty))) H) ta tb) ρ (.bl (!decide (c ∈ l))) := evd_op ha hb (rvd_val fun F H v w rx ry Q q => by
  cases rx
  cases ry
  refine ⟨_, _, rfl, rfl, ?_⟩
  have e := StrLaws.found_one (st l) c
  rw [st_cps] at e
  show Q (.bl (!(!(Builtin.Str.occurrences (st l) ⟨#[c]⟩ 0 (st l).length 1).isEmpty))) H
  rw [e]
  exact q _ (.bl _))
theorem evd_indexS {a b : Str} {i : Nat} {rest : List Nat} (ha : EvD G ta ρ (.str a)) (hb : EvD G tb ρ (.str b)) (ho : Builtin.Str.occurrences a b 0 a.length 1 = i :: rest) : EvD G (tM1 rIndexS ta tb) ρ (.int i) := fun F0 H0 F H σ E Q q =>
  ha F0 H0 F H σ E _ fun v F1 H1 g1 r1 => by
  cases r1
  refine ⟨⟨_, rfl⟩, hb F0 H0 F1 H1 σ (E.grow g1) _ fun u F2 H2 g2 r2 => ?_⟩
  cases r2
  exact ⟨a, b, i, rest, rfl, rfl, ho, q _ F2 H2 (g1.trans g2) (.int _)⟩
theorem evd_cutS {tl th : TO} {lo hi : Option Int} {l : List Nat} (h : EvD G te ρ (.str (st l))) (hz : l.length ≤ 100000) (h1 : EvO G tl ρ lo) (h2 : EvO G th ρ hi) : EvD G (tSl rSlS te tl th) ρ (.str (st (cut l lo hi))) :=
  evd_is (evd_slS h (by rw [st_len]; exact hz) h1 h2) (by rw [cut_st])
theorem evd_lenSt {l : List Nat} (h : EvD G te ρ (.str (st l))) (hz : l.length ≤ 100000) : EvD G (tCB (fun xs H Q => ∃ z, xs = [V.str z] ∧ z.length ≤ sizeLine ∧ Q (.int z.length) H) (tCons te tNil)) ρ (.int l.length) :=
  evd_is (evd_lenS h (by rw [st_len]; exact hz)) (by rw [st_len])
theorem evd_eqSt {a b : List Nat} (ha : EvD G ta ρ (.str (st a))) (hb : EvD G tb ρ (.str (st b))) : EvD G (tOp rEq ta tb) ρ (.bl (decide (a = b))) := evd_is (evd_eqS ha hb) (by rw [decide_eq_decide.mpr st_inj])
theorem evd_neSt {a b : List Nat} (ha : EvD G ta ρ (.str (st a))) (hb : EvD G tb ρ (.str (st b))) : EvD G (tOp rNe ta tb) ρ (.bl (!decide (a = b))) := evd_is (evd_neS ha hb) (by rw [decide_eq_decide.mpr st_inj])
theorem evd_addSt {a b : List Nat} (ha : EvD G ta ρ (.str (st a))) (hb : EvD G tb ρ (.str (st b))) (hz : a.length + b.length ≤ 100000) : EvD G (tOp (fun x y H Q => ∃ i j, x = .str i ∧ y = .str j ∧ i.length + j.length ≤ sizeLine ∧ Q (.str (i ++ j)) H) ta tb) ρ (.str (st (a ++ b))) :=
  evd_is (evd_addS ha hb (by rw [st_len, st_len]; exact hz)) (by rw [st_app])
theorem evd_lit {s : Str} {l : List Nat} (h : s = st l) : EvD G (tC (.str s)) ρ (.str (st l)) := evd_is evd_str (by rw [h])
end
theorem lit_plus : Str.ofString "+" = st [43] := by decide +kernel
theorem lit_colon : Str.ofString ":" = st [58] := by decide +kernel
theorem lit_comma : Str.ofString "," = st [44] := by decide +kernel
theorem lit_blank : Str.ofString " " = st [32] := by decide +kernel
theorem lit_dash : Str.ofString "-" = st [45] := by decide +kernel
theorem lit_bdash : Str.ofString " -" = st [32, 45] := by decide +kernel
theorem lit_empty : Str.ofString "" = st [] := by decide +kernel
theorem dig_str : ∀ k < 10, Str.ofString (toString ((k : Nat) : Int)) = st [48 + k] := by decide +kernel
section
variable {X : Cx} {o e : Expr} {to te : TE} {K : PySem.W.Frag} {apos pos : Pos}
theorem k_join (ho : PE X o to) (he : PE X e te) (hK : X.K = K := by rfl) (hs : starEach [e] X.env = [(false, eval e X.env)] := by rfl) (hbase : attributeBase o "join" X.env (eval o X.env) = eval o X.env := by rfl) (hline : (apos.endLine == pos.line) = true := by rfl) :
    PE X (.Call (.Attribute o "join" apos) [e] [] pos) (tM1 (rJoin K) to te) := by
  subst hK
  exact pe_m1 F.slot_str_join F.type_str_join mt_join ho he hs hbase hline
theorem k_split (ho : PE X o to) (he : PE X e te) (hs : starEach [e] X.env = [(false, eval e X.env)] := by rfl) (hbase : attributeBase o "split" X.env (eval o X.env) = eval o X.env := by rfl) (hline : (apos.endLine == pos.line) = true := by rfl) :
    PE X (.Call (.Attribute o "split" apos) [e] [] pos) (tM1 rSplit to te) :=
  pe_m1 F.slot_str_split F.type_str_split mt_split ho he hs hbase hline
theorem k_indexS (ho : PE X o to) (he : PE X e te) (hs : starEach [e] X.env = [(false, eval e X.env)] := by rfl) (hbase : attributeBase o "index" X.env (eval o X.env) = eval o X.env := by rfl) (hline : (apos.endLine == pos.line) = true := by rfl) :
    PE X (.Call (.Attribute o "index" apos) [e] [] pos) (tM1 rIndexS to te) :=
  pe_m1 F.slot_str_index F.type_str_index mt_sindex ho he hs hbase hline
end
end Vw

/-! councils as texts -/
namespace Vw
open PySem
def digL (m : Int) : List Nat := [48 + m.toNat]
def bareL (c : Crowd) : List Nat := joinL [43] (c.map digL)
def wordL (c : Crowd) : List Nat := if c = [] then [32, 45] else 32 :: bareL c
def showL (n : Nat) (cs : List Crowd) : List Nat := (48 + n) :: 58 :: joinL [44] (cs.map wordL)
def numL : List Nat → Option Int
  | [c] => if 48 ≤ c ∧ c ≤ 57 then some ((c - 48 : Nat) : Int) else none
  | _ => none
def optAll {α β : Type} (f : α → Option β) : List α → Option (List β)
  | [] => some []
  | x :: xs => match f x, optAll f xs with
    | some a, some b => some (a :: b)
    | _, _ => none
theorem optAll_some {α β : Type} {f : α → Option β} (d : β) : ∀ {xs : List α} {ys : List β}, optAll f xs = some ys → (∀ x ∈ xs, f x = some ((f x).getD d)) ∧ ys = xs.map fun x => (f x).getD d
  | [], ys, h => by
    cases h
    exact ⟨fun x hx => absurd hx (by simp), rfl⟩
  | x :: xs, ys, h => by
    unfold optAll at h
    cases q : f x with
    | none => rw [q] at h; cases h
    | some a =>
      cases q2 : optAll f xs with
      | none => rw [q, q2] at h; cases h
      | some b =>
        rw [q, q2] at h
        cases h
        obtain ⟨h1, h2⟩ := optAll_some d q2
        refine ⟨fun y hy => ?_, ?_⟩
        · rcases List.mem_cons.mp hy with e | e
          · subst e
            rw [q]
            rfl
          · exact h1 y e
        · rw [List.map_cons, q, h2]
          rfl
theorem optAll_map {α β γ : Type} {f : β → Option γ} {g : α → β} {h : α → γ} : ∀ {xs : List α}, (∀ x ∈ xs, f (g x) = some (h x)) → optAll f (xs.map g) = some (xs.map h)
  | [], _ => rfl
  | x :: xs, hx => by
    rw [List.map_cons, List.map_cons]
    unfold optAll
    rw [hx x (List.mem_cons_self ..), optAll_map fun y hy => hx y (List.mem_cons_of_mem _ hy)]
def crowdL (w : List Nat) : Option Crowd := if w = [32, 45] then some [] else if w.take 1 = [32] then optAll numL (splitL 43 (w.drop 1)) else none
theorem numL_dig {m : Int} (h : 0 ≤ m ∧ m < 10) : numL (digL m) = some m := by
  show (if 48 ≤ 48 + m.toNat ∧ 48 + m.toNat ≤ 57 then some ((48 + m.toNat - 48 : Nat) : Int) else none) = some m
  rw [if_pos (by omega)]
  congr 1
  omega
theorem dig_free {m : Int} (c : Nat) (h : c < 48) : c ∉ digL m := by
  unfold digL
  simp
  omega
theorem joinL_mem {sep : List Nat} {x : Nat} : ∀ {ps : List (List Nat)}, x ∈ joinL sep ps → x ∈ sep ∨ ∃ p ∈ ps, x ∈ p
  | [], h => by cases h
  | [p], h => .inr ⟨p, List.mem_cons_self .., h⟩
  | p :: q :: r, h => by
    rcases List.mem_append.mp (show x ∈ (p ++ sep) ++ joinL sep (q :: r) from h) with h | h
    · rcases List.mem_append.mp h with h | h
      · exact .inr ⟨p, List.mem_cons_self .., h⟩
      · exact .inl h
    · rcases joinL_mem h with h | ⟨y, hy, h⟩
      · exact .inl h
      · exact .inr ⟨y, List.mem_cons_of_mem _ hy, h⟩
theorem joinL_len (sep : List Nat) : ∀ ps : List (List Nat), (joinL sep ps).length ≤ (ps.map List.length).sum + ps.length * sep.length
  | [] => Nat.zero_le _
  | [p] => by
    show p.length ≤ _
    simp
  | p :: q :: r => by
    have ih := joinL_len sep (q :: r)
    show ((p ++ sep) ++ joinL sep (q :: r)).length ≤ _
    rw [List.length_append, List.length_append, List.map_cons, List.sum_cons, List.length_cons, Nat.succ_mul]
    omega
theorem word_free {c : Crowd} : 44 ∉ wordL c := by
  unfold wordL
  split
  · simp
  · intro h
    rcases List.mem_cons.mp h with e | e
    · cases e
    · rcases joinL_mem e with e | ⟨p, hp, e⟩
      · simp at e
      · obtain ⟨m, _, rfl⟩ := List.mem_map.mp hp
        exact dig_free 44 (by decide) e
theorem crowdL_word {c : Crowd} (h : ∀ m ∈ c, 0 ≤ m ∧ m < 10) : crowdL (wordL c) = some c := by
  unfold crowdL wordL
  by_cases e : c = []
  · subst e
    rfl
  · have hne : c.map digL ≠ [] := by simpa using e
    have hsp : splitL 43 (bareL c) = c.map digL := split_join 43 _ hne fun p hp => by
      obtain ⟨m, _, rfl⟩ := List.mem_map.mp hp
      exact dig_free 43 (by decide)
    rw [if_neg e, if_neg ?_, if_pos (show List.take 1 (32 :: bareL c) = [32] from rfl)]
    · show optAll numL (splitL 43 (bareL c)) = _
      rw [hsp, optAll_map (h := fun m => m) fun m hm => numL_dig (h m hm), List.map_id']
    · intro z
      have z2 : bareL c = [45] := (List.cons.inj z).2
      rw [z2] at hsp
      have : splitL 43 [45] = [[45]] := by decide
      rw [this] at hsp
      cases c with
      | nil => exact e rfl
      | cons m r =>
        have := (List.cons.inj hsp).1
        unfold digL at this
        have := (List.cons.inj this).1
        omega
/-- the digits' count -/
theorem bare_len (c : Crowd) : (bareL c).length ≤ 2 * c.length := by
  have h := joinL_len [43] (c.map digL)
  have e : ((c.map digL).map List.length).sum = c.length := by
    induction c with
    | nil => rfl
    | cons m r ih =>
      rw [List.map_cons, List.map_cons, List.sum_cons, List.length_cons, ih (joinL_len _ _)]
      show 1 + _ = _
      omega
  unfold bareL
  rw [e, List.length_map] at h
  simp at h
  omega
theorem word_len (c : Crowd) : (wordL c).length ≤ 2 * c.length + 2 := by
  unfold wordL
  split
  · simp
  · have := bare_len c
    rw [List.length_cons]
    omega
theorem words_len {cs : List Crowd} (h : ∀ c ∈ cs, c.length ≤ 5) : ((cs.map wordL).map List.length).sum ≤ 12 * cs.length := by
  induction cs with
  | nil => exact Nat.le_refl _
  | cons c cs ih =>
    rw [List.map_cons, List.map_cons, List.sum_cons, List.length_cons]
    have h1 := word_len c
    have h2 := h c (List.mem_cons_self ..)
    have h3 := ih fun d hd => h d (List.mem_cons_of_mem _ hd)
    omega
theorem joined_len {cs : List Crowd} (h : ∀ c ∈ cs, c.length ≤ 5) : (joinL [44] (cs.map wordL)).length ≤ 13 * cs.length := by
  have h1 := joinL_len [44] (cs.map wordL)
  have h2 := words_len h
  rw [List.length_map] at h1
  have h3 : cs.length * [44].length = cs.length := by simp
  rw [h3] at h1
  omega
theorem show_len {n : Nat} {cs : List Crowd} (h : ∀ c ∈ cs, c.length ≤ 5) : (showL n cs).length ≤ 13 * cs.length + 2 := by
  have := joined_len h
  unfold showL
  rw [List.length_cons, List.length_cons]
  omega
theorem least_clen {n : Nat} (hn : n ≤ 5) (told : List Crowd) : ∀ c ∈ least n told, c.length ≤ 5 := fun c hc => (cs_good hn (least_good hn told c hc)).2
theorem least_congr {n : Nat} (hn : n ≤ 5) {a b : List Crowd} (h : ∀ c ∈ crowdsOf n, bears a c = bears b c) : least n a = least n b := by
  rw [least_eq hn, least_eq hn]
  refine List.filter_congr fun c hc => ?_
  unfold isLeast
  rw [h c hc]
  congr 1
  rw [Bool.eq_iff_iff, List.all_eq_true, List.all_eq_true]
  constructor
  · intro q x hx
    have := q x hx
    rw [h x hx] at this
    exact this
  · intro q x hx
    have := q x hx
    rw [← h x hx] at this
    exact this
theorem least_least {n : Nat} (hn : n ≤ 5) (told : List Crowd) : least n (least n told) = least n told := least_congr hn fun c hc => bears_least hn hc
theorem words_split {cs : List Crowd} (h : cs ≠ []) : splitL 44 (joinL [44] (cs.map wordL)) = cs.map wordL := split_join 44 _ (by simpa using h) fun p hp => by
  obtain ⟨c, _, rfl⟩ := List.mem_map.mp hp
  exact word_free
theorem dig_int {m : Int} (h : 0 ≤ m ∧ m < 10) : Str.ofString (toString m) = st (digL m) := by
  obtain ⟨k, rfl⟩ : ∃ k : Nat, (k : Int) = m := ⟨m.toNat, by omega⟩
  have := dig_str k (by omega)
  rw [this]
  rfl
theorem log_small : ∀ k < 10, Nat.log2 k < 1920 := by decide
theorem dig_log {m : Int} (h : 0 ≤ m ∧ m < 10) : m.natAbs.log2 < 1920 := log_small _ (by omega)
theorem joinL_snoc (sep p : List Nat) : ∀ ps : List (List Nat), joinL sep (ps ++ [p]) = if ps = [] then p else joinL sep ps ++ sep ++ p
  | [] => rfl
  | [x] => rfl
  | x :: y :: r => by
    have ih := joinL_snoc sep p (y :: r)
    rw [if_neg (by simp)] at ih ⊢
    show (x ++ sep) ++ joinL sep ((y :: r) ++ [p]) = _
    rw [ih]
    show _ = ((x ++ sep) ++ joinL sep (y :: r)) ++ sep ++ p
    simp
def textStep (cs : List Crowd) (t : List Nat) (k : Nat) : List Nat := (if 0 < k then t ++ [44] else t) ++ wordL (cs.getD k [])
theorem text_fold (n : Nat) (cs : List Crowd) : ∀ k, k ≤ cs.length → (List.range k).foldl (textStep cs) [48 + n, 58] = showL n (cs.take k)
  | 0, _ => rfl
  | k + 1, h => by
    rw [List.range_succ, List.foldl_append, text_fold n cs k (by omega), List.foldl_cons, List.foldl_nil]
    have e : cs.take (k + 1) = cs.take k ++ [cs.getD k []] := by
      rw [List.take_add_one, List.getD_eq_getElem?_getD, List.getElem?_eq_getElem (by omega)]
      rfl
    rw [e]
    unfold textStep showL
    rw [List.map_append, List.map_cons, List.map_nil, joinL_snoc]
    by_cases hk : k = 0
    · subst hk
      rw [if_neg (by omega), if_pos (by simp)]
      rfl
    · rw [if_pos (by omega), if_neg (by
        intro z
        have := congrArg List.length z
        rw [List.length_map, List.length_take, List.length_nil] at this
        omega)]
      simp
theorem bare_nil {c : Crowd} : bareL c = [] ↔ c = [] := by
  constructor
  · intro h
    cases c with
    | nil => rfl
    | cons m r =>
      unfold bareL at h
      rw [List.map_cons] at h
      cases r with
      | nil => cases h
      | cons x r => cases h
  · intro h
    subst h
    rfl
theorem word_bare (c : Crowd) : wordL c = [32] ++ bareL c ++ if bareL c = [] then [45] else [] := by
  unfold wordL
  by_cases h : c = []
  · subst h
    rfl
  · rw [if_neg h, if_neg (fun z => h (bare_nil.mp z))]
    simp
section
open L2 PySem.Spec PyProof.Rows
variable {G : Cfg} {ρ : Rho} {te : TE}
theorem evd_dig {m : Int} (h : EvD G te ρ (.int m)) (hm : 0 ≤ m ∧ m < 10) : EvD G (tCB (fun xs H Q => ∃ i, xs = [V.int i] ∧ i.natAbs.log2 < 1920 ∧ Q (.str (toString i)) H) (tCons te tNil)) ρ (.str (st (digL m))) :=
  evd_is (evd_strI h (dig_log hm)) (congrArg D.str (dig_int hm))
end
theorem foldl_snoc {α β : Type} (f : α → β) : ∀ (l : List α) (acc : List β), l.foldl (fun acc x => acc ++ [f x]) acc = acc ++ l.map f
  | [], acc => by simp
  | x :: l, acc => by
    rw [List.foldl_cons, foldl_snoc f l]
    simp
end Vw

namespace Vw
open PySem L2 PySem.Spec PyProof.Rows L2H
/-! ### a def called inside an except suite, the exception its argument -/
abbrev SpE := Addr → Value → Option Addr → List V → Hp → VK → Prop
structure FnE (P : Program) (w : World) (K : PySem.W.Frag) (mg : Str → Option Value) (base : Heap) (k : Nat) (f : Addr) (fd : FuncData) (ps : List Str) (sp : SpE) : Prop where
  len : ∀ a c d vs H Q, sp a c d vs H Q → vs.length = ps.length
  run : ∀ (A : Around) (outer : List Env) (s : Shared) (H : Hp) (args : Args) (us : List Value) (vs : List V) (Q : VK) (a : Addr) (oe : Obj) (c : Value) (d : Option Addr), RoomH k A → PinOk outer H s (a, oe) → Zc c d oe → (∃ x, oe.data = .fields x) →
    Env0 P w K mg base A outer s H → BindsTo s fd args (ps.zip us) → Vals vs us → sp a c d vs H Q → codeAny (model P w) A (.call (.ref f) args) (CR CX0 outer P w H s Q E0) s
theorem fn_mkE {P : Program} {w : World} {K : PySem.W.Frag} {mg : Str → Option Value} {base : Heap} {x qual : Str} {ss : Stmt} {k : Nat} {f : Addr} {fd : FuncData} {N ps : List Str} {sp : SpE} (F : Fun K x qual ss f fd) (S : FnScope N ps (defScope ss))
    (len : ∀ a c d vs H Q, sp a c d vs H Q → vs.length = ps.length)
    (hbody : ∀ (cdv : Value) (A : Around) (outer : List Env) (s : Shared) (H : Hp) (vs : List V) (Q : VK) (a : Addr) (oe : Obj) (c : Value) (d : Option Addr), RoomH k (A.deeper (envOfC qual (defScope ss) s.heap.objs.size f cdv)) → Zc c d oe → (∃ x, oe.data = .fields x) → sp a c d vs H Q →
      ∃ t, PSs (cxH CX0 P w K mg base N qual (defScope ss) f cdv A outer s H E0 (a, oe)) (defBody ss) t ∧ t { nx := fun _ H' => Q .non H', rt := Q } (L2.start N vs) H) : FnE P w K mg base (k + 1) f fd ps sp := by
  obtain ⟨oc, od, kV, doc, pm, an, cdv, ct, osl, rfl, lk, hcd⟩ := F.ex
  refine ⟨len, fun A outer s H args us vs Q a oe c d hr hpin hz hf e0 hb r hsp => ?_⟩
  have hlen := len _ _ _ _ _ _ hsp
  have inK : K.In s.heap := e0.mod.kin.keeps fun b o z => (e0.bs b o z).1
  have noLim : s.heap.NoLimit := e0.mod.nolimit.keeps fun b o z => (e0.bs b o z).1
  have kinds : ∀ y ∈ ps.zip us, (defScope ss).names.lookup y.1 = some .local ∨ ((defScope ss).names.lookup y.1 = some .cell ∧ ((cellsFrom (s.heap.objs.size + 1) (defScope ss).names []).lookup y.1).isSome = true) := by
    rintro ⟨n, v⟩ hy
    cases S.par n (List.of_mem_zip hy).1 with
    | inl q => exact .inl q
    | inr q => exact .inr ⟨q, PySem.W.cellsFrom_some _ _ _ (.inl q)⟩
  refine codeAny_call_function hr.depth (inK _ _ lk) rfl S.co S.gen rfl (PySem.W.codeRec_of inK hcd) (hb _ _ _ _ (wpAny_newFunctionEnv_cells S.kind kinds fun env he s1 made => ?_))
  subst he
  refine ⟨noLim.keeps made.toInCall.keep, codeAny_func ?_⟩
  obtain ⟨t, ht, hq⟩ := hbody cdv A outer s H vs Q a oe c d (hr.deeper _) hz hf hsp
  have I0 : Inv (cxH CX0 P w K mg base N qual (defScope ss) f cdv A outer s H E0 (a, oe)) [] (L2.start N vs) H s1 := inv_startH S hpin e0 hlen r made
  refine wpAny_mono (ht.run [] s1 (L2.start N vs) H _ I0 hq) (fun fl s' hs => ?_) fun e s' hs => hs
  cases fl with
  | ret u =>
    obtain ⟨v, σ', H', J, rv, q⟩ := hs
    exact ⟨v, H', J.os, J.bare, J.base, J.hok, rv, q⟩
  | next =>
    obtain ⟨σ', H', J, q⟩ := hs
    exact ⟨V.non, H', J.os, J.bare, J.base, J.hok, rfl, q⟩
  | brk =>
    obtain ⟨_, _, _, z⟩ := hs
    exact z.elim
  | cont =>
    obtain ⟨_, _, _, z⟩ := hs
    exact z.elim
structure FnEx (G : Cfg) (P : Program) (w : World) (mg : Str → Option Value) (base : Heap) (x : Str) (k : Nat) (ps : List Str) (sp : SpE) : Prop where
  ex : ∃ (f : Addr) (fd : FuncData), FnE P w G.K mg base k f fd ps sp ∧ mg x = some (.ref f) ∧ PySem.W.keepIn G.K (.ref f) = true ∧ Binds G.K fd ps []
def tCallE (sp : SpE) (a : Addr) (c : Value) (d : Option Addr) (t : TA) : TE := fun σ H Q => t σ H fun vs H1 => sp a c d vs H1 Q
theorem pe_callE {X : Cx} {G : Cfg} {x : Str} {k : Nat} {ps : List Str} {sp : SpE} {e : Expr} {es : List Expr} {p pos : Pos} {ta : TA} {a : Addr} {c : Value} {d : Option Addr} {oe : Obj} {pn : List (Addr × Obj)} (H : FnEx G X.prog X.w X.mg X.base x k ps sp) (hr : Room k X.A)
    (hz : Zc c d oe) (hf : ∃ x, oe.data = .fields x) (hg : Gl X x) (ha : PA (X.suite a ((a, oe) :: pn)) (e :: es) ta) (hK : G.K = X.K := by rfl) (hdb : (x == ("__debug__" : Str)) = false := by decide)
    (he : starEach (e :: es) (X.suite a ((a, oe) :: pn)).env = (false, eval e (X.suite a ((a, oe) :: pn)).env) :: starEach es (X.suite a ((a, oe) :: pn)).env := by rfl) (hpl : (backTo pos (starEach es (X.suite a ((a, oe) :: pn)).env)).any (·.1) = false := by rfl) :
    PE (X.suite a ((a, oe) :: pn)) (.Call (.Name x p) (e :: es) [] pos) (tCallE sp a c d ta) := by
  obtain ⟨f, fd, F, hm, hk, hb⟩ := H.ex
  rw [hK] at F hk hb
  refine ⟨fun pins s σ H Q I h => ?_⟩
  refine wpAny_Call_Name_kw (ld_glob (X := X.suite a ((a, oe) :: pn)) I hg hm ?_ hdb)
  refine PySem.W.callWith_K (h₀ := X.base) I.ok.mod.kin hk (thn (ha.run pos pins s σ H _ I h) fun us s1 hh => ?_) he hpl
  obtain ⟨vs, H1, I1, r, q⟩ := hh
  refine ⟨I1.kIn, ?_⟩
  have hl : us.length = ps.length := by rw [← r.length]; exact F.len _ _ _ _ _ _ q
  have b := hb s1 us I1.kIn (by rw [List.append_nil]; exact hl)
  rw [List.append_nil] at b
  have P1 := I1.pin (a, oe) (List.mem_append_left _ (List.mem_cons_self ..))
  have hpin : PinOk X.stack H1 s1 (a, oe) := ⟨P1.1, P1.2.1, fun hm => (List.mem_cons.mp (I1.stkSub a hm)).elim P1.2.2.1 P1.2.2.2.1, P1.2.2.2.2⟩
  refine wpAny_call (codeAny_mono (F.run (X.A.mark (some (.ref a))) X.stack s1 H1 ⟨us, []⟩ us vs Q a oe c d ⟨hr.dp, hr.un⟩ hpin hz hf I1.env0 b r q) fun r s' hq => ?_)
  cases r with
  | error e => exact hq.elim
  | ok fl =>
    cases fl with
    | ret u => exact I1.after hq
    | next => exact False.elim hq
    | brk => exact False.elim hq
    | cont => exact False.elim hq
/-- isinstance(e, c) in such a def -/
theorem k_isEp {X : Cx} {K : PySem.W.Frag} {a : Addr} {cls : Value} {oe : Obj} {d : Option Addr} (hm : (a, oe) ∈ X.pn) (hz : Zc cls d oe) (hf : ∃ vs, oe.data = .fields vs) (hK : X.K = K := by rfl) : CallR X (.builtin "isinstance") (rIsEx K cls d a) := by
  subst hK
  intro pins s σ H xs us Q I r h
  obtain ⟨rfl, D, rfl, C, c, cv, b, rfl, hcv, e, q⟩ := h
  cases r with
  | cons rx rr =>
  cases rr with
  | cons rt rr =>
  cases rr
  cases rx
  have ec := hcv _ rt
  subst ec
  have hget := (I.pin (a, oe) (List.mem_append_left _ hm)).1
  obtain ⟨vs, hv⟩ := hf
  obtain ⟨oc, od, oda, osl⟩ := oe
  obtain ⟨h1, h2⟩ := hz
  dsimp only at h1 h2 hv
  subst h1 h2 hv
  have J : PySem.W.InstAt s.heap a _ D none := ⟨hget, rfl, rfl, trivial⟩
  exact PySem.W.kia_one (PySem.W.handS_kitx_exc C.hg C.hk C.hs C.hd C.ha C.hn C.ht C.hm) I.kIn J e (fun z => nomatch z) fun tk => ⟨.bl b, H, I.kept (t' := tk) fun _ _ z => z, rfl, q⟩
/-- what a def promises that makes a list of flags of the exception -/
def spFl (G : Cfg) (V : Addr) (ts : List Err) : SpE := fun a c d vs H Q => ∃ (F : Hp) (e : Err), c = .ref (G.ex e) ∧ d = none ∧ ExK G V e ts ∧ vs = [.ref a] ∧ Same F H ∧
  ∀ b ws F' H', Grow F H F' H' → H b = none → F' b = none → H' b = some (.lst ws) → Reps G F' ws ((flagsBy ts e).map .bl) → Q (.ref b) H'
theorem evn_callE {G : Cfg} {V : Addr} {ts : List Err} {te : TE} {ρ : Rho} {a : Addr} {e : Err} (K : ExK G V e ts) (h : EvD G te ρ (.ptr a)) : EvN G (tCallE (spFl G V ts) a (.ref (G.ex e)) none (tCons te tNil)) ρ ((flagsBy ts e).map .bl) := fun F0 H0 F H σ E Q q =>
  h F0 H0 F H σ E _ fun v F1 H1 g r1 => by
  cases r1
  exact ⟨F1, e, rfl, rfl, K, rfl, g.sub, fun b ws F' H' g' n1 n2 h1 r => q b ws F' H' (g.trans g') (g.eh.free n1) n2 h1 r⟩
end Vw

/-! games of at most five members: each monotone one is weighted, or it has a trade -/
namespace Vw
def thrs : Nat → List (Nat × List Int × Int)
  | 1 => [(0, [0], 1), (2, [1], 1), (3, [0], 0)]
  | 2 => [(0, [0, 0], 1), (8, [1, 1], 2), (10, [1, 0], 1), (14, [1, 1], 1), (15, [0, 0], 0)]
  | 3 => [(0, [0, 0, 0], 1), (128, [1, 1, 1], 3), (136, [1, 1, 0], 2), (168, [2, 1, 1], 3), (170, [1, 0, 0], 1), (232, [1, 1, 1], 2), (234, [2, 1, 1], 2), (238, [1, 1, 0], 1), (254, [1, 1, 1], 1), (255, [0, 0, 0], 0)]
  | 4 => [(0, [0, 0, 0, 0], 1), (32768, [1, 1, 1, 1], 4), (32896, [1, 1, 1, 0], 3), (34944, [2, 2, 1, 1], 5), (34952, [1, 1, 0, 0], 2), (43136, [2, 1, 1, 1], 4), (43144, [3, 2, 1, 1], 5), (43176, [2, 1, 1, 0], 3), (43688, [3, 1, 1, 1], 4), (43690, [1, 0, 0, 0], 1), (59520, [1, 1, 1, 1], 3), (59528, [2, 2, 1, 1], 4), (59560, [3, 2, 2, 1], 5), (59624, [1, 1, 1, 0], 2), (60072, [2, 1, 1, 1], 3), (60074, [3, 1, 1, 1], 3), (60136, [3, 2, 2, 1], 4), (60138, [2, 1, 1, 0], 2), (61160, [2, 2, 1, 1], 3), (61162, [3, 2, 1, 1], 3), (61166, [1, 1, 0, 0], 1), (65256, [1, 1, 1, 1], 2), (65258, [2, 1, 1, 1], 2), (65262, [2, 2, 1, 1], 2), (65278, [1, 1, 1, 0], 1), (65534, [1, 1, 1, 1], 1), (65535, [0, 0, 0, 0], 0)]
  | 5 => [(0, [0, 0, 0, 0, 0], 1), (2147483648, [1, 1, 1, 1, 1], 5), (2147516416, [1, 1, 1, 1, 0], 4), (2155905024, [2, 2, 2, 1, 1], 7), (2155905152, [1, 1, 1, 0, 0], 3), (2290122752, [2, 2, 1, 1, 1], 6), (2290122880, [3, 3, 2, 1, 1], 8), (2290124928, [2, 2, 1, 1, 0], 5), (2290649216, [3, 3, 1, 1, 1], 7), (2290649224, [1, 1, 0, 0, 0], 2), (2826993664, [2, 1, 1, 1, 1], 5), (2826993792, [3, 2, 2, 1, 1], 7), (2826995840, [4, 3, 2, 2, 1], 9), (2827004032, [2, 1, 1, 1, 0], 4), (2827520128, [3, 2, 1, 1, 1], 6), (2827520136, [4, 3, 1, 1, 1], 7), (2827528320, [5, 3, 2, 2, 1], 9), (2827528328, [3, 2, 1, 1, 0], 5), (2829625472, [4, 2, 2, 1, 1], 7), (2829625480, [5, 3, 2, 1, 1], 8), (2829625512, [2, 1, 1, 0, 0], 3), (2863179904, [3, 1, 1, 1, 1], 5), (2863179912, [4, 2, 1, 1, 1], 6), (2863179944, [5, 2, 2, 1, 1], 7), (2863180456, [3, 1, 1, 1, 0], 4), (2863311528, [4, 1, 1, 1, 1], 5), (2863311530, [1, 0, 0, 0, 0], 1), (3900735488, [1, 1, 1, 1, 1], 4), (3900735616, [2, 2, 2, 1, 1], 6), (3900737664, [3, 3, 2, 2, 1], 8), (3900745856, [3, 2, 2, 2, 1], 7), (3900762240, [1, 1, 1, 1, 0], 3), (3901261952, [2, 2, 1, 1, 1], 5), (3901261960, [3, 3, 1, 1, 1], 6), (3901270144, [4, 3, 2, 2, 1], 8), (3901270152, [5, 4, 2, 2, 1], 9), (3901286528, [3, 3, 2, 2, 1], 7), (3901286536, [2, 2, 1, 1, 0], 4), (3903367296, [3, 2, 2, 1, 1], 6), (3903367304, [4, 3, 2, 1, 1], 7), (3903367336, [5, 3, 3, 1, 1], 8), (3903383680, [4, 3, 3, 2, 1], 8), (3903383688, [5, 4, 3, 2, 1], 9), (3903383720, [3, 2, 2, 1, 0], 5), (3907577984, [2, 2, 2, 1, 1], 5), (3907577992, [3, 3, 2, 1, 1], 6), (3907578024, [4, 3, 3, 1, 1], 7), (3907578088, [1, 1, 1, 0, 0], 2), (3936921728, [2, 1, 1, 1, 1], 4), (3936921736, [3, 2, 1, 1, 1], 5), (3936921768, [4, 2, 2, 1, 1], 6), (3936922280, [5, 2, 2, 2, 1], 7), (3936938112, [3, 2, 2, 2, 1], 6), (3936938120, [4, 3, 2, 2, 1], 7), (3936938152, [5, 3, 3, 2, 1], 8), (3936938664, [2, 1, 1, 1, 0], 3), (3937053352, [3, 1, 1, 1, 1], 4), (3937053354, [4, 1, 1, 1, 1], 4), (3937069736, [5, 2, 2, 2, 1], 6), (3937069738, [3, 1, 1, 1, 0], 3), (3941132416, [4, 3, 3, 2, 2], 8), (3941132424, [5, 4, 3, 2, 2], 9), (3941132456, [3, 2, 2, 1, 1], 5), (3941132520, [4, 3, 3, 1, 1], 6), (3941132968, [5, 3, 3, 2, 1], 7), (3941133032, [3, 2, 2, 1, 0], 4), (3941264040, [4, 2, 2, 1, 1], 5), (3941264042, [5, 2, 2, 1, 1], 5), (3941264104, [5, 3, 3, 1, 1], 6), (3941264106, [2, 1, 1, 0, 0], 2), (4008241280, [3, 3, 2, 2, 2], 7), (4008241288, [2, 2, 1, 1, 1], 4), (4008241320, [5, 4, 3, 2, 2], 8), (4008241384, [3, 3, 2, 1, 1], 5), (4008241832, [4, 3, 2, 2, 1], 6), (4008241896, [5, 4, 3, 2, 1], 7), (4008242920, [2, 2, 1, 1, 0], 3), (4008372904, [3, 2, 1, 1, 1], 4), (4008372906, [4, 2, 1, 1, 1], 4), (4008372968, [4, 3, 2, 1, 1], 5), (4008372970, [5, 3, 2, 1, 1], 5), (4008373992, [5, 4, 2, 2, 1], 6), (4008373994, [3, 2, 1, 1, 0], 3), (4008636136, [3, 3, 1, 1, 1], 4), (4008636138, [4, 3, 1, 1, 1], 4), (4008636142, [1, 1, 0, 0, 0], 1), (4276676736, [1, 1, 1, 1, 1], 3), (4276676744, [3, 3, 2, 2, 2], 6), (4276676776, [4, 3, 3, 2, 2], 7), (4276676840, [2, 2, 2, 1, 1], 4), (4276677288, [3, 2, 2, 2, 1], 5), (4276677352, [4, 3, 3, 2, 1], 6), (4276678376, [3, 3, 2, 2, 1], 5), (4276682472, [1, 1, 1, 1, 0], 2), (4276808360, [2, 1, 1, 1, 1], 3), (4276808362, [3, 1, 1, 1, 1], 3), (4276808424, [3, 2, 2, 1, 1], 4), (4276808426, [4, 2, 2, 1, 1], 4), (4276809448, [4, 3, 2, 2, 1], 5), (4276809450, [5, 3, 2, 2, 1], 5), (4276813544, [3, 2, 2, 2, 1], 4), (4276813546, [2, 1, 1, 1, 0], 2), (4277071592, [2, 2, 1, 1, 1], 3), (4277071594, [3, 2, 1, 1, 1], 3), (4277071598, [3, 3, 1, 1, 1], 3), (4277075688, [3, 3, 2, 2, 1], 4), (4277075690, [4, 3, 2, 2, 1], 4), (4277075694, [2, 2, 1, 1, 0], 2), (4278124264, [2, 2, 2, 1, 1], 3), (4278124266, [3, 2, 2, 1, 1], 3), (4278124270, [3, 3, 2, 1, 1], 3), (4278124286, [1, 1, 1, 0, 0], 1), (4294901480, [1, 1, 1, 1, 1], 2), (4294901482, [2, 1, 1, 1, 1], 2), (4294901486, [2, 2, 1, 1, 1], 2), (4294901502, [2, 2, 2, 1, 1], 2), (4294901758, [1, 1, 1, 1, 0], 1), (4294967294, [1, 1, 1, 1, 1], 1), (4294967295, [0, 0, 0, 0, 0], 0)]
  | _ => []
/-- two crowds that carry and two that do not: as masks, and by their numbers -/
def quads : Nat → List (Nat × Nat × Nat × Nat × Nat × Nat)
  | 4 => [(4104, 1056, 3, 12, 5, 10), (1056, 4104, 5, 10, 3, 12), (4104, 576, 3, 12, 6, 9), (576, 4104, 6, 9, 3, 12), (1056, 576, 5, 10, 6, 9), (576, 1056, 6, 9, 5, 10)]
  | 5 => [(4104, 1056, 3, 12, 5, 10), (1056, 4104, 5, 10, 3, 12), (33554560, 2099200, 7, 25, 11, 21), (2099200, 33554560, 11, 21, 7, 25), (131136, 1048584, 6, 17, 3, 20), (67108992, 540672, 7, 26, 14, 19), (262656, 132096, 9, 18, 10, 17), (2113536, 4202496, 14, 21, 13, 22), (16777224, 262656, 3, 24, 9, 18), (4202496, 268435584, 13, 22, 7, 28), (1049600, 16777280, 10, 20, 6, 24), (268959744, 69206016, 19, 28, 21, 26), (67108896, 1050624, 5, 26, 11, 20), (1050624, 67108896, 11, 20, 5, 26), (33554496, 528384, 6, 25, 12, 19), (135168, 1049088, 12, 17, 9, 20), (67117056, 33570816, 13, 26, 14, 25), (266240, 16777280, 12, 18, 6, 24), (268959744, 37748736, 19, 28, 22, 25), (1049088, 135168, 9, 20, 12, 17), (33570816, 67117056, 14, 25, 13, 26), (268435464, 147456, 3, 28, 14, 17), (131136, 262176, 6, 17, 5, 18), (4196352, 540672, 11, 22, 14, 19), (147456, 16777344, 14, 17, 7, 24), (16777280, 1049600, 6, 24, 10, 20), (69206016, 268959744, 21, 26, 19, 28), (262176, 131136, 5, 18, 6, 17), (540672, 4196352, 14, 19, 11, 22), (16777344, 270336, 7, 24, 13, 18), (4194816, 268435464, 9, 22, 3, 28), (2098176, 4194816, 10, 21, 9, 22), (270336, 2098176, 13, 18, 10, 21), (4194816, 2098176, 9, 22, 10, 21), (2098176, 270336, 10, 21, 13, 18), (16777248, 135168, 5, 24, 12, 17), (33570816, 268437504, 14, 25, 11, 28), (528384, 33554496, 12, 19, 6, 25), (268435584, 4202496, 7, 28, 13, 22), (262656, 16777224, 9, 18, 3, 24), (1048584, 262176, 3, 20, 5, 18), (4196352, 67108992, 11, 22, 7, 26), (67108896, 4194816, 5, 26, 9, 22), (270336, 1050624, 13, 18, 11, 20), (1056, 576, 5, 10, 6, 9), (532480, 2099200, 13, 19, 11, 21), (576, 1056, 6, 9, 5, 10), (2099200, 532480, 11, 21, 13, 19), (1048584, 131136, 3, 20, 6, 17), (262176, 1048584, 5, 18, 3, 20), (67108992, 4196352, 7, 26, 11, 22), (268435584, 2113536, 7, 28, 14, 21), (132096, 16777224, 10, 17, 3, 24), (528384, 16777344, 12, 19, 7, 24), (1049600, 266240, 10, 20, 12, 18), (37748736, 69206016, 22, 25, 21, 26), (1050624, 147456, 11, 20, 14, 17), (147456, 67108896, 14, 17, 5, 26), (268435464, 33554496, 3, 28, 6, 25), (540672, 67108992, 14, 19, 7, 26), (33554496, 268435464, 6, 25, 3, 28), (16777344, 528384, 7, 24, 12, 19), (1049088, 16777248, 9, 20, 5, 24), (268437504, 67117056, 11, 28, 13, 26), (576, 4104, 6, 9, 3, 12), (33554560, 532480, 7, 25, 13, 19), (4104, 576, 3, 12, 6, 9), (16777224, 132096, 3, 24, 10, 17), (532480, 33554560, 13, 19, 7, 25), (2113536, 268435584, 14, 21, 7, 28), (16777248, 1049088, 5, 24, 9, 20), (16777280, 266240, 6, 24, 12, 18), (33554496, 270336, 6, 25, 13, 18), (16777344, 4194816, 7, 24, 9, 22), (4194816, 528384, 9, 22, 12, 19), (132096, 262656, 10, 17, 9, 18), (1050624, 33554496, 11, 20, 6, 25), (268437504, 33570816, 11, 28, 14, 25), (135168, 16777248, 12, 17, 5, 24), (266240, 1049600, 12, 18, 10, 20), (528384, 67108896, 12, 19, 5, 26), (270336, 268435464, 13, 18, 3, 28), (4202496, 2113536, 13, 22, 14, 21), (67117056, 268437504, 13, 26, 11, 28), (69206016, 37748736, 21, 26, 22, 25), (37748736, 268959744, 22, 25, 19, 28), (4194816, 147456, 9, 22, 14, 17), (147456, 270336, 14, 17, 13, 18), (268435464, 67108896, 3, 28, 5, 26), (268435464, 2098176, 3, 28, 10, 21), (67108896, 268435464, 5, 26, 3, 28), (16777344, 1050624, 7, 24, 11, 20), (2098176, 33554496, 10, 21, 6, 25), (2098176, 16777344, 10, 21, 7, 24), (1050624, 16777344, 11, 20, 7, 24), (528384, 2098176, 12, 19, 10, 21), (67108896, 528384, 5, 26, 12, 19), (33554496, 1050624, 6, 25, 11, 20), (270336, 147456, 13, 18, 14, 17), (147456, 4194816, 14, 17, 9, 22), (268435464, 4194816, 3, 28, 9, 22), (268435464, 270336, 3, 28, 13, 18), (67108896, 33554496, 5, 26, 6, 25), (67108896, 147456, 5, 26, 14, 17), (33554496, 67108896, 6, 25, 5, 26), (33554496, 2098176, 6, 25, 10, 21), (16777344, 2098176, 7, 24, 10, 21), (16777344, 147456, 7, 24, 14, 17), (4194816, 67108896, 9, 22, 5, 26), (4194816, 16777344, 9, 22, 7, 24), (2098176, 268435464, 10, 21, 3, 28), (2098176, 528384, 10, 21, 12, 19), (1050624, 528384, 11, 20, 12, 19), (1050624, 270336, 11, 20, 13, 18), (528384, 4194816, 12, 19, 9, 22), (528384, 1050624, 12, 19, 11, 20), (270336, 33554496, 13, 18, 6, 25), (270336, 16777344, 13, 18, 7, 24), (147456, 268435464, 14, 17, 3, 28), (147456, 1050624, 14, 17, 11, 20)]
  | _ => []
def mon4 : List Nat := [0, 32768, 49152, 40960, 57344, 61440, 34816, 51200, 43008, 59392, 63488, 52224, 60416, 64512, 43520, 59904, 64000, 60928, 65024, 65280, 32896, 49280, 41088, 57472, 61568, 34944, 51328, 43136, 59520, 63616, 52352, 60544, 64640, 43648, 60032, 64128, 61056, 65152, 65408, 49344, 57536, 61632, 51392, 59584, 63680, 52416, 60608, 64704, 60096, 64192, 61120, 65216, 65472, 41120, 57504, 61600, 43168, 59552, 63648, 60576, 64672, 43680, 60064, 64160, 61088, 65184, 65440, 57568, 61664, 59616, 63712, 60640, 64736, 60128, 64224, 61152, 65248, 65504, 61680, 63728, 64752, 64240, 65264, 65520, 34952, 51336, 43144, 59528, 63624, 52360, 60552, 64648, 43656, 60040, 64136, 61064, 65160, 65416, 51400, 59592, 63688, 52424, 60616, 64712, 60104, 64200, 61128, 65224, 65480, 43176, 59560, 63656, 60584, 64680, 43688, 60072, 64168, 61096, 65192, 65448, 59624, 63720, 60648, 64744, 60136, 64232, 61160, 65256, 65512, 63736, 64760, 64248, 65272, 65528, 52428, 60620, 64716, 61132, 65228, 65484, 60652, 64748, 61164, 65260, 65516, 64764, 65276, 65532, 43690, 60074, 64170, 61098, 65194, 65450, 60138, 64234, 61162, 65258, 65514, 64250, 65274, 65530, 61166, 65262, 65518, 65278, 65534, 65535]
def monos : Nat → List Nat
  | 0 => [0, 1]
  | n + 1 => (monos n).flatMap fun a => ((monos n).filter fun b => Nat.beq (Nat.land a b) a).map fun b => Nat.lor a (Nat.shiftLeft b (2 ^ n))
def maskOf (f : Nat → Bool) : Nat → Nat
  | 0 => 0
  | k + 1 => Nat.lor (maskOf f k) (bif f k then 2 ^ k else 0)
def tb (m i : Nat) : Bool := Nat.beq (Nat.land 1 (Nat.shiftRight m i)) 1
def pop : Nat → Nat → Nat
  | 0, _ => 0
  | k + 1, w => Nat.add (Nat.land w 1) (pop k (Nat.shiftRight w 1))
/-- the crowds without the member i -/
def freeOf : Nat → Nat
  | 0 => 1431655765
  | 1 => 858993459
  | 2 => 252645135
  | 3 => 16711935
  | _ => 65535
def swM (n m i : Nat) : Nat := pop (2 ^ n) (Nat.land (Nat.land (Nat.shiftRight m (2 ^ i)) (freeOf i)) (Nat.xor m 4294967295))
/-- the members by how many swings they have, the most first -/
def insP (x : Int × Int) : List (Int × Int) → List (Int × Int)
  | [] => [x]
  | y :: l => if x.1 < y.1 ∨ (x.1 = y.1 ∧ x.2 ≤ y.2) then x :: y :: l else y :: insP x l
def sortP (l : List (Int × Int)) : List (Int × Int) := l.foldr insP []
def orderBy (cs : List Int) : List Int := (sortP ((List.range cs.length).map fun (k : Nat) => (-(cs.getD k 0), (k : Int)))).map Prod.snd
/-- the game relabelled: build k base i = the game at base and the places of i below k -/
def build (m : Nat) : List Int → Nat → Nat
  | [], base => bif tb m base then 1 else 0
  | o :: os, base => Nat.lor (build m os base) (Nat.shiftLeft (build m os (Nat.add base (2 ^ o.toNat))) (2 ^ os.length))
def canon (n m : Nat) : Nat := build m (orderBy ((List.range n).map fun i => (swM n m i : Int))).reverse 0
def hits (m : Nat) (q : Nat × Nat × Nat × Nat × Nat × Nat) : Bool := Nat.beq (Nat.land m q.1) q.1 && Nat.beq (Nat.land m q.2.1) 0
def inThr (c : Nat) : List (Nat × List Int × Int) → Bool
  | [] => false
  | t :: l => Nat.beq t.1 c || inThr c l
def chk (n m : Nat) : Bool := (quads n).any (hits m) || inThr (canon n m) (thrs n)
theorem chk_small : ∀ n < 5, (0 < n) → (monos n).all (chk n) = true := by decide +kernel
theorem mon4_eq : monos 4 = mon4 := by decide +kernel
def chkA (a : Nat) : Bool := mon4.all fun b => !(Nat.beq (Nat.land a b) a) || chk 5 (Nat.lor a (Nat.shiftLeft b 16))
theorem chk5_0 : ((mon4.drop 0).take 8).all chkA = true := by decide +kernel
theorem chk5_1 : ((mon4.drop 8).take 8).all chkA = true := by decide +kernel
theorem chk5_2 : ((mon4.drop 16).take 8).all chkA = true := by decide +kernel
theorem chk5_3 : ((mon4.drop 24).take 8).all chkA = true := by decide +kernel
theorem chk5_4 : ((mon4.drop 32).take 8).all chkA = true := by decide +kernel
theorem chk5_5 : ((mon4.drop 40).take 8).all chkA = true := by decide +kernel
theorem chk5_6 : ((mon4.drop 48).take 8).all chkA = true := by decide +kernel
theorem chk5_7 : ((mon4.drop 56).take 8).all chkA = true := by decide +kernel
theorem chk5_8 : ((mon4.drop 64).take 8).all chkA = true := by decide +kernel
theorem chk5_9 : ((mon4.drop 72).take 8).all chkA = true := by decide +kernel
theorem chk5_10 : ((mon4.drop 80).take 8).all chkA = true := by decide +kernel
theorem chk5_11 : ((mon4.drop 88).take 8).all chkA = true := by decide +kernel
theorem chk5_12 : ((mon4.drop 96).take 8).all chkA = true := by decide +kernel
theorem chk5_13 : ((mon4.drop 104).take 8).all chkA = true := by decide +kernel
theorem chk5_14 : ((mon4.drop 112).take 8).all chkA = true := by decide +kernel
theorem chk5_15 : ((mon4.drop 120).take 8).all chkA = true := by decide +kernel
theorem chk5_16 : ((mon4.drop 128).take 8).all chkA = true := by decide +kernel
theorem chk5_17 : ((mon4.drop 136).take 8).all chkA = true := by decide +kernel
theorem chk5_18 : ((mon4.drop 144).take 8).all chkA = true := by decide +kernel
theorem chk5_19 : ((mon4.drop 152).take 8).all chkA = true := by decide +kernel
theorem chk5_20 : ((mon4.drop 160).take 8).all chkA = true := by decide +kernel
theorem chk5_all : ∀ k < 21, ((mon4.drop (8 * k)).take 8).all chkA = true
  | 0, _ => chk5_0
  | 1, _ => chk5_1
  | 2, _ => chk5_2
  | 3, _ => chk5_3
  | 4, _ => chk5_4
  | 5, _ => chk5_5
  | 6, _ => chk5_6
  | 7, _ => chk5_7
  | 8, _ => chk5_8
  | 9, _ => chk5_9
  | 10, _ => chk5_10
  | 11, _ => chk5_11
  | 12, _ => chk5_12
  | 13, _ => chk5_13
  | 14, _ => chk5_14
  | 15, _ => chk5_15
  | 16, _ => chk5_16
  | 17, _ => chk5_17
  | 18, _ => chk5_18
  | 19, _ => chk5_19
  | 20, _ => chk5_20
  | k + 21, h => absurd h (by omega)
def rowR : List Int → Nat → Int
  | [], _ => 0
  | r :: rs, i => (if tb i rs.length = true then r else 0) + rowR rs i
def fallsB : Int → List Int → Bool
  | _, [] => true
  | top, r :: rs => decide (0 ≤ r) && (decide (r ≤ top) && fallsB r rs)
theorem thr_ok : ∀ n < 6, ∀ t ∈ thrs n, t.2.1.length = n ∧ fallsB 9 t.2.1 = true ∧ ∀ i < 2 ^ n, tb t.1 i = decide (t.2.2 ≤ rowR t.2.1.reverse i) := by decide +kernel
def quadOk (n : Nat) (q : Nat × Nat × Nat × Nat × Nat × Nat) : Bool :=
  (tb q.1 q.2.2.1 && (tb q.1 q.2.2.2.1 && (tb q.2.1 q.2.2.2.2.1 && tb q.2.1 q.2.2.2.2.2))) &&
  ((decide (q.2.2.1 < 2 ^ n) && (decide (q.2.2.2.1 < 2 ^ n) && (decide (q.2.2.2.2.1 < 2 ^ n) && decide (q.2.2.2.2.2 < 2 ^ n)))) &&
  (List.range n).all fun k => Nat.beq ((tb q.2.2.1 k).toNat + (tb q.2.2.2.1 k).toNat) ((tb q.2.2.2.2.1 k).toNat + (tb q.2.2.2.2.2 k).toNat))
theorem quads_ok : ∀ n < 6, (quads n).all (quadOk n) = true := by decide +kernel
end Vw

/-! councils as games -/
namespace Vw
theorem tb_eq (m i : Nat) : tb m i = m.testBit i := by
  show Nat.beq (1 &&& (m >>> i)) 1 = (1 &&& (m >>> i) != 0)
  rw [Nat.one_and_eq_mod_two]
  have : (m >>> i) % 2 = 0 ∨ (m >>> i) % 2 = 1 := by omega
  rcases this with e | e <;> rw [e] <;> rfl
theorem mask_bit (f : Nat → Bool) : ∀ k i, (maskOf f k).testBit i = (decide (i < k) && f i)
  | 0, i => by
    show (0 : Nat).testBit i = _
    rw [Nat.zero_testBit]
    simp
  | k + 1, i => by
    show (maskOf f k ||| (bif f k then 2 ^ k else 0)).testBit i = _
    rw [Nat.testBit_or, mask_bit f k i]
    cases q : f k with
    | true =>
      rw [cond_true, Nat.testBit_two_pow]
      by_cases e : k = i
      · subst e
        simp [q]
      · have : decide (i < k + 1) = decide (i < k) := decide_eq_decide.mpr (by omega)
        rw [this, decide_eq_false e, Bool.or_false]
    | false =>
      rw [cond_false, Nat.zero_testBit, Bool.or_false]
      by_cases e : k = i
      · subst e
        simp [q]
      · have : decide (i < k + 1) = decide (i < k) := decide_eq_decide.mpr (by omega)
        rw [this]
def MonoF (n : Nat) (f : Nat → Bool) : Prop := ∀ i < 2 ^ n, ∀ j < 2 ^ n, (∀ k, i.testBit k = true → j.testBit k = true) → f i = true → f j = true
theorem small_bit {i n k : Nat} (h : i < 2 ^ n) (hk : n ≤ k) : i.testBit k = false := Nat.testBit_lt_two_pow (Nat.lt_of_lt_of_le h (Nat.pow_le_pow_right (by decide) hk))
theorem add_bit {i n k : Nat} (h : i < 2 ^ n) : (2 ^ n + i).testBit k = (decide (k = n) || i.testBit k) := by
  rcases Nat.lt_trichotomy k n with q | q | q
  · rw [Nat.testBit_two_pow_add_gt q, decide_eq_false (by omega), Bool.false_or]
  · subst q
    rw [Nat.testBit_two_pow_add_eq, small_bit h (Nat.le_refl _)]
    simp
  · have : 2 ^ n + i < 2 ^ (n + 1) := by rw [Nat.pow_succ]; omega
    rw [small_bit this q, small_bit h (by omega), decide_eq_false (by omega)]
    rfl
theorem mono_mem : ∀ (n : Nat) (f : Nat → Bool), MonoF n f → maskOf f (2 ^ n) ∈ monos n
  | 0, f, _ => by
    show Nat.lor 0 (bif f 0 then 1 else 0) ∈ [0, 1]
    cases f 0 <;> decide
  | n + 1, f, h => by
    have hp : 2 ^ (n + 1) = 2 ^ n + 2 ^ n := by rw [Nat.pow_succ]; omega
    have h0 : MonoF n f := fun i hi j hj => h i (by omega) j (by omega)
    have h1 : MonoF n fun i => f (2 ^ n + i) := fun i hi j hj hb => h (2 ^ n + i) (by omega) (2 ^ n + j) (by omega) fun k => by
      rw [add_bit hi, add_bit hj]
      intro z
      rcases Bool.or_eq_true_iff.mp z with z | z
      · rw [z]
        rfl
      · rw [hb k z, Bool.or_true]
    have m0 := mono_mem n f h0
    have m1 := mono_mem n _ h1
    show _ ∈ (monos n).flatMap _
    refine List.mem_flatMap.mpr ⟨_, m0, List.mem_map.mpr ⟨_, List.mem_filter.mpr ⟨m1, ?_⟩, ?_⟩⟩
    · suffices e : (maskOf f (2 ^ n) &&& maskOf (fun i => f (2 ^ n + i)) (2 ^ n)) = maskOf f (2 ^ n) by
        rw [show Nat.land (maskOf f (2 ^ n)) (maskOf (fun i => f (2 ^ n + i)) (2 ^ n)) = maskOf f (2 ^ n) from e]
        exact Nat.beq_refl _
      refine Nat.eq_of_testBit_eq fun i => ?_
      rw [Nat.testBit_and, mask_bit, mask_bit]
      by_cases hi : i < 2 ^ n
      · rw [decide_eq_true hi, Bool.true_and, Bool.true_and]
        cases q : f i with
        | false => rfl
        | true =>
          rw [h i (by omega) (2 ^ n + i) (by omega) (fun k z => by rw [add_bit hi, z, Bool.or_true]) q]
          rfl
      · rw [decide_eq_false hi]
        rfl
    · show (maskOf f (2 ^ n) ||| (maskOf (fun i => f (2 ^ n + i)) (2 ^ n)) <<< (2 ^ n)) = maskOf f (2 ^ (n + 1))
      refine Nat.eq_of_testBit_eq fun i => ?_
      rw [Nat.testBit_or, mask_bit, Nat.testBit_shiftLeft, mask_bit, mask_bit]
      by_cases hi : i < 2 ^ n
      · rw [decide_eq_true hi, decide_eq_false (by omega : ¬ i ≥ 2 ^ n), decide_eq_true (by omega : i < 2 ^ (n + 1))]
        simp
      · by_cases hi2 : i < 2 ^ (n + 1)
        · rw [decide_eq_false hi, decide_eq_true (by omega : i ≥ 2 ^ n), decide_eq_true (by omega : i - 2 ^ n < 2 ^ n), decide_eq_true hi2, show 2 ^ n + (i - 2 ^ n) = i by omega]
          simp
        · rw [decide_eq_false hi, decide_eq_false (by omega : ¬ i - 2 ^ n < 2 ^ n), decide_eq_false hi2]
          simp
theorem chk_all {n : Nat} (h1 : 1 ≤ n) (h5 : n ≤ 5) {m : Nat} (hm : m ∈ monos n) : chk n m = true := by
  by_cases q : n < 5
  · exact List.all_eq_true.mp (chk_small n q h1) m hm
  · have e : n = 5 := by omega
    subst e
    obtain ⟨a, ha, hm2⟩ := List.mem_flatMap.mp (show m ∈ (monos 4).flatMap _ from hm)
    obtain ⟨b, hb, rfl⟩ := List.mem_map.mp hm2
    obtain ⟨hb1, hb2⟩ := List.mem_filter.mp hb
    rw [mon4_eq] at ha hb1
    obtain ⟨j, hj⟩ := List.getElem?_of_mem ha
    have hjl : j < 168 := (List.getElem?_eq_some_iff.mp hj).1
    have hin : a ∈ (mon4.drop (8 * (j / 8))).take 8 := by
      refine List.mem_of_getElem? (i := j % 8) ?_
      rw [List.getElem?_take_of_lt (by omega), List.getElem?_drop, show 8 * (j / 8) + j % 8 = j by omega]
      exact hj
    have := List.all_eq_true.mp (List.all_eq_true.mp (chk5_all (j / 8) (by omega)) a hin) b hb1
    rw [hb2] at this
    exact this
/-! ### a council's game -/
def idx (c : Crowd) : Nat := (c.map fun m => 2 ^ m.toNat).sum
def crowdAt (n i : Nat) : Crowd := (rng n).filter fun m => i.testBit m.toNat
theorem at_facts : ∀ n < 6, ∀ c ∈ crowdsOf n, idx c < 2 ^ n ∧ crowdAt n (idx c) = c := by decide +kernel
theorem at_mem : ∀ n < 6, ∀ i < 2 ^ n, crowdAt n i ∈ crowdsOf n := by decide +kernel
def gm (n : Nat) (told : List Crowd) : Nat := maskOf (fun i => bears told (crowdAt n i)) (2 ^ n)
theorem mem_at {n i : Nat} {k : Int} : k ∈ crowdAt n i ↔ k ∈ rng n ∧ i.testBit k.toNat = true := List.mem_filter
theorem gm_mono (n : Nat) (told : List Crowd) : MonoF n fun i => bears told (crowdAt n i) := fun i _ j _ hb h => bears_sub h fun k hk => by
  rw [mem_at] at hk ⊢
  exact ⟨hk.1, hb _ hk.2⟩
theorem gm_bit (n : Nat) (told : List Crowd) {i : Nat} (hi : i < 2 ^ n) : (gm n told).testBit i = bears told (crowdAt n i) := by
  unfold gm
  rw [mask_bit, decide_eq_true hi, Bool.true_and]
theorem gm_crowd {n : Nat} (hn : n ≤ 5) (told : List Crowd) {c : Crowd} (hc : c ∈ crowdsOf n) : (gm n told).testBit (idx c) = bears told c := by
  obtain ⟨h1, h2⟩ := at_facts n (by omega) c hc
  rw [gm_bit n told h1, h2]
def sumOf (a b : Crowd) (k : Int) : Nat := (decide (k ∈ a)).toNat + (decide (k ∈ b)).toNat
theorem at_dec {n i : Nat} {k : Int} (hk : k ∈ rng n) : decide (k ∈ crowdAt n i) = i.testBit k.toNat := by
  cases q : i.testBit k.toNat with
  | true => exact decide_eq_true (mem_at.mpr ⟨hk, q⟩)
  | false => exact decide_eq_false fun z => by rw [(mem_at.mp z).2] at q; cases q
/-- two crowds that carry, two that do not, of the same members -/
def TradeIn (n : Nat) (told : List Crowd) : Prop := ∃ x ∈ crowdsOf n, ∃ y ∈ crowdsOf n, ∃ a ∈ crowdsOf n, ∃ b ∈ crowdsOf n, bears told x = true ∧ bears told y = true ∧ bears told a = false ∧ bears told b = false ∧ ∀ k ∈ rng n, sumOf x y k = sumOf a b k
theorem hits_trade {n : Nat} (hn : n ≤ 5) {told : List Crowd} {q : Nat × Nat × Nat × Nat × Nat × Nat} (hq : q ∈ quads n) (h : hits (gm n told) q = true) : TradeIn n told := by
  have ok := List.all_eq_true.mp (quads_ok n (by omega)) q hq
  obtain ⟨need, forb, x, y, a, b⟩ := q
  unfold quadOk at ok
  simp only [Bool.and_eq_true, decide_eq_true_eq, tb_eq, List.all_eq_true, List.mem_range, Nat.beq_eq_true_eq] at ok
  obtain ⟨⟨o1, o2, o3, o4⟩, ⟨p1, p2, p3, p4⟩, hk⟩ := ok
  unfold hits at h
  obtain ⟨g1, g2⟩ := Bool.and_eq_true_iff.mp h
  have g1' : gm n told &&& need = need := Nat.eq_of_beq_eq_true g1
  have g2' : gm n told &&& forb = 0 := Nat.eq_of_beq_eq_true g2
  have yes : ∀ i, need.testBit i = true → (gm n told).testBit i = true := fun i hi => by
    rw [← g1', Nat.testBit_and] at hi
    exact (Bool.and_eq_true_iff.mp hi).1
  have no : ∀ i, forb.testBit i = true → (gm n told).testBit i = false := fun i hi => by
    have := congrArg (fun z => Nat.testBit z i) g2'
    simp only [Nat.testBit_and, Nat.zero_testBit, hi, Bool.and_true] at this
    exact this
  have bx := yes x o1
  have by_ := yes y o2
  have ba := no a o3
  have bb := no b o4
  rw [gm_bit n told p1] at bx
  rw [gm_bit n told p2] at by_
  rw [gm_bit n told p3] at ba
  rw [gm_bit n told p4] at bb
  refine ⟨_, at_mem n (by omega) x p1, _, at_mem n (by omega) y p2, _, at_mem n (by omega) a p3, _, at_mem n (by omega) b p4, bx, by_, ba, bb, fun k hk2 => ?_⟩
  have hb := mem_rng_iff.mp hk2
  unfold sumOf
  rw [at_dec hk2, at_dec hk2, at_dec hk2, at_dec hk2]
  exact Nat.eq_of_beq_eq_true (hk k.toNat (by omega))
/-! ### swings, counted on the game -/
theorem pop_count : ∀ (k w : Nat), pop k w = (List.range k).countP fun j => w.testBit j
  | 0, _ => rfl
  | k + 1, w => by
    show (w &&& 1) + pop k (w >>> 1) = _
    rw [pop_count k, List.range_succ_eq_map, List.countP_cons, List.countP_map, Nat.and_one_is_mod]
    have e : ((fun j => w.testBit j) ∘ Nat.succ) = fun j => (w >>> 1).testBit j := by
      funext j
      show w.testBit (j + 1) = _
      rw [Nat.testBit_shiftRight, Nat.add_comm]
    rw [e, Nat.add_comm]
    congr 1
    rw [Nat.testBit_zero]
    have : w % 2 = 0 ∨ w % 2 = 1 := by omega
    rcases this with q | q <;> simp [q]
theorem at_perm : ∀ n < 6, (crowdsOf n).Perm ((List.range (2 ^ n)).map (crowdAt n)) := by decide +kernel
theorem free_bits : ∀ n < 6, ∀ i < n, ∀ j < 2 ^ n, (freeOf i).testBit j = !j.testBit i ∧ (4294967295 : Nat).testBit j = true := by decide +kernel
theorem at_with : ∀ n < 6, ∀ i < n, ∀ j < 2 ^ n, j.testBit i = true ∨ (withThem (crowdAt n j) [(i : Int)] = crowdAt n (2 ^ i + j) ∧ 2 ^ i + j < 2 ^ n) := by decide +kernel
theorem sw_count {n : Nat} (hn : n ≤ 5) (told : List Crowd) {i : Nat} (hi : i < n) : (swingsOf n told i).length = swM n (gm n told) i := by
  unfold swingsOf swM
  rw [← List.countP_eq_length_filter, (at_perm n (by omega)).countP_eq, List.countP_map, pop_count]
  refine List.countP_congr fun j hj => ?_
  have hj' := List.mem_range.mp hj
  obtain ⟨f1, f2⟩ := free_bits n (by omega) i hi j hj'
  show swings1 told i (crowdAt n j) = true ↔ ((gm n told >>> (2 ^ i) &&& freeOf i) &&& (gm n told ^^^ 4294967295)).testBit j = true
  rw [Nat.testBit_and, Nat.testBit_and, Nat.testBit_shiftRight, Nat.testBit_xor, f1, f2, gm_bit n told hj']
  have hm : decide ((i : Int) ∈ crowdAt n j) = j.testBit i := by
    have := at_dec (n := n) (i := j) (k := (i : Int)) (mem_rng_iff.mpr (by omega))
    rw [this]
    rfl
  unfold swings1
  rw [hm]
  rcases at_with n (by omega) i hi j hj' with q | ⟨q1, q2⟩
  · rw [q]
    simp
  · rw [q1, gm_bit n told q2]
    cases j.testBit i <;> cases bears told (crowdAt n j) <;> cases bears told (crowdAt n (2 ^ i + j)) <;> decide
theorem counts_eq {n : Nat} (hn : n ≤ 5) (told : List Crowd) : swingCounts n told = (List.range n).map fun i => (swM n (gm n told) i : Int) := by
  unfold swingCounts
  exact List.map_congr_left fun i hi => by rw [sw_count hn told (List.mem_range.mp hi)]
end Vw

/-! a game without a trade has weights -/
namespace Vw
/-! ### the order -/
def leP (a b : Int × Int) : Prop := a.1 < b.1 ∨ (a.1 = b.1 ∧ a.2 ≤ b.2)
theorem insP_perm (x : Int × Int) : ∀ l, (insP x l).Perm (x :: l)
  | [] => .refl _
  | y :: l => by
    unfold insP
    split
    · exact .refl _
    · exact ((insP_perm x l).cons y).trans (.swap x y l)
theorem sortP_perm : ∀ l, (sortP l).Perm l
  | [] => .refl _
  | x :: l => (insP_perm x (sortP l)).trans ((sortP_perm l).cons x)
theorem insP_sorted (x : Int × Int) : ∀ {l}, l.Pairwise leP → (insP x l).Pairwise leP
  | [], _ => by simp [insP]
  | y :: l, h => by
    have h' := List.pairwise_cons.mp h
    unfold insP
    split
    · rename_i q
      refine .cons (fun z hz => ?_) h
      rcases List.mem_cons.mp hz with e | e
      · subst e
        exact q
      · have := h'.1 z e
        unfold leP at this ⊢
        omega
    · rename_i q
      refine .cons (fun z hz => ?_) (insP_sorted x h'.2)
      rcases List.mem_cons.mp ((insP_perm x l).mem_iff.mp hz) with e | e
      · subst e
        unfold leP
        omega
      · exact h'.1 z e
theorem sortP_sorted : ∀ l, (sortP l).Pairwise leP
  | [] => .nil
  | x :: l => insP_sorted x (sortP_sorted l)
def pairsBy (cs : List Int) : List (Int × Int) := (List.range cs.length).map fun (k : Nat) => (-(cs.getD k 0), (k : Int))
theorem orderBy_eq (cs : List Int) : orderBy cs = (sortP (pairsBy cs)).map Prod.snd := rfl
theorem orderBy_perm (cs : List Int) : (orderBy cs).Perm (rng cs.length) := by
  rw [orderBy_eq]
  have h := (sortP_perm (pairsBy cs)).map Prod.snd
  have e : (pairsBy cs).map Prod.snd = rng cs.length := by
    unfold pairsBy rng
    rw [List.map_map]
    rfl
  rw [e] at h
  exact h
def orderOf (n : Nat) (told : List Crowd) : List Int := orderBy (swingCounts n told)
theorem order_perm (n : Nat) (told : List Crowd) : (orderOf n told).Perm (rng n) := by
  have := orderBy_perm (swingCounts n told)
  rw [show (swingCounts n told).length = n by simp [swingCounts]] at this
  exact this
theorem rng_len (n : Nat) : (rng n).length = n := by simp [rng]
theorem rng_nodup (n : Nat) : (rng n).Nodup := (rng_sorted n).imp fun {a b} h => Int.ne_of_lt h
/-! ### the game relabelled -/
def pix : List Int → Crowd → Nat
  | [], _ => 0
  | o :: os, c => pix os c + if o ∈ c then 2 ^ os.length else 0
def isum : List Int → Crowd → Nat
  | [], _ => 0
  | o :: os, c => isum os c + if o ∈ c then 2 ^ o.toNat else 0
theorem pix_cons (o : Int) (os : List Int) (c : Crowd) : pix (o :: os) c = pix os c + if o ∈ c then 2 ^ os.length else 0 := rfl
theorem pix_lt (c : Crowd) : ∀ os, pix os c < 2 ^ os.length
  | [] => by
    show 0 < 2 ^ 0
    decide
  | o :: os => by
    have := pix_lt c os
    unfold pix
    rw [List.length_cons, Nat.pow_succ]
    split <;> omega
theorem build_lt (m : Nat) : ∀ os base, build m os base < 2 ^ 2 ^ os.length
  | [], base => by
    unfold build
    cases tb m base <;> decide
  | o :: os, base => by
    have h1 := build_lt m os base
    have h2 := build_lt m os (base + 2 ^ o.toNat)
    show (build m os base ||| (build m os (base + 2 ^ o.toNat)) <<< 2 ^ os.length) < _
    rw [List.length_cons, Nat.pow_succ 2, Nat.mul_two, Nat.pow_add]
    refine Nat.or_lt_two_pow (n := 2 ^ os.length + 2 ^ os.length) ?_ ?_ |> fun h => by rw [Nat.pow_add] at h; exact h
    · exact Nat.lt_of_lt_of_le h1 (Nat.pow_le_pow_right (by decide) (Nat.le_add_right _ _))
    · rw [Nat.shiftLeft_eq, Nat.pow_add]
      exact Nat.mul_lt_mul_of_pos_right h2 (Nat.two_pow_pos _)
theorem build_bit (m : Nat) (c : Crowd) : ∀ os base, (build m os base).testBit (pix os c) = m.testBit (base + isum os c)
  | [], base => by
    unfold build pix isum
    rw [tb_eq]
    cases m.testBit base <;> simp
  | o :: os, base => by
    have h1 := build_bit m c os base
    have h2 := build_bit m c os (base + 2 ^ o.toNat)
    have hl := pix_lt c os
    show (build m os base ||| (build m os (base + 2 ^ o.toNat)) <<< 2 ^ os.length).testBit _ = _
    rw [Nat.testBit_or, Nat.testBit_shiftLeft]
    unfold pix isum
    by_cases q : o ∈ c
    · rw [if_pos q, if_pos q, Nat.testBit_lt_two_pow (Nat.lt_of_lt_of_le (build_lt m os base) (Nat.pow_le_pow_right (by decide) (by omega))), decide_eq_true (by omega), Nat.add_sub_cancel, h2, show base + 2 ^ o.toNat + isum os c = base + (isum os c + 2 ^ o.toNat) by omega]
      simp
    · rw [if_neg q, if_neg q, Nat.add_zero, Nat.add_zero, h1, decide_eq_false (by omega)]
      simp
theorem isum_eq (c : Crowd) : ∀ os, isum os c = ((os.filter fun o => decide (o ∈ c)).map fun o => 2 ^ o.toNat).sum
  | [] => rfl
  | o :: os => by
    unfold isum
    rw [isum_eq c os, List.filter_cons]
    by_cases q : o ∈ c
    · rw [if_pos q, if_pos (decide_eq_true q), List.map_cons, List.sum_cons]
      omega
    · rw [if_neg q, if_neg (by simpa using q)]
      omega
theorem part_perm {n : Nat} {os : List Int} (h : os.Perm (rng n)) {c : Crowd} (hs : c.Pairwise (· < ·)) (hc : ∀ k ∈ c, k ∈ rng n) : (os.filter fun o => decide (o ∈ c)).Perm c := by
  refine (List.perm_ext_iff_of_nodup ((h.nodup_iff.mpr (rng_nodup n)).filter _) (hs.imp fun {a b} h => Int.ne_of_lt h)).mpr fun k => ?_
  rw [List.mem_filter]
  constructor
  · intro z
    simpa using z.2
  · intro z
    exact ⟨h.mem_iff.mpr (hc k z), by simpa using z⟩
theorem isum_idx {n : Nat} {os : List Int} (h : os.Perm (rng n)) {c : Crowd} (hs : c.Pairwise (· < ·)) (hc : ∀ k ∈ c, k ∈ rng n) : isum os c = idx c := by
  rw [isum_eq]
  exact ((part_perm h hs hc).map _).sum_nat
theorem cs_rng {n : Nat} (hn : n ≤ 5) {c : Crowd} (hc : c ∈ crowdsOf n) : ∀ k ∈ c, k ∈ rng n := fun k hk => mem_rng_iff.mpr (crowdOk_mem (cs_good hn hc).1 k hk)
theorem canon_bit {n : Nat} (hn : n ≤ 5) (told : List Crowd) {c : Crowd} (hc : c ∈ crowdsOf n) : (canon n (gm n told)).testBit (pix (orderOf n told).reverse c) = bears told c := by
  unfold canon
  rw [← counts_eq hn told]
  show (build (gm n told) (orderOf n told).reverse 0).testBit _ = _
  rw [build_bit, Nat.zero_add, isum_idx ((List.reverse_perm _).trans (order_perm n told)) (cs_sorted hn hc) (cs_rng hn hc), gm_crowd hn told hc]
/-! ### rows of weights -/
theorem rowR_congr : ∀ (rs : List Int) {i j : Nat}, (∀ k < rs.length, i.testBit k = j.testBit k) → rowR rs i = rowR rs j
  | [], _, _, _ => rfl
  | r :: rs, i, j, h => by
    unfold rowR
    rw [tb_eq, tb_eq, h rs.length (by simp), rowR_congr rs fun k hk => h k (by rw [List.length_cons]; omega)]
theorem perm_sum {a b : List Int} (h : a.Perm b) : a.sum = b.sum := by
  induction h with
  | nil => rfl
  | cons x _ ih => rw [List.sum_cons, List.sum_cons, ih]
  | swap x y l =>
    simp only [List.sum_cons]
    omega
  | trans _ _ h1 h2 => rw [h1, h2]
def zsum : List Int → List Int → Crowd → Int
  | o :: os, r :: rs, c => (if o ∈ c then r else 0) + zsum os rs c
  | _, _, _ => 0
theorem rowR_pix (c : Crowd) : ∀ (os rs : List Int), rs.length = os.length → rowR rs (pix os c) = zsum os rs c
  | [], [], _ => rfl
  | [], _ :: _, h => by simp at h
  | _ :: _, [], h => by simp at h
  | o :: os, r :: rs, h => by
    have hl : rs.length = os.length := by simpa using h
    have hp := pix_lt c os
    show (if tb (pix (o :: os) c) rs.length = true then r else 0) + rowR rs (pix (o :: os) c) = (if o ∈ c then r else 0) + zsum os rs c
    rw [← rowR_pix c os rs hl, tb_eq, hl, pix_cons]
    by_cases q : o ∈ c
    · rw [if_pos q, if_pos q, Nat.add_comm, add_bit hp, decide_eq_true rfl, Bool.true_or, if_pos rfl]
      congr 1
      refine rowR_congr rs fun k hk => ?_
      rw [add_bit hp, decide_eq_false (by omega), Bool.false_or]
    · rw [if_neg q, if_neg q, Nat.add_zero, small_bit hp (Nat.le_refl _), if_neg (by decide)]
theorem zsum_eq {c : Crowd} {g : Int → Int} : ∀ (os rs : List Int), rs.length = os.length → (∀ (k : Nat) (o r : Int), os[k]? = some o → rs[k]? = some r → r = g o) → zsum os rs c = ((os.filter fun o => decide (o ∈ c)).map g).sum
  | [], [], _, _ => rfl
  | [], _ :: _, h, _ => by simp at h
  | _ :: _, [], h, _ => by simp at h
  | o :: os, r :: rs, h, hg => by
    have e := hg 0 o r rfl rfl
    have ih := zsum_eq (c := c) (g := g) os rs (by simpa using h) fun k a b h1 h2 => hg (k + 1) a b (by simpa using h1) (by simpa using h2)
    unfold zsum
    rw [ih, List.filter_cons]
    by_cases q : o ∈ c
    · rw [if_pos q, if_pos (decide_eq_true q), List.map_cons, List.sum_cons, e]
    · rw [if_neg q, if_neg (by simpa using q)]
      omega
def wStep (ord row : List Int) (W : List Int) (p : Nat) : List Int := W.set (ord.getD p 0).toNat (row.getD p 0)
def weightsOf (n : Nat) (ord row : List Int) : List Int := (List.range n).foldl (wStep ord row) (List.replicate n 0)
theorem wFold_len (ord row : List Int) (n : Nat) : ∀ k, ((List.range k).foldl (wStep ord row) (List.replicate n 0)).length = n
  | 0 => by simp
  | k + 1 => by
    rw [List.range_succ, List.foldl_append, List.foldl_cons, List.foldl_nil]
    unfold wStep
    rw [List.length_set]
    exact wFold_len ord row n k
theorem weights_len (n : Nat) (ord row : List Int) : (weightsOf n ord row).length = n := wFold_len ord row n n
theorem perm_at {n : Nat} {ord : List Int} (h : ord.Perm (rng n)) {p : Nat} (hp : p < n) : 0 ≤ ord.getD p 0 ∧ ord.getD p 0 < n := by
  have hl : ord.length = n := by rw [h.length_eq, rng_len]
  have : ord.getD p 0 ∈ ord := by
    rw [List.getD_eq_getElem?_getD, List.getElem?_eq_getElem (by omega)]
    exact List.getElem_mem _
  exact mem_rng_iff.mp (h.mem_iff.mp this)
theorem perm_inj {n : Nat} {ord : List Int} (h : ord.Perm (rng n)) {p q : Nat} (hp : p < n) (hq : q < n) (e : ord.getD p 0 = ord.getD q 0) : p = q := by
  have hl : ord.length = n := by rw [h.length_eq, rng_len]
  have nd := h.nodup_iff.mpr (rng_nodup n)
  rw [List.getD_eq_getElem?_getD, List.getD_eq_getElem?_getD, List.getElem?_eq_getElem (by omega : p < ord.length), List.getElem?_eq_getElem (by omega : q < ord.length)] at e
  exact (List.getElem_inj nd).mp e
theorem wFold_at {n : Nat} {ord row : List Int} (h : ord.Perm (rng n)) : ∀ k ≤ n, ∀ p < k, ((List.range k).foldl (wStep ord row) (List.replicate n 0)).getD (ord.getD p 0).toNat 0 = row.getD p 0
  | 0, _, p, hp => absurd hp (by omega)
  | k + 1, hk, p, hp => by
    have ih := wFold_at (row := row) h k (by omega)
    have hlen := wFold_len ord row n k
    rw [List.range_succ, List.foldl_append, List.foldl_cons, List.foldl_nil]
    generalize (List.range k).foldl (wStep ord row) (List.replicate n 0) = W at ih hlen
    unfold wStep
    have hb := perm_at h (by omega : k < n)
    rw [List.getD_eq_getElem?_getD, List.getElem?_set]
    by_cases e : p = k
    · subst e
      rw [if_pos rfl, if_pos (by omega)]
      rfl
    · have hb2 := perm_at h (by omega : p < n)
      have hne : (ord.getD k 0).toNat ≠ (ord.getD p 0).toNat := fun z => e (perm_inj h (by omega) (by omega) (by omega))
      rw [if_neg hne, ← List.getD_eq_getElem?_getD]
      exact ih p (by omega)
theorem wFold_nonneg {ord row : List Int} (hr : ∀ x ∈ row, 0 ≤ x) (n : Nat) : ∀ k, ∀ x ∈ (List.range k).foldl (wStep ord row) (List.replicate n 0), 0 ≤ x
  | 0, x, hx => by
    have := (List.mem_replicate.mp hx).2
    omega
  | k + 1, x, hx => by
    rw [List.range_succ, List.foldl_append, List.foldl_cons, List.foldl_nil] at hx
    rcases List.mem_or_eq_of_mem_set hx with q | q
    · exact wFold_nonneg hr n k x q
    · rw [q]
      exact getD_nonneg hr k
theorem weights_weigh {n : Nat} {ord row : List Int} (h : ord.Perm (rng n)) (hr : row.length = n) {c : Crowd} (hs : c.Pairwise (· < ·)) (hc : ∀ k ∈ c, k ∈ rng n) : zsum ord.reverse row.reverse c = weigh (weightsOf n ord row) c := by
  have hl : ord.length = n := by rw [h.length_eq, rng_len]
  rw [zsum_eq (g := fun o => (weightsOf n ord row).getD o.toNat 0) ord.reverse row.reverse (by rw [List.length_reverse, List.length_reverse, hl, hr]) fun k o r h1 h2 => ?_]
  · unfold weigh
    exact perm_sum ((part_perm ((List.reverse_perm _).trans h) hs hc).map _)
  · have hk : k < n := by
      have := (List.getElem?_eq_some_iff.mp h1).1
      rw [List.length_reverse] at this
      omega
    have e1 : o = ord.getD (n - 1 - k) 0 := by
      rw [List.getElem?_reverse (by omega), hl, List.getElem?_eq_getElem (by omega)] at h1
      rw [List.getD_eq_getElem?_getD, List.getElem?_eq_getElem (by omega)]
      exact (Option.some.inj h1).symm
    have e2 : r = row.getD (n - 1 - k) 0 := by
      rw [List.getElem?_reverse (by omega), hr, List.getElem?_eq_getElem (by omega)] at h2
      rw [List.getD_eq_getElem?_getD, List.getElem?_eq_getElem (by omega)]
      exact (Option.some.inj h2).symm
    rw [e1, e2]
    exact (wFold_at h n (Nat.le_refl _) (n - 1 - k) (by omega)).symm
/-! ### falling rows -/
def topRow (most : Int) (row : List Int) : Int := row.getLastD most
def fallRows (most : Int) : Nat → List (List Int)
  | 0 => [[]]
  | k + 1 => (fallRows most k).flatMap fun row => (List.range (topRow most row + 1).toNat).map fun (x : Nat) => row ++ [(x : Int)]
theorem falls_snoc (x : Int) : ∀ (row : List Int) (top : Int), fallsB top (row ++ [x]) = (fallsB top row && (decide (0 ≤ x) && decide (x ≤ row.getLastD top)))
  | [], top => by simp [fallsB]
  | r :: rs, top => by
    show (decide (0 ≤ r) && (decide (r ≤ top) && fallsB r (rs ++ [x]))) = _
    rw [falls_snoc x rs r]
    show _ = ((decide (0 ≤ r) && (decide (r ≤ top) && fallsB r rs)) && _)
    rw [show (r :: rs).getLastD top = rs.getLastD r from by cases rs <;> rfl]
    simp only [Bool.and_assoc]
theorem falls_mem (most : Int) : ∀ (k : Nat) (row : List Int), row.length = k → fallsB most row = true → row ∈ fallRows most k
  | 0, row, hl, _ => by
    rw [List.length_eq_zero_iff.mp hl]
    exact List.mem_singleton.mpr rfl
  | k + 1, row, hl, h => by
    have hne : row ≠ [] := by
      intro e
      subst e
      simp at hl
    obtain ⟨init, x, rfl⟩ : ∃ init x, row = init ++ [x] := ⟨row.dropLast, row.getLast hne, (List.dropLast_concat_getLast hne).symm⟩
    rw [falls_snoc] at h
    simp only [Bool.and_eq_true, decide_eq_true_eq] at h
    refine List.mem_flatMap.mpr ⟨init, falls_mem most k init (by simpa using hl) h.1, List.mem_map.mpr ⟨x.toNat, List.mem_range.mpr ?_, ?_⟩⟩
    · unfold topRow
      omega
    · rw [Int.toNat_of_nonneg h.2.1]
theorem falls_nonneg : ∀ (row : List Int) (top : Int), fallsB top row = true → ∀ x ∈ row, 0 ≤ x
  | [], _, _, x, hx => by simp at hx
  | r :: rs, top, h, x, hx => by
    simp only [fallsB, Bool.and_eq_true, decide_eq_true_eq] at h
    rcases List.mem_cons.mp hx with e | e
    · rw [e]
      exact h.1
    · exact falls_nonneg rs r h.2.2 x e
/-! ### a bar -/
def barStep (told : List Crowd) (W : List Int) (s : Int × Int) (c : Crowd) : Int × Int := if bears told c = true then (min s.1 (weigh W c), s.2) else (s.1, max s.2 (weigh W c))
def barPair (n : Nat) (told : List Crowd) (W : List Int) : Int × Int := (crowdsOf n).foldl (barStep told W) (W.sum + 1, -1)
theorem bar_facts (told : List Crowd) (W : List Int) : ∀ (l : List Crowd) (s : Int × Int), let r := l.foldl (barStep told W) s
    (r.1 ≤ s.1 ∧ s.2 ≤ r.2) ∧ (∀ c ∈ l, (bears told c = true → r.1 ≤ weigh W c) ∧ (bears told c = false → weigh W c ≤ r.2)) ∧
    (r.1 = s.1 ∨ ∃ c ∈ l, bears told c = true ∧ r.1 = weigh W c) ∧ (r.2 = s.2 ∨ ∃ c ∈ l, bears told c = false ∧ r.2 = weigh W c)
  | [], s => ⟨⟨Int.le_refl _, Int.le_refl _⟩, fun c hc => absurd hc (by simp), .inl rfl, .inl rfl⟩
  | c :: l, s => by
    obtain ⟨h1, h2, h3, h4⟩ := bar_facts told W l (barStep told W s c)
    show _ ∧ _
    rw [List.foldl_cons]
    generalize l.foldl (barStep told W) (barStep told W s c) = r at h1 h2 h3 h4
    unfold barStep at h1 h3 h4
    cases q : bears told c with
    | true =>
      rw [q, if_pos rfl] at h1 h3 h4
      dsimp only at h1 h3 h4
      have k1 : r.1 ≤ s.1 := by clear h2 h3 h4; omega
      have k2 : r.1 ≤ weigh W c := by clear h2 h3 h4; omega
      refine ⟨⟨k1, h1.2⟩, fun d hd => ?_, ?_, ?_⟩
      · rcases List.mem_cons.mp hd with e | e
        · subst e
          exact ⟨fun _ => k2, fun z => by rw [q] at z; cases z⟩
        · exact h2 d e
      · rcases h3 with e | ⟨d, hd, e⟩
        · rcases Int.le_total s.1 (weigh W c) with z | z
          · exact .inl (by rw [e]; exact Int.min_eq_left z)
          · exact .inr ⟨c, List.mem_cons_self .., q, by rw [e]; exact Int.min_eq_right z⟩
        · exact .inr ⟨d, List.mem_cons_of_mem _ hd, e⟩
      · rcases h4 with e | ⟨d, hd, e⟩
        · exact .inl e
        · exact .inr ⟨d, List.mem_cons_of_mem _ hd, e⟩
    | false =>
      rw [q, if_neg (by decide)] at h1 h3 h4
      dsimp only at h1 h3 h4
      have k1 : s.2 ≤ r.2 := by clear h2 h3 h4; omega
      have k2 : weigh W c ≤ r.2 := by clear h2 h3 h4; omega
      refine ⟨⟨h1.1, k1⟩, fun d hd => ?_, ?_, ?_⟩
      · rcases List.mem_cons.mp hd with e | e
        · subst e
          exact ⟨fun z => (by rw [q] at z; cases z), fun _ => k2⟩
        · exact h2 d e
      · rcases h3 with e | ⟨d, hd, e⟩
        · exact .inl e
        · exact .inr ⟨d, List.mem_cons_of_mem _ hd, e⟩
      · rcases h4 with e | ⟨d, hd, e⟩
        · rcases Int.le_total s.2 (weigh W c) with z | z
          · exact .inr ⟨c, List.mem_cons_self .., q, by rw [e]; exact Int.max_eq_right z⟩
          · exact .inl (by rw [e]; exact Int.max_eq_left z)
        · exact .inr ⟨d, List.mem_cons_of_mem _ hd, e⟩
theorem map_range_at (xs : List Int) : (List.range xs.length).map (fun k => xs.getD k 0) = xs := by
  apply List.ext_getElem?
  intro i
  rw [List.getElem?_map]
  by_cases h : i < xs.length
  · rw [List.getElem?_range h, List.getElem?_eq_getElem h]
    show some (xs.getD i 0) = some _
    rw [List.getD_eq_getElem?_getD, List.getElem?_eq_getElem h]
    rfl
  · rw [List.getElem?_eq_none (l := xs) (by omega), List.getElem?_eq_none (l := List.range xs.length) (by rw [List.length_range]; omega)]
    rfl
theorem weigh_rng {n : Nat} {W : List Int} (hl : W.length = n) : weigh W (rng n) = W.sum := by
  subst hl
  unfold weigh rng
  rw [List.map_map]
  have e : ((fun i : Int => W.getD i.toNat 0) ∘ fun (k : Nat) => (k : Int)) = fun k : Nat => W.getD k 0 := by
    funext k
    rfl
  rw [e, map_range_at]
theorem weigh_nonneg {W : List Int} (h : ∀ x ∈ W, 0 ≤ x) (c : Crowd) : 0 ≤ weigh W c := by
  have := weigh_sub h (List.nil_sublist c)
  exact this
theorem weigh_le {n : Nat} (hn : n ≤ 5) {W : List Int} (hl : W.length = n) (h : ∀ x ∈ W, 0 ≤ x) {c : Crowd} (hc : c ∈ crowdsOf n) : weigh W c ≤ W.sum := by
  rw [← weigh_rng hl]
  exact weigh_sub h (sub_sorted (cs_sorted hn hc) (rng_sorted n) (cs_rng hn hc))
theorem bar_fits {n : Nat} (hn : n ≤ 5) {told : List Crowd} {W : List Int} (hl : W.length = n) (h0 : ∀ x ∈ W, 0 ≤ x) {b : Int} (h : ∀ c ∈ crowdsOf n, bears told c = decide (b ≤ weigh W c)) : (barPair n told W).2 < (barPair n told W).1 := by
  obtain ⟨h1, h2, h3, h4⟩ := bar_facts told W (crowdsOf n) (W.sum + 1, -1)
  show (barPair n told W).2 < (barPair n told W).1
  unfold barPair
  have sn : 0 ≤ W.sum := by
    have := weigh_nonneg h0 (rng n)
    rw [weigh_rng hl] at this
    exact this
  generalize (crowdsOf n).foldl (barStep told W) (W.sum + 1, -1) = r at h1 h2 h3 h4
  dsimp only at h1 h3 h4
  rcases h3 with e3 | ⟨c, hc, bc, e3⟩
  · rcases h4 with e4 | ⟨d, hd, bd, e4⟩
    · omega
    · have := weigh_le hn hl h0 hd
      omega
  · have g1 : b ≤ weigh W c := by
      have := h c hc
      rw [bc] at this
      exact of_decide_eq_true this.symm
    have g2 := weigh_nonneg h0 c
    rcases h4 with e4 | ⟨d, hd, bd, e4⟩
    · omega
    · have g3 : ¬ b ≤ weigh W d := by
        have := h d hd
        rw [bd] at this
        exact of_decide_eq_false this.symm
      omega
theorem bar_right {n : Nat} {told : List Crowd} {W : List Int} (h0 : ∀ x ∈ W, 0 ≤ x) (h : (barPair n told W).2 < (barPair n told W).1) : 0 ≤ (barPair n told W).1 ∧ ∀ c ∈ crowdsOf n, bears told c = decide ((barPair n told W).1 ≤ weigh W c) := by
  obtain ⟨h1, h2, h3, h4⟩ := bar_facts told W (crowdsOf n) (W.sum + 1, -1)
  unfold barPair at h ⊢
  generalize (crowdsOf n).foldl (barStep told W) (W.sum + 1, -1) = r at h h1 h2 h3 h4
  refine ⟨?_, fun c hc => ?_⟩
  · dsimp only at h1
    omega
  · cases q : bears told c with
    | true =>
      have := (h2 c hc).1 q
      rw [decide_eq_true this]
    | false =>
      have := (h2 c hc).2 q
      rw [decide_eq_false (by omega)]
theorem inThr_mem {c : Nat} : ∀ {l : List (Nat × List Int × Int)}, inThr c l = true → ∃ t ∈ l, t.1 = c
  | [], h => by cases h
  | t :: l, h => by
    unfold inThr at h
    rcases Bool.or_eq_true_iff.mp h with h | h
    · exact ⟨t, List.mem_cons_self .., Nat.eq_of_beq_eq_true h⟩
    · obtain ⟨s, hs, e⟩ := inThr_mem h
      exact ⟨s, List.mem_cons_of_mem _ hs, e⟩
theorem no_trade_weights {n : Nat} (h1 : 1 ≤ n) (h5 : n ≤ 5) (told : List Crowd) (h : ¬ TradeIn n told) : ∃ row ∈ fallRows 9 n, (barPair n told (weightsOf n (orderOf n told) row)).2 < (barPair n told (weightsOf n (orderOf n told) row)).1 := by
  have hc := chk_all h1 h5 (mono_mem n _ (gm_mono n told))
  unfold chk at hc
  rcases Bool.or_eq_true_iff.mp hc with q | q
  · obtain ⟨x, hx, q⟩ := List.any_eq_true.mp q
    exact absurd (hits_trade h5 hx q) h
  · obtain ⟨t, ht, e⟩ := inThr_mem q
    obtain ⟨t1, t2, t3⟩ := thr_ok n (by omega) t ht
    refine ⟨t.2.1, falls_mem 9 n _ t1 t2, ?_⟩
    have hp := order_perm n told
    refine bar_fits h5 (weights_len n _ _) (wFold_nonneg (falls_nonneg _ _ t2) n n) (b := t.2.2) fun c hc => ?_
    have hpl := pix_lt c (orderOf n told).reverse
    rw [List.length_reverse, hp.length_eq, rng_len] at hpl
    rw [← canon_bit h5 told hc, show canon n (gm n told) = t.1 from e.symm, ← tb_eq, t3 _ hpl, rowR_pix c _ _ (by rw [List.length_reverse, List.length_reverse, t1, hp.length_eq, rng_len]), weights_weigh hp t1 (cs_sorted h5 hc) (cs_rng h5 hc)]
end Vw

/-! trades -/
namespace Vw
def sharedOf (a b : Crowd) : Crowd := a.filter fun m => decide (m ∈ b)
def exStep (sh : Crowd) (pairs : List (Crowd × Crowd)) (m : Int) : List (Crowd × Crowd) := if m ∈ sh then pairs else pairs.flatMap fun p => [(withThem p.1 [m], p.2), (p.1, withThem p.2 [m])]
def exch (a b : Crowd) : List (Crowd × Crowd) := (withThem a b).foldl (exStep (sharedOf a b)) [(sharedOf a b, sharedOf a b)]
theorem shared_mem {a b : Crowd} {k : Int} : k ∈ sharedOf a b ↔ k ∈ a ∧ k ∈ b := by
  unfold sharedOf
  rw [List.mem_filter]
  simp
structure GoodEx (sh L : Crowd) (p : Crowd × Crowd) : Prop where
  s1 : p.1.Pairwise (· < ·)
  s2 : p.2.Pairwise (· < ·)
  both : ∀ k ∈ sh, k ∈ p.1 ∧ k ∈ p.2
  one : ∀ k, k ∉ sh → k ∈ L → (k ∈ p.1 ∧ k ∉ p.2) ∨ (k ∉ p.1 ∧ k ∈ p.2)
  no : ∀ k, k ∉ sh → k ∉ L → k ∉ p.1 ∧ k ∉ p.2
theorem with_one {c : Crowd} {m k : Int} : k ∈ withThem c [m] ↔ k ∈ c ∨ k = m := by
  rw [withThem_mem, List.mem_singleton]
theorem ex_good (sh : Crowd) : ∀ (rest L : List Int) (pairs : List (Crowd × Crowd)), (L ++ rest).Nodup → (∀ p ∈ pairs, GoodEx sh L p) → ∀ p ∈ rest.foldl (exStep sh) pairs, GoodEx sh (L ++ rest) p
  | [], L, pairs, _, h, p, hp => by
    rw [List.append_nil]
    exact h p hp
  | m :: rest, L, pairs, nd, h, p, hp => by
    rw [show L ++ m :: rest = (L ++ [m]) ++ rest by simp]
    refine ex_good sh rest (L ++ [m]) (exStep sh pairs m) (by simpa using nd) (fun q hq => ?_) p hp
    have hmL : m ∉ L := fun z => by
      have := (List.nodup_append.mp nd).2.2 m z m (List.mem_cons_self ..)
      exact this rfl
    unfold exStep at hq
    split at hq
    · rename_i hm
      have g := h q hq
      refine ⟨g.s1, g.s2, g.both, fun k k1 k2 => ?_, fun k k1 k2 => g.no k k1 fun z => k2 (List.mem_append.mpr (.inl z))⟩
      rcases List.mem_append.mp k2 with z | z
      · exact g.one k k1 z
      · have : k = m := by simpa using z
        subst this
        exact absurd hm k1
    · rename_i hm
      obtain ⟨r, hr, hq⟩ := List.mem_flatMap.mp hq
      have g := h r hr
      have gm := g.no m hm hmL
      have hq' : q = (withThem r.1 [m], r.2) ∨ q = (r.1, withThem r.2 [m]) := by simpa using hq
      rcases hq' with e | e <;> subst e
      · refine ⟨sortU_sorted _, g.s2, fun k hk => ⟨with_one.mpr (.inl (g.both k hk).1), (g.both k hk).2⟩, fun k k1 k2 => ?_, fun k k1 k2 => ?_⟩
        · by_cases e : k = m
          · subst e
            exact .inl ⟨with_one.mpr (.inr rfl), gm.2⟩
          · have hkL : k ∈ L := by
              rcases List.mem_append.mp k2 with z | z
              · exact z
              · exact absurd (by simpa using z) e
            rcases g.one k k1 hkL with ⟨z1, z2⟩ | ⟨z1, z2⟩
            · exact .inl ⟨with_one.mpr (.inl z1), z2⟩
            · exact .inr ⟨fun z => (with_one.mp z).elim z1 e, z2⟩
        · have e : k ≠ m := fun e => k2 (by rw [e]; simp)
          have n1 := g.no k k1 fun z => k2 (List.mem_append.mpr (.inl z))
          exact ⟨fun z => (with_one.mp z).elim n1.1 e, n1.2⟩
      · refine ⟨g.s1, sortU_sorted _, fun k hk => ⟨(g.both k hk).1, with_one.mpr (.inl (g.both k hk).2)⟩, fun k k1 k2 => ?_, fun k k1 k2 => ?_⟩
        · by_cases e : k = m
          · subst e
            exact .inr ⟨gm.1, with_one.mpr (.inr rfl)⟩
          · have hkL : k ∈ L := by
              rcases List.mem_append.mp k2 with z | z
              · exact z
              · exact absurd (by simpa using z) e
            rcases g.one k k1 hkL with ⟨z1, z2⟩ | ⟨z1, z2⟩
            · exact .inl ⟨z1, fun z => (with_one.mp z).elim z2 e⟩
            · exact .inr ⟨z1, with_one.mpr (.inl z2)⟩
        · have e : k ≠ m := fun e => k2 (by rw [e]; simp)
          have n1 := g.no k k1 fun z => k2 (List.mem_append.mpr (.inl z))
          exact ⟨n1.1, fun z => (with_one.mp z).elim n1.2 e⟩
theorem shared_sorted {a b : Crowd} (ha : a.Pairwise (· < ·)) : (sharedOf a b).Pairwise (· < ·) := ha.filter _
theorem with_nodup (a b : Crowd) : (withThem a b).Nodup := (sortU_sorted _).imp fun {x y} h => Int.ne_of_lt h
theorem exch_good {a b : Crowd} (ha : a.Pairwise (· < ·)) : ∀ p ∈ exch a b, GoodEx (sharedOf a b) (withThem a b) p := by
  have h := ex_good (sharedOf a b) (withThem a b) [] [(sharedOf a b, sharedOf a b)] (by simpa using with_nodup a b) fun p hp => by
    have : p = (sharedOf a b, sharedOf a b) := by simpa using hp
    subst this
    exact ⟨shared_sorted ha, shared_sorted ha, fun k hk => ⟨hk, hk⟩, fun k _ hk => absurd hk (by simp), fun k hk _ => ⟨hk, hk⟩⟩
  rw [List.nil_append] at h
  exact h
theorem exch_mem {a b : Crowd} (ha : a.Pairwise (· < ·)) {p : Crowd × Crowd} (hp : p ∈ exch a b) : (∀ k, k ∈ p.1 → k ∈ a ∨ k ∈ b) ∧ (∀ k, k ∈ p.2 → k ∈ a ∨ k ∈ b) := by
  have g := exch_good ha p hp
  have go : ∀ k, (k ∈ p.1 ∨ k ∈ p.2) → k ∈ a ∨ k ∈ b := fun k hk => by
    by_cases h1 : k ∈ sharedOf a b
    · exact .inl (shared_mem.mp h1).1
    · by_cases h2 : k ∈ withThem a b
      · exact withThem_mem.mp h2
      · have := g.no k h1 h2
        rcases hk with z | z
        · exact absurd z this.1
        · exact absurd z this.2
  exact ⟨fun k hk => go k (.inl hk), fun k hk => go k (.inr hk)⟩
theorem exch_ok {n : Nat} {a b : Crowd} (ha : crowdOk (n : Int) a = true) (hb : crowdOk (n : Int) b = true) {p : Crowd × Crowd} (hp : p ∈ exch a b) : crowdOk (n : Int) p.1 = true ∧ crowdOk (n : Int) p.2 = true := by
  obtain ⟨a1, a2⟩ := crowdOk_iff.mp ha
  obtain ⟨b1, b2⟩ := crowdOk_iff.mp hb
  have g := exch_good a1 p hp
  obtain ⟨m1, m2⟩ := exch_mem a1 hp
  exact ⟨crowdOk_iff.mpr ⟨g.s1, fun k hk => (m1 k hk).elim (a2 k) (b2 k)⟩, crowdOk_iff.mpr ⟨g.s2, fun k hk => (m2 k hk).elim (a2 k) (b2 k)⟩⟩
theorem exch_sum {a b : Crowd} (ha : a.Pairwise (· < ·)) {p : Crowd × Crowd} (hp : p ∈ exch a b) (k : Int) : sumOf p.1 p.2 k = sumOf a b k := by
  have g := exch_good ha p hp
  unfold sumOf
  by_cases h1 : k ∈ sharedOf a b
  · have h2 := shared_mem.mp h1
    have h3 := g.both k h1
    simp [h2.1, h2.2, h3.1, h3.2]
  · by_cases h2 : k ∈ withThem a b
    · have h3 := withThem_mem.mp h2
      have h4 : ¬ (k ∈ a ∧ k ∈ b) := fun z => h1 (shared_mem.mpr z)
      rcases g.one k h1 h2 with ⟨z1, z2⟩ | ⟨z1, z2⟩ <;> rcases h3 with q | q
      · have q2 : k ∉ b := fun z => h4 ⟨q, z⟩
        simp [z1, z2, q, q2]
      · have q2 : k ∉ a := fun z => h4 ⟨z, q⟩
        simp [z1, z2, q, q2]
      · have q2 : k ∉ b := fun z => h4 ⟨q, z⟩
        simp [z1, z2, q, q2]
      · have q2 : k ∉ a := fun z => h4 ⟨z, q⟩
        simp [z1, z2, q, q2]
    · have h3 := g.no k h1 h2
      have h4 : k ∉ a := fun z => h2 (withThem_mem.mpr (.inl z))
      have h5 : k ∉ b := fun z => h2 (withThem_mem.mpr (.inr z))
      simp [h3.1, h3.2, h4, h5]
/-! ### every such pair is listed -/
def restr (U sh p L : Crowd) : Crowd := U.filter fun k => decide (k ∈ sh) || (decide (k ∈ p) && decide (k ∈ L))
theorem restr_mem {U sh p L : Crowd} {k : Int} : k ∈ restr U sh p L ↔ k ∈ U ∧ (k ∈ sh ∨ (k ∈ p ∧ k ∈ L)) := by
  unfold restr
  rw [List.mem_filter]
  simp
theorem restr_sorted {U sh p L : Crowd} (h : U.Pairwise (· < ·)) : (restr U sh p L).Pairwise (· < ·) := h.filter _
theorem ex_all {U sh p q : Crowd} (hU : U.Pairwise (· < ·)) (h1 : ∀ k ∈ U, k ∉ sh → (k ∈ p ∧ k ∉ q) ∨ (k ∉ p ∧ k ∈ q)) : ∀ (rest L : List Int) (pairs : List (Crowd × Crowd)), L ++ rest = U → (restr U sh p L, restr U sh q L) ∈ pairs → (restr U sh p U, restr U sh q U) ∈ rest.foldl (exStep sh) pairs
  | [], L, pairs, e, h => by
    rw [List.append_nil] at e
    rw [← e] at h ⊢
    exact h
  | m :: rest, L, pairs, e, h => by
    refine ex_all hU h1 rest (L ++ [m]) (exStep sh pairs m) (by rw [← e]; simp) ?_
    have hmU : m ∈ U := by rw [← e]; simp
    have same : ∀ p : Crowd, (m ∈ sh ∨ m ∉ p) → restr U sh p (L ++ [m]) = restr U sh p L := fun p hm => sorted_ext (restr_sorted hU) (restr_sorted hU) fun k => by
      rw [restr_mem, restr_mem, List.mem_append, List.mem_singleton]
      constructor
      · rintro ⟨z1, z2 | ⟨z2, z3 | z3⟩⟩
        · exact ⟨z1, .inl z2⟩
        · exact ⟨z1, .inr ⟨z2, z3⟩⟩
        · subst z3
          rcases hm with y | y
          · exact ⟨z1, .inl y⟩
          · exact absurd z2 y
      · rintro ⟨z1, z2 | ⟨z2, z3⟩⟩
        · exact ⟨z1, .inl z2⟩
        · exact ⟨z1, .inr ⟨z2, .inl z3⟩⟩
    have more : ∀ p : Crowd, m ∈ p → restr U sh p (L ++ [m]) = withThem (restr U sh p L) [m] := fun p hm => sorted_ext (restr_sorted hU) (sortU_sorted _) fun k => by
      rw [with_one, restr_mem, restr_mem, List.mem_append, List.mem_singleton]
      constructor
      · rintro ⟨z1, z2 | ⟨z2, z3 | z3⟩⟩
        · exact .inl ⟨z1, .inl z2⟩
        · exact .inl ⟨z1, .inr ⟨z2, z3⟩⟩
        · exact .inr z3
      · rintro (⟨z1, z2 | ⟨z2, z3⟩⟩ | z)
        · exact ⟨z1, .inl z2⟩
        · exact ⟨z1, .inr ⟨z2, .inl z3⟩⟩
        · subst z
          exact ⟨hmU, .inr ⟨hm, .inr rfl⟩⟩
    unfold exStep
    by_cases hs : m ∈ sh
    · rw [if_pos hs, same p (.inl hs), same q (.inl hs)]
      exact h
    · rw [if_neg hs]
      refine List.mem_flatMap.mpr ⟨_, h, ?_⟩
      rcases h1 m hmU hs with ⟨z1, z2⟩ | ⟨z1, z2⟩
      · rw [more p z1, same q (.inr z2)]
        simp
      · rw [same p (.inr z1), more q z2]
        simp
theorem exch_all {a b p q : Crowd} (ha : a.Pairwise (· < ·)) (hp : p.Pairwise (· < ·)) (hq : q.Pairwise (· < ·)) (h : ∀ k, sumOf p q k = sumOf a b k) : (p, q) ∈ exch a b := by
  have hU : (withThem a b).Pairwise (· < ·) := sortU_sorted _
  have dec : ∀ k, ((k ∈ p ∧ k ∈ q) ↔ (k ∈ a ∧ k ∈ b)) ∧ ((k ∈ p ∨ k ∈ q) ↔ (k ∈ a ∨ k ∈ b)) := fun k => by
    have := h k
    unfold sumOf at this
    by_cases x1 : k ∈ p <;> by_cases x2 : k ∈ q <;> by_cases x3 : k ∈ a <;> by_cases x4 : k ∈ b <;> simp [x1, x2, x3, x4] at this ⊢
  have fin : ∀ p q : Crowd, p.Pairwise (· < ·) → (∀ k, ((k ∈ p ∧ k ∈ q) ↔ (k ∈ a ∧ k ∈ b)) ∧ ((k ∈ p ∨ k ∈ q) ↔ (k ∈ a ∨ k ∈ b))) → restr (withThem a b) (sharedOf a b) p (withThem a b) = p := fun p q hp dec => sorted_ext (restr_sorted hU) hp fun k => by
    rw [restr_mem, shared_mem, withThem_mem]
    constructor
    · rintro ⟨_, z | ⟨z, _⟩⟩
      · exact ((dec k).1.mpr z).1
      · exact z
    · intro z
      have := (dec k).2.mp (.inl z)
      exact ⟨this, .inr ⟨z, this⟩⟩
  have r := ex_all (U := withThem a b) (sh := sharedOf a b) (p := p) (q := q) hU (fun k hk hs => by
    have d := dec k
    have n1 : ¬ (k ∈ p ∧ k ∈ q) := fun z => hs (shared_mem.mpr (d.1.mp z))
    have n2 := d.2.mpr (withThem_mem.mp hk)
    rcases n2 with z | z
    · exact .inl ⟨z, fun y => n1 ⟨z, y⟩⟩
    · exact .inr ⟨fun y => n1 ⟨y, z⟩, z⟩) (withThem a b) [] [(sharedOf a b, sharedOf a b)] rfl (by
    have e : ∀ p : Crowd, restr (withThem a b) (sharedOf a b) p [] = sharedOf a b := fun p => sorted_ext (restr_sorted hU) (shared_sorted ha) fun k => by
      rw [restr_mem, shared_mem, withThem_mem]
      constructor
      · rintro ⟨_, z | ⟨_, z⟩⟩
        · exact z
        · exact absurd z (by simp)
      · intro z
        exact ⟨.inl z.1, .inl z⟩
    rw [e p, e q]
    exact List.mem_cons_self ..)
  rw [fin p q hp dec, fin q p hq fun k => ⟨⟨fun z => (dec k).1.mp ⟨z.2, z.1⟩, fun z => ⟨((dec k).1.mpr z).2, ((dec k).1.mpr z).1⟩⟩, ⟨fun z => (dec k).2.mp z.symm, fun z => ((dec k).2.mpr z).symm⟩⟩] at r
  exact r
theorem ex_len (sh : Crowd) : ∀ (ms : List Int) (pairs : List (Crowd × Crowd)), (ms.foldl (exStep sh) pairs).length ≤ 2 ^ ms.length * pairs.length
  | [], pairs => by simp
  | m :: ms, pairs => by
    rw [List.foldl_cons, List.length_cons, Nat.pow_succ]
    refine Nat.le_trans (ex_len sh ms _) ?_
    have : (exStep sh pairs m).length ≤ 2 * pairs.length := by
      unfold exStep
      split
      · omega
      · rw [List.length_flatMap]
        have : (pairs.map fun p => ([(withThem p.1 [m], p.2), (p.1, withThem p.2 [m])] : List (Crowd × Crowd)).length).sum = 2 * pairs.length := by
          induction pairs with
          | nil => rfl
          | cons a l ih =>
            simp only [List.map_cons, List.sum_cons, List.length_cons, List.length_nil] at ih ⊢
            omega
        omega
    rw [Nat.mul_assoc]
    exact Nat.mul_le_mul_left _ this
/-! ### the first trade -/
def tradeP (told : List Crowd) (one other : Crowd) (p : Crowd × Crowd) : Option (Crowd × Crowd × Crowd × Crowd) := if (!bears told p.1 && !bears told p.2) = true then some (one, other, p.1, p.2) else none
def tradeOf (n : Nat) (told : List Crowd) : Option (Crowd × Crowd × Crowd × Crowd) := (least n told).findSome? fun one => (least n told).findSome? fun other => (exch one other).findSome? (tradeP told one other)
theorem trade_some {n : Nat} {told : List Crowd} {t : Crowd × Crowd × Crowd × Crowd} (h : tradeOf n told = some t) : t.1 ∈ least n told ∧ t.2.1 ∈ least n told ∧ (t.2.2.1, t.2.2.2) ∈ exch t.1 t.2.1 ∧ bears told t.2.2.1 = false ∧ bears told t.2.2.2 = false := by
  obtain ⟨one, h1, h⟩ := List.exists_of_findSome?_eq_some h
  obtain ⟨other, h2, h⟩ := List.exists_of_findSome?_eq_some h
  obtain ⟨p, h3, h⟩ := List.exists_of_findSome?_eq_some h
  unfold tradeP at h
  split at h
  · rename_i q
    cases h
    rw [Bool.and_eq_true, Bool.not_eq_true', Bool.not_eq_true'] at q
    exact ⟨h1, h2, h3, q.1, q.2⟩
  · cases h
theorem least_in {n : Nat} (hn : n ≤ 5) {told : List Crowd} {c : Crowd} (hc : c ∈ crowdsOf n) (h : bears told c = true) : ∃ d ∈ least n told, (∀ k ∈ d, k ∈ c) ∧ bears told d = true := by
  obtain ⟨i, hi⟩ := List.getElem?_of_mem hc
  obtain ⟨j, d, _, hd, hl, hin⟩ := least_below hn i c hi h
  refine ⟨d, by rw [least_eq hn]; exact List.mem_filter.mpr ⟨List.mem_of_getElem? hd, hl⟩, liesIn_iff.mp hin, (isLeast_iff.mp hl).1⟩
theorem trade_none {n : Nat} (hn : n ≤ 5) {told : List Crowd} (h : tradeOf n told = none) : ¬ TradeIn n told := by
  rintro ⟨x, hx, y, hy, a, ha, b, hb, bx, by_, ba, bb, hs⟩
  obtain ⟨one, h1, i1, _⟩ := least_in hn hx bx
  obtain ⟨other, h2, i2, _⟩ := least_in hn hy by_
  have c1 := least_good hn told one h1
  have c2 := least_good hn told other h2
  have s1 := cs_sorted hn c1
  have hU : (withThem one other).Pairwise (· < ·) := sortU_sorted _
  obtain ⟨p, ep⟩ : ∃ p, p = (withThem one other).filter fun k => decide (k ∈ one ∧ k ∈ other) || decide (k ∈ a) := ⟨_, rfl⟩
  obtain ⟨q, eq⟩ : ∃ q, q = (withThem one other).filter fun k => decide (k ∈ one ∧ k ∈ other) || !decide (k ∈ a) := ⟨_, rfl⟩
  have pm : ∀ k, k ∈ p ↔ (k ∈ one ∨ k ∈ other) ∧ ((k ∈ one ∧ k ∈ other) ∨ k ∈ a) := fun k => by
    rw [ep, List.mem_filter, withThem_mem]
    simp
  have qm : ∀ k, k ∈ q ↔ (k ∈ one ∨ k ∈ other) ∧ ((k ∈ one ∧ k ∈ other) ∨ k ∉ a) := fun k => by
    rw [eq, List.mem_filter, withThem_mem]
    simp
  have law : ∀ k, (k ∈ one ∨ k ∈ other) → (k ∈ a ∨ k ∈ b) ∧ ((k ∈ one ∧ k ∈ other) → k ∈ a ∧ k ∈ b) := fun k hk => by
    have hr : k ∈ rng n := hk.elim (cs_rng hn c1 k) (cs_rng hn c2 k)
    have e := hs k hr
    unfold sumOf at e
    have hxy : k ∈ x ∨ k ∈ y := hk.elim (fun z => .inl (i1 k z)) (fun z => .inr (i2 k z))
    constructor
    · by_cases z1 : k ∈ a
      · exact .inl z1
      · by_cases z2 : k ∈ b
        · exact .inr z2
        · rcases hxy with z | z <;> simp [z1, z2, z] at e
    · rintro ⟨w1, w2⟩
      have y1 := i1 k w1
      have y2 := i2 k w2
      by_cases z1 : k ∈ a <;> by_cases z2 : k ∈ b <;> simp [z1, z2, y1, y2] at e ⊢
  have bp : bears told p = false := by
    cases z : bears told p with
    | false => rfl
    | true =>
      rw [bears_sub z fun k hk => by
        obtain ⟨w1, w2⟩ := (pm k).mp hk
        rcases w2 with w2 | w2
        · exact ((law k w1).2 w2).1
        · exact w2] at ba
      cases ba
  have bq : bears told q = false := by
    cases z : bears told q with
    | false => rfl
    | true =>
      rw [bears_sub z fun k hk => by
        obtain ⟨w1, w2⟩ := (qm k).mp hk
        rcases w2 with w2 | w2
        · exact ((law k w1).2 w2).2
        · rcases (law k w1).1 with y | y
          · exact absurd y w2
          · exact y] at bb
      cases bb
  have hin : (p, q) ∈ exch one other := exch_all s1 (by rw [ep]; exact hU.filter _) (by rw [eq]; exact hU.filter _) fun k => by
    unfold sumOf
    have p1 := pm k
    have q1 := qm k
    by_cases x1 : k ∈ one <;> by_cases x2 : k ∈ other <;> by_cases x3 : k ∈ a <;> simp [x1, x2, x3] at p1 q1 <;> simp [x1, x2, p1, q1]
  have := List.findSome?_eq_none_iff.mp h one h1
  have := List.findSome?_eq_none_iff.mp this other h2
  have := List.findSome?_eq_none_iff.mp this (p, q) hin
  unfold tradeP at this
  rw [bp, bq] at this
  cases this
/-! ### where weights tell no trade is -/
theorem weigh_ind {n : Nat} {W : List Int} {c : Crowd} (hs : c.Pairwise (· < ·)) (hc : ∀ k ∈ c, k ∈ rng n) : weigh W c = ((rng n).map fun k => ((decide (k ∈ c)).toNat : Int) * W.getD k.toNat 0).sum := by
  have hp := perm_sum ((part_perm (.refl _) hs hc).map fun i => W.getD i.toNat 0)
  unfold weigh
  rw [← hp]
  have go : ∀ l : List Int, ((l.filter fun o => decide (o ∈ c)).map fun i => W.getD i.toNat 0).sum = (l.map fun k => ((decide (k ∈ c)).toNat : Int) * W.getD k.toNat 0).sum := by
    intro l
    induction l with
    | nil => rfl
    | cons x l ih =>
      rw [List.filter_cons, List.map_cons, List.sum_cons, ← ih]
      by_cases q : x ∈ c <;> simp [q]
  exact go _
theorem weights_no_trade {n : Nat} (hn : n ≤ 5) {told : List Crowd} {W : List Int} {bar : Int} (h : ∀ c ∈ crowdsOf n, bears told c = decide (bar ≤ weigh W c)) : ¬ TradeIn n told := by
  rintro ⟨x, hx, y, hy, a, ha, b, hb, bx, by_, ba, bb, hs⟩
  have e : weigh W x + weigh W y = weigh W a + weigh W b := by
    rw [weigh_ind (cs_sorted hn hx) (cs_rng hn hx), weigh_ind (cs_sorted hn hy) (cs_rng hn hy), weigh_ind (cs_sorted hn ha) (cs_rng hn ha), weigh_ind (cs_sorted hn hb) (cs_rng hn hb)]
    have go : ∀ l : List Int, (∀ k ∈ l, sumOf x y k = sumOf a b k) → (l.map fun k => ((decide (k ∈ x)).toNat : Int) * W.getD k.toNat 0).sum + (l.map fun k => ((decide (k ∈ y)).toNat : Int) * W.getD k.toNat 0).sum = (l.map fun k => ((decide (k ∈ a)).toNat : Int) * W.getD k.toNat 0).sum + (l.map fun k => ((decide (k ∈ b)).toNat : Int) * W.getD k.toNat 0).sum := by
      intro l
      induction l with
      | nil => intro _; rfl
      | cons k l ih =>
        intro hl
        have h1 := ih fun j hj => hl j (List.mem_cons_of_mem _ hj)
        have h2 := hl k (List.mem_cons_self ..)
        unfold sumOf at h2
        simp only [List.map_cons, List.sum_cons]
        have h3 : ((decide (k ∈ x)).toNat : Int) * W.getD k.toNat 0 + ((decide (k ∈ y)).toNat : Int) * W.getD k.toNat 0 = ((decide (k ∈ a)).toNat : Int) * W.getD k.toNat 0 + ((decide (k ∈ b)).toNat : Int) * W.getD k.toNat 0 := by
          rw [← Int.add_mul, ← Int.add_mul]
          congr 1
          exact_mod_cast h2
        omega
    exact go _ hs
  rw [h x hx] at bx
  rw [h y hy] at by_
  rw [h a ha] at ba
  rw [h b hb] at bb
  have := of_decide_eq_true bx
  have := of_decide_eq_true by_
  have := of_decide_eq_false ba
  have := of_decide_eq_false bb
  omega
/-! ### what a council is asked for -/
def rowFit (n : Nat) (told : List Crowd) (row : List Int) : Option (List Int × Int) := if (barPair n told (weightsOf n (orderOf n told) row)).2 < (barPair n told (weightsOf n (orderOf n told) row)).1 then some (weightsOf n (orderOf n told) row, (barPair n told (weightsOf n (orderOf n told) row)).1) else none
def weightsFound (n : Nat) (told : List Crowd) : Option (List Int × Int) := (fallRows 9 n).findSome? (rowFit n told)
theorem fall_good (most : Int) : ∀ (k : Nat), ∀ row ∈ fallRows most k, row.length = k ∧ (∀ x ∈ row, 0 ≤ x)
  | 0, row, h => by
    have : row = [] := by simpa [fallRows] using h
    subst this
    exact ⟨rfl, fun x hx => absurd hx (by simp)⟩
  | k + 1, row, h => by
    obtain ⟨init, hi, h⟩ := List.mem_flatMap.mp h
    obtain ⟨x, _, rfl⟩ := List.mem_map.mp h
    obtain ⟨g1, g2⟩ := fall_good most k init hi
    refine ⟨by simp [g1], fun y hy => ?_⟩
    rcases List.mem_append.mp hy with z | z
    · exact g2 y z
    · have : y = (x : Int) := by simpa using z
      omega
structure WeightsRight (n : Nat) (told : List Crowd) (W : List Int) (b : Int) : Prop where
  len : W.length = n
  nn : ∀ x ∈ W, 0 ≤ x
  bar : 0 ≤ b
  tells : ∀ c ∈ crowdsOf n, bears told c = decide (b ≤ weigh W c)
theorem weights_some {n : Nat} {told : List Crowd} {W : List Int} {b : Int} (h : weightsFound n told = some (W, b)) : WeightsRight n told W b := by
  obtain ⟨row, hr, h⟩ := List.exists_of_findSome?_eq_some h
  obtain ⟨g1, g2⟩ := fall_good 9 n row hr
  unfold rowFit at h
  split at h
  · rename_i q
    have e := Option.some.inj h
    have e1 : weightsOf n (orderOf n told) row = W := congrArg Prod.fst e
    have e2 : (barPair n told (weightsOf n (orderOf n told) row)).1 = b := congrArg Prod.snd e
    have nn := wFold_nonneg (ord := orderOf n told) g2 n n
    obtain ⟨r1, r2⟩ := bar_right nn q
    subst e1 e2
    exact ⟨weights_len n _ _, nn, r1, r2⟩
  · cases h
theorem weights_found {n : Nat} (h1 : 1 ≤ n) (h5 : n ≤ 5) {told : List Crowd} (h : tradeOf n told = none) : ∃ W b, weightsFound n told = some (W, b) := by
  obtain ⟨row, hr, q⟩ := no_trade_weights h1 h5 told (trade_none h5 h)
  cases e : weightsFound n told with
  | some x => exact ⟨x.1, x.2, rfl⟩
  | none =>
    have := List.findSome?_eq_none_iff.mp e row hr
    unfold rowFit at this
    rw [if_pos q] at this
    cases this
end Vw

namespace Vw
open PySem L2 PySem.Spec PyProof.Rows
/-! ### sorted of pairs of ints -/
def ePi (p : Int × Int) : D := .tup [.int p.1, .int p.2]
open Classical in
theorem evn_sortedPO {G : Cfg} {te : TE} {ρ : Rho} {xs ys : List (Int × Int)} (h : EvS G te ρ (xs.map ePi)) (hp : ys.Perm xs) (hs : ys.Pairwise leP) : EvN G (tCB (rSortedPO G.K) (tCons te tNil)) ρ (ys.map ePi) :=
  evn_cb (ea1L h) (rcn_one fun F H v s r Q q => by
    obtain ⟨a, vs, rfl, h1, rr⟩ := r.lst s
    have key : ∀ x : V, ∃ p : Int × Int, ∀ p', Rep G F x (ePi p') → p' = p := fun x => by
      by_cases hx : ∃ p, Rep G F x (ePi p)
      · obtain ⟨p, hp⟩ := hx
        refine ⟨p, fun p' hp' => ?_⟩
        obtain ⟨p1, p2⟩ := p
        obtain ⟨q1, q2⟩ := p'
        cases hp with
        | tup a1 b1 =>
          cases hp' with
          | tup a2 b2 =>
            rw [a1] at a2
            cases a2
            cases b1 with
            | cons c1 d1 =>
              cases d1 with
              | cons c3 d3 =>
                cases b2 with
                | cons c2 d2 =>
                  cases d2 with
                  | cons c4 d4 =>
                    cases c1
                    cases c3
                    cases c2
                    cases c4
                    rfl
      · exact ⟨(0, 0), fun p' hp' => absurd ⟨p', hp'⟩ hx⟩
    let k : V → Int × Int := fun x => (key x).choose
    have hk : ∀ x p, Rep G F x (ePi p) → k x = p := fun x p hp => ((key x).choose_spec p hp).symm
    refine ⟨a, vs, k, rfl, SqL.of h1, fun x hx => ?_, fun ws p hw hst hp' => ?_⟩
    · obtain ⟨i, hi⟩ := List.getElem?_of_mem hx
      obtain ⟨y, _, ry⟩ := rr.item hi
      have e := hk x y ry
      rw [e]
      cases ry with
      | tup a1 b1 =>
        cases b1 with
        | cons c1 d1 =>
          cases d1 with
          | cons c3 d3 =>
            cases d3
            cases c1
            cases c3
            exact ⟨_, rfl, s _ _ a1⟩
    · obtain ⟨zs, pz, rz⟩ := reps_perm ePi rr hst.perm
      have hz : zs.Pairwise leP := by
        have go : ∀ {us : List V} {zs : List (Int × Int)}, Reps G F us (zs.map ePi) → SrtO.Srtd (ltP k) us → zs.Pairwise leP := by
          intro us zs
          induction zs generalizing us with
          | nil => intro _ _; exact .nil
          | cons z zs ih =>
            intro r1 r2
            cases r1 with
            | cons r1 r3 =>
              have q2 := List.pairwise_cons.mp r2
              refine .cons (fun y hy => ?_) (ih r3 q2.2)
              obtain ⟨i, hi⟩ := List.getElem?_of_mem hy
              obtain ⟨u, hu1, hu2⟩ := r3.getD (i := i) (d := ePi y) (by rw [List.getElem?_map, hi]; rfl)
              have q3 := q2.1 u (List.mem_of_getElem? hu1)
              unfold ltP at q3
              rw [hk _ _ r1, hk _ _ hu2] at q3
              have := SrtO.lexB_no.mp q3
              unfold leP
              omega
        exact go rz hw
      have ez : zs = ys := (pz.trans hp.symm).eq_of_pairwise (fun a b _ _ h1 h2 => by
        unfold leP at h1 h2
        obtain ⟨a1, a2⟩ := a
        obtain ⟨b1, b2⟩ := b
        dsimp only at h1 h2
        have e1 : a1 = b1 := by omega
        have e2 : a2 = b2 := by omega
        rw [e1, e2]) hz hs
      subst ez
      exact q p _ F _ ((Grow.refl s).fresh hp') hp' (s.free hp') upd_same rz)
/-! ### loops that look for something -/
theorem rep_flat (n : Nat) (x : Int) : (List.replicate n [D.int x]).flatten = (List.replicate n x).map D.int := by
  induction n with
  | zero => rfl
  | succ n ih => rw [List.replicate_succ, List.replicate_succ, List.flatten_cons, ih]; rfl
def goOf {β : Type} (g : β → Res) : Option β → Go Unit
  | some y => .stop (g y)
  | none => .go ()
theorem fold_find {α β : Type} (f : α → Option β) (g : β → Res) : ∀ xs : List α, foldGo (fun (_ : Unit) x => goOf g (f x)) () xs = goOf g (xs.findSome? f)
  | [] => rfl
  | x :: xs => by
    rw [List.findSome?_cons]
    simp only [foldGo]
    cases f x with
    | some y => rfl
    | none => exact fold_find f g xs
def tradeD : Option (Crowd × Crowd × Crowd × Crowd) → D
  | none => .non
  | some t => .tup [eC t.1, eC t.2.1, eC t.2.2.1, eC t.2.2.2]
def weighRes (n : Nat) (told : List Crowd) : Res := match tradeOf n told with
  | some t => .val (.tup [.str "trade", tradeD (some t)])
  | none => match weightsFound n told with
    | some x => .trip "weights" x.1 x.2
    | none => .val .non
theorem weighRes_trade {n : Nat} {told : List Crowd} {t : Crowd × Crowd × Crowd × Crowd} (h : tradeOf n told = some t) : weighRes n told = .val (.tup [.str "trade", tradeD (some t)]) := by
  unfold weighRes
  rw [h]
theorem weighRes_weights {n : Nat} {told : List Crowd} {W : List Int} {b : Int} (h : tradeOf n told = none) (h2 : weightsFound n told = some (W, b)) : weighRes n told = .trip "weights" W b := by
  unfold weighRes
  rw [h, h2]
structure TradeRight (n : Nat) (told : List Crowd) (t : Crowd × Crowd × Crowd × Crowd) : Prop where
  ok : ∀ c ∈ [t.1, t.2.1, t.2.2.1, t.2.2.2], c ∈ crowdsOf n
  b1 : bears told t.1 = true
  b2 : bears told t.2.1 = true
  b3 : bears told t.2.2.1 = false
  b4 : bears told t.2.2.2 = false
  sums : ∀ k : Nat, k < n → sumOf t.1 t.2.1 k = sumOf t.2.2.1 t.2.2.2 k
theorem trade_right {n : Nat} (hn : n ≤ 5) {told : List Crowd} {t : Crowd × Crowd × Crowd × Crowd} (h : tradeOf n told = some t) : TradeRight n told t := by
  obtain ⟨h1, h2, h3, h4, h5⟩ := trade_some h
  have c1 := least_good hn told _ h1
  have c2 := least_good hn told _ h2
  have ok := exch_ok (cs_good hn c1).1 (cs_good hn c2).1 h3
  have lb : ∀ c ∈ least n told, bears told c = true := fun c hc => by
    rw [least_eq hn] at hc
    exact (isLeast_iff.mp (List.mem_filter.mp hc).2).1
  refine ⟨fun c hc => ?_, lb _ h1, lb _ h2, h4, h5, fun k _ => (exch_sum (cs_sorted hn c1) h3 k).symm⟩
  have : c = t.1 ∨ c = t.2.1 ∨ c = t.2.2.1 ∨ c = t.2.2.2 := by simpa using hc
  rcases this with e | e | e | e <;> rw [e]
  · exact c1
  · exact c2
  · exact crowd_listed hn ok.1
  · exact crowd_listed hn ok.2
theorem trade_in {n : Nat} (hn : n ≤ 5) {told : List Crowd} {t : Crowd × Crowd × Crowd × Crowd} (h : tradeOf n told = some t) : TradeIn n told := by
  have tr := trade_right hn h
  refine ⟨t.1, tr.ok _ (by simp), t.2.1, tr.ok _ (by simp), t.2.2.1, tr.ok _ (by simp), t.2.2.2, tr.ok _ (by simp), tr.b1, tr.b2, tr.b3, tr.b4, fun k hk => ?_⟩
  have hb := mem_rng_iff.mp hk
  have := tr.sums k.toNat (by omega)
  rw [Int.toNat_of_nonneg hb.1] at this
  exact this
/-- the kind of the answer -/
def kindOf (n : Nat) (told : List Crowd) : Str := if (tradeOf n told).isSome = true then "trade" else "weights"
theorem kind_iff {n : Nat} (hn : n ≤ 5) {a b : List Crowd} (h : TradeIn n a ↔ TradeIn n b) : kindOf n a = kindOf n b := by
  have go : ∀ t : List Crowd, (tradeOf n t).isSome = true ↔ TradeIn n t := fun t => by
    cases e : tradeOf n t with
    | some x => exact ⟨fun _ => trade_in hn e, fun _ => rfl⟩
    | none => exact ⟨fun z => by (cases z), fun z => absurd z (trade_none hn e)⟩
  unfold kindOf
  by_cases q : TradeIn n a
  · rw [if_pos ((go a).mpr q), if_pos ((go b).mpr (h.mp q))]
  · rw [if_neg (fun z => q ((go a).mp z)), if_neg (fun z => q (h.mpr ((go b).mp z)))]
/-! ### a row in a list, all -/
theorem k_notInD {X : Cx} {K : PySem.W.Frag} (hu : X.A.units + 100 < cLine) (h : X.K = K := by rfl) : OpR X (compareOp .NotIn) (rNotInD K) := h ▸ op_notInD (by omega)
theorem any_eqv {α : Type} [DecidableEq α] {e : α → D} {n : Nat} (h : Enc e n) (a : α) : ∀ xs : List α, (pys (xs.map e)).any (fun z => PyData.eqv z (py (e a))) = decide (a ∈ xs)
  | [] => by simp [pys]
  | x :: xs => by
    rw [List.map_cons]
    unfold pys
    rw [List.any_cons, any_eqv h a xs, h.eqv x a]
    by_cases q : x = a
    · subst q
      simp
    · have : ¬ a = x := fun z => q z.symm
      simp [q, this]
theorem evd_ninE {G : Cfg} {ta tb : TE} {ρ : Rho} {α : Type} [DecidableEq α] {e : α → D} {n : Nat} {a : α} {xs : List α} (h : Enc e n) (ha : EvD G ta ρ (e a)) (hb : EvS G tb ρ (xs.map e)) (hn : n ≤ 59 := by decide) : EvD G (tOp (rNotInD G.K) ta tb) ρ (.bl (!decide (a ∈ xs))) := evd_opL ha hb fun F H v b vs s rv h1 r1 Q q =>
  ⟨_, _, rv.dp s (h.pl a), .lst (SqL.of h1) (r1.dp s (h.pls xs)), h.shaped (by omega) a, h.shapedL hn xs, q _ F H (.refl s) (by rw [any_eqv h]; exact .bl _)⟩
theorem reps_bls {G : Cfg} {F : Hp} : ∀ {vs : List V} {bs : List Bool}, Reps G F vs (bs.map D.bl) → vs = bs.map V.bl
  | _, [], .nil => rfl
  | _, b :: bs, .cons h r => by
    cases h
    rw [reps_bls r]
    rfl
theorem evd_all {G : Cfg} {te : TE} {ρ : Rho} {bs : List Bool} (h : EvS G te ρ (bs.map .bl)) : EvD G (tCB (rAll G.K) (tCons te tNil)) ρ (.bl (bs.all id)) :=
  evd_cb (ea1L h) (rcd_one fun F H v s r Q q => by
    obtain ⟨a, vs, rfl, h1, rr⟩ := r.lst s
    have e := reps_bls rr
    subst e
    exact ⟨a, bs, rfl, SqL.of h1, q _ F H (.refl s) (.bl _)⟩)
/-! ### a tuple with a new list -/
section
variable {G : Cfg} {W : WX} {k : Ks} {ρ : Rho} {te : TE}
theorem ws_retTrip {i j : Nat} {s : Str} {ws : List Int} {b : Int} (hi : ρ[i]? = some (.own (ws.map .int))) (hj : ρ[j]? = some (.im (.int b))) (n : k.rt (.trip s ws b)) : WS G W (tRet (tTup (tCons (tC (.str s)) (tCons (tVar i) (tCons (tVar j) tNil))))) k ρ := fun F0 H0 F H σ D R K => by
  obtain ⟨a, vs, e, h0, hf, h1, r⟩ := id (R.sl i _ hi)
  obtain ⟨v, e2, r2⟩ := id (R.sl j _ hj)
  cases r2
  have ev := r.ints
  subst ev
  refine ⟨_, e, _, e2, ?_⟩
  refine ⟨by show (3 : Nat) ≤ _; decide, fun t ht => ?_⟩
  have ne : t ≠ a := fun z => by
    subst z
    rw [ht] at h1
    cases h1
  exact K.rt _ n t a F _ (R.g.fresh ht) (R.g.eh.free ht) h0 (R.g.sub.free ht) hf ne upd_same (by rw [upd_ne (Ne.symm ne)]; exact h1)
/-- f(..)[0] -/
theorem evd_trip0 {s : Str} {ws : List Int} {b : Int} (he : EvX G E0 te ρ (.trip s ws b)) : EvD G (tOp (rIxT G.K) te (tC (.int 0))) ρ (.str s) := fun F0 H0 F H σ E Q q =>
  he F0 H0 F H σ E _ fun t a F1 H1 g1 t0 a0 tf af ne ht ha => ⟨t, _, 0, .str s, rfl, rfl, SqT.of ht, rfl, q _ F1 H1 g1 (.str s)⟩
/-- weighed(..)[0] -/
theorem evd_kind {n : Nat} {told : List Crowd} (h1 : 1 ≤ n) (h5 : n ≤ 5) (he : EvX G E0 te ρ (weighRes n told)) : EvD G (tOp (rIxT G.K) te (tC (.int 0))) ρ (.str (kindOf n told)) := by
  unfold kindOf
  cases e : tradeOf n told with
  | some t =>
    rw [weighRes_trade e] at he
    exact evd_ixT (j := 0) (evd_x he) evd_int rfl rfl
  | none =>
    obtain ⟨W, b, ew⟩ := weights_found h1 h5 e
    rw [weighRes_weights e ew] at he
    exact evd_trip0 he
/-- x = f(..): a tuple with a new list, still from then on -/
theorem ws_asgTrip {i : Nat} {s : Str} {ws : List Int} {b : Int} (he : EvX G E0 te ρ (.trip s ws b)) (hr : k.nx (ρ.set i (.im (.tup [.str s, .lst (ws.map .int), .int b])))) : WS G W (tAsg te (gName i)) k ρ := fun F0 H0 F H σ D R K => by
  refine he F0 H0 F H σ R _ fun t a F1 H1 g1 t0 a0 tf af ne ht ha => ?_
  have gA : Grow F H (upd (upd F1 a (.lst (ws.map V.int))) t (.tup [.str s, .ref a, .int b])) H1 := by
    refine ⟨g1.ef.trans ((same_upd af).trans (same_upd (by rw [upd_ne ne]; exact tf))), g1.eh, fun x o q => ?_, fun x hx hx2 => ?_⟩
    · by_cases e1 : x = t
      · subst e1
        rw [upd_same] at q
        cases q
        exact ht
      · rw [upd_ne e1] at q
        by_cases e2 : x = a
        · subst e2
          rw [upd_same] at q
          cases q
          exact ha
        · rw [upd_ne e2] at q
          exact g1.sub _ _ q
    · have e1 : x ≠ t := fun e => by subst e; exact hx2 t0
      have e2 : x ≠ a := fun e => by subst e; exact hx2 a0
      rw [upd_ne e1, upd_ne e2]
      exact g1.new x hx hx2
  have RA := (R.grow gA).setIm (i := i) (.tup upd_same (.cons (.str s) (.cons (.lst (by rw [upd_ne (Ne.symm ne)]; exact upd_same) (Reps.ofInts ws)) (.cons (.int b) .nil))))
  exact K.nx _ hr _ _ _ gA.ef RA
/-- x = f(..): a tuple with a new list; two tests that let through; one that holds, behind which the list is cleared -/
theorem ws_tripClear {i : Nat} {s : Str} {ws : List Int} {b : Int} {t1 t2 t3 : TT} {r1 r2 : TS} {rest : TS} (he : EvX G E0 te ρ (.trip s ws b)) (hi : i < ρ.length)
    (h1 : EvT G t1 (ρ.set i (.im (.tup [.str s, .lst (ws.map .int), .int b]))) false) (h2 : EvT G t2 (ρ.set i (.im (.tup [.str s, .lst (ws.map .int), .int b]))) false) (h3 : EvT G t3 (ρ.set i (.im (.tup [.str s, .lst (ws.map .int), .int b]))) true)
    (hr : WS G W rest k (ρ.set i (.im (.tup [.str s, .lst [], .int b])))) :
    WS G W (tSeq (tAsg te (gName i)) (tSeq (tIfS t1 r1 tNext) (tSeq (tIfS t2 r2 tNext) (tSeq (tIfS t3 (tDrop (tBM0 G.K "list" rClear (tOp (rIxT G.K) (tVar i) (tC (.int 1))))) tNext) rest)))) k ρ := fun F0 H0 F H σ D R K => by
  refine he F0 H0 F H σ R _ fun t a F1 H1 g1 t0 a0 tf af ne ht ha => ?_
  have tn : H1 t ≠ none := by rw [ht]; exact fun z => nomatch z
  have an : H1 a ≠ none := by rw [ha]; exact fun z => nomatch z
  -- all is still
  have gA : Grow F H (upd (upd F1 a (.lst (ws.map V.int))) t (.tup [.str s, .ref a, .int b])) H1 := by
    refine ⟨g1.ef.trans ((same_upd af).trans (same_upd (by rw [upd_ne ne]; exact tf))), g1.eh, fun x o q => ?_, fun x hx hx2 => ?_⟩
    · by_cases e1 : x = t
      · subst e1
        rw [upd_same] at q
        cases q
        exact ht
      · rw [upd_ne e1] at q
        by_cases e2 : x = a
        · subst e2
          rw [upd_same] at q
          cases q
          exact ha
        · rw [upd_ne e2] at q
          exact g1.sub _ _ q
    · have e1 : x ≠ t := fun e => by subst e; exact hx2 t0
      have e2 : x ≠ a := fun e => by subst e; exact hx2 a0
      rw [upd_ne e1, upd_ne e2]
      exact g1.new x hx hx2
  have repA : ∀ vs ds, Reps G (upd (upd F1 a (.lst vs)) t (.tup [.str s, .ref a, .int b])) vs ds → Rep G (upd (upd F1 a (.lst vs)) t (.tup [.str s, .ref a, .int b])) (.ref t) (.tup [.str s, .lst ds, .int b]) := fun vs ds r =>
    .tup upd_same (.cons (.str s) (.cons (.lst (by rw [upd_ne (Ne.symm ne)]; exact upd_same) r) (.cons (.int b) .nil)))
  have RA := (R.grow gA).setIm (i := i) (repA _ _ (Reps.ofInts ws))
  refine h1 F0 H0 _ H1 _ RA _ fun F2 H2 g2 => ?_
  show (if false = true then _ else _)
  rw [if_neg (by decide)]
  refine h2 F0 H0 F2 H2 _ (RA.grow g2) _ fun F3 H3 g3 => ?_
  show (if false = true then _ else _)
  rw [if_neg (by decide)]
  refine h3 F0 H0 F3 H3 _ ((RA.grow g2).grow g3) _ fun F4 H4 g4 => ?_
  show (if true = true then _ else _)
  rw [if_pos rfl]
  have gAll := (g2.trans g3).trans g4
  have ht4 := gAll.eh _ _ ht
  have ha4 := gAll.eh _ _ ha
  have hsi : (σ.set i (some (.ref t)))[i]? = some (some (.ref t)) := by
    rw [List.getElem?_set_self]
    rw [R.len]
    exact hi
  refine ⟨_, hsi, t, _, 1, .ref a, rfl, rfl, SqT.of ht4, rfl, Or.inl ⟨rfl, _, SqL.of ha4⟩, a, _, rfl, rfl, ha4, ?_⟩
  -- behind it
  have gC : Grow F H (upd (upd F1 a (.lst [])) t (.tup [.str s, .ref a, .int b])) (upd H4 a (.lst [])) := by
    refine ⟨g1.ef.trans ((same_upd af).trans (same_upd (by rw [upd_ne ne]; exact tf))), fun x o q => ?_, fun x o q => ?_, fun x hx hx2 => ?_⟩
    · have e2 : x ≠ a := fun e => by subst e; rw [a0] at q; cases q
      rw [upd_ne e2]
      exact gAll.eh _ _ (g1.eh _ _ q)
    · by_cases e1 : x = t
      · subst e1
        rw [upd_same] at q
        cases q
        rw [upd_ne ne]
        exact ht4
      · rw [upd_ne e1] at q
        by_cases e2 : x = a
        · subst e2
          rw [upd_same] at q ⊢
          exact q
        · rw [upd_ne e2] at q ⊢
          exact gAll.eh _ _ (g1.sub _ _ q)
    · have e1 : x ≠ t := fun e => by subst e; exact hx2 t0
      have e2 : x ≠ a := fun e => by subst e; exact hx2 a0
      rw [upd_ne e1, upd_ne e2]
      exact g1.new x hx hx2
  have RC := (R.grow gC).setIm (i := i) (repA [] [] .nil)
  exact hr F0 H0 _ _ _ D RC (K.later gC.ef)
/-- .. at the end of a block -/
theorem ws_tripClearEnd {i : Nat} {s : Str} {ws : List Int} {b : Int} {t1 t3 : TT} {r1 : TS} (he : EvX G E0 te ρ (.trip s ws b)) (hi : i < ρ.length)
    (h1 : EvT G t1 (ρ.set i (.im (.tup [.str s, .lst (ws.map .int), .int b]))) false) (h3 : EvT G t3 (ρ.set i (.im (.tup [.str s, .lst (ws.map .int), .int b]))) true)
    (hr : k.nx (ρ.set i (.im (.tup [.str s, .lst [], .int b])))) :
    WS G W (tSeq (tAsg te (gName i)) (tSeq (tIfS t1 r1 tNext) (tIfS t3 (tDrop (tBM0 G.K "list" rClear (tOp (rIxT G.K) (tVar i) (tC (.int 1))))) tNext))) k ρ := fun F0 H0 F H σ D R K => by
  have h2 : EvT G (tNot tYes) (ρ.set i (.im (.tup [.str s, .lst (ws.map .int), .int b]))) false := evt_is (evt_not evt_yes) rfl
  have := ws_tripClear (W := W) (k := k) (r1 := r1) (r2 := tNext) (rest := tNext) he hi h1 h2 h3 (ws_next hr) F0 H0 F H σ D R K
  exact this
section
open PySem PySem.Spec PyProof.Rows L2
variable {X : Cx} {K : PySem.W.Frag} {o e : Expr} {es : List Expr} {to : TE} {t : TA} {name : Str} {apos cpos : Pos} {T id : String} {r : V → List V → Hp → VK → Prop}
theorem pe_bmK (pa : PlainAttrs T) (slot : Slot T name id) (hty : typeOf (.builtin id) = pure (.type "method_descriptor")) (hm : MtR X id r) (ho : PE X o to) (ha : PA X (e :: es) t)
    (hbase : attributeBase o name X.env (eval o X.env) = eval o X.env := by rfl)
    (hfew : ((backTo cpos (starEach (e :: es) X.env)).all (fun x => !x.1) && (backToKw cpos (keywordEach [] X.env)).all (fun x => x.1.isSome)
      && decide ((e :: es).length + ([] : List Keyword).length + (if ([] : List Keyword).isEmpty then 0 else 1) < 30)) = true := by rfl)
    (hline : (apos.endLine == cpos.line) = true := by rfl) (hs : starEach (e :: es) X.env = (false, eval e X.env) :: starEach es X.env := by rfl) (hplain : (backTo cpos (starEach es X.env)).any (·.1) = false := by rfl) (hK : X.K = K := by rfl) :
    PE X (.Call (.Attribute o name apos) (e :: es) [] cpos) (tBM K T r to t) := by
  subst hK
  exact pe_bm pa slot hty hm ho ha hbase hfew hline hs hplain
end
/-! ### several clauses -/
def tTryMany (K : PySem.W.Frag) (tb : WX → TS) (l : List (Value × (Addr → Value → Option Addr → TS))) (Wout : WX) : TS := fun D σ H => tb (wMany K Wout D l) D σ H
theorem ps_tryMany {X : Cx} {K : PySem.W.Frag} {body : List Stmt} {h₀ : ExceptHandler} {hds : List ExceptHandler} {l : List (Value × (Addr → Value → Option Addr → TS))} {pos : Pos} {tb : WX → TS} {Wout : WX} (hs : X.stack = X.env :: X.outer) (hf : X.env.frame = some X.env.locals) (tk : Takes X Wout)
    (hb : ∀ (W : WX) (pn : List (Addr × Obj)) (xe : Value → Shared → Prop), Takes (X.tr pn xe) W → PassesOwn (model X.prog X.w) X.A X.env xe → PSs (X.tr pn xe) body (tb W))
    (hh : HdsOk X (h₀ :: hds) l) (hK : X.K = K := by rfl) : PS X (.Try body (h₀ :: hds) [] [] pos) (tTryMany K tb l Wout) := by
  subst hK
  exact ps_try_many hs hf tk hb hh
theorem ps_tryTwo {X : Cx} {K : PySem.W.Frag} {body : List Stmt} {x1 x2 : Str} {c1 c2 : Value} {np1 np2 pos1 pos2 : Pos} {b1 b2 : Stmt} {su1 su2 : List Stmt} {ts1 ts2 : Addr → Value → Option Addr → TS} {pos : Pos} {tb : WX → TS} {Wout : WX} (hs : X.stack = X.env :: X.outer) (hf : X.env.frame = some X.env.locals) (tk : Takes X Wout)
    (hb : ∀ (W : WX) (pn : List (Addr × Obj)) (xe : Value → Shared → Prop), Takes (X.tr pn xe) W → PassesOwn (model X.prog X.w) X.A X.env xe → PSs (X.tr pn xe) body (tb W))
    (hc1 : Names X x1 c1)
    (hsu1 : ∀ (a : Addr) (oe : Obj) (cls : Value) (d : Option Addr) (pn : List (Addr × Obj)), Zc cls d oe → (∃ vs, oe.data = .fields vs) → PSs (X.suite a ((a, oe) :: pn)) (b1 :: su1) (ts1 a cls d))
    (hc2 : Names X x2 c2)
    (hsu2 : ∀ (a : Addr) (oe : Obj) (cls : Value) (d : Option Addr) (pn : List (Addr × Obj)), Zc cls d oe → (∃ vs, oe.data = .fields vs) → PSs (X.suite a ((a, oe) :: pn)) (b2 :: su2) (ts2 a cls d))
    (hK : X.K = K := by rfl) :
    PS X (.Try body [.ExceptHandler (some (.Name x1 np1)) none (b1 :: su1) pos1, .ExceptHandler (some (.Name x2 np2)) none (b2 :: su2) pos2] [] [] pos) (tTryMany K tb [(c1, ts1), (c2, ts2)] Wout) :=
  ps_tryMany hs hf tk hb (.cons hc1 hsu1 (.cons hc2 hsu2 .nil)) hK
theorem ws_tryMany {Wout : WX} {tb : WX → TS} {V1 V2 : Addr} {ts1 ts2 : Addr → Value → Option Addr → TS} {e : Err} (h : TryB G tb ρ (.err e))
    (hm : (PySem.W.exmOne G.K (.ref (G.ex e)) (.ref V1) = some true ∧ ∀ a, WS G (fun _ _ _ _ => True) (ts1 a (.ref (G.ex e)) none) { k with er := fun _ => False } ρ) ∨
      (PySem.W.exmOne G.K (.ref (G.ex e)) (.ref V1) = some false ∧ PySem.W.exmOne G.K (.ref (G.ex e)) (.ref V2) = some true ∧ ∀ a, WS G (fun _ _ _ _ => True) (ts2 a (.ref (G.ex e)) none) { k with er := fun _ => False } ρ)) :
    WS G W (tTryMany G.K tb [(.ref V1, ts1), (.ref V2, ts2)] Wout) k ρ := fun F0 H0 F H σ D E K => by
  refine h F0 H0 F H σ E _ D fun F' H' g' => ?_
  have go : ∀ ts : TS, WS G (fun _ _ _ _ => True) ts { k with er := fun _ => False } ρ → ts D σ H' := fun ts hw =>
    hw F0 H0 F' H' σ D (E.grow g') ⟨fun ρ' hn F2 H2 σ2 s2 R2 => K.nx ρ' hn F2 H2 σ2 (g'.ef.trans s2) R2, fun ρ' hn F2 H2 σ2 s2 R2 => K.bk ρ' hn F2 H2 σ2 (g'.ef.trans s2) R2, fun ρ' hn F2 H2 σ2 s2 R2 => K.ct ρ' hn F2 H2 σ2 (g'.ef.trans s2) R2, K.rt, fun _ z => z.elim⟩
  rcases hm with ⟨m1, hw⟩ | ⟨m1, m2, hw⟩
  · exact ⟨true, m1, fun _ a _ => go _ (hw a), fun z => nomatch z⟩
  · exact ⟨false, m1, (fun z => nomatch z), fun _ => ⟨true, m2, fun _ a _ => go _ (hw a), fun z => nomatch z⟩⟩
end
end Vw

namespace Vw
open PySem L2 PySem.Spec PyProof.Rows
local macro_rules | `(tactic| walk_at "weak") => `(tactic| (refine Weak.of ?_; repeat (first | exact trivial | refine ⟨.inr rfl, ?_⟩ | refine ⟨.inl rfl, ?_⟩ | refine ⟨.inr (by simp [List.map_append]), ?_⟩)))
def top (i : Nat) : Stmt := PySem.Challenge.pw_votesway_k13_whole_made_councils_asked.main.body.getD i (.Pass ⟨0, 0, 0, 0⟩)
section
variable {G : Cfg} {P : Program} {w : World} {mg : Str → Option Value} {base : Heap}

/-! #### _law_many -/
abbrev s__law_many : Stmt := top 51
abbrev nm__law_many : List Str := ["cell"]
theorem sc__law_many : FnScope nm__law_many ["cell"] (defScope s__law_many) := ⟨rfl, rfl, rfl, by decide +kernel, rfl, by decide +kernel, by decide +kernel⟩
def R__law_many : List D → Res → Prop := fun ds r => ∃ x : Int, ds = [.int x] ∧ r = .val (.int (manyOf x))
theorem ok__law_many (T : Txt G mg) {f : Addr} {fd : FuncData} (F : Fun G.K "_law_many" "_law_many" s__law_many f fd)  : FnOk P w G.K mg base CX0 1 f fd ["cell"] (mkSp G R__law_many) := by
  refine okD F sc__law_many (fun ds r hR => ?_) (by decide) (fun cdv A outer s H E hr => ⟨_, (pss_one (ps_ret (pe_ix (k_ixL G.K) (pe_lst (pa_cons pe_int (pa_cons pe_int (pa_cons pe_int (pa_cons pe_int (pa_cons pe_int (pa_cons pe_int (pa_cons pe_int (pa_cons pe_int pa_nil))))))))) (pe_op op_mod (pv 0) pe_int) (fun _ _ => rfl)))), fun ds r hR => ?_⟩)
  · obtain ⟨x, rfl, rfl⟩ := hR
    rfl
  · obtain ⟨x, rfl, rfl⟩ := hR
    show WS G _ _ _ [.im (.int x)]
    have h1 : 0 ≤ x % 8 := Int.emod_nonneg x (by decide)
    have h2 : x % 8 < 8 := Int.emod_lt_of_pos x (by decide)
    refine ws_ret (evd_ixL (ds := [5, 1, 2, 3, 4, 5, 4, 5].map D.int) (j := (x % 8).toNat) (evs_new (evn_lst (evad_cons evd_int (evad_cons evd_int (evad_cons evd_int (evad_cons evd_int (evad_cons evd_int (evad_cons evd_int (evad_cons evd_int (evad_cons evd_int evad_nil)))))))))) (evd_mod (evd_var rfl) evd_int (by decide)) (by omega) ?_) rfl
    unfold manyOf
    generalize x % 8 = y at h1 h2
    have h : y.toNat < 8 := by omega
    generalize y.toNat = k at h
    rw [List.getElem?_map]
    refine congrArg (Option.map D.int) (a₂ := some _) ?_
    revert k
    decide

/-! #### _law_cell_at -/
abbrev s__law_cell_at : Stmt := top 48
abbrev nm__law_cell_at : List Str := ["script", "k"]
theorem sc__law_cell_at : FnScope nm__law_cell_at ["script", "k"] (defScope s__law_cell_at) := ⟨rfl, rfl, rfl, by decide +kernel, rfl, by decide +kernel, by decide +kernel⟩
def R__law_cell_at : List D → Res → Prop := fun ds r => ∃ (ns : List Int) (k : Nat), ds = [.scr ns, .int k] ∧ r = .val (.int (cell ns k))
theorem ok__law_cell_at (T : Txt G mg) {f : Addr} {fd : FuncData} (F : Fun G.K "_law_cell_at" "_law_cell_at" s__law_cell_at f fd)  : FnOk P w G.K mg base CX0 1 f fd ["script", "k"] (mkSp G R__law_cell_at) := by
  refine okD F sc__law_cell_at (fun ds r hR => ?_) (by decide) (fun cdv A outer s H E hr => ⟨_, (pss_cons (ps_if (pt_cmpR op_lt (pv 1) (pe_callB (k_len G.K) (by rfl) T.len PySem.boot_len (pa_cons (pv 0) pa_nil)) (nomark _)) (pss_one (ps_ret (pe_ix (k_ixL G.K) (pv 0) (pv 1) (fun _ _ => rfl)))) pss_nil) (pss_one (ps_ret pe_int))), fun ds r hR => ?_⟩)
  · obtain ⟨ns, k, rfl, rfl⟩ := hR
    rfl
  · obtain ⟨ns, k, rfl, rfl⟩ := hR
    show WS G _ _ _ [.im (.scr ns), .im (.int k)]
    refine ws_seq (ws_when (evt_test (evd_lt (evd_var rfl) (evd_lenScr (evd_var rfl)))) (fun hb => ?_) (fun hb => ?_))
    · have h : k < ns.length := by simpa using hb
      refine ws_ret (evd_ixScr (n := cell ns k) (evd_var rfl) (evd_var rfl) rfl ?_) rfl
      unfold cell
      rw [List.getD_eq_getElem?_getD, List.getElem?_eq_getElem h]
      rfl
    · have h : ¬ k < ns.length := by simpa using hb
      have e : cell ns k = 0 := by
        unfold cell
        rw [List.getD_eq_getElem?_getD, List.getElem?_eq_none (by omega)]
        rfl
      rw [e]
      exact ws_ret evd_int rfl

/-! #### look_at -/
abbrev s_look_at : Stmt := top 11
abbrev nm_look_at : List Str := ["many", "crowd", "last", "member"]
theorem sc_look_at : FnScope nm_look_at ["many", "crowd"] (defScope s_look_at) := ⟨rfl, rfl, rfl, by decide +kernel, rfl, by decide +kernel, by decide +kernel⟩
theorem fold_look (n : Int) : ∀ (c : List Int) (last : Int), ∃ l, foldGo (fun (last : Int) m => if m ≤ last ∨ m ≥ n then Go.err .crowd else .go m) last c = if goodFrom n last c then .go l else .err .crowd
  | [], last => ⟨last, rfl⟩
  | m :: c, last => by
    by_cases h : m ≤ last ∨ m ≥ n
    · exact ⟨0, by simp only [foldGo, goodFrom, if_pos h, Bool.false_eq_true, if_false]⟩
    · obtain ⟨l, e⟩ := fold_look n c m
      exact ⟨l, by simp only [foldGo, goodFrom, if_neg h]; exact e⟩
def R_look_at : List D → Res → Prop := fun ds r => ∃ (n : Int) (c : List Int), ds = [.int n, eC c] ∧ r = if crowdOk n c then .val .non else .err .crowd
theorem ok_look_at (T : Txt G mg) {f : Addr} {fd : FuncData} (F : Fun G.K "look_at" "look_at" s_look_at f fd) (X_BadCrowd : ExT G mg "BadCrowd" (G.ex .crowd)) : FnOk P w G.K mg base (L2.CX P w) 1 f fd ["many", "crowd"] (mkSp G R_look_at) := by
  refine okX F sc_look_at (fun ds r hR => ?_) (by decide) (fun cdv A outer s H E hr => ⟨_, (pss_cons (ps_asg (pe_un un_neg pe_int) (pg_name (i := 2) sc_look_at.nd rfl (by first | exact Or.inl rfl | exact Or.inr rfl))) (pss_one (ps_for (passes_of rfl) rfl (k_pt G.K (pv 1)) (pg_name (i := 3) sc_look_at.nd rfl (by first | exact Or.inl rfl | exact Or.inr rfl)) (pss_cons (ps_if (PW.pt (pw_or (pt_cmpR op_le (pv 3) (pv 2) (nomark _)) (pw_or1 (pt_cmpR op_ge (pv 3) (pv 0) (nomark _))))) (pss_one (ps_raise rfl (takes_of rfl rfl rfl rfl) (pmk_own PySem.F.excBase_ValueError X_BadCrowd.x X_BadCrowd.g X_BadCrowd.k (raises_own X_BadCrowd.b X_BadCrowd.t) rfl))) pss_nil) (pss_one (ps_asg (pv 3) (pg_name (i := 2) sc_look_at.nd rfl (by first | exact Or.inl rfl | exact Or.inr rfl)))))))), fun ds r hR => ?_⟩)
  · obtain ⟨n, c, rfl, rfl⟩ := hR
    rfl
  · obtain ⟨n, c, rfl, rfl⟩ := hR
    show WS G _ _ _ [.im (.int n), .im (eC c), .no, .no]
    refine ws_seq (ws_asgD (evd_neg evd_int) ?_)
    refine ws_forT c D.int (fun last : Int => [.im (.int n), .im (eC c), .im (.int last), .no]) (fun last m => if m ≤ last ∨ m ≥ n then .err .crowd else .go m) (-1) (evd_var rfl) (by walk_at "weak") (fun i last m hm hf => ?_) ?_
    · refine ws_seq (ws_when (evt_or (evt_test (evd_le (evd_var rfl) (evd_var rfl))) (fun _ => evt_test (evd_ge (evd_var rfl) (evd_var rfl)))) (fun hb => ws_raise (e := .crowd) ?_) (fun hb => ?_))
      · have h : m ≤ last ∨ m ≥ n := by simpa using hb
        show (if m ≤ last ∨ m ≥ n then _ else _) = _
        rw [if_pos h]
      · have h : ¬ (m ≤ last ∨ m ≥ n) := by
          simp only [Bool.or_eq_false_iff, decide_eq_false_iff_not] at hb
          omega
        exact ws_asgD (evd_var rfl) ⟨m, by show (if m ≤ last ∨ m ≥ n then _ else _) = _; rw [if_neg h], by walk_at "weak"⟩
    · obtain ⟨l, e⟩ := fold_look n c (-1)
      rw [e]
      unfold crowdOk
      cases h : goodFrom n (-1) c with
      | true => exact rfl
      | false => exact rfl

/-! #### Council.__init__ -/
abbrev s_Council___init__ : Stmt := inClass (top 13) 0
abbrev nm_Council___init__ : List Str := ["self", "many", "crowds", "crowd"]
theorem sc_Council___init__ : FnScope nm_Council___init__ ["self", "many", "crowds"] (defScope s_Council___init__) := ⟨rfl, rfl, rfl, by decide +kernel, rfl, by decide +kernel, by decide +kernel⟩
theorem put_two (n : Int) (l : Addr) : putF "told" (.ref l) (putF "size" (.int n) []) = [(("size" : Str), V.int n), (("told" : Str), V.ref l)] := by
  have e : ¬ (("size" : Str) = "told") := by decide +kernel
  show (if ("size" : Str) = "told" then _ else (("size" : Str), V.int n) :: putF "told" (.ref l) []) = _
  rw [if_neg e]
  all_goals rfl
theorem ok_Council___init__ (T : Txt G mg) {f : Addr} {fd : FuncData} (F : Fun G.K "__init__" "Council.__init__" s_Council___init__ f fd) (H_look_at : Fn G P w mg base "look_at" 1 ["many", "crowd"] R_look_at) (X_BadSize : ExT G mg "BadSize" (G.ex .size)) (c_MOST : ∃ v, mg "MOST" = some v ∧ RelV (.int 5) v) : FnOk P w G.K mg base (L2.CX P w) 2 f fd ["self", "many", "crowds"] (spInit G) := by
  obtain ⟨v_MOST, g_MOST, r_MOST⟩ := c_MOST
  refine F.okX sc_Council___init__ (fun vs H Q E h => ?_) (fun cdv A outer s H vs Q E hr h => ?_)
  · obtain ⟨F0, x, dx, n, a, cvs, cs, rfl, _⟩ := h
    rfl
  · obtain ⟨F0, x, dx, n, a, cvs, cs, rfl, sF, fx, fdx, hx, ha, rc, hz, k⟩ := h
    refine ⟨_, (pss_cons (ps_if (PW.pt (pw_or (pt_cmpR op_lt (pv 1) pe_int (nomark _)) (pw_or1 (pt_cmpR op_gt (pv 1) (pe_glob rfl g_MOST r_MOST) (nomark _))))) (pss_one (ps_raise rfl (takes_of rfl rfl rfl rfl) (pmk_own PySem.F.excBase_ValueError X_BadSize.x X_BadSize.g X_BadSize.k (raises_own X_BadSize.b X_BadSize.t) rfl))) pss_nil) (pss_cons (ps_for (passes_of rfl) rfl (k_pl G.K (pv 2)) (pg_name (i := 3) sc_Council___init__.nd rfl (by first | exact Or.inl rfl | exact Or.inr rfl)) (pss_one (ps_expr (pe_callX H_look_at (hr.mono (by decide)) rfl (takes_of rfl rfl rfl rfl) (pa_cons (pv 1) (pa_cons (pv 3) pa_nil)))))) (pss_cons (ps_fld (pv 0) (pv 1) rfl) (pss_one (ps_fld (pv 0) (pe_lc (own := [("crowd", 3)]) (g := gName 3) (tt := tYes) rfl sc_Council___init__.nd (k_pl G.K (pv 2)) (blkOk_by (N := nm_Council___init__) (sc := defScope s_Council___init__) (by decide +kernel)) (fun _ _ _ _ _ => pg_name (i := 3) sc_Council___init__.nd rfl (by first | exact Or.inl rfl | exact Or.inr rfl)) (fun _ _ _ _ _ => pts_nil) (fun _ _ _ _ _ => (pe_callTy (k_tuple G.K) (by rfl) T.tuple (by decide +kernel) (pa_cons (pv 3) pa_nil)))) rfl))))), ?_⟩
    have ra : RepAs G F0 H [.ref x, .int n, .ref a] [.ptr x, .int n, .lst (cs.map eC)] := .cons (.inl (.ptr x)) (.cons (.inl (.int n)) (.cons (.inr ⟨a, cvs, _, rfl, rfl, ha, rc⟩) .nil))
    have R0 : REnv G F0 H F0 H (start nm_Council___init__ [.ref x, .int n, .ref a]) [.im (.ptr x), .im (.int n), .ar (cs.map eC), .no] := renv_start (N := nm_Council___init__) sF ra (by show 3 ≤ 4; decide)
    have wIf : WS G (wd E) (tIfS (tOr (tTest (tOp (rI0 fun i j => .bl (decide (i < j))) (tVar 1) (tC (.int 1)))) (tTest (tOp (rI0 fun i j => .bl (decide (j < i))) (tVar 1) (tC (.int 5))))) (fun _ σ H => wd E (.ref (G.ex .size)) none σ H) tNext) { nx := fun ρ' => ρ' = [.im (.ptr x), .im (.int n), .ar (cs.map eC), .no] ∧ ¬ (n < 1 ∨ n > 5), rt := fun _ => False, er := fun e => e = .size ∧ (n < 1 ∨ n > 5) } [.im (.ptr x), .im (.int n), .ar (cs.map eC), .no] :=
      ws_when (evt_or (evt_test (evd_lt (evd_var rfl) evd_int)) (fun _ => evt_test (evd_gt (evd_var rfl) evd_int))) (fun hb => ws_raise (e := .size) ⟨rfl, by simpa using hb⟩) (fun hb => ⟨rfl, by simpa using hb⟩)
    refine wIf F0 H F0 H _ _ R0 ⟨?_, fun _ z => z.elim, fun _ z => z.elim, fun _ z => z.elim, ?_⟩
    · rintro ρ' ⟨rfl, hn⟩ F1 H1 σ1 _ R1
      have wFor : WS G (wd E) (tFor (iList G.K (tVar 2)) (gName 3) (tDrop (tCall (mkSp G R_look_at) [] E (tCons (tVar 1) (tCons (tVar 3) tNil))))) { nx := fun ρ' => ρ' = [.im (.ptr x), .im (.int n), .ar (cs.map eC), .no] ∧ cs.all (crowdOk n) = true, rt := fun _ => False, er := fun e => e = .crowd ∧ ¬ cs.all (crowdOk n) = true } [.im (.ptr x), .im (.int n), .ar (cs.map eC), .no] :=
        ws_forL (j := 3) (tb := tDrop (tCall (mkSp G R_look_at) [] E (tCons (tVar 1) (tCons (tVar 3) tNil)))) cs eC (fun _ : Unit => [.im (.ptr x), .im (.int n), .ar (cs.map eC), .no]) (fun _ c => if crowdOk n c then .go () else .err .crowd) () (evz_ar (i := 2) rfl) (Weak.refl _) (fun i s c hc hf => by
          refine ws_dropX (evx_call (ea2 (evd_var rfl) (evd_var rfl)) ⟨n, c, rfl, rfl⟩) ?_
          cases q : crowdOk n c with
          | true => exact ⟨(), rfl, by walk_at "weak"⟩
          | false => exact rfl) (by
          rw [fold_allG (g := .err .crowd) (fun _ z => nomatch z)]
          cases q : cs.all (crowdOk n) with
          | true => exact ⟨rfl, rfl⟩
          | false => exact ⟨rfl, by decide⟩)
      refine wFor F0 H F1 H1 _ _ R1 ⟨?_, fun _ z => z.elim, fun _ z => z.elim, fun _ z => z.elim, ?_⟩
      · rintro ρ' ⟨rfl, hall⟩ F2 H2 σ2 _ R2
        have ek : couRes n cs = .val (.cou n cs) := by
          unfold couRes
          rw [if_neg hn, if_pos hall]
        rw [ek] at k
        obtain ⟨v0, s0, r0⟩ := R2.sl 0 _ rfl
        obtain ⟨v1, s1, r1⟩ := R2.sl 1 _ rfl
        obtain ⟨a2, us, s2, h2, r2⟩ := R2.sl 2 _ rfl
        cases r0
        cases r1
        have hx2 : H2 x = some (.ins G.C dx []) := R2.g.eh _ _ hx
        have f2x : F2 x = none := R2.g.new x fx (by rw [hx]; exact fun z => nomatch z)
        have nax : a2 ≠ x := by
          intro e
          subst e
          rw [hx] at h2
          cases h2
        refine ⟨_, s1, _, s0, x, G.C, dx, [], rfl, hx2, T.cl, T.nS, by show 0 < 1000; decide, ?_⟩
        have R3 : REnv G F2 (upd H2 x (.ins G.C dx (putF "size" (.int n) []))) F2 (upd H2 x (.ins G.C dx (putF "size" (.int n) []))) σ2 [.im (.ptr x), .im (.int n), .ar (cs.map eC), .no] := by
          have sb : Same F2 (upd H2 x (.ins G.C dx (putF "size" (.int n) []))) := fun b o e => by
            rw [upd_ne (ne_of_none e f2x)]
            exact R2.g.sub b o e
          refine ⟨sb, .refl sb, R2.len, fun i t hi => ?_, fun i j ds es b h1 _ _ _ => ?_⟩
          · match i, hi with
            | 0, hi => cases hi; exact ⟨_, s0, .ptr x⟩
            | 1, hi => cases hi; exact ⟨_, s1, .int n⟩
            | 2, hi => cases hi; exact ⟨a2, us, s2, by rw [upd_ne nax]; exact R2.g.eh _ _ h2, r2⟩
            | 3, hi => cases hi; trivial
            | i + 4, hi => cases hi
          · match i, h1 with
            | 0, h1 => cases h1
            | 1, h1 => cases h1
            | 2, h1 => cases h1
            | 3, h1 => cases h1
            | i + 4, h1 => cases h1
        have lc := evn_lcL (G := G) (ρ := [.im (.ptr x), .im (.int n), .ar (cs.map eC), .no]) (tt := tYes) (vs := [3]) (j := 3) (tl := tVar 2) cs eC (fun _ => true) eC (evs_ar rfl) (by omega) (by simp) (fun _ _ => evt_yes) (fun c _ _ => evd_tupleT (te := tVar 3) (ds := c.map .int) (evd_var rfl))
        refine lc _ _ _ _ _ R3 (fun y H1 => tVar 0 σ2 H1 fun x' H2' => ∃ a C dx fs, x' = .ref a ∧ H2' a = some (.ins C dx fs) ∧ Cls G.K C ∧ NoAttr G.K C "told" ∧ fs.length < 1000 ∧ Q .non (upd H2' a (.ins C dx (putF "told" y fs)))) fun l ws F4 H4 g4 l0 fl hl rl => ?_
        rw [filter_yes] at rl
        have hx4 : H4 x = some (.ins G.C dx (putF "size" (.int n) [])) := g4.eh _ _ upd_same
        have nlx : l ≠ x := by
          intro e
          subst e
          rw [upd_same] at l0
          cases l0
        have l2 : H2 l = none := by
          rw [← l0, upd_ne nlx]
        have f4x : F4 x = none := g4.new x f2x (by rw [upd_same]; exact fun z => nomatch z)
        refine ⟨_, s0, x, G.C, dx, _, rfl, hx4, T.cl, T.nT, by show 1 < 1000; decide, ?_⟩
        refine k l F4 _ (R2.g.ef.trans g4.ef) (fun b hb hb' => g4.new b (R2.g.new b hb hb') ?_) (R2.g.eh.free l2) fl (fun b o e hb => ?_) (fun b o e => ?_) ?_ ⟨ws, by rw [upd_ne nlx]; exact hl, rl⟩
        · by_cases q : b = x
          · subst q
            rw [upd_same]
            exact fun z => nomatch z
          · rw [upd_ne q]
            exact some_ne R2.g.eh hb'
        · rw [upd_ne hb]
          exact g4.eh b o (by rw [upd_ne hb]; exact R2.g.eh b o e)
        · rw [upd_ne (ne_of_none e f4x)]
          exact g4.sub b o e
        · rw [upd_same, put_two]
      · rintro e ⟨rfl, hall⟩ F' H' σ' _ g'
        have ek : couRes n cs = .err .crowd := by
          unfold couRes
          rw [if_neg hn, if_neg hall]
        rw [ek] at k
        exact k H' g'.eh
    · rintro e ⟨rfl, hn⟩ F' H' σ' _ g'
      have ek : couRes n cs = .err .size := by
        unfold couRes
        rw [if_pos hn]
      rw [ek] at k
      exact k H' g'.eh

/-! #### _law_bits -/
abbrev s__law_bits : Stmt := top 49
abbrev nm__law_bits : List Str := ["number", "many", "crowd", "member"]
theorem sc__law_bits : FnScope nm__law_bits ["number", "many"] (defScope s__law_bits) := ⟨rfl, rfl, rfl, by decide +kernel, rfl, by decide +kernel, by decide +kernel⟩
def R__law_bits : List D → Res → Prop := fun ds r => ∃ (x : Int) (m : Nat), ds = [.int x, .int m] ∧ m ≤ 1000 ∧ r = .val (eC (bits x m))
theorem ok__law_bits (T : Txt G mg) {f : Addr} {fd : FuncData} (F : Fun G.K "_law_bits" "_law_bits" s__law_bits f fd)  : FnOk P w G.K mg base CX0 1 f fd ["number", "many"] (mkSp G R__law_bits) := by
  refine okD F sc__law_bits (fun ds r hR => ?_) (by decide) (fun cdv A outer s H E hr => ⟨_, (pss_cons (ps_asg (pe_lst pa_nil) (pg_name (i := 2) sc__law_bits.nd rfl (by first | exact Or.inl rfl | exact Or.inr rfl))) (pss_cons (ps_for PassesOwn.never rfl (pi_range1 rfl T.range (pa_cons (pv 1) pa_nil)) (pg_name (i := 3) sc__law_bits.nd rfl (by first | exact Or.inl rfl | exact Or.inr rfl)) (pss_cons (ps_if (pt_cmpR op_eq (pe_op op_mod (pv 0) pe_int) pe_int (nomark _)) (pss_one (ps_expr (pe_bm PySem.F.plainAttrs_list PySem.F.slot_list_append PySem.F.type_list_append mt_append (pv 2) (pa_cons (pv 3) pa_nil)))) pss_nil) (pss_one (ps_asg (pe_op op_fdiv (pv 0) pe_int) (pg_name (i := 0) sc__law_bits.nd rfl (by first | exact Or.inl rfl | exact Or.inr rfl)))))) (pss_one (ps_ret (pe_callTy (k_tuple G.K) (by rfl) T.tuple (by decide +kernel) (pa_cons (pv 2) pa_nil)))))), fun ds r hR => ?_⟩)
  · obtain ⟨x, m, rfl, hm, rfl⟩ := hR
    rfl
  · obtain ⟨x, m, rfl, hm, rfl⟩ := hR
    show WS G _ _ _ [.im (.int x), .im (.int m), .no, .no]
    refine ws_seq (ws_asgN (evn_lst evad_nil) ?_)
    refine ws_seq (ws_forR1 (n := (m : Int)) (fun s : Crowd × Int => [.im (.int s.2), .im (.int m), .own (s.1.map .int), .no]) (fun s k => .go (bitStep s k)) ([], x) (ea1 (evd_var rfl)) (by omega) (by walk_at "weak") (fun i s hi hf => ?_) ?_)
    · have hs := fold_go_take (f := bitStep) hf
      have hlen : s.1.length ≤ 1000 := by
        rw [hs]
        have h1 := bitStep_len ((List.range (m : Int).toNat).take i) ([], x)
        rw [List.length_take, List.length_range] at h1
        simp only [List.length_nil] at h1
        omega
      obtain ⟨c, y⟩ := s
      dsimp only at hlen
      refine ws_seq (ws_mono (k := { nx := fun ρ' => ρ' = [.im (.int y), .im (.int m), .own ((if y % 2 = 1 then c ++ [(i : Int)] else c).map .int), .im (.int (i : Int))], rt := fun _ => False }) (ws_when (evt_test (evd_eqI (evd_mod (evd_var rfl) evd_int (by decide)) evd_int)) (fun hb => ?_) (fun hb => ?_)) (fun ρ' e => ?_) (fun _ z => z.elim) (fun _ z => z.elim) (fun _ z => z.elim) (fun _ z => z.elim))
      · have h : y % 2 = 1 := by simpa using hb
        refine ws_append rfl (evd_var rfl) (by simp; omega) ?_
        rw [if_pos h, List.map_append]
        rfl
      · have h : ¬ y % 2 = 1 := by simpa using hb
        show _ = _
        rw [if_neg h]
        rfl
      · subst e
        exact ws_asgD (evd_fdiv (evd_var rfl) evd_int ⟨by decide, by decide⟩) ⟨bitStep (c, y) i, rfl, by walk_at "weak"⟩
    · rw [fold_go]
      have e : ((m : Int)).toNat = m := by simp
      rw [e]
      exact ws_ret (evd_tupleL (evs_own rfl) (by have := bits_len x m; unfold bits at this; simp only [List.length_map]; omega)) rfl

/-! #### _law_some -/
abbrev s__law_some : Stmt := top 52
abbrev nm__law_some : List Str := ["script", "start", "many", "count", "k"]
theorem sc__law_some : FnScope nm__law_some ["script", "start", "many", "count"] (defScope s__law_some) := ⟨rfl, rfl, rfl, by decide +kernel, rfl, by decide +kernel, by decide +kernel⟩
def R__law_some : List D → Res → Prop := fun ds r => ∃ (ns : List Int) (start m count : Nat), ds = [.scr ns, .int start, .int m, .int count] ∧ m ≤ 5 ∧ count ≤ 100 ∧ r = .new ((some' ns start m count).map eC)
theorem ok__law_some (T : Txt G mg) {f : Addr} {fd : FuncData} (F : Fun G.K "_law_some" "_law_some" s__law_some f fd) (H__law_bits : Fn G P w mg base "_law_bits" 1 ["number", "many"] R__law_bits) (H__law_cell_at : Fn G P w mg base "_law_cell_at" 1 ["script", "k"] R__law_cell_at) : FnOk P w G.K mg base CX0 2 f fd ["script", "start", "many", "count"] (mkSp G R__law_some) := by
  refine okD F sc__law_some (fun ds r hR => ?_) (by decide) (fun cdv A outer s H E hr => ⟨_, (pss_one (ps_ret (pe_lc (own := [("k", 4)]) (g := gName 4) (tt := tYes) rfl sc__law_some.nd (pi_range1 rfl T.range (pa_cons (pv 3) pa_nil)) (blkOk_by (N := nm__law_some) (sc := defScope s__law_some) (by decide +kernel)) (fun _ _ _ _ _ => pg_name (i := 4) sc__law_some.nd rfl (by first | exact Or.inl rfl | exact Or.inr rfl)) (fun _ _ _ _ _ => pts_nil) (fun _ _ _ _ _ => (pe_callF H__law_bits (hr.mono (by decide)) rfl (pa_cons (pe_op op_mod (pe_callF H__law_cell_at (hr.mono (by decide)) rfl (pa_cons (pv 0) (pa_cons (pe_op op_add (pv 1) (pv 4)) pa_nil))) pe_int) (pa_cons (pv 2) pa_nil))))))), fun ds r hR => ?_⟩)
  · obtain ⟨ns, start, m, count, rfl, hm, hc, rfl⟩ := hR
    rfl
  · obtain ⟨ns, start, m, count, rfl, hm, hc, rfl⟩ := hR
    show WS G _ _ _ [.im (.scr ns), .im (.int start), .im (.int m), .im (.int count), .no]
    refine ws_retN (evn_is (evn_lcR1 (n := (count : Int)) (fun _ => true) (fun k => eC (bits (cell ns (start + k) % 32) m)) (ea1 (evd_var rfl)) (by omega) (by simp) (fun _ _ => evt_yes) (fun k _ _ =>
      evd_call (ea2 (evd_mod (evd_call (ea2 (evd_var rfl) (evd_add (evd_var rfl) (evd_var rfl))) ⟨ns, start + k, by simp, rfl⟩) evd_int (by decide)) (evd_var rfl)) ⟨_, m, rfl, by omega, rfl⟩)) ?_) rfl
    rw [filter_yes]
    simp [some', List.map_map, Function.comp_def]

/-! #### _law_crowds -/
abbrev s__law_crowds : Stmt := top 50
abbrev nm__law_crowds : List Str := ["many", "crowds", "number", "row", "crowd"]
theorem sc__law_crowds : FnScope nm__law_crowds ["many"] (defScope s__law_crowds) := ⟨rfl, rfl, rfl, by decide +kernel, rfl, by decide +kernel, by decide +kernel⟩
theorem powOf_at' : ∀ n < 6, ([1, 2, 4, 8, 16, 32] : List Int)[n]? = some (powOf n : Int) := by decide
theorem powOf_at (n : Nat) (h : n < 6) : ([1, 2, 4, 8, 16, 32].map D.int)[n]? = some (.int (powOf n)) := by
  rw [List.getElem?_map]
  exact congrArg (Option.map D.int) (powOf_at' n h)
theorem powOf_le : ∀ n < 6, powOf n ≤ 32 := by decide
def R__law_crowds : List D → Res → Prop := fun ds r => ∃ n : Nat, ds = [.int n] ∧ n ≤ 5 ∧ r = .new ((crowdsOf n).map eC)
theorem ok__law_crowds (T : Txt G mg) {f : Addr} {fd : FuncData} (F : Fun G.K "_law_crowds" "_law_crowds" s__law_crowds f fd) (H__law_bits : Fn G P w mg base "_law_bits" 1 ["number", "many"] R__law_bits) : FnOk P w G.K mg base CX0 2 f fd ["many"] (mkSp G R__law_crowds) := by
  refine okD F sc__law_crowds (fun ds r hR => ?_) (by decide) (fun cdv A outer s H E hr => ⟨_, (pss_cons (ps_setLc (i := 1) (own := [("number", 2)]) (g := gName 2) (tt := tYes) rfl sc__law_crowds.nd rfl rfl (sw_true rfl rfl rfl (by decide +kernel)) (pi_range1 rfl T.range (pa_cons (pe_ix (k_ixL G.K) (pe_lst (pa_cons pe_int (pa_cons pe_int (pa_cons pe_int (pa_cons pe_int (pa_cons pe_int (pa_cons pe_int pa_nil))))))) (pv 0) (fun _ _ => rfl)) pa_nil)) (blkOk_by (N := nm__law_crowds) (sc := defScope s__law_crowds) (by decide +kernel)) (fun _ _ _ _ _ => pg_name (i := 2) sc__law_crowds.nd rfl (by first | exact Or.inl rfl | exact Or.inr rfl)) (fun _ _ _ _ _ => pts_nil) (fun _ _ _ _ _ => (pe_callF H__law_bits (hr.mono (by decide)) rfl (pa_cons (pv 2) (pa_cons (pv 0) pa_nil))))) (pss_one (ps_ret (pe_lc (own := [("row", 3)]) (g := gName 3) (tt := tYes) rfl sc__law_crowds.nd (k_pl G.K (pe_callB (k_sortedW G.K (hu100 hr)) (by rfl) T.sorted (by decide +kernel) (pa_cons (pe_lc (own := [("crowd", 4)]) (g := gName 4) (tt := tYes) rfl sc__law_crowds.nd (k_pl G.K (pv 1)) (blkOk_by (N := nm__law_crowds) (sc := defScope s__law_crowds) (by decide +kernel)) (fun _ _ _ _ _ => pg_name (i := 4) sc__law_crowds.nd rfl (by first | exact Or.inl rfl | exact Or.inr rfl)) (fun _ _ _ _ _ => pts_nil) (fun _ _ _ _ _ => (pe_tup (pa_cons (pe_callB (k_len G.K) (by rfl) T.len PySem.boot_len (pa_cons (pv 4) pa_nil)) (pa_cons (pv 4) pa_nil))))) pa_nil))) (blkOk_by (N := nm__law_crowds) (sc := defScope s__law_crowds) (by decide +kernel)) (fun _ _ _ _ _ => pg_name (i := 3) sc__law_crowds.nd rfl (by first | exact Or.inl rfl | exact Or.inr rfl)) (fun _ _ _ _ _ => pts_nil) (fun _ _ _ _ _ => (pe_ix (k_ixT G.K) (pv 3) pe_int (fun _ _ => rfl))))))), fun ds r hR => ?_⟩)
  · obtain ⟨n, rfl, hn, rfl⟩ := hR
    rfl
  · obtain ⟨n, rfl, hn, rfl⟩ := hR
    show WS G _ _ _ [.im (.int n), .no, .no, .no, .no]
    have hp := powOf_le n (by omega)
    refine ws_seq (ws_asgN (i := 1) (evn_lcR1 (n := (powOf n : Int)) (fun _ => true) (fun k => eC (bits k n)) (ea1 (evd_ixL (evs_new (evn_lst (evad_cons evd_int (evad_cons evd_int (evad_cons evd_int (evad_cons evd_int (evad_cons evd_int (evad_cons evd_int evad_nil)))))))) (evd_var rfl) rfl (powOf_at n (by omega)))) (by omega) (by simp) (fun x _ => evt_yes) (fun x _ _ => evd_call (ea2 (evd_var rfl) (evd_var rfl)) ⟨_, n, rfl, by omega, rfl⟩)) ?_)
    rw [filter_yes]
    have e1 : (List.range (powOf n : Int).toNat).map (fun k : Nat => eC (bits (k : Int) n)) = ((List.range (powOf n)).map fun k : Nat => bits (k : Int) n).map eC := by simp [List.map_map, Function.comp_def]
    have hb : ∀ c ∈ (List.range (powOf n)).map fun k : Nat => bits (k : Int) n, c.length ≤ n := by
      intro c hc
      obtain ⟨k, _, rfl⟩ := List.mem_map.mp hc
      exact bits_len _ _
    have hl : ((List.range (powOf n)).map fun k : Nat => bits (k : Int) n).length ≤ 32 := by simp; omega
    have hperm := lawCrowds_perm n (by omega)
    have hsort := lawCrowds_sorted n (by omega)
    show WS G _ _ _ ([Sl.im (D.int n), Sl.own _, .no, .no, .no])
    rw [e1]
    generalize (List.range (powOf n)).map (fun k : Nat => bits (k : Int) n) = bs at hb hl hperm
    have lc1 := evn_lcL (G := G) (ρ := [.im (.int n), .own (bs.map eC), .no, .no, .no]) (vs := [4]) (j := 4) (tl := tVar 1) (tt := tYes) (te := tTup (tCons (tCB _ (tCons (tVar 4) tNil)) (tCons (tVar 4) tNil))) bs eC (fun _ => true) (fun c => eRow (rowOf c)) (evs_own rfl) (by omega) (by simp) (fun _ _ => evt_yes)
      (fun c _ _ => evd_is (evd_tup (ds := [.int (c.map D.int).length, .tup (c.map .int)]) (evad_cons (evd_lenT (ds := c.map .int) (evd_var rfl)) (evad_cons (evd_var rfl) evad_nil))) (by simp [eRow, rowOf]))
    rw [filter_yes] at lc1
    have lc2 := evn_sortedW (xs := bs.map rowOf) (ys := (crowdsOf n).map rowOf) (evs_is (evs_new lc1) (by simp [List.map_map, Function.comp_def])) hperm hsort
    refine ws_retN (evn_is (evn_lcL ((crowdsOf n).map rowOf) eRow (fun _ => true) (fun p => eC p.2) (evs_new lc2) (by simp; have := crowdsOf_len hn; omega) (by simp) (fun _ _ => evt_yes) (fun p _ _ => evd_ixT (j := 1) (evd_var rfl) evd_int rfl rfl)) ?_) rfl
    rw [filter_yes]
    simp [List.map_map, Function.comp_def, rowOf]

/-! #### _law_weighed_crowds -/
abbrev s__law_weighed_crowds : Stmt := top 53
abbrev nm__law_weighed_crowds : List Str := ["script", "start", "many", "weights", "bar", "k", "crowd", "member"]
theorem sc__law_weighed_crowds : FnScope nm__law_weighed_crowds ["script", "start", "many"] (defScope s__law_weighed_crowds) := ⟨rfl, rfl, rfl, by decide +kernel, rfl, by decide +kernel, by decide +kernel⟩
theorem wts_len (ns : List Int) (start m : Nat) : (wts ns start m).length = m := by simp [wts]
theorem wts_at (ns : List Int) (start m : Nat) {i : Int} {n : Nat} (hm : m = n) (h0 : 0 ≤ i) (h1 : i < n) : ((wts ns start m).map D.int)[i.toNat]? = some (.int ((wts ns start m).getD i.toNat 0)) := by
  rw [List.getElem?_map, List.getD_eq_getElem?_getD]
  have h : i.toNat < (wts ns start m).length := by rw [wts_len]; omega
  rw [List.getElem?_eq_getElem h]
  rfl
theorem good_mem {n : Int} : ∀ {c : List Int} {last : Int}, goodFrom n last c = true → ∀ m ∈ c, last < m ∧ m < n
  | [], _, _, _, h => by simp at h
  | x :: c, last, h, m, hm => by
    unfold goodFrom at h
    split at h
    · cases h
    · rename_i q
      rcases List.mem_cons.mp hm with e | hm
      · subst e
        omega
      · have := good_mem h m hm
        omega
theorem crowd_mem {n : Nat} (hn : n ≤ 5) {c : Crowd} (hc : c ∈ crowdsOf n) : ∀ m ∈ c, 0 ≤ m ∧ m < n := fun m hm => by
  have h := good_mem (crowdsOf_good n (by omega) c hc) m hm
  omega
def R__law_weighed_crowds : List D → Res → Prop := fun ds r => ∃ (ns : List Int) (start m : Nat), ds = [.scr ns, .int start, .int m] ∧ m ≤ 5 ∧ r = .new ((weighedCrowds ns start m).map eC)
theorem ok__law_weighed_crowds (T : Txt G mg) {f : Addr} {fd : FuncData} (F : Fun G.K "_law_weighed_crowds" "_law_weighed_crowds" s__law_weighed_crowds f fd) (H__law_cell_at : Fn G P w mg base "_law_cell_at" 1 ["script", "k"] R__law_cell_at) (H__law_crowds : Fn G P w mg base "_law_crowds" 2 ["many"] R__law_crowds) : FnOk P w G.K mg base CX0 3 f fd ["script", "start", "many"] (mkSp G R__law_weighed_crowds) := by
  refine okD F sc__law_weighed_crowds (fun ds r hR => ?_) (by decide) (fun cdv A outer s H E hr => ⟨_, (pss_cons (ps_asg (pe_lc (own := [("k", 5)]) (g := gName 5) (tt := tYes) rfl sc__law_weighed_crowds.nd (pi_range1 rfl T.range (pa_cons (pv 2) pa_nil)) (blkOk_by (N := nm__law_weighed_crowds) (sc := defScope s__law_weighed_crowds) (by decide +kernel)) (fun _ _ _ _ _ => pg_name (i := 5) sc__law_weighed_crowds.nd rfl (by first | exact Or.inl rfl | exact Or.inr rfl)) (fun _ _ _ _ _ => pts_nil) (fun _ _ _ _ _ => (pe_op op_mod (pe_callF H__law_cell_at (hr.mono (by decide)) rfl (pa_cons (pv 0) (pa_cons (pe_op op_add (pv 1) (pv 5)) pa_nil))) pe_int))) (pg_name (i := 3) sc__law_weighed_crowds.nd rfl (by first | exact Or.inl rfl | exact Or.inr rfl))) (pss_cons (ps_asg (pe_op op_add pe_int (pe_op op_mod (pe_callF H__law_cell_at (hr.mono (by decide)) rfl (pa_cons (pv 0) (pa_cons (pe_op op_add (pv 1) (pv 2)) pa_nil))) (pe_callB (call_max2 rfl) (by rfl) T.max (by decide +kernel) (pa_cons pe_int (pa_cons (pe_callB (k_sum G.K rfl) (by rfl) T.sum (by decide +kernel) (pa_cons (pv 3) pa_nil)) pa_nil))))) (pg_name (i := 4) sc__law_weighed_crowds.nd rfl (by first | exact Or.inl rfl | exact Or.inr rfl))) (pss_one (ps_ret (pe_lc (own := [("crowd", 6)]) (g := gName 6) (tt := _) rfl sc__law_weighed_crowds.nd (k_pl G.K (pe_callF H__law_crowds (hr.mono (by decide)) rfl (pa_cons (pv 2) pa_nil))) (blkOk_by (N := nm__law_weighed_crowds) (sc := defScope s__law_weighed_crowds) (by decide +kernel)) (fun _ _ _ _ _ => pg_name (i := 6) sc__law_weighed_crowds.nd rfl (by first | exact Or.inl rfl | exact Or.inr rfl)) (fun _ _ _ _ _ => (pts_one (pt_cmpR op_ge (pe_callB (k_sum G.K rfl) (by rfl) T.sum (by decide +kernel) (pa_cons (pe_lc (own := [("member", 7)]) (g := gName 7) (tt := tYes) rfl sc__law_weighed_crowds.nd (k_pt G.K (pv 6)) (blkOk_by (by kernel_rfl)) (fun _ _ _ _ _ => pg_name (i := 7) sc__law_weighed_crowds.nd rfl (by first | exact Or.inl rfl | exact Or.inr rfl)) (fun _ _ _ _ _ => pts_nil) (fun _ _ _ _ _ => (pe_ix (k_ixL G.K) (pv 3) (pv 7) (fun _ _ => rfl)))) pa_nil)) (pv 4) (nomark _)))) (fun _ _ _ _ _ => (pv 6))))))), fun ds r hR => ?_⟩)
  · obtain ⟨ns, start, m, rfl, hm, rfl⟩ := hR
    rfl
  · obtain ⟨ns, start, m, rfl, hm, rfl⟩ := hR
    show WS G _ _ _ [.im (.scr ns), .im (.int start), .im (.int m), .no, .no, .no, .no, .no]
    refine ws_seq (ws_asgN (i := 3) (evn_is (evn_lcR1 (n := (m : Int)) (fun _ => true) (fun k => .int (cell ns (start + k) % 7)) (ea1 (evd_var rfl)) (by omega) (by simp) (fun _ _ => evt_yes) (fun k _ _ =>
      evd_mod (evd_call (ea2 (evd_var rfl) (evd_add (evd_var rfl) (evd_var rfl))) ⟨ns, start + k, by simp, rfl⟩) evd_int (by decide))) (es := (wts ns start m).map .int) (by rw [filter_yes]; simp [wts, List.map_map, Function.comp_def])) ?_)
    refine ws_seq (ws_asgD (i := 4) (evd_add evd_int (evd_mod (evd_call (ea2 (evd_var rfl) (evd_add (evd_var rfl) (evd_var rfl))) ⟨ns, start + m, by simp, rfl⟩) (evd_max2 evd_int (evd_sum (evs_own rfl))) (by omega))) ?_)
    refine ws_retN (evn_is (evn_lcL (crowdsOf m) eC (fun c => decide (1 + cell ns (start + m) % max 1 (wts ns start m).sum ≤ weigh (wts ns start m) c)) eC (evs_new (evn_call (ea1 (evd_var rfl)) ⟨m, rfl, hm, rfl⟩)) (by have := crowdsOf_len hm; omega) (by simp) (fun c hc =>
      evt_test (evd_ge (evd_is (evd_sum (ns := c.map fun i => (wts ns start m).getD i.toNat 0) (evs_new (evn_is (evn_lcT c D.int (fun _ => true) (fun i => .int ((wts ns start m).getD i.toNat 0)) (evd_var rfl) (by have := crowdsOf_clen m (by omega) c hc; omega) (by simp) (fun _ _ => evt_yes) (fun i hi _ =>
        evd_ixL (j := i.toNat) (evs_own rfl) (evd_var rfl) (by have := crowd_mem hm hc i hi; omega) (wts_at ns start m rfl (crowd_mem hm hc i hi).1 (crowd_mem hm hc i hi).2))) (by rw [filter_yes]; simp [List.map_map, Function.comp_def])))) rfl) (evd_var rfl))) (fun c _ _ => evd_var rfl)) rfl) rfl

/-! #### _law_told -/
abbrev s__law_told : Stmt := top 54
abbrev nm__law_told : List Str := ["script", "start", "many", "way", "some", "size", "left_out", "even", "crowd", "k"]
theorem sc__law_told : FnScope nm__law_told ["script", "start", "many"] (defScope s__law_told) := ⟨rfl, rfl, rfl, by decide +kernel, rfl, by decide +kernel, by decide +kernel⟩
def R__law_told : List D → Res → Prop := fun ds r => ∃ (ns : List Int) (start m : Nat), ds = [.scr ns, .int start, .int m] ∧ 1 ≤ m ∧ m ≤ 5 ∧ r = .new ((toldOf ns start m).map eC)
theorem ok__law_told (T : Txt G mg) {f : Addr} {fd : FuncData} (F : Fun G.K "_law_told" "_law_told" s__law_told f fd) (H__law_cell_at : Fn G P w mg base "_law_cell_at" 1 ["script", "k"] R__law_cell_at) (H__law_some : Fn G P w mg base "_law_some" 2 ["script", "start", "many", "count"] R__law_some) (H__law_weighed_crowds : Fn G P w mg base "_law_weighed_crowds" 3 ["script", "start", "many"] R__law_weighed_crowds) (H__law_bits : Fn G P w mg base "_law_bits" 1 ["number", "many"] R__law_bits) (H__law_crowds : Fn G P w mg base "_law_crowds" 2 ["many"] R__law_crowds) : FnOk P w G.K mg base CX0 4 f fd ["script", "start", "many"] (mkSp G R__law_told) := by
  refine okD F sc__law_told (fun ds r hR => ?_) (by decide) (fun cdv A outer s H E hr => ⟨_, (pss_cons (ps_asg (pe_op op_mod (pe_callF H__law_cell_at (hr.mono (by decide)) rfl (pa_cons (pv 0) (pa_cons (pv 1) pa_nil))) pe_int) (pg_name (i := 3) sc__law_told.nd rfl (by first | exact Or.inl rfl | exact Or.inr rfl))) (pss_cons (ps_if (pt_cmpR op_eq (pv 3) pe_int (nomark _)) (pss_one (ps_ret (pe_callF H__law_some (hr.mono (by decide)) rfl (pa_cons (pv 0) (pa_cons (pe_op op_add (pv 1) pe_int) (pa_cons (pv 2) (pa_cons (pe_op op_mod (pe_callF H__law_cell_at (hr.mono (by decide)) rfl (pa_cons (pv 0) (pa_cons (pe_op op_add (pv 1) pe_int) pa_nil))) pe_int) pa_nil))))))) pss_nil) (pss_cons (ps_if (pt_cmpR op_eq (pv 3) pe_int (nomark _)) (pss_one (ps_ret (pe_callF H__law_weighed_crowds (hr.mono (by decide)) rfl (pa_cons (pv 0) (pa_cons (pe_op op_add (pv 1) pe_int) (pa_cons (pv 2) pa_nil)))))) pss_nil) (pss_cons (ps_if (pt_cmpR op_eq (pv 3) pe_int (nomark _)) (pss_cons (ps_asg (pe_op op_add pe_int (pe_op op_mod (pe_callF H__law_cell_at (hr.mono (by decide)) rfl (pa_cons (pv 0) (pa_cons (pe_op op_add (pv 1) pe_int) pa_nil))) pe_int)) (pg_name (i := 5) sc__law_told.nd rfl (by first | exact Or.inl rfl | exact Or.inr rfl))) (pss_cons (ps_asg (pe_callF H__law_bits (hr.mono (by decide)) rfl (pa_cons (pe_op op_mul (pe_op op_mod (pe_callF H__law_cell_at (hr.mono (by decide)) rfl (pa_cons (pv 0) (pa_cons (pe_op op_add (pv 1) pe_int) pa_nil))) pe_int) (pe_callTy call_int1 (by rfl) T.int (by decide +kernel) (pa_cons (pe_cmpR op_gt (pe_op op_mod (pe_callF H__law_cell_at (hr.mono (by decide)) rfl (pa_cons (pv 0) (pa_cons (pe_op op_add (pv 1) pe_int) pa_nil))) pe_int) pe_int (nomark _)) pa_nil))) (pa_cons pe_int pa_nil))) (pg_name (i := 6) sc__law_told.nd rfl (by first | exact Or.inl rfl | exact Or.inr rfl))) (pss_cons (ps_asg (pe_lc (own := [("crowd", 8)]) (g := gName 8) (tt := _) rfl sc__law_told.nd (k_pl G.K (pe_callF H__law_crowds (hr.mono (by decide)) rfl (pa_cons (pv 2) pa_nil))) (blkOk_by (N := nm__law_told) (sc := defScope s__law_told) (by decide +kernel)) (fun _ _ _ _ _ => pg_name (i := 8) sc__law_told.nd rfl (by first | exact Or.inl rfl | exact Or.inr rfl)) (fun _ _ _ _ _ => (pts_one (pt_cmpR op_eq (pe_callB (k_len G.K) (by rfl) T.len PySem.boot_len (pa_cons (pv 8) pa_nil)) (pv 5) (nomark _)))) (fun _ _ _ _ _ => (pv 8))) (pg_name (i := 7) sc__law_told.nd rfl (by first | exact Or.inl rfl | exact Or.inr rfl))) (pss_one (ps_ret (pe_lc (own := [("k", 9)]) (g := gName 9) (tt := _) rfl sc__law_told.nd (pi_range1 rfl T.range (pa_cons (pe_callB (k_len G.K) (by rfl) T.len PySem.boot_len (pa_cons (pv 7) pa_nil)) pa_nil)) (blkOk_by (N := nm__law_told) (sc := defScope s__law_told) (by decide +kernel)) (fun _ _ _ _ _ => pg_name (i := 9) sc__law_told.nd rfl (by first | exact Or.inl rfl | exact Or.inr rfl)) (fun _ _ _ _ _ => (pts_one (pt_cmpR (k_notIn G.K) (pv 9) (pv 6) rfl))) (fun _ _ _ _ _ => (pe_ix (k_ixL G.K) (pv 7) (pv 9) (fun _ _ => rfl))))))))) pss_nil) (pss_cons (ps_asg (pe_callF H__law_some (hr.mono (by decide)) rfl (pa_cons (pv 0) (pa_cons (pe_op op_add (pv 1) pe_int) (pa_cons (pv 2) (pa_cons (pe_op op_add pe_int (pe_op op_mod (pe_callF H__law_cell_at (hr.mono (by decide)) rfl (pa_cons (pv 0) (pa_cons (pe_op op_add (pv 1) pe_int) pa_nil))) pe_int)) pa_nil))))) (pg_name (i := 4) sc__law_told.nd rfl (by first | exact Or.inl rfl | exact Or.inr rfl))) (pss_one (ps_ret (pe_lc (own := [("crowd", 8)]) (g := gName 8) (tt := _) rfl sc__law_told.nd (k_pl G.K (pv 4)) (blkOk_by (N := nm__law_told) (sc := defScope s__law_told) (by decide +kernel)) (fun _ _ _ _ _ => pg_name (i := 8) sc__law_told.nd rfl (by first | exact Or.inl rfl | exact Or.inr rfl)) (fun _ _ _ _ _ => (pts_one (PW.pt (pw_or (pt_cmpR op_gt (pe_callB (k_len G.K) (by rfl) T.len PySem.boot_len (pa_cons (pv 8) pa_nil)) pe_int (nomark _)) (pw_or1 (pt_cmpR op_eq (pv 3) pe_int (nomark _))))))) (fun _ _ _ _ _ => (pv 8)))))))))), fun ds r hR => ?_⟩)
  · obtain ⟨ns, start, m, rfl, h1, hm, rfl⟩ := hR
    rfl
  · obtain ⟨ns, start, m, rfl, h1, hm, rfl⟩ := hR
    show WS G _ _ _ [.im (.scr ns), .im (.int start), .im (.int m), .no, .no, .no, .no, .no, .no, .no]
    have q5 : 0 ≤ cell ns start % 5 ∧ cell ns start % 5 < 5 := ⟨Int.emod_nonneg _ (by decide), Int.emod_lt_of_pos _ (by decide)⟩
    refine ws_seq (ws_asgD (i := 3) (evd_mod (evd_call (ea2 (evd_var rfl) (evd_var rfl)) ⟨ns, start, rfl, rfl⟩) evd_int (by decide)) ?_)
    have c1 : ∀ {ρ : Rho} {k : Nat}, ρ[0]? = some (.im (.scr ns)) → ρ[1]? = some (.im (.int start)) → EvD G (tCall (mkSp G R__law_cell_at) [] E0 (tCons (tVar 0) (tCons (tOp (rI0 fun i j => .int (i + j)) (tVar 1) (tC (.int (k : Int)))) tNil))) ρ (.int (cell ns (start + k))) := fun h0 h1 => evd_call (ea2 (evd_var h0) (evd_add (evd_var h1) evd_int)) ⟨ns, _, by simp, rfl⟩
    by_cases w0 : cell ns start % 5 = 0
    · refine ws_seq (ws_when (evt_test (evd_eqI (evd_var rfl) evd_int)) (fun _ => ?_) (fun hb => absurd w0 (by simpa using hb)))
      have q7 : 0 ≤ cell ns (start + 1) % 7 ∧ cell ns (start + 1) % 7 < 7 := ⟨Int.emod_nonneg _ (by decide), Int.emod_lt_of_pos _ (by decide)⟩
      refine ws_retN (evn_call (eva_cons (evd_var rfl) (eva_cons (evd_add (evd_var rfl) evd_int) (eva_cons (evd_var rfl) (eva_cons (evd_mod (c1 (k := 1) rfl rfl) evd_int (by decide)) eva_nil)))) ⟨ns, start + 2, m, (cell ns (start + 1) % 7).toNat, by simp; omega, hm, by omega, rfl⟩) ?_
      show _ = _
      unfold toldOf
      rw [if_pos w0]
    · refine ws_seq (ws_when (evt_test (evd_eqI (evd_var rfl) evd_int)) (fun hb => absurd (by simpa using hb) w0) (fun _ => ?_))
      by_cases w1 : cell ns start % 5 = 1
      · refine ws_seq (ws_when (evt_test (evd_eqI (evd_var rfl) evd_int)) (fun _ => ?_) (fun hb => absurd w1 (by simpa using hb)))
        refine ws_retN (evn_call (eva_cons (evd_var rfl) (eva_cons (evd_add (evd_var rfl) evd_int) (eva_cons (evd_var rfl) eva_nil))) ⟨ns, start + 2, m, by simp, hm, rfl⟩) ?_
        show _ = _
        unfold toldOf
        rw [if_neg w0, if_pos w1]
      · refine ws_seq (ws_when (evt_test (evd_eqI (evd_var rfl) evd_int)) (fun hb => absurd (by simpa using hb) w1) (fun _ => ?_))
        by_cases w3 : cell ns start % 5 = 3
        · refine ws_seq (ws_when (evt_test (evd_eqI (evd_var rfl) evd_int)) (fun _ => ?_) (fun hb => absurd w3 (by simpa using hb)))
          have q2 : 0 ≤ cell ns (start + 2) % 1024 ∧ cell ns (start + 2) % 1024 < 1024 := ⟨Int.emod_nonneg _ (by decide), Int.emod_lt_of_pos _ (by decide)⟩
          refine ws_seq (ws_asgD (i := 5) (evd_add evd_int (evd_mod (c1 (k := 1) rfl rfl) evd_int (by decide))) ?_)
          refine ws_seq (ws_asgD (i := 6) (evd_call (ea2 (evd_mul (evd_mod (c1 (k := 2) rfl rfl) evd_int (by decide)) (evd_intB (evd_gt (evd_mod (c1 (k := 3) rfl rfl) evd_int (by decide)) evd_int)) (.inl (by omega))) evd_int) ⟨_, 10, rfl, by decide, rfl⟩) ?_)
          refine ws_seq (ws_asgN (i := 7) (evn_is (evn_lcL (crowdsOf m) eC (fun c => decide ((c.length : Int) = 2 + cell ns (start + 1) % 2)) eC (evs_new (evn_call (ea1 (evd_var rfl)) ⟨m, rfl, hm, rfl⟩)) (by have := crowdsOf_len hm; omega) (by simp) (fun c hc => evt_is (evt_test (evd_eqI (evd_lenT (ds := c.map .int) (evd_var rfl)) (evd_var rfl))) (by simp)) (fun c _ _ => evd_var rfl)) (es := (evens m (2 + cell ns (start + 1) % 2)).map eC) rfl) ?_)
          have hev : (evens m (2 + cell ns (start + 1) % 2)).length ≤ 32 := Nat.le_trans (List.length_filter_le _ _) (crowdsOf_len hm)
          refine ws_retN (evn_is (evn_lcR1 (n := ((evens m (2 + cell ns (start + 1) % 2)).length : Int)) (fun k => !decide ((k : Int) ∈ bits (cell ns (start + 2) % 1024 * (if decide (0 < cell ns (start + 3) % 3) = true then 1 else 0)) 10)) (fun k => eC ((evens m (2 + cell ns (start + 1) % 2)).getD k [])) (ea1 (evd_is (evd_lenL (evs_own rfl)) (by simp))) (by omega) (by simp) (fun k _ => evt_test (evd_ninT (evd_var rfl) (evd_var rfl))) (fun k hk _ => evd_ixL (j := k) (evs_own rfl) (evd_var rfl) rfl ?_)) ?_) rfl
          · rw [List.getElem?_map, List.getD_eq_getElem?_getD]
            have h : k < (evens m (2 + cell ns (start + 1) % 2)).length := by omega
            rw [List.getElem?_eq_getElem h]
            rfl
          · unfold toldOf
            rw [if_neg w0, if_neg w1, if_pos w3]
            simp only [List.map_map, decide_eq_true_eq]
            rfl
        · refine ws_seq (ws_when (evt_test (evd_eqI (evd_var rfl) evd_int)) (fun hb => absurd (by simpa using hb) w3) (fun _ => ?_))
          have q6 : 0 ≤ cell ns (start + 1) % 6 ∧ cell ns (start + 1) % 6 < 6 := ⟨Int.emod_nonneg _ (by decide), Int.emod_lt_of_pos _ (by decide)⟩
          refine ws_seq (ws_asgN (i := 4) (evn_call (eva_cons (evd_var rfl) (eva_cons (evd_add (evd_var rfl) evd_int) (eva_cons (evd_var rfl) (eva_cons (evd_add evd_int (evd_mod (c1 (k := 1) rfl rfl) evd_int (by decide))) eva_nil)))) ⟨ns, start + 2, m, 2 + (cell ns (start + 1) % 6).toNat, by simp; omega, hm, by omega, rfl⟩) ?_)
          refine ws_retN (evn_is (evn_lcL (some' ns (start + 2) m (2 + (cell ns (start + 1) % 6).toNat)) eC (fun c => decide (1 < (c.length : Int)) || decide (cell ns start % 5 = 2)) eC (evs_own rfl) (by simp [some']; omega) (by simp) (fun c hc => evt_is (evt_or (evt_test (evd_gt (evd_lenT (ds := c.map .int) (evd_var rfl)) evd_int)) (fun _ => evt_test (evd_eqI (evd_var rfl) evd_int))) (by simp)) (fun c _ _ => evd_var rfl)) ?_) rfl
          unfold toldOf
          rw [if_neg w0, if_neg w1, if_neg w3]

/-! #### Council.many -/
abbrev s_Council_many : Stmt := inClass (top 13) 1
abbrev nm_Council_many : List Str := ["self"]
theorem sc_Council_many : FnScope nm_Council_many ["self"] (defScope s_Council_many) := ⟨rfl, rfl, rfl, by decide +kernel, rfl, by decide +kernel, by decide +kernel⟩
def R_Council_many : List D → Res → Prop := fun ds r => ∃ (n : Int) (told : List Crowd), ds = [.cou n told] ∧ r = .val (.int n)
theorem ok_Council_many (T : Txt G mg) {f : Addr} {fd : FuncData} (F : Fun G.K "many" "Council.many" s_Council_many f fd)  : FnOk P w G.K mg base CX0 1 f fd ["self"] (mkSp G R_Council_many) := by
  refine okD F sc_Council_many (fun ds r hR => ?_) (by decide) (fun cdv A outer s H E hr => ⟨_, (pss_one (ps_ret (k_fld G.K (pv 0) rfl))), fun ds r hR => ?_⟩)
  · obtain ⟨n, told, rfl, rfl⟩ := hR
    rfl
  · obtain ⟨n, told, rfl, rfl⟩ := hR
    show WS G _ _ _ [.im (.cou n told)]
    exact ws_ret (evd_size (evd_var rfl) T.cl T.nS) rfl

/-! #### look_at_two -/
abbrev s_look_at_two : Stmt := top 17
abbrev nm_look_at_two : List Str := ["one", "other"]
theorem sc_look_at_two : FnScope nm_look_at_two ["one", "other"] (defScope s_look_at_two) := ⟨rfl, rfl, rfl, by decide +kernel, rfl, by decide +kernel, by decide +kernel⟩
def R_look_at_two : List D → Res → Prop := fun ds r => ∃ (n m : Nat) (a b : List Crowd), ds = [.cou n a, .cou m b] ∧ r = if n = m then .val .non else .err .unlike
theorem ok_look_at_two (T : Txt G mg) {f : Addr} {fd : FuncData} (F : Fun G.K "look_at_two" "look_at_two" s_look_at_two f fd) (H_Council_many : Mt G P w mg base "many" 1 ["self"] R_Council_many) (X_Unlike : ExT G mg "Unlike" (G.ex .unlike)) : FnOk P w G.K mg base (L2.CX P w) 2 f fd ["one", "other"] (mkSp G R_look_at_two) := by
  refine okX F sc_look_at_two (fun ds r hR => ?_) (by decide) (fun cdv A outer s H E hr => ⟨_, (pss_one (ps_if (pt_cmpR op_ne (pe_methF0 (pv 0) T.cl H_Council_many (hr.mono (by decide))) (pe_methF0 (pv 1) T.cl H_Council_many (hr.mono (by decide))) (nomark _)) (pss_one (ps_raise rfl (takes_of rfl rfl rfl rfl) (pmk_own PySem.F.excBase_ValueError X_Unlike.x X_Unlike.g X_Unlike.k (raises_own X_Unlike.b X_Unlike.t) rfl))) pss_nil)), fun ds r hR => ?_⟩)
  · obtain ⟨n, m, a, b, rfl, rfl⟩ := hR
    rfl
  · obtain ⟨n, m, a, b, rfl, rfl⟩ := hR
    show WS G _ _ _ [.im (.cou n a), .im (.cou m b)]
    by_cases h : n = m
    · rw [if_pos h]
      exact ws_when (evt_test (evd_neI (evd_meth (evd_var rfl) eva_nil ⟨n, a, rfl, rfl⟩) (evd_meth (evd_var rfl) eva_nil ⟨m, b, rfl, rfl⟩))) (fun z => by subst h; simp at z) (fun _ => rfl)
    · rw [if_neg h]
      exact ws_when (evt_test (evd_neI (evd_meth (evd_var rfl) eva_nil ⟨n, a, rfl, rfl⟩) (evd_meth (evd_var rfl) eva_nil ⟨m, b, rfl, rfl⟩))) (fun _ => ws_raise (e := .unlike) rfl) (fun z => by
        exfalso
        simp at z
        omega)

/-! #### crowds_of -/
abbrev s_crowds_of : Stmt := top 10
abbrev nm_crowds_of : List Str := ["many", "found", "layer", "size", "more", "crowd", "first", "member"]
theorem sc_crowds_of : FnScope nm_crowds_of ["many"] (defScope s_crowds_of) := ⟨rfl, rfl, rfl, by decide +kernel, rfl, by decide +kernel, by decide +kernel⟩
theorem foldl_longer (n : Nat) : ∀ (l acc : List Crowd), l.foldl (fun acc c => acc ++ longer n c) acc = acc ++ l.flatMap (longer n)
  | [], acc => by simp
  | c :: l, acc => by rw [List.foldl_cons, foldl_longer n l, List.flatMap_cons, List.append_assoc]
theorem flat_take_len (n : Nat) (l : List Crowd) (i : Nat) : ((l.take i).flatMap (longer n)).length ≤ (l.flatMap (longer n)).length := by
  conv => rhs; rw [← List.take_append_drop i l]
  rw [List.flatMap_append, List.length_append]
  omega
theorem foldl_st (n : Nat) : ∀ k : Nat, (List.range k).foldl (fun (s : List Crowd × List Crowd) (_ : Nat) => (s.1 ++ s.2.flatMap (longer n), s.2.flatMap (longer n))) ([[]], [[]]) = crowdsSt n k
  | 0 => rfl
  | k + 1 => by
    rw [List.range_succ, List.foldl_append, foldl_st n k]
    rfl
def R_crowds_of : List D → Res → Prop := fun ds r => ∃ n : Nat, ds = [.int n] ∧ n ≤ 5 ∧ r = .new ((crowdsOf n).map eC)
theorem ok_crowds_of (T : Txt G mg) {f : Addr} {fd : FuncData} (F : Fun G.K "crowds_of" "crowds_of" s_crowds_of f fd)  : FnOk P w G.K mg base CX0 1 f fd ["many"] (mkSp G R_crowds_of) := by
  refine okD F sc_crowds_of (fun ds r hR => ?_) (by decide) (fun cdv A outer s H E hr => ⟨_, (pss_cons (ps_asg (pe_lst (pa_cons (pe_tup pa_nil) pa_nil)) (pg_name (i := 1) sc_crowds_of.nd rfl (by first | exact Or.inl rfl | exact Or.inr rfl))) (pss_cons (ps_asg (pe_lst (pa_cons (pe_tup pa_nil) pa_nil)) (pg_name (i := 2) sc_crowds_of.nd rfl (by first | exact Or.inl rfl | exact Or.inr rfl))) (pss_cons (ps_for PassesOwn.never rfl (pi_range1 rfl T.range (pa_cons (pv 0) pa_nil)) (pg_name (i := 3) sc_crowds_of.nd rfl (by first | exact Or.inl rfl | exact Or.inr rfl)) (pss_cons (ps_asg (pe_lst pa_nil) (pg_name (i := 4) sc_crowds_of.nd rfl (by first | exact Or.inl rfl | exact Or.inr rfl))) (pss_cons (ps_for PassesOwn.never rfl (k_pl G.K (pv 2)) (pg_name (i := 5) sc_crowds_of.nd rfl (by first | exact Or.inl rfl | exact Or.inr rfl)) (pss_cons (ps_asg pe_int (pg_name (i := 6) sc_crowds_of.nd rfl (by first | exact Or.inl rfl | exact Or.inr rfl))) (pss_cons (ps_if (pt_cmpR (k_neD G.K hr.units) (pv 5) (pe_tup pa_nil) (nomark _)) (pss_one (ps_asg (pe_op op_add (pe_ix (k_ixT G.K) (pv 5) (pe_un un_neg pe_int) (fun _ _ => rfl)) pe_int) (pg_name (i := 6) sc_crowds_of.nd rfl (by first | exact Or.inl rfl | exact Or.inr rfl)))) pss_nil) (pss_one (ps_expr (pe_bm PySem.F.plainAttrs_list PySem.F.slot_list_extend PySem.F.type_list_extend mt_extend (pv 4) (pa_cons (pe_lc (own := [("member", 7)]) (g := gName 7) (tt := tYes) rfl sc_crowds_of.nd (pi_range2 rfl T.range (pa_cons (pv 6) (pa_cons (pv 0) pa_nil))) (blkOk_by (N := nm_crowds_of) (sc := defScope s_crowds_of) (by decide +kernel)) (fun _ _ _ _ _ => pg_name (i := 7) sc_crowds_of.nd rfl (by first | exact Or.inl rfl | exact Or.inr rfl)) (fun _ _ _ _ _ => pts_nil) (fun _ _ _ _ _ => (pe_op (k_catA G.K) (pv 5) (pe_tup (pa_cons (pv 7) pa_nil))))) pa_nil))))))) (pss_cons (ps_expr (pe_bm PySem.F.plainAttrs_list PySem.F.slot_list_extend PySem.F.type_list_extend mt_extend (pv 1) (pa_cons (pv 4) pa_nil))) (pss_one (ps_asg (pv 4) (pg_name (i := 2) sc_crowds_of.nd rfl (by first | exact Or.inl rfl | exact Or.inr rfl)))))))) (pss_one (ps_ret (pv 1)))))), fun ds r hR => ?_⟩)
  · obtain ⟨n, rfl, hn, rfl⟩ := hR
    rfl
  · obtain ⟨n, rfl, hn, rfl⟩ := hR
    show WS G _ _ _ [.im (.int n), .no, .no, .no, .no, .no, .no, .no]
    have e0 : ([] : List Crowd).map eC = [] := rfl
    refine ws_seq (ws_asgN (evn_lst (evad_cons (evd_tup evad_nil) evad_nil)) ?_)
    refine ws_seq (ws_asgN (evn_lst (evad_cons (evd_tup evad_nil) evad_nil)) ?_)
    refine ws_freeze 2 rfl (ws_seq (ws_forR1 (n := (n : Int)) (fun s : List Crowd × List Crowd => [.im (.int n), .own (s.1.map eC), .im (.lst (s.2.map eC)), .no, .no, .no, .no, .no]) (fun s _ => .go (s.1 ++ s.2.flatMap (longer n), s.2.flatMap (longer n))) ([[]], [[]]) (ea1 (evd_var rfl)) (by omega) (by walk_at "weak") (fun i s hi hf => ?_) ?_))
    · -- one layer more
      have es : s = crowdsSt n i := by
        have h := fold_go_take (f := fun (s : List Crowd × List Crowd) (_ : Nat) => (s.1 ++ s.2.flatMap (longer n), s.2.flatMap (longer n))) hf
        rw [List.take_range, Nat.min_eq_left (by omega), foldl_st] at h
        exact h
      have hi6 : i < 6 := by omega
      have hlen := crowdsSt_len n (by omega) i hi6
      have hfst := crowdsSt_first n (by omega) i hi6
      have hcl := crowdsSt_clen n (by omega) i hi6
      rw [← es] at hlen hfst hcl
      obtain ⟨fo, la⟩ := s
      dsimp only at hlen hfst hcl
      refine ws_seq (ws_asgN (evn_lst evad_nil) ?_)
      refine ws_seq (ws_forL la eC (fun acc : List Crowd => [.im (.int n), .own (fo.map eC), .im (.lst (la.map eC)), .im (.int (i : Int)), .own (acc.map eC), .no, .no, .no]) (fun acc c => .go (acc ++ longer n c)) [] (evz_of (evd_var rfl)) (by walk_at "weak") (fun j acc c hc hf2 => ?_) ?_)
      · have hmem : c ∈ la := List.mem_of_getElem? hc
        have hacc : acc = (la.take j).flatMap (longer n) := by
          have h := fold_go_take (f := fun (acc : List Crowd) c => acc ++ longer n c) hf2
          rw [foldl_longer] at h
          exact h
        have hb := hfst c hmem
        -- first
        refine ws_seq (ws_asgD (evd_int (i := 0)) ?_)
        refine ws_seq (ws_mono (k := { nx := fun ρ' => ρ' = [.im (.int n), .own (fo.map eC), .im (.lst (la.map eC)), .im (.int (i : Int)), .own (acc.map eC), .im (eC c), .im (.int (firstOf c)), .no], rt := fun _ => False }) (ws_when (b := !decide (c = [])) (evt_test (evd_neC (b := []) (evd_var rfl) (evd_tup evad_nil))) (fun hb => ?_) (fun hb => ?_)) (fun ρ' e => ?_) (fun _ z => z.elim) (fun _ z => z.elim) (fun _ z => z.elim) (fun _ z => z.elim))
        · have hne : c ≠ [] := by simpa using hb
          refine ws_asgD (evd_add (evd_ixTlast (d := .int (c.getLastD (-1))) (evd_var rfl) (evd_neg evd_int) ?_) evd_int) rfl
          rw [List.length_map, List.getElem?_map]
          have : c[c.length - 1]? = some (c.getLastD (-1)) := by
            rw [← List.getLast?_eq_getElem?, List.getLast?_eq_some_getLast hne]
            simp [List.getLastD_eq_getLast?, List.getLast?_eq_some_getLast hne]
          rw [this]
          rfl
        · have he : c = [] := by simpa using hb
          subst he
          rfl
        · subst e
          have hz : fo.length ≤ 32 := hlen.1
          have hmore : (acc ++ longer n c).length ≤ 32 := by
            have h1 : acc ++ longer n c = (la.take (j + 1)).flatMap (longer n) := by
              rw [List.take_add_one, hc, hacc]
              simp
            rw [h1]
            exact Nat.le_trans (flat_take_len n la (j + 1)) hlen.2.2
          have lc := evn_lcR2 (G := G) (ρ := [.im (.int n), .own (fo.map eC), .im (.lst (la.map eC)), .im (.int (i : Int)), .own (acc.map eC), .im (eC c), .im (.int (firstOf c)), .no]) (vs := [7]) (j := 7) (lo := firstOf c) (n := (n : Int)) (ta := tCons (tVar 6) (tCons (tVar 0) tNil)) (tt := tYes) (te := tOp (rCatA G.K) (tVar 5) (tTup (tCons (tVar 7) tNil)))
            (fun _ => true) (fun k => eC (c ++ [firstOf c + (k : Int)])) (ea2 (evd_var rfl) (evd_var rfl)) (by omega) (by simp) (fun x _ => evt_yes) (fun x _ _ => evd_is (evd_catT (ds := c.map .int) (es := [.int (firstOf c + (x : Int))]) (evd_var rfl) (evd_tup (evad_cons (evd_var rfl) evad_nil)) (by have := hcl c hmem; simp; omega)) (by unfold eC; simp))
          refine ws_extend (ds := acc.map eC) (es := (longer n c).map eC) rfl (evs_new (evn_is lc ?_)) (by rw [List.length_append] at hmore; simp only [List.length_map]; omega) ⟨acc ++ longer n c, rfl, ?_⟩
          · rw [filter_yes]
            simp [longer, List.map_map, Function.comp_def]
          · rw [← List.map_append]
            walk_at "weak"
      · rw [fold_go, foldl_longer]
        show WS G _ _ _ _
        rw [List.nil_append]
        refine ws_seq (ws_extend (ds := fo.map eC) (es := (la.flatMap (longer n)).map eC) rfl (evs_own rfl) (by simp only [List.length_map]; have := hlen.2.2; have := hlen.1; omega) ?_)
        rw [← List.map_append]
        refine ws_move (ds := (la.flatMap (longer n)).map eC) rfl ⟨_, rfl, by walk_at "weak"⟩
    · rw [fold_go, foldl_st]
      exact ws_retOwn rfl rfl

/-! #### lies_in -/
abbrev s_lies_in : Stmt := top 12
abbrev nm_lies_in : List Str := ["crowd", "other", "member"]
theorem sc_lies_in : FnScope nm_lies_in ["crowd", "other"] (defScope s_lies_in) := ⟨rfl, rfl, rfl, by decide +kernel, rfl, by decide +kernel, by decide +kernel⟩
def R_lies_in : List D → Res → Prop := fun ds r => ∃ a b : List Int, ds = [eC a, eC b] ∧ r = .val (.bl (liesIn a b))
theorem ok_lies_in (T : Txt G mg) {f : Addr} {fd : FuncData} (F : Fun G.K "lies_in" "lies_in" s_lies_in f fd)  : FnOk P w G.K mg base CX0 1 f fd ["crowd", "other"] (mkSp G R_lies_in) := by
  refine okD F sc_lies_in (fun ds r hR => ?_) (by decide) (fun cdv A outer s H E hr => ⟨_, (pss_cons (ps_for PassesOwn.never rfl (k_pt G.K (pv 0)) (pg_name (i := 2) sc_lies_in.nd rfl (by first | exact Or.inl rfl | exact Or.inr rfl)) (pss_one (ps_if (pt_cmpR (k_notIn G.K) (pv 2) (pv 1) rfl) (pss_one (ps_ret pe_bl)) pss_nil))) (pss_one (ps_ret pe_bl))), fun ds r hR => ?_⟩)
  · obtain ⟨a, b, rfl, rfl⟩ := hR
    rfl
  · obtain ⟨a, b, rfl, rfl⟩ := hR
    show WS G _ _ _ [.im (eC a), .im (eC b), .no]
    refine ws_seq (ws_forT a D.int (fun _ : Unit => [.im (eC a), .im (eC b), .no]) (fun _ m => if decide (m ∈ b) then .go () else .stop (.val (.bl false))) () (evd_var rfl) (Weak.refl _) (fun i s m hm hf => ?_) ?_)
    · refine ws_when (evt_test (evd_ninT (evd_var rfl) (evd_var rfl))) (fun hb => ws_ret evd_bl ?_) (fun hb => ⟨(), ?_, by walk_at "weak"⟩)
      · show (if decide (m ∈ b) = true then _ else _) = _
        rw [if_neg (by simpa using hb)]
      · rw [if_pos (by simpa using hb)]
    · rw [fold_all]
      unfold liesIn
      cases h : a.all fun m => decide (m ∈ b) with
      | true => exact ws_ret evd_bl rfl
      | false => exact rfl

/-! #### Council.bears -/
abbrev s_Council_bears : Stmt := inClass (top 13) 2
abbrev nm_Council_bears : List Str := ["self", "crowd", "one"]
theorem sc_Council_bears : FnScope nm_Council_bears ["self", "crowd"] (defScope s_Council_bears) := ⟨rfl, rfl, rfl, by decide +kernel, rfl, by decide +kernel, by decide +kernel⟩
def R_Council_bears : List D → Res → Prop := fun ds r => ∃ (n : Int) (told : List Crowd) (c : Crowd), ds = [.cou n told, eC c] ∧ r = .val (.bl (bears told c))
theorem ok_Council_bears (T : Txt G mg) {f : Addr} {fd : FuncData} (F : Fun G.K "bears" "Council.bears" s_Council_bears f fd) (H_lies_in : Fn G P w mg base "lies_in" 1 ["crowd", "other"] R_lies_in) : FnOk P w G.K mg base CX0 2 f fd ["self", "crowd"] (mkSp G R_Council_bears) := by
  refine okD F sc_Council_bears (fun ds r hR => ?_) (by decide) (fun cdv A outer s H E hr => ⟨_, (pss_cons (ps_for PassesOwn.never rfl (k_pl G.K (k_fld G.K (pv 0) rfl)) (pg_name (i := 2) sc_Council_bears.nd rfl (by first | exact Or.inl rfl | exact Or.inr rfl)) (pss_one (ps_if (pt_val (pe_callF H_lies_in (hr.mono (by decide)) rfl (pa_cons (pv 2) (pa_cons (pv 1) pa_nil)))) (pss_one (ps_ret pe_bl)) pss_nil))) (pss_one (ps_ret pe_bl))), fun ds r hR => ?_⟩)
  · obtain ⟨n, told, c, rfl, rfl⟩ := hR
    rfl
  · obtain ⟨n, told, c, rfl, rfl⟩ := hR
    show WS G _ _ _ [.im (.cou n told), .im (eC c), .no]
    refine ws_seq (ws_forL told eC (fun _ : Unit => [.im (.cou n told), .im (eC c), .no]) (fun _ t => if liesIn t c then .stop (.val (.bl true)) else .go ()) () (evz_of (evd_told (evd_var rfl) T.cl T.nT)) (Weak.refl _) (fun i s t ht hf => ?_) ?_)
    · refine ws_when (evt_B (evd_call (ea2 (evd_var rfl) (evd_var rfl)) ⟨t, c, rfl, rfl⟩)) (fun hb => ws_ret evd_bl ?_) (fun hb => ⟨(), ?_, by walk_at "weak"⟩)
      · show (if liesIn t c = true then _ else _) = _
        rw [if_pos hb]
      · rw [if_neg (by rw [hb]; decide)]
    · rw [fold_any]
      unfold bears
      cases h : told.any fun t => liesIn t c with
      | true => exact rfl
      | false => exact ws_ret evd_bl rfl

/-! #### Council.carries -/
abbrev s_Council_carries : Stmt := inClass (top 13) 3
abbrev nm_Council_carries : List Str := ["self", "crowd"]
theorem sc_Council_carries : FnScope nm_Council_carries ["self", "crowd"] (defScope s_Council_carries) := ⟨rfl, rfl, rfl, by decide +kernel, rfl, by decide +kernel, by decide +kernel⟩
def R_Council_carries : List D → Res → Prop := fun ds r => ∃ (n : Int) (told : List Crowd) (c : Crowd), ds = [.cou n told, eC c] ∧ r = if crowdOk n c then .val (.bl (bears told c)) else .err .crowd
theorem ok_Council_carries (T : Txt G mg) {f : Addr} {fd : FuncData} (F : Fun G.K "carries" "Council.carries" s_Council_carries f fd) (H_look_at : Fn G P w mg base "look_at" 1 ["many", "crowd"] R_look_at) (H_Council_bears : Mt G P w mg base "bears" 2 ["self", "crowd"] R_Council_bears) : FnOk P w G.K mg base (L2.CX P w) 3 f fd ["self", "crowd"] (mkSp G R_Council_carries) := by
  refine okX F sc_Council_carries (fun ds r hR => ?_) (by decide) (fun cdv A outer s H E hr => ⟨_, (pss_cons (ps_expr (pe_callX H_look_at (hr.mono (by decide)) rfl (takes_of rfl rfl rfl rfl) (pa_cons (k_fld G.K (pv 0) rfl) (pa_cons (pv 1) pa_nil)))) (pss_one (ps_ret (pe_methF (pv 0) T.cl H_Council_bears (hr.mono (by decide)) (pa_cons (pv 1) pa_nil))))), fun ds r hR => ?_⟩)
  · obtain ⟨n, told, c, rfl, rfl⟩ := hR
    rfl
  · obtain ⟨n, told, c, rfl, rfl⟩ := hR
    show WS G _ _ _ [.im (.cou n told), .im (eC c)]
    refine ws_seq (ws_dropX (evx_call (ea2 (evd_size (evd_var rfl) T.cl T.nS) (evd_var rfl)) ⟨n, c, rfl, rfl⟩) ?_)
    cases h : crowdOk n c with
    | true => exact ws_ret (evd_meth (evd_var rfl) (ea1 (evd_var rfl)) ⟨n, told, c, rfl, rfl⟩) rfl
    | false => exact rfl

/-! #### both -/
abbrev s_both : Stmt := top 18
abbrev nm_both : List Str := ["one", "other", "crowds", "crowd"]
theorem sc_both : FnScope nm_both ["one", "other"] (defScope s_both) := ⟨rfl, rfl, rfl, by decide +kernel, rfl, by decide +kernel, by decide +kernel⟩
def R_both : List D → Res → Prop := fun ds r => ∃ (n m : Nat) (a b : List Crowd), ds = [.cou n a, .cou m b] ∧ 1 ≤ n ∧ n ≤ 5 ∧ r = if n = m then .val (.cou n (bothOf n a b)) else .err .unlike
theorem ok_both (T : Txt G mg) {f : Addr} {fd : FuncData} (F : Fun G.K "both" "both" s_both f fd) (H_look_at_two : Fn G P w mg base "look_at_two" 2 ["one", "other"] R_look_at_two) (H_crowds_of : Fn G P w mg base "crowds_of" 1 ["many"] R_crowds_of) (H_Council_many : Mt G P w mg base "many" 1 ["self"] R_Council_many) (H_Council_carries : Mt G P w mg base "carries" 3 ["self", "crowd"] R_Council_carries) (H_Council : Ini G P w mg base 2) : FnOk P w G.K mg base (L2.CX P w) 4 f fd ["one", "other"] (mkSp G R_both) := by
  refine okX F sc_both (fun ds r hR => ?_) (by decide) (fun cdv A outer s H E hr => ⟨_, (pss_cons (ps_expr (pe_callX H_look_at_two (hr.mono (by decide)) rfl (takes_of rfl rfl rfl rfl) (pa_cons (pv 0) (pa_cons (pv 1) pa_nil)))) (pss_cons (ps_setLc (i := 2) (own := [("crowd", 3)]) (g := gName 3) (tt := _) rfl sc_both.nd rfl rfl (sw_true rfl rfl rfl (by decide +kernel)) (k_pl G.K (pe_callF H_crowds_of (hr.mono (by decide)) rfl (pa_cons (pe_methF0 (pv 0) T.cl H_Council_many (hr.mono (by decide))) pa_nil))) (blkOk_by (N := nm_both) (sc := defScope s_both) (by decide +kernel)) (fun _ _ _ _ _ => pg_name (i := 3) sc_both.nd rfl (by first | exact Or.inl rfl | exact Or.inr rfl)) (fun _ _ _ _ _ => (pts_one (PW.pt (pw_and (pt_val (pe_methF (pv 0) T.cl H_Council_carries (hr.mono (by decide)) (pa_cons (pv 3) pa_nil))) (pw_and1 (pt_val (pe_methF (pv 1) T.cl H_Council_carries (hr.mono (by decide)) (pa_cons (pv 3) pa_nil)))))))) (fun _ _ _ _ _ => (pv 3))) (pss_one (ps_ret (pe_makeX H_Council (hr.mono (by decide)) rfl (takes_of rfl rfl rfl rfl) (pa_cons (pe_methF0 (pv 0) T.cl H_Council_many (hr.mono (by decide))) (pa_cons (pv 2) pa_nil))))))), fun ds r hR => ?_⟩)
  · obtain ⟨n, m, a, b, rfl, h1, h5, rfl⟩ := hR
    rfl
  · obtain ⟨n, m, a, b, rfl, h1, h5, rfl⟩ := hR
    show WS G _ _ _ [.im (.cou n a), .im (.cou m b), .no, .no]
    refine ws_seq (ws_dropX (evx_call (ea2 (evd_var rfl) (evd_var rfl)) ⟨n, m, a, b, rfl, rfl⟩) ?_)
    by_cases h : n = m
    · subst h
      rw [if_pos rfl, if_pos rfl]
      have hcl := crowdsOf_len h5
      refine ws_seq (ws_asgN (i := 2) (evn_is (evn_lcL (crowdsOf n) eC (fun c => bears a c && bears b c) eC (evs_new (evn_call (ea1 (evd_meth (evd_var rfl) eva_nil ⟨n, a, rfl, rfl⟩)) ⟨n, rfl, h5, rfl⟩)) (by omega) (by simp) (fun c hc =>
        evt_and (evt_B (evd_meth (evd_var rfl) (ea1 (evd_var rfl)) ⟨n, a, c, rfl, by rw [if_pos (cs_good h5 hc).1]⟩)) (fun _ => evt_B (evd_meth (evd_var rfl) (ea1 (evd_var rfl)) ⟨n, b, c, rfl, by rw [if_pos (cs_good h5 hc).1]⟩))) (fun c _ _ => evd_var rfl)) (es := (bothOf n a b).map eC) rfl) ?_)
      exact ws_retX (r := .val (.cou n (bothOf n a b))) (couRes_ok h1 h5 (filter_good h5 _) ▸ evx_make (cs := bothOf n a b) (eva_cons (evd_meth (evd_var rfl) eva_nil ⟨n, a, rfl, rfl⟩) (ea1L (evs_own rfl))) (by have := both_len h5 a b; omega)) rfl
    · rw [if_neg h, if_neg h]
      exact rfl

/-! #### Council.least -/
abbrev s_Council_least : Stmt := inClass (top 13) 4
abbrev nm_Council_least : List Str := ["self", "found", "crowd", "one"]
theorem sc_Council_least : FnScope nm_Council_least ["self"] (defScope s_Council_least) := ⟨rfl, rfl, rfl, by decide +kernel, rfl, by decide +kernel, by decide +kernel⟩
theorem fold_least_len (told : List Crowd) (cs : List Crowd) (i : Nat) (h : cs.length ≤ 32) : ((cs.take i).foldl (leastStep told) []).length ≤ 32 := by
  have h1 := leastStep_len told (cs.take i) []
  rw [List.length_take] at h1
  simp at h1
  omega
def R_Council_least : List D → Res → Prop := fun ds r => ∃ (n : Nat) (told : List Crowd), ds = [.cou n told] ∧ n ≤ 5 ∧ r = .new ((least n told).map eC)
theorem ok_Council_least (T : Txt G mg) {f : Addr} {fd : FuncData} (F : Fun G.K "least" "Council.least" s_Council_least f fd) (H_crowds_of : Fn G P w mg base "crowds_of" 1 ["many"] R_crowds_of) (H_lies_in : Fn G P w mg base "lies_in" 1 ["crowd", "other"] R_lies_in) (H_Council_bears : Mt G P w mg base "bears" 2 ["self", "crowd"] R_Council_bears) : FnOk P w G.K mg base CX0 3 f fd ["self"] (mkSp G R_Council_least) := by
  refine okD F sc_Council_least (fun ds r hR => ?_) (by decide) (fun cdv A outer s H E hr => ⟨_, (pss_cons (ps_asg (pe_lst pa_nil) (pg_name (i := 1) sc_Council_least.nd rfl (by first | exact Or.inl rfl | exact Or.inr rfl))) (pss_cons (ps_for PassesOwn.never rfl (k_pl G.K (pe_callF H_crowds_of (hr.mono (by decide)) rfl (pa_cons (k_fld G.K (pv 0) rfl) pa_nil))) (pg_name (i := 2) sc_Council_least.nd rfl (by first | exact Or.inl rfl | exact Or.inr rfl)) (pss_one (ps_if (PW.pt (pw_and (pt_val (pe_methF (pv 0) T.cl H_Council_bears (hr.mono (by decide)) (pa_cons (pv 2) pa_nil))) (pw_and1 (pt_not (k_truth G.K (pe_lc (own := [("one", 3)]) (g := gName 3) (tt := _) rfl sc_Council_least.nd (k_pl G.K (pv 1)) (blkOk_by (N := nm_Council_least) (sc := defScope s_Council_least) (by decide +kernel)) (fun _ _ _ _ _ => pg_name (i := 3) sc_Council_least.nd rfl (by first | exact Or.inl rfl | exact Or.inr rfl)) (fun _ _ _ _ _ => (pts_one (pt_val (pe_callF H_lies_in (hr.mono (by decide)) rfl (pa_cons (pv 3) (pa_cons (pv 2) pa_nil)))))) (fun _ _ _ _ _ => (pv 3))) (by intro _; rfl)))))) (pss_one (ps_expr (pe_bm PySem.F.plainAttrs_list PySem.F.slot_list_append PySem.F.type_list_append mt_append (pv 1) (pa_cons (pv 2) pa_nil)))) pss_nil))) (pss_one (ps_ret (pv 1))))), fun ds r hR => ?_⟩)
  · obtain ⟨n, told, rfl, hn, rfl⟩ := hR
    rfl
  · obtain ⟨n, told, rfl, hn, rfl⟩ := hR
    show WS G _ _ _ [.im (.cou n told), .no, .no, .no]
    refine ws_seq (ws_asgN (evn_lst evad_nil) ?_)
    refine ws_seq (ws_forL (crowdsOf n) eC (fun found : List Crowd => [.im (.cou n told), .own (found.map eC), .no, .no]) (fun found c => .go (leastStep told found c)) [] (evz_new (evn_call (ea1 (evd_size (evd_var rfl) T.cl T.nS)) ⟨n, rfl, hn, rfl⟩)) (by walk_at "weak") (fun i found c hc hf => ?_) ?_)
    · have hfound := fold_go_take (f := leastStep told) hf
      have hlen : found.length ≤ 32 := by
        rw [hfound]
        exact fold_least_len told _ i (crowdsOf_len hn)
      have lc := evn_lcL (G := G) (ρ := [.im (.cou n told), .own (found.map eC), .im (eC c), .no]) (vs := [3]) (j := 3) (tl := tVar 1) (tt := tB (tCall (mkSp G R_lies_in) [] E0 (tCons (tVar 3) (tCons (tVar 2) tNil)))) (te := tVar 3)
        found eC (fun t => liesIn t c) eC (evs_own rfl) (by omega) (by simp) (fun x _ => evt_B (evd_call (ea2 (evd_var rfl) (evd_var rfl)) ⟨x, c, rfl, rfl⟩)) (fun x _ _ => evd_var rfl)
      refine ws_when (b := bears told c && !(found.any fun t => liesIn t c)) (evt_and (evt_B (evd_meth (evd_var rfl) (ea1 (evd_var rfl)) ⟨n, told, c, rfl, rfl⟩)) (fun _ => evt_is (evt_not (evt_lst (evs_new lc))) ?_)) (fun hb => ?_) (fun hb => ?_)
      · rw [List.isEmpty_map, Bool.not_not]
        cases h : found.any fun t => liesIn t c with
        | false =>
          rw [List.filter_eq_nil_iff.mpr (fun a ha => by simpa using (List.any_eq_false.mp h) a ha)]
          rfl
        | true =>
          obtain ⟨a, ha, hl⟩ := List.any_eq_true.mp h
          cases q : found.filter fun t => liesIn t c with
          | nil => exact absurd (List.filter_eq_nil_iff.mp q a ha) (by simpa using hl)
          | cons _ _ => rfl
      · refine ws_append rfl (evd_var rfl) (by simp; omega) ⟨leastStep told found c, rfl, ?_⟩
        have e : leastStep told found c = found ++ [c] := by
          unfold leastStep
          rw [if_pos hb]
        rw [e]
        walk_at "weak"
      · refine ⟨leastStep told found c, rfl, ?_⟩
        have e : leastStep told found c = found := by
          unfold leastStep
          rw [if_neg (by rw [hb]; decide)]
        rw [e]
        walk_at "weak"
    · rw [fold_go]
      exact ws_retOwn rfl rfl

/-! #### either -/
abbrev s_either : Stmt := top 19
abbrev nm_either : List Str := ["one", "other"]
theorem sc_either : FnScope nm_either ["one", "other"] (defScope s_either) := ⟨rfl, rfl, rfl, by decide +kernel, rfl, by decide +kernel, by decide +kernel⟩
def R_either : List D → Res → Prop := fun ds r => ∃ (n m : Nat) (a b : List Crowd), ds = [.cou n a, .cou m b] ∧ 1 ≤ n ∧ n ≤ 5 ∧ r = if n = m then .val (.cou n (eitherOf n a b)) else .err .unlike
theorem ok_either (T : Txt G mg) {f : Addr} {fd : FuncData} (F : Fun G.K "either" "either" s_either f fd) (H_look_at_two : Fn G P w mg base "look_at_two" 2 ["one", "other"] R_look_at_two) (H_Council : Ini G P w mg base 2) (H_Council_least : Mt G P w mg base "least" 3 ["self"] R_Council_least) (H_Council_many : Mt G P w mg base "many" 1 ["self"] R_Council_many) : FnOk P w G.K mg base (L2.CX P w) 4 f fd ["one", "other"] (mkSp G R_either) := by
  refine okX F sc_either (fun ds r hR => ?_) (by decide) (fun cdv A outer s H E hr => ⟨_, (pss_cons (ps_expr (pe_callX H_look_at_two (hr.mono (by decide)) rfl (takes_of rfl rfl rfl rfl) (pa_cons (pv 0) (pa_cons (pv 1) pa_nil)))) (pss_one (ps_ret (pe_makeX H_Council (hr.mono (by decide)) rfl (takes_of rfl rfl rfl rfl) (pa_cons (pe_methF0 (pv 0) T.cl H_Council_many (hr.mono (by decide))) (pa_cons (pe_op op_cat (pe_methF0 (pv 0) T.cl H_Council_least (hr.mono (by decide))) (pe_methF0 (pv 1) T.cl H_Council_least (hr.mono (by decide)))) pa_nil)))))), fun ds r hR => ?_⟩)
  · obtain ⟨n, m, a, b, rfl, h1, h5, rfl⟩ := hR
    rfl
  · obtain ⟨n, m, a, b, rfl, h1, h5, rfl⟩ := hR
    show WS G _ _ _ [.im (.cou n a), .im (.cou m b)]
    refine ws_seq (ws_dropX (evx_call (ea2 (evd_var rfl) (evd_var rfl)) ⟨n, m, a, b, rfl, rfl⟩) ?_)
    by_cases h : n = m
    · subst h
      rw [if_pos rfl, if_pos rfl]
      have hl1 := least_len h5 a
      have hl2 := least_len h5 b
      exact ws_retX (r := .val (.cou n (eitherOf n a b))) (couRes_ok h1 h5 (either_good h5 a b) ▸ evx_make (cs := eitherOf n a b) (eva_cons (evd_meth (evd_var rfl) eva_nil ⟨n, a, rfl, rfl⟩) (ea1L (evs_new (evn_is (evn_cat (evs_new (evn_meth (evd_var rfl) eva_nil ⟨n, a, rfl, h5, rfl⟩)) (evs_new (evn_meth (evd_var rfl) eva_nil ⟨n, b, rfl, h5, rfl⟩)) (by simp; omega)) (es := (eitherOf n a b).map eC) (by unfold eitherOf; rw [List.map_append]))))) (by have := either_len h5 a b; omega)) rfl
    · rw [if_neg h, if_neg h]
      exact rfl

/-! #### without_them -/
abbrev s_without_them : Stmt := top 14
abbrev nm_without_them : List Str := ["crowd", "gone", "member"]
theorem sc_without_them : FnScope nm_without_them ["crowd", "gone"] (defScope s_without_them) := ⟨rfl, rfl, rfl, by decide +kernel, rfl, by decide +kernel, by decide +kernel⟩
def R_without_them : List D → Res → Prop := fun ds r => ∃ (c g : Crowd), ds = [eC c, eC g] ∧ c.length ≤ 100 ∧ r = .val (eC (lessThem c g))
theorem ok_without_them (T : Txt G mg) {f : Addr} {fd : FuncData} (F : Fun G.K "without_them" "without_them" s_without_them f fd)  : FnOk P w G.K mg base CX0 1 f fd ["crowd", "gone"] (mkSp G R_without_them) := by
  refine okD F sc_without_them (fun ds r hR => ?_) (by decide) (fun cdv A outer s H E hr => ⟨_, (pss_one (ps_ret (pe_callTy (k_tuple G.K) (by rfl) T.tuple (by decide +kernel) (pa_cons (pe_lc (own := [("member", 2)]) (g := gName 2) (tt := _) rfl sc_without_them.nd (k_pt G.K (pv 0)) (blkOk_by (N := nm_without_them) (sc := defScope s_without_them) (by decide +kernel)) (fun _ _ _ _ _ => pg_name (i := 2) sc_without_them.nd rfl (by first | exact Or.inl rfl | exact Or.inr rfl)) (fun _ _ _ _ _ => (pts_one (pt_cmpR (k_notIn G.K) (pv 2) (pv 1) rfl))) (fun _ _ _ _ _ => (pv 2))) pa_nil)))), fun ds r hR => ?_⟩)
  · obtain ⟨c, g, rfl, hc, rfl⟩ := hR
    rfl
  · obtain ⟨c, g, rfl, hc, rfl⟩ := hR
    show WS G _ _ _ [.im (eC c), .im (eC g), .no]
    exact ws_ret (evd_tupleL (evs_new (evn_lcT c D.int (fun m => !decide (m ∈ g)) D.int (evd_var rfl) (by omega) (by simp) (fun m _ => evt_test (evd_ninT (evd_var rfl) (evd_var rfl))) (fun m _ _ => evd_var rfl))) (by
      have := List.length_filter_le (fun m => !decide (m ∈ g)) c
      rw [List.length_map]
      omega)) rfl

/-! #### turned -/
abbrev s_turned : Stmt := top 20
abbrev nm_turned : List Str := ["council", "all_of_them", "crowds", "crowd"]
theorem sc_turned : FnScope nm_turned ["council"] (defScope s_turned) := ⟨rfl, rfl, rfl, by decide +kernel, rfl, by decide +kernel, by decide +kernel⟩
def R_turned : List D → Res → Prop := fun ds r => ∃ (n : Nat) (told : List Crowd), ds = [.cou n told] ∧ 1 ≤ n ∧ n ≤ 5 ∧ r = .val (.cou n (turnedOf n told))
theorem ok_turned (T : Txt G mg) {f : Addr} {fd : FuncData} (F : Fun G.K "turned" "turned" s_turned f fd) (H_Council_many : Mt G P w mg base "many" 1 ["self"] R_Council_many) (H_crowds_of : Fn G P w mg base "crowds_of" 1 ["many"] R_crowds_of) (H_Council_carries : Mt G P w mg base "carries" 3 ["self", "crowd"] R_Council_carries) (H_without_them : Fn G P w mg base "without_them" 1 ["crowd", "gone"] R_without_them) (H_Council : Ini G P w mg base 2) : FnOk P w G.K mg base CX0 4 f fd ["council"] (mkSp G R_turned) := by
  refine okD F sc_turned (fun ds r hR => ?_) (by decide) (fun cdv A outer s H E hr => ⟨_, (pss_cons (ps_asg (pe_tupRg rfl rfl T.tuple (by exact (prg_1 rfl T.range (pe_methF0 (pv 0) T.cl H_Council_many (hr.mono (by decide)))))) (pg_name (i := 1) sc_turned.nd rfl (by first | exact Or.inl rfl | exact Or.inr rfl))) (pss_cons (ps_setLc (i := 2) (own := [("crowd", 3)]) (g := gName 3) (tt := _) rfl sc_turned.nd rfl rfl (sw_true rfl rfl rfl (by decide +kernel)) (k_pl G.K (pe_callF H_crowds_of (hr.mono (by decide)) rfl (pa_cons (pe_methF0 (pv 0) T.cl H_Council_many (hr.mono (by decide))) pa_nil))) (blkOk_by (N := nm_turned) (sc := defScope s_turned) (by decide +kernel)) (fun _ _ _ _ _ => pg_name (i := 3) sc_turned.nd rfl (by first | exact Or.inl rfl | exact Or.inr rfl)) (fun _ _ _ _ _ => (pts_one (pt_not (pt_val (pe_methF (pv 0) T.cl H_Council_carries (hr.mono (by decide)) (pa_cons (pe_callF H_without_them (hr.mono (by decide)) rfl (pa_cons (pv 1) (pa_cons (pv 3) pa_nil))) pa_nil)))))) (fun _ _ _ _ _ => (pv 3))) (pss_one (ps_ret (pe_makeF H_Council (hr.mono (by decide)) rfl (pa_cons (pe_methF0 (pv 0) T.cl H_Council_many (hr.mono (by decide))) (pa_cons (pv 2) pa_nil))))))), fun ds r hR => ?_⟩)
  · obtain ⟨n, told, rfl, h1, h5, rfl⟩ := hR
    rfl
  · obtain ⟨n, told, rfl, h1, h5, rfl⟩ := hR
    show WS G _ _ _ [.im (.cou n told), .no, .no, .no]
    have hcl := crowdsOf_len h5
    have rl : (rng n).length = n := by simp [rng]
    refine ws_seq (ws_asgD (i := 1) (d := eC (rng n)) (evd_is (evd_tupRg (n := (n : Int)) (evd_meth (evd_var rfl) eva_nil ⟨n, told, rfl, rfl⟩) (by omega)) (by simp [rng, eC, List.map_map, Function.comp_def])) ?_)
    refine ws_seq (ws_asgN (i := 2) (evn_is (evn_lcL (crowdsOf n) eC (fun c => !bears told (lessThem (rng n) c)) eC (evs_new (evn_call (ea1 (evd_meth (evd_var rfl) eva_nil ⟨n, told, rfl, rfl⟩)) ⟨n, rfl, h5, rfl⟩)) (by omega) (by simp) (fun c hc =>
        evt_not (evt_B (evd_meth (evd_var rfl) (ea1 (evd_call (ea2 (evd_var rfl) (evd_var rfl)) ⟨rng n, c, rfl, by omega, rfl⟩)) ⟨n, told, lessThem (rng n) c, rfl, by rw [if_pos (less_ok c)]⟩))) (fun c _ _ => evd_var rfl)) (es := (turnedOf n told).map eC) rfl) ?_)
    exact ws_ret (evd_x (Ex := E0) (couRes_ok h1 h5 (filter_good h5 _) ▸ evx_make (cs := turnedOf n told) (eva_cons (evd_meth (evd_var rfl) eva_nil ⟨n, told, rfl, rfl⟩) (ea1L (evs_own rfl))) (by have := turned_len h5 told; omega))) rfl

/-! #### Council.look_for -/
abbrev s_Council_look_for : Stmt := inClass (top 13) 5
abbrev nm_Council_look_for : List Str := ["self", "member"]
theorem sc_Council_look_for : FnScope nm_Council_look_for ["self", "member"] (defScope s_Council_look_for) := ⟨rfl, rfl, rfl, by decide +kernel, rfl, by decide +kernel, by decide +kernel⟩
def R_Council_look_for : List D → Res → Prop := fun ds r => ∃ (n : Int) (told : List Crowd) (m : Int), ds = [.cou n told, .int m] ∧ r = if m < 0 ∨ m ≥ n then .err .member else .val .non
theorem ok_Council_look_for (T : Txt G mg) {f : Addr} {fd : FuncData} (F : Fun G.K "look_for" "Council.look_for" s_Council_look_for f fd) (X_NoMember : ExT G mg "NoMember" (G.ex .member)) : FnOk P w G.K mg base (L2.CX P w) 1 f fd ["self", "member"] (mkSp G R_Council_look_for) := by
  refine okX F sc_Council_look_for (fun ds r hR => ?_) (by decide) (fun cdv A outer s H E hr => ⟨_, (pss_one (ps_if (PW.pt (pw_or (pt_cmpR op_lt (pv 1) pe_int (nomark _)) (pw_or1 (pt_cmpR op_ge (pv 1) (k_fld G.K (pv 0) rfl) (nomark _))))) (pss_one (ps_raise rfl (takes_of rfl rfl rfl rfl) (pmk_own PySem.F.excBase_ValueError X_NoMember.x X_NoMember.g X_NoMember.k (raises_own X_NoMember.b X_NoMember.t) rfl))) pss_nil)), fun ds r hR => ?_⟩)
  · obtain ⟨n, told, m, rfl, rfl⟩ := hR
    rfl
  · obtain ⟨n, told, m, rfl, rfl⟩ := hR
    show WS G _ _ _ [.im (.cou n told), .im (.int m)]
    refine ws_when (evt_or (evt_test (evd_lt (evd_var rfl) evd_int)) (fun _ => evt_test (evd_ge (evd_var rfl) (evd_size (evd_var rfl) T.cl T.nS)))) (fun hb => ws_raise (e := .member) ?_) (fun hb => ?_)
    · have h : m < 0 ∨ m ≥ n := by simpa using hb
      show _ = _
      rw [if_pos h]
    · have h : ¬ (m < 0 ∨ m ≥ n) := by
        simp only [Bool.or_eq_false_iff, decide_eq_false_iff_not] at hb
        omega
      show _ = _
      rw [if_neg h]

/-! #### with_them -/
abbrev s_with_them : Stmt := top 15
abbrev nm_with_them : List Str := ["crowd", "more"]
theorem sc_with_them : FnScope nm_with_them ["crowd", "more"] (defScope s_with_them) := ⟨rfl, rfl, rfl, by decide +kernel, rfl, by decide +kernel, by decide +kernel⟩
def R_with_them : List D → Res → Prop := fun ds r => ∃ (c m : Crowd), ds = [eC c, eC m] ∧ c.length ≤ 30 ∧ m.length ≤ 30 ∧ r = .val (eC (withThem c m))
theorem ok_with_them (T : Txt G mg) {f : Addr} {fd : FuncData} (F : Fun G.K "with_them" "with_them" s_with_them f fd)  : FnOk P w G.K mg base CX0 1 f fd ["crowd", "more"] (mkSp G R_with_them) := by
  refine okD F sc_with_them (fun ds r hR => ?_) (by decide) (fun cdv A outer s H E hr => ⟨_, (pss_one (ps_ret (pe_callTy (k_tuple G.K) (by rfl) T.tuple (by decide +kernel) (pa_cons (pe_callB (k_sortedSet w rfl) (by rfl) T.sorted (by decide +kernel) (pa_cons (pe_callTy (k_setT G.K w rfl) (by rfl) T.set (by decide +kernel) (pa_cons (pe_op (k_catA G.K) (pv 0) (pv 1)) pa_nil)) pa_nil)) pa_nil)))), fun ds r hR => ?_⟩)
  · obtain ⟨c, m, rfl, hc, hm, rfl⟩ := hR
    rfl
  · obtain ⟨c, m, rfl, hc, hm, rfl⟩ := hR
    show WS G _ _ _ [.im (eC c), .im (eC m)]
    refine ws_ret (evd_tupleL (evs_new (evn_sortedSet (ns := c ++ m) (evd_is (evd_catT (ds := c.map .int) (es := m.map .int) (evd_var rfl) (evd_var rfl) (by simp; omega)) (by rw [List.map_append])) (by simp; omega) (sortU_sorted (c ++ m)) (fun k => sortU_mem))) (by have := sortU_len (c ++ m); simp at *; omega)) rfl

/-! #### without -/
abbrev s_without : Stmt := top 21
abbrev nm_without : List Str := ["council", "member", "carried", "crowds", "crowd", "elder", "one"]
theorem sc_without : FnScope nm_without ["council", "member", "carried"] (defScope s_without) := ⟨rfl, rfl, rfl, by decide +kernel, rfl, by decide +kernel, by decide +kernel⟩
def R_without : List D → Res → Prop := fun ds r => ∃ (n : Nat) (told : List Crowd) (m : Int) (carried : Bool), ds = [.cou n told, .int m, .bl carried] ∧ n ≤ 5 ∧ r = if m < 0 ∨ m ≥ n then .err .member else if n = 1 then .err .size else .val (.cou ((n - 1 : Nat) : Int) (withoutOf n told m carried))
theorem ok_without (T : Txt G mg) {f : Addr} {fd : FuncData} (F : Fun G.K "without" "without" s_without f fd) (H_Council_look_for : Mt G P w mg base "look_for" 1 ["self", "member"] R_Council_look_for) (H_Council_many : Mt G P w mg base "many" 1 ["self"] R_Council_many) (H_crowds_of : Fn G P w mg base "crowds_of" 1 ["many"] R_crowds_of) (H_with_them : Fn G P w mg base "with_them" 1 ["crowd", "more"] R_with_them) (H_Council_carries : Mt G P w mg base "carries" 3 ["self", "crowd"] R_Council_carries) (H_Council : Ini G P w mg base 2) (X_BadSize : ExT G mg "BadSize" (G.ex .size)) : FnOk P w G.K mg base (L2.CX P w) 4 f fd ["council", "member", "carried"] (mkSp G R_without) := by
  refine okX F sc_without (fun ds r hR => ?_) (by decide) (fun cdv A outer s H E hr => ⟨_, (pss_cons (ps_expr (pe_methX (pv 0) T.cl H_Council_look_for (hr.mono (by decide)) (takes_of rfl rfl rfl rfl) (pa_cons (pv 1) pa_nil))) (pss_cons (ps_if (pt_cmpR op_eq (pe_methF0 (pv 0) T.cl H_Council_many (hr.mono (by decide))) pe_int (nomark _)) (pss_one (ps_raise rfl (takes_of rfl rfl rfl rfl) (pmk_own PySem.F.excBase_ValueError X_BadSize.x X_BadSize.g X_BadSize.k (raises_own X_BadSize.b X_BadSize.t) rfl))) pss_nil) (pss_cons (ps_asg (pe_lst pa_nil) (pg_name (i := 3) sc_without.nd rfl (by first | exact Or.inl rfl | exact Or.inr rfl))) (pss_cons (ps_for (passes_of rfl) rfl (k_pl G.K (pe_callF H_crowds_of (hr.mono (by decide)) rfl (pa_cons (pe_op op_sub (pe_methF0 (pv 0) T.cl H_Council_many (hr.mono (by decide))) pe_int) pa_nil))) (pg_name (i := 4) sc_without.nd rfl (by first | exact Or.inl rfl | exact Or.inr rfl)) (pss_cons (ps_asg (pe_callTy (k_tuple G.K) (by rfl) T.tuple (by decide +kernel) (pa_cons (pe_lc (own := [("one", 6)]) (g := gName 6) (tt := tYes) rfl sc_without.nd (k_pt G.K (pv 4)) (blkOk_by (N := nm_without) (sc := defScope s_without) (by decide +kernel)) (fun _ _ _ _ _ => pg_name (i := 6) sc_without.nd rfl (by first | exact Or.inl rfl | exact Or.inr rfl)) (fun _ _ _ _ _ => pts_nil) (fun _ _ _ _ _ => (pe_op op_add (pv 6) (pe_callTy call_int1 (by rfl) T.int (by decide +kernel) (pa_cons (pe_cmpR op_ge (pv 6) (pv 1) (nomark _)) pa_nil))))) pa_nil)) (pg_name (i := 5) sc_without.nd rfl (by first | exact Or.inl rfl | exact Or.inr rfl))) (pss_cons (ps_if (pt_val (pv 2)) (pss_one (ps_asg (pe_callF H_with_them (hr.mono (by decide)) rfl (pa_cons (pv 5) (pa_cons (pe_tup (pa_cons (pv 1) pa_nil)) pa_nil))) (pg_name (i := 5) sc_without.nd rfl (by first | exact Or.inl rfl | exact Or.inr rfl)))) pss_nil) (pss_one (ps_if (pt_val (pe_methX (pv 0) T.cl H_Council_carries (hr.mono (by decide)) (takes_of rfl rfl rfl rfl) (pa_cons (pv 5) pa_nil))) (pss_one (ps_expr (pe_bm PySem.F.plainAttrs_list PySem.F.slot_list_append PySem.F.type_list_append mt_append (pv 3) (pa_cons (pv 4) pa_nil)))) pss_nil))))) (pss_one (ps_ret (pe_makeX H_Council (hr.mono (by decide)) rfl (takes_of rfl rfl rfl rfl) (pa_cons (pe_op op_sub (pe_methF0 (pv 0) T.cl H_Council_many (hr.mono (by decide))) pe_int) (pa_cons (pv 3) pa_nil))))))))), fun ds r hR => ?_⟩)
  · obtain ⟨n, told, m, carried, rfl, h5, rfl⟩ := hR
    rfl
  · obtain ⟨n, told, m, carried, rfl, h5, rfl⟩ := hR
    show WS G _ _ _ [.im (.cou n told), .im (.int m), .im (.bl carried), .no, .no, .no, .no]
    refine ws_seq (ws_dropX (evx_meth (evd_var rfl) (ea1 (evd_var rfl)) ⟨n, told, m, rfl, rfl⟩) ?_)
    by_cases hm : m < 0 ∨ m ≥ n
    · rw [if_pos hm, if_pos hm]
      exact rfl
    · rw [if_neg hm, if_neg hm]
      by_cases h1 : n = 1
      · rw [if_pos h1]
        exact ws_seq (ws_when (evt_test (evd_eqI (evd_meth (evd_var rfl) eva_nil ⟨n, told, rfl, rfl⟩) evd_int)) (fun _ => ws_raise (e := .size) rfl) (fun z => by
          exfalso
          simp at z
          omega))
      · rw [if_neg h1]
        refine ws_seq (ws_when (evt_test (evd_eqI (evd_meth (evd_var rfl) eva_nil ⟨n, told, rfl, rfl⟩) evd_int)) (fun z => by
          exfalso
          simp at z
          omega) (fun _ => ?_))
        have n2 : 2 ≤ n := by omega
        have en : (n : Int) - 1 = ((n - 1 : Nat) : Int) := by omega
        have h5' : n - 1 ≤ 5 := by omega
        have hcl := crowdsOf_len h5'
        refine ws_seq (ws_asgN (i := 3) (evn_lst evad_nil) ?_)
        refine ws_seq (ws_forL (crowdsOf (n - 1)) eC (fun found : List Crowd => [.im (.cou n told), .im (.int m), .im (.bl carried), .own (found.map eC), .no, .no, .no]) (fun found c => .go (if bears told (elder m carried c) = true then found ++ [c] else found)) [] (evz_new (evn_call (ea1 (evd_is (evd_sub (evd_meth (evd_var rfl) eva_nil ⟨n, told, rfl, rfl⟩) evd_int) (by rw [en]))) ⟨n - 1, rfl, h5', rfl⟩)) (by walk_at "weak") (fun i found c hc hf => ?_) ?_)
        · have gc := cs_good h5' (List.mem_of_getElem? hc)
          have hfound := fold_go_take (f := fun (found : List Crowd) (c : Crowd) => if bears told (elder m carried c) = true then found ++ [c] else found) hf
          have hl := foldl_pick_len (fun c => bears told (elder m carried c)) (fun c : Crowd => c) (crowdsOf (n - 1)) i
          rw [← hfound] at hl
          have hlen : found.length ≤ 32 := by omega
          clear hf hfound hl
          have e0l : (elder0 m c).length = c.length := by unfold elder0; rw [List.length_map]
          have okE := elder_ok (n := n) (m := m) (by omega) carried gc.1 (by omega)
          refine ws_seq (ws_asgD (i := 5) (d := eC (elder0 m c)) (evd_tupleL (evs_new (evn_is (evn_lcT c D.int (fun _ => true) (fun one => .int (one + if one ≥ m then 1 else 0)) (evd_var rfl) (by omega) (by simp) (fun _ _ => evt_yes) (fun one _ _ => evd_is (evd_add (evd_var rfl) (evd_intB (evd_ge (evd_var rfl) (evd_var rfl)))) (by simp))) (es := (elder0 m c).map .int) (by rw [filter_yes]; simp [elder0, List.map_map, Function.comp_def]))) (by rw [List.length_map]; omega)) ?_)
          refine ws_seq (ws_mono (k := { nx := fun ρ' => ρ' = [.im (.cou n told), .im (.int m), .im (.bl carried), .own (found.map eC), .im (eC c), .im (eC (elder m carried c)), .no], rt := fun _ => False }) (ws_when (b := carried) (evt_B (evd_var rfl)) (fun hb => ?_) (fun hb => ?_)) (fun ρ' e => ?_) (fun _ z => z.elim) (fun _ z => z.elim) (fun _ z => z.elim) (fun _ z => z.elim))
          · subst hb
            refine ws_asgD (i := 5) (evd_call (ea2 (evd_var rfl) (evd_tup (evad_cons (evd_var rfl) evad_nil))) ⟨elder0 m c, [m], rfl, by omega, by simp, rfl⟩) ?_
            rfl
          · subst hb
            rfl
          · subst e
            refine ws_when (b := bears told (elder m carried c)) (evt_B (evd_meth (evd_var rfl) (ea1 (evd_var rfl)) ⟨n, told, _, rfl, by rw [if_pos okE]⟩)) (fun hb => ?_) (fun hb => ?_)
            · refine ws_append rfl (evd_var rfl) (by simp; omega) ⟨_, rfl, ?_⟩
              rw [if_pos hb]
              walk_at "weak"
            · refine ⟨_, rfl, ?_⟩
              rw [if_neg (by rw [hb]; decide)]
              walk_at "weak"
        · have e : (crowdsOf (n - 1)).foldl (fun (found : List Crowd) (c : Crowd) => if bears told (elder m carried c) = true then found ++ [c] else found) [] = withoutOf n told m carried := by
            have h := foldl_pick (fun c => bears told (elder m carried c)) (fun c : Crowd => c) (crowdsOf (n - 1)) []
            rw [h]
            simp [withoutOf]
          rw [fold_go, e]
          have wl := without_len h5 told m carried
          exact ws_retX (r := .val (.cou ((n - 1 : Nat) : Int) (withoutOf n told m carried))) (evx_is (evx_make (cs := withoutOf n told m carried) (eva_cons (evd_is (evd_sub (evd_meth (evd_var rfl) eva_nil ⟨n, told, rfl, rfl⟩) evd_int) (by rw [en])) (ea1L (evs_own rfl))) (by omega)) (couRes_ok (by omega) h5' (filter_good h5' _))) rfl

/-! #### weight_of -/
abbrev s_weight_of : Stmt := top 40
abbrev nm_weight_of : List Str := ["weights", "crowd", "member"]
theorem sc_weight_of : FnScope nm_weight_of ["weights", "crowd"] (defScope s_weight_of) := ⟨rfl, rfl, rfl, by decide +kernel, rfl, by decide +kernel, by decide +kernel⟩
theorem ws_at {ws : List Int} {i : Int} (h0 : 0 ≤ i) (h1 : i < ws.length) : (ws.map D.int)[i.toNat]? = some (.int (ws.getD i.toNat 0)) := by
  rw [List.getElem?_map, List.getD_eq_getElem?_getD]
  have h : i.toNat < ws.length := by omega
  rw [List.getElem?_eq_getElem h]
  rfl
def R_weight_of : List D → Res → Prop := fun ds r => ∃ (ws : List Int) (c : Crowd), ds = [.lst (ws.map .int), eC c] ∧ c.length ≤ 1000 ∧ (∀ m ∈ c, 0 ≤ m ∧ m < ws.length) ∧ r = .val (.int (weigh ws c))
theorem ok_weight_of (T : Txt G mg) {f : Addr} {fd : FuncData} (F : Fun G.K "weight_of" "weight_of" s_weight_of f fd)  : FnOk P w G.K mg base CX0 1 f fd ["weights", "crowd"] (mkSp G R_weight_of) := by
  refine okD F sc_weight_of (fun ds r hR => ?_) (by decide) (fun cdv A outer s H E hr => ⟨_, (pss_one (ps_ret (pe_callB (k_sum G.K rfl) (by rfl) T.sum (by decide +kernel) (pa_cons (pe_lc (own := [("member", 2)]) (g := gName 2) (tt := tYes) rfl sc_weight_of.nd (k_pt G.K (pv 1)) (blkOk_by (N := nm_weight_of) (sc := defScope s_weight_of) (by decide +kernel)) (fun _ _ _ _ _ => pg_name (i := 2) sc_weight_of.nd rfl (by first | exact Or.inl rfl | exact Or.inr rfl)) (fun _ _ _ _ _ => pts_nil) (fun _ _ _ _ _ => (pe_ix (k_ixL G.K) (pv 0) (pv 2) (fun _ _ => rfl)))) pa_nil)))), fun ds r hR => ?_⟩)
  · obtain ⟨ws, c, rfl, hc, hm, rfl⟩ := hR
    rfl
  · obtain ⟨ws, c, rfl, hc, hm, rfl⟩ := hR
    show WS G _ _ _ [.ar (ws.map .int), .im (eC c), .no]
    exact ws_ret (evd_is (evd_sum (ns := c.map fun i => ws.getD i.toNat 0) (evs_new (evn_is (evn_lcT c D.int (fun _ => true) (fun i => .int (ws.getD i.toNat 0)) (evd_var rfl) (by omega) (by simp) (fun _ _ => evt_yes) (fun i hi _ =>
        evd_ixL (j := i.toNat) (evs_ar rfl) (evd_var rfl) (by have := hm i hi; omega) (ws_at (hm i hi).1 (hm i hi).2))) (by rw [filter_yes]; simp [List.map_map, Function.comp_def])))) (y := .int (weigh ws c)) rfl) rfl

/-! #### by_weights -/
abbrev s_by_weights : Stmt := top 41
abbrev nm_by_weights : List Str := ["weights", "bar", "many", "crowd"]
theorem sc_by_weights : FnScope nm_by_weights ["weights", "bar"] (defScope s_by_weights) := ⟨rfl, rfl, rfl, by decide +kernel, rfl, by decide +kernel, by decide +kernel⟩
def R_by_weights : List D → Res → Prop := fun ds r => ∃ (ws : List Int) (bar : Int), ds = [.lst (ws.map .int), .int bar] ∧ ws.length ≤ 100 ∧ r = byWeights ws bar
theorem ok_by_weights (T : Txt G mg) {f : Addr} {fd : FuncData} (F : Fun G.K "by_weights" "by_weights" s_by_weights f fd) (H_Council : Ini G P w mg base 2) (H_crowds_of : Fn G P w mg base "crowds_of" 1 ["many"] R_crowds_of) (H_weight_of : Fn G P w mg base "weight_of" 1 ["weights", "crowd"] R_weight_of) (X_BadSize : ExT G mg "BadSize" (G.ex .size)) (X_BadWeights : ExT G mg "BadWeights" (G.ex .weights)) (c_MOST : ∃ v, mg "MOST" = some v ∧ RelV (.int 5) v) : FnOk P w G.K mg base (L2.CX P w) 4 f fd ["weights", "bar"] (mkSp G R_by_weights) := by
  obtain ⟨v_MOST, g_MOST, r_MOST⟩ := c_MOST
  refine okX F sc_by_weights (fun ds r hR => ?_) (by decide) (fun cdv A outer s H E hr => ⟨_, (pss_cons (ps_asg (pe_callB (k_len G.K) (by rfl) T.len PySem.boot_len (pa_cons (pv 0) pa_nil)) (pg_name (i := 2) sc_by_weights.nd rfl (by first | exact Or.inl rfl | exact Or.inr rfl))) (pss_cons (ps_if (PW.pt (pw_or (pt_cmpR op_lt (pv 2) pe_int (nomark _)) (pw_or1 (pt_cmpR op_gt (pv 2) (pe_glob rfl g_MOST r_MOST) (nomark _))))) (pss_one (ps_raise rfl (takes_of rfl rfl rfl rfl) (pmk_own PySem.F.excBase_ValueError X_BadSize.x X_BadSize.g X_BadSize.k (raises_own X_BadSize.b X_BadSize.t) rfl))) pss_nil) (pss_cons (ps_if (PW.pt (pw_or (pt_cmpR op_lt (pv 1) pe_int (nomark _)) (pw_or1 (pt_cmpR op_lt (pe_callB (k_min G.K rfl) (by rfl) T.min (by decide +kernel) (pa_cons (pv 0) pa_nil)) pe_int (nomark _))))) (pss_one (ps_raise rfl (takes_of rfl rfl rfl rfl) (pmk_own PySem.F.excBase_ValueError X_BadWeights.x X_BadWeights.g X_BadWeights.k (raises_own X_BadWeights.b X_BadWeights.t) rfl))) pss_nil) (pss_one (ps_ret (pe_makeX H_Council (hr.mono (by decide)) rfl (takes_of rfl rfl rfl rfl) (pa_cons (pv 2) (pa_cons (pe_lc (own := [("crowd", 3)]) (g := gName 3) (tt := _) rfl sc_by_weights.nd (k_pl G.K (pe_callF H_crowds_of (hr.mono (by decide)) rfl (pa_cons (pv 2) pa_nil))) (blkOk_by (N := nm_by_weights) (sc := defScope s_by_weights) (by decide +kernel)) (fun _ _ _ _ _ => pg_name (i := 3) sc_by_weights.nd rfl (by first | exact Or.inl rfl | exact Or.inr rfl)) (fun _ _ _ _ _ => (pts_one (pt_cmpR op_ge (pe_callF H_weight_of (hr.mono (by decide)) rfl (pa_cons (pv 0) (pa_cons (pv 3) pa_nil))) (pv 1) (nomark _)))) (fun _ _ _ _ _ => (pv 3))) pa_nil)))))))), fun ds r hR => ?_⟩)
  · obtain ⟨ws, bar, rfl, hw, rfl⟩ := hR
    rfl
  · obtain ⟨ws, bar, rfl, hw, rfl⟩ := hR
    show WS G _ _ _ [.ar (ws.map .int), .im (.int bar), .no, .no]
    refine ws_seq (ws_asgD (i := 2) (evd_is (evd_lenL (evs_ar rfl)) (y := .int (ws.length : Int)) (by rw [List.length_map])) ?_)
    by_cases h1 : ws.length < 1 ∨ ws.length > 5
    · have e : byWeights ws bar = .err .size := by unfold byWeights; rw [if_pos h1]
      rw [e]
      exact ws_seq (ws_when (evt_or (evt_test (evd_lt (evd_var rfl) evd_int)) (fun _ => evt_test (evd_gt (evd_var rfl) evd_int))) (fun _ => ws_raise (e := .size) rfl) (fun h => by
        exfalso
        simp at h
        omega))
    · refine ws_seq (ws_when (evt_or (evt_test (evd_lt (evd_var rfl) evd_int)) (fun _ => evt_test (evd_gt (evd_var rfl) evd_int))) (fun h => by
        exfalso
        simp at h
        omega) (fun _ => ?_))
      obtain ⟨m, m1, m2⟩ := ex_min (ws := ws) (by intro z; subst z; simp at h1)
      by_cases h2 : bar < 0 ∨ (ws.any fun x => decide (x < 0)) = true
      · have e : byWeights ws bar = .err .weights := by unfold byWeights; rw [if_neg h1, if_pos h2]
        rw [e]
        refine ws_seq (ws_when (evt_or (evt_test (evd_lt (evd_var rfl) evd_int)) (fun _ => evt_test (evd_lt (evd_min (evs_ar rfl) m1 m2) evd_int))) (fun _ => ws_raise (e := .weights) rfl) (fun h => ?_))
        exfalso
        rw [min_neg m1 m2, Bool.or_eq_false_iff] at h
        rcases h2 with q | q
        · exact absurd q (of_decide_eq_false h.1)
        · rw [q] at h
          exact absurd h.2 (by decide)
      · have e : byWeights ws bar = .val (.cou ws.length (byCrowds ws bar)) := by unfold byWeights; rw [if_neg h1, if_neg h2]
        rw [e]
        refine ws_seq (ws_when (evt_or (evt_test (evd_lt (evd_var rfl) evd_int)) (fun _ => evt_test (evd_lt (evd_min (evs_ar rfl) m1 m2) evd_int))) (fun h => ?_) (fun _ => ?_))
        · exfalso
          rw [min_neg m1 m2, Bool.or_eq_true] at h
          rcases h with q | q
          · exact h2 (.inl (of_decide_eq_true q))
          · exact h2 (.inr q)
        have h5 : ws.length ≤ 5 := by omega
        exact ws_retX (r := .val (.cou ws.length (byCrowds ws bar))) (couRes_ok (by omega) h5 (by_good h5) ▸ evx_make (cs := byCrowds ws bar) (eva_cons (evd_var rfl) (ea1L (evs_new (evn_is (evn_lcL (crowdsOf ws.length) eC (fun c => decide (bar ≤ weigh ws c)) eC (evs_new (evn_call (ea1 (evd_var rfl)) ⟨ws.length, rfl, h5, rfl⟩)) (by have := crowdsOf_len h5; omega) (by simp) (fun c hc =>
          evt_test (evd_ge (evd_call (eva_consL (evs_ar rfl) (ea1 (evd_var rfl))) ⟨ws, c, rfl, by have := (cs_good h5 hc).2; omega, crowdOk_mem (cs_good h5 hc).1, rfl⟩) (evd_var rfl))) (fun c _ _ => evd_var rfl)) (es := (byCrowds ws bar).map eC) rfl)))) (by have := byCrowds_len (bar := bar) h5; omega)) rfl

/-! #### number_of -/
abbrev s_number_of : Stmt := top 29
abbrev nm_number_of : List Str := ["word"]
theorem sc_number_of : FnScope nm_number_of ["word"] (defScope s_number_of) := ⟨rfl, rfl, rfl, by decide +kernel, rfl, by decide +kernel, by decide +kernel⟩
theorem lit_figs : Str.ofString "0123456789" = st [48, 49, 50, 51, 52, 53, 54, 55, 56, 57] := by decide +kernel
theorem fig_at : ∀ k < 10, Builtin.Str.occurrences (st [48, 49, 50, 51, 52, 53, 54, 55, 56, 57]) (st [48 + k]) 0 (st [48, 49, 50, 51, 52, 53, 54, 55, 56, 57]).length 1 = [k] := by decide +kernel
def R_number_of : List D → Res → Prop := fun ds r => ∃ w : List Nat, ds = [.str (st w)] ∧ w.length ≤ 10000 ∧ r = (match numL w with | some i => .val (.int i) | none => .err .note)
theorem ok_number_of (T : Txt G mg) {f : Addr} {fd : FuncData} (F : Fun G.K "number_of" "number_of" s_number_of f fd) (X_BadNote : ExT G mg "BadNote" (G.ex .note)) (c_FIGURES : ∃ v, mg "FIGURES" = some v ∧ RelV (.str "0123456789") v) : FnOk P w G.K mg base (L2.CX P w) 1 f fd ["word"] (mkSp G R_number_of) := by
  obtain ⟨v_FIGURES, g_FIGURES, r_FIGURES⟩ := c_FIGURES
  refine okX F sc_number_of (fun ds r hR => ?_) (by decide) (fun cdv A outer s H E hr => ⟨_, (pss_cons (ps_if (PW.pt (pw_or (pt_cmpR op_ne (pe_callB call_len_str (by rfl) T.len PySem.boot_len (pa_cons (pv 0) pa_nil)) pe_int (nomark _)) (pw_or1 (pt_cmpR op_notin_str (pv 0) (pe_glob rfl g_FIGURES r_FIGURES) rfl)))) (pss_one (ps_raise rfl (takes_of rfl rfl rfl rfl) (pmk_own PySem.F.excBase_ValueError X_BadNote.x X_BadNote.g X_BadNote.k (raises_own X_BadNote.b X_BadNote.t) rfl))) pss_nil) (pss_one (ps_ret (k_indexS (pe_glob rfl g_FIGURES r_FIGURES) (pv 0))))), fun ds r hR => ?_⟩)
  · obtain ⟨w, rfl, hw, rfl⟩ := hR
    rfl
  · obtain ⟨w, rfl, hw, rfl⟩ := hR
    show WS G _ _ _ [.im (.str (st w))]
    by_cases h1 : w.length = 1
    · obtain ⟨c, rfl⟩ : ∃ c, w = [c] := by
        cases w with
        | nil => cases h1
        | cons c r =>
          cases r with
          | nil => exact ⟨c, rfl⟩
          | cons x y => simp at h1
      have ein : decide (c ∈ [48, 49, 50, 51, 52, 53, 54, 55, 56, 57]) = decide (48 ≤ c ∧ c ≤ 57) := decide_eq_decide.mpr (by simp; omega)
      have test := evt_or (G := G) (ρ := [.im (.str (st [c]))]) (evt_test (evd_neI (evd_lenSt (evd_var (i := 0) rfl) (by simp)) (evd_int (i := 1)))) (fun _ => evt_test (evd_ninS (c := c) (l := [48, 49, 50, 51, 52, 53, 54, 55, 56, 57]) (evd_var (i := 0) rfl) (evd_lit lit_figs)))
      by_cases h2 : 48 ≤ c ∧ c ≤ 57
      · have en : numL [c] = some ((c - 48 : Nat) : Int) := by unfold numL; exact if_pos h2
        rw [en]
        refine ws_seq (ws_when test (fun h => ?_) (fun _ => ?_))
        · rw [ein, decide_eq_true h2] at h
          simp at h
        · obtain ⟨k, rfl⟩ : ∃ k, c = 48 + k := ⟨c - 48, by omega⟩
          exact ws_ret (evd_is (evd_indexS (evd_lit lit_figs) (evd_var rfl) (fig_at k (by omega))) (y := .int ((48 + k - 48 : Nat) : Int)) (by rw [Nat.add_sub_cancel_left])) rfl
      · have en : numL [c] = none := by unfold numL; exact if_neg h2
        rw [en]
        refine ws_seq (ws_when test (fun _ => ws_raise (e := .note) rfl) (fun h => ?_))
        rw [ein, decide_eq_false h2] at h
        simp at h
    · have en : numL w = none := by
        unfold numL
        split
        · simp at h1
        · rfl
      rw [en]
      refine ws_seq (ws_when (b := true) (evt_is (b := (!decide ((w.length : Int) = 1)) || true) (fun F0 H0 F H σ E Q q => (evt_test (evd_neI (evd_lenSt (evd_var rfl) (by omega)) evd_int)) F0 H0 F H σ E _ fun F1 H1 g => ?_) (by simp)) (fun _ => ws_raise (e := .note) rfl) (fun h => nomatch h))
      have e : (!decide ((w.length : Int) = 1)) = true := by simp; omega
      rw [e] at q ⊢
      exact q F1 H1 g

/-! #### crowd_of -/
abbrev s_crowd_of : Stmt := top 30
abbrev nm_crowd_of : List Str := ["word", "part"]
theorem sc_crowd_of : FnScope nm_crowd_of ["word"] (defScope s_crowd_of) := ⟨rfl, rfl, rfl, by decide +kernel, rfl, by decide +kernel, by decide +kernel⟩
def R_crowd_of : List D → Res → Prop := fun ds r => ∃ (w : List Nat) (c : Crowd), ds = [.str (st w)] ∧ w.length ≤ 10000 ∧ crowdL w = some c ∧ r = .val (eC c)
theorem ok_crowd_of (T : Txt G mg) {f : Addr} {fd : FuncData} (F : Fun G.K "crowd_of" "crowd_of" s_crowd_of f fd) (H_number_of : Fn G P w mg base "number_of" 1 ["word"] R_number_of) (X_BadNote : ExT G mg "BadNote" (G.ex .note)) : FnOk P w G.K mg base (L2.CX P w) 2 f fd ["word"] (mkSp G R_crowd_of) := by
  refine okX F sc_crowd_of (fun ds r hR => ?_) (by decide) (fun cdv A outer s H E hr => ⟨_, (pss_cons (ps_if (pt_cmpR op_eq (pv 0) pe_str (nomark _)) (pss_one (ps_ret (pe_tup pa_nil))) pss_nil) (pss_cons (ps_if (pt_cmpR op_ne (pe_slice sl_str (pv 0) po_none (po_some pe_int)) pe_str (nomark _)) (pss_one (ps_raise rfl (takes_of rfl rfl rfl rfl) (pmk_own PySem.F.excBase_ValueError X_BadNote.x X_BadNote.g X_BadNote.k (raises_own X_BadNote.b X_BadNote.t) rfl))) pss_nil) (pss_one (ps_ret (pe_callTy (k_tuple G.K) (by rfl) T.tuple (by decide +kernel) (pa_cons (pe_lc (own := [("part", 1)]) (g := gName 1) (tt := tYes) rfl sc_crowd_of.nd (k_pl G.K (k_split (pe_slice sl_str (pv 0) (po_some pe_int) po_none) pe_str)) (blkOk_by (N := nm_crowd_of) (sc := defScope s_crowd_of) (by decide +kernel)) (fun _ _ _ _ _ => pg_name (i := 1) sc_crowd_of.nd rfl (by first | exact Or.inl rfl | exact Or.inr rfl)) (fun _ _ _ _ _ => pts_nil) (fun _ _ _ _ _ => (pe_callF H_number_of (hr.mono (by decide)) rfl (pa_cons (pv 1) pa_nil)))) pa_nil)))))), fun ds r hR => ?_⟩)
  · obtain ⟨w, c, rfl, hw, hc, rfl⟩ := hR
    rfl
  · obtain ⟨w, c, rfl, hw, hc, rfl⟩ := hR
    show WS G _ _ _ [.im (.str (st w)), .no]
    unfold crowdL at hc
    by_cases h1 : w = [32, 45]
    · rw [if_pos h1] at hc
      cases hc
      exact ws_seq (ws_when (evt_test (evd_eqSt (evd_var rfl) (evd_lit lit_bdash))) (fun _ => ws_ret (evd_tup evad_nil) rfl) (fun h => absurd h1 (of_decide_eq_false h)))
    · rw [if_neg h1] at hc
      refine ws_seq (ws_when (evt_test (evd_eqSt (evd_var rfl) (evd_lit lit_bdash))) (fun h => absurd (of_decide_eq_true h) h1) (fun _ => ?_))
      by_cases h2 : w.take 1 = [32]
      · rw [if_pos h2] at hc
        refine ws_seq (ws_when (evt_test (evd_neSt (a := w.take 1) (evd_is (evd_cutS (lo := none) (hi := some ((1 : Nat) : Int)) (evd_var rfl) (by omega) evo_none (evo_some evd_int)) (by rw [cut_take])) (evd_lit lit_blank))) (fun h => by rw [h2] at h; simp at h) (fun _ => ?_))
        obtain ⟨q1, q2⟩ := optAll_some 0 hc
        have sl := splitL_len 43 (w.drop 1)
        have se := splitL_each 43 (w.drop 1)
        rw [List.length_drop] at sl
        refine ws_ret (evd_is (evd_tupleL (ds := c.map D.int) (evs_new (evn_is (evn_lcL (splitL 43 (w.drop 1)) (fun p => .str (st p)) (fun _ => true) (fun p => .int ((numL p).getD 0)) (evs_new (evn_split (l := w.drop 1) (evd_is (evd_cutS (lo := some ((1 : Nat) : Int)) (hi := none) (evd_var rfl) (by omega) (evo_some evd_int) evo_none) (by rw [cut_drop])) (evd_lit lit_plus) (by rw [List.length_drop]; omega))) (by omega) (by simp) (fun _ _ => evt_yes) (fun p hp _ => evd_call (ea1 (evd_var rfl)) ⟨p, rfl, by have := se p hp; rw [List.length_drop] at this; omega, by rw [q1 p hp]; rfl⟩)) (by rw [filter_yes, q2, List.map_map]; rfl))) (by rw [q2, List.length_map, List.length_map]; omega)) rfl) rfl
      · rw [if_neg h2] at hc
        cases hc

/-! #### shown -/
abbrev s_shown : Stmt := top 28
abbrev nm_shown : List Str := ["council", "words", "crowd", "member"]
theorem sc_shown : FnScope nm_shown ["council"] (defScope s_shown) := ⟨rfl, rfl, rfl, by decide +kernel, rfl, by decide +kernel, by decide +kernel⟩
def R_shown : List D → Res → Prop := fun ds r => ∃ (n : Nat) (told : List Crowd), ds = [.cou n told] ∧ 1 ≤ n ∧ n ≤ 5 ∧ r = .val (.str (st (showL n (least n told))))
theorem ok_shown (T : Txt G mg) {f : Addr} {fd : FuncData} (F : Fun G.K "shown" "shown" s_shown f fd) (H_Council_least : Mt G P w mg base "least" 3 ["self"] R_Council_least) (H_Council_many : Mt G P w mg base "many" 1 ["self"] R_Council_many) : FnOk P w G.K mg base CX0 4 f fd ["council"] (mkSp G R_shown) := by
  refine okD F sc_shown (fun ds r hR => ?_) (by decide) (fun cdv A outer s H E hr => ⟨_, (pss_cons (ps_asg (pe_lst pa_nil) (pg_name (i := 1) sc_shown.nd rfl (by first | exact Or.inl rfl | exact Or.inr rfl))) (pss_cons (ps_for PassesOwn.never rfl (k_pl G.K (pe_methF0 (pv 0) T.cl H_Council_least (hr.mono (by decide)))) (pg_name (i := 2) sc_shown.nd rfl (by first | exact Or.inl rfl | exact Or.inr rfl)) (pss_one (ps_if (pt_cmpR (k_eqD G.K hr.units) (pv 2) (pe_tup pa_nil) (nomark _)) (pss_one (ps_expr (pe_bm PySem.F.plainAttrs_list PySem.F.slot_list_append PySem.F.type_list_append mt_append (pv 1) (pa_cons pe_str pa_nil)))) (pss_one (ps_expr (pe_bm PySem.F.plainAttrs_list PySem.F.slot_list_append PySem.F.type_list_append mt_append (pv 1) (pa_cons (pe_op op_add_str pe_str (k_join (K := G.K) pe_str (pe_lc (own := [("member", 3)]) (g := gName 3) (tt := tYes) rfl sc_shown.nd (k_pt G.K (pv 2)) (blkOk_by (N := nm_shown) (sc := defScope s_shown) (by decide +kernel)) (fun _ _ _ _ _ => pg_name (i := 3) sc_shown.nd rfl (by first | exact Or.inl rfl | exact Or.inr rfl)) (fun _ _ _ _ _ => pts_nil) (fun _ _ _ _ _ => (pe_callTy call_str_int (by rfl) T.str (by decide +kernel) (pa_cons (pv 3) pa_nil)))))) pa_nil))))))) (pss_one (ps_ret (pe_op op_add_str (pe_op op_add_str (pe_callTy call_str_int (by rfl) T.str (by decide +kernel) (pa_cons (pe_methF0 (pv 0) T.cl H_Council_many (hr.mono (by decide))) pa_nil)) pe_str) (k_join (K := G.K) pe_str (pv 1))))))), fun ds r hR => ?_⟩)
  · obtain ⟨n, told, rfl, h1, h5, rfl⟩ := hR
    rfl
  · obtain ⟨n, told, rfl, h1, h5, rfl⟩ := hR
    show WS G _ _ _ [.im (.cou n told), .no, .no, .no]
    have hl := least_len h5 told
    have hcl := least_clen h5 told
    refine ws_seq (ws_asgN (i := 1) (evn_lst evad_nil) ?_)
    refine ws_seq (ws_forL (least n told) eC (fun acc : List (List Nat) => [.im (.cou n told), .own (acc.map fun p => .str (st p)), .no, .no]) (fun acc c => .go (acc ++ [wordL c])) [] (evz_new (evn_meth (evd_var rfl) eva_nil ⟨n, told, rfl, h5, rfl⟩)) (by walk_at "weak") (fun i acc c hc hf => ?_) ?_)
    · have hacc := fold_go_take (f := fun (acc : List (List Nat)) (c : Crowd) => acc ++ [wordL c]) hf
      have hal : acc.length ≤ 32 := by
        rw [hacc, foldl_snoc]
        simp
        omega
      clear hf hacc
      have hm := List.mem_of_getElem? hc
      have c5 := hcl c hm
      have mb := crowdOk_mem (cs_good h5 (least_good h5 told c hm)).1
      have bl := bare_len c
      refine ws_if (b := decide (c = [])) (evt_test (evd_eqC (b := []) (evd_var rfl) (evd_tup evad_nil))) (fun hb => ?_) (fun hb => ?_)
      · have e := of_decide_eq_true hb
        subst e
        refine ws_append rfl (evd_lit lit_bdash) (by simp; omega) ⟨acc ++ [wordL []], rfl, ?_⟩
        dsimp only
        rw [List.map_append]
        walk_at "weak"
      · have e := of_decide_eq_false hb
        have ew : wordL c = [32] ++ bareL c := by unfold wordL; rw [if_neg e]; rfl
        refine ws_append rfl (evd_is (evd_addSt (a := [32]) (b := bareL c) (evd_lit lit_blank) (evd_join (sep := [43]) (ps := c.map digL) (evd_lit lit_plus) (evs_new (evn_is (evn_lcT c D.int (fun _ => true) (fun m => .str (st (digL m))) (evd_var rfl) (by omega) (by simp) (fun _ _ => evt_yes) (fun m hm _ => evd_dig (evd_var rfl) (by have := mb m hm; omega))) (by rw [filter_yes, List.map_map]; rfl))) ?_) (by simp; omega)) (y := .str (st (wordL c))) (by rw [ew])) (by simp; omega) ⟨acc ++ [wordL c], rfl, ?_⟩
        · have e2 : ((c.map digL).map List.length).sum = c.length := by
            clear bl mb hm c5 hc hb e ew
            induction c with
            | nil => rfl
            | cons m r ih =>
              rw [List.map_cons, List.map_cons, List.sum_cons, List.length_cons, ih]
              show 1 + _ = _
              omega
          rw [e2]
          simp
          omega
        · dsimp only
          rw [List.map_append]
          walk_at "weak"
    · rw [fold_go, foldl_snoc, List.nil_append]
      have wl := words_len hcl
      have jl := joined_len hcl
      refine ws_ret (evd_is (evd_addSt (a := digL n ++ [58]) (b := joinL [44] ((least n told).map wordL)) (evd_addSt (a := digL n) (b := [58]) (evd_dig (evd_meth (evd_var rfl) eva_nil ⟨n, told, rfl, rfl⟩) (by omega)) (evd_lit lit_colon) (by simp [digL])) (evd_join (sep := [44]) (ps := (least n told).map wordL) (evd_lit lit_comma) (evs_own rfl) (by rw [List.length_map]; simp at *; omega)) (by simp [digL]; omega)) (y := .str (st (showL n (least n told)))) ?_) rfl
      unfold showL digL
      simp

/-! #### read -/
abbrev s_read : Stmt := top 31
abbrev nm_read : List Str := ["text", "many", "crowds", "council", "word"]
theorem sc_read : FnScope nm_read ["text"] (defScope s_read) := ⟨rfl, rfl, rfl, by decide +kernel, rfl, by decide +kernel, by decide +kernel⟩
def R_read : List D → Res → Prop := fun ds r => ∃ (n : Nat) (told : List Crowd), ds = [.str (st (showL n (least n told)))] ∧ 1 ≤ n ∧ n ≤ 5 ∧ r = .val (.cou n (least n told))
theorem ok_read (T : Txt G mg) {f : Addr} {fd : FuncData} (F : Fun G.K "read" "read" s_read f fd) (H_number_of : Fn G P w mg base "number_of" 1 ["word"] R_number_of) (H_crowd_of : Fn G P w mg base "crowd_of" 2 ["word"] R_crowd_of) (H_Council : Ini G P w mg base 2) (H_shown : Fn G P w mg base "shown" 4 ["council"] R_shown) (X_BadNote : ExT G mg "BadNote" (G.ex .note)) : FnOk P w G.K mg base (L2.CX P w) 5 f fd ["text"] (mkSp G R_read) := by
  refine okX F sc_read (fun ds r hR => ?_) (by decide) (fun cdv A outer s H E hr => ⟨_, (pss_cons (ps_asg (pe_callX H_number_of (hr.mono (by decide)) rfl (takes_of rfl rfl rfl rfl) (pa_cons (pe_slice sl_str (pv 0) po_none (po_some pe_int)) pa_nil)) (pg_name (i := 1) sc_read.nd rfl (by first | exact Or.inl rfl | exact Or.inr rfl))) (pss_cons (ps_asg (pe_lst pa_nil) (pg_name (i := 2) sc_read.nd rfl (by first | exact Or.inl rfl | exact Or.inr rfl))) (pss_cons (ps_if (pt_cmpR op_ne (pe_slice sl_str (pv 0) (po_some pe_int) po_none) pe_str (nomark _)) (pss_cons (ps_if (pt_cmpR op_ne (pe_slice sl_str (pv 0) (po_some pe_int) (po_some pe_int)) pe_str (nomark _)) (pss_one (ps_raise rfl (takes_of rfl rfl rfl rfl) (pmk_own PySem.F.excBase_ValueError X_BadNote.x X_BadNote.g X_BadNote.k (raises_own X_BadNote.b X_BadNote.t) rfl))) pss_nil) (pss_one (ps_setLc (i := 2) (own := [("word", 4)]) (g := gName 4) (tt := tYes) rfl sc_read.nd rfl rfl (sw_true rfl rfl rfl (by decide +kernel)) (k_pl G.K (k_split (pe_slice sl_str (pv 0) (po_some pe_int) po_none) pe_str)) (blkOk_by (N := nm_read) (sc := defScope s_read) (by decide +kernel)) (fun _ _ _ _ _ => pg_name (i := 4) sc_read.nd rfl (by first | exact Or.inl rfl | exact Or.inr rfl)) (fun _ _ _ _ _ => pts_nil) (fun _ _ _ _ _ => (pe_callF H_crowd_of (hr.mono (by decide)) rfl (pa_cons (pv 4) pa_nil)))))) pss_nil) (pss_cons (ps_try_thru0 (pss_one (ps_asg (pe_makeF H_Council (hr.mono (by decide)) rfl (pa_cons (pv 1) (pa_cons (pv 2) pa_nil))) (pg_name (i := 3) sc_read.nd rfl (by first | exact Or.inl rfl | exact Or.inr rfl))))) (pss_cons (ps_if (pt_cmpR op_ne (pe_callF H_shown (hr.mono (by decide)) rfl (pa_cons (pv 3) pa_nil)) (pv 0) (nomark _)) (pss_one (ps_raise rfl (takes_of rfl rfl rfl rfl) (pmk_own PySem.F.excBase_ValueError X_BadNote.x X_BadNote.g X_BadNote.k (raises_own X_BadNote.b X_BadNote.t) rfl))) pss_nil) (pss_one (ps_ret (pv 3)))))))), fun ds r hR => ?_⟩)
  · obtain ⟨n, told, rfl, h1, h5, rfl⟩ := hR
    rfl
  · obtain ⟨n, told, rfl, h1, h5, rfl⟩ := hR
    show WS G _ _ _ [.im (.str (st (showL n (least n told)))), .no, .no, .no, .no]
    have hl := least_len h5 told
    have hcl := least_clen h5 told
    have hg := least_good h5 told
    have hll := least_least h5 told
    generalize least n told = cs at hl hcl hg hll
    have sl := show_len (n := n) hcl
    have jl := joined_len hcl
    have t1 : (showL n cs).take 1 = digL n := by unfold showL digL; simp
    have d1 : (showL n cs).drop 1 = 58 :: joinL [44] (cs.map wordL) := rfl
    have d2 : (showL n cs).drop 2 = joinL [44] (cs.map wordL) := rfl
    have m1 : ((showL n cs).drop 1).take (2 - 1) = [58] := rfl
    refine ws_seq (ws_asgX (i := 1) (r := .val (.int n)) (evx_call (ea1 (evd_cutS (l := showL n cs) (lo := none) (hi := some ((1 : Nat) : Int)) (evd_var rfl) (by omega) evo_none (evo_some evd_int))) ⟨digL n, by rw [cut_take, t1], by simp [digL], by rw [numL_dig (by omega)]⟩) ?_)
    refine ws_seq (ws_asgN (i := 2) (evn_lst evad_nil) ?_)
    refine ws_seq (ws_mono (k := { nx := fun ρ' => ρ' = [.im (.str (st (showL n cs))), .im (.int n), .own (cs.map eC), .no, .no], rt := fun _ => False }) (ws_when (evt_test (evd_neSt (a := (showL n cs).drop 1) (b := [58]) (evd_is (evd_cutS (l := showL n cs) (lo := some ((1 : Nat) : Int)) (hi := none) (evd_var rfl) (by omega) (evo_some evd_int) evo_none) (by rw [cut_drop])) (evd_lit lit_colon))) (fun h => ?_) (fun h => ?_)) (fun ρ' e => ?_) (fun _ z => z.elim) (fun _ z => z.elim) (fun _ z => z.elim) (fun _ z => z.elim))
    · have hne : cs ≠ [] := by
        intro z
        subst z
        rw [d1] at h
        simp [joinL] at h
      refine ws_seq (ws_when (evt_test (evd_neSt (a := [58]) (b := [58]) (evd_is (evd_cutS (l := showL n cs) (lo := some ((1 : Nat) : Int)) (hi := some ((2 : Nat) : Int)) (evd_var rfl) (by omega) (evo_some evd_int) (evo_some evd_int)) (by rw [cut_mid _ 1 2 (by decide), m1])) (evd_lit lit_colon))) (fun z => by simp at z) (fun _ => ?_))
      have wsp := words_split hne
      refine ws_asgN (i := 2) (evn_is (evn_lcL cs (fun c => .str (st (wordL c))) (fun _ => true) eC (evs_new (evn_is (evn_split (l := joinL [44] (cs.map wordL)) (evd_is (evd_cutS (l := showL n cs) (lo := some ((2 : Nat) : Int)) (hi := none) (evd_var rfl) (by omega) (evo_some evd_int) evo_none) (by rw [cut_drop, d2])) (evd_lit lit_comma) (by omega)) (by rw [wsp, List.map_map]; rfl))) (by omega) (by simp) (fun _ _ => evt_yes) (fun c hc _ => evd_call (ea1 (evd_var rfl)) ⟨wordL c, c, rfl, by have := word_len c; have := hcl c hc; omega, crowdL_word fun m hm => by have := crowdOk_mem (cs_good h5 (hg c hc)).1 m hm; omega, rfl⟩)) (by rw [filter_yes])) ?_
      rfl
    · have he : cs = [] := by
        cases cs with
        | nil => rfl
        | cons c r =>
          exfalso
          have h' : (58 :: joinL [44] ((c :: r).map wordL)) = [58] := by
            rw [d1] at h
            simpa using h
          have := (List.cons.inj h').2
          have hw : wordL c ≠ [] := by
            unfold wordL
            split <;> simp
          cases r with
          | nil => exact hw this
          | cons x y =>
            have e2 : (wordL c ++ [44]) ++ joinL [44] ((x :: y).map wordL) = [] := this
            simp at e2
      subst he
      rfl
    subst e
    refine ws_seq (ws_asgD (i := 3) (evd_x (Ex := E0) (evx_is (evx_make (cs := cs) (eva_cons (evd_var rfl) (ea1L (evs_own rfl))) (by omega)) (couRes_ok h1 h5 fun c hc => (cs_good h5 (hg c hc)).1))) ?_)
    refine ws_seq (ws_when (evt_test (evd_neSt (evd_call (ea1 (evd_var rfl)) ⟨n, cs, rfl, h1, h5, by rw [hll]⟩) (evd_var rfl))) (fun h => by simp at h) (fun _ => ?_))
    exact ws_ret (evd_var rfl) rfl

/-! #### _law_made -/
abbrev s__law_made : Stmt := top 55
abbrev nm__law_made : List Str := ["one", "other", "way", "script", "weights", "found", "k"]
theorem sc__law_made : FnScope nm__law_made ["one", "other", "way", "script"] (defScope s__law_made) := ⟨rfl, rfl, rfl, by decide +kernel, rfl, by decide +kernel, by decide +kernel⟩
def madeWs (n : Nat) (ns : List Int) : List Int := (List.range n).map fun k : Nat => cell ns (32 + k) % 6
def madeBar (n : Nat) (ns : List Int) : Int := cell ns 31 % ((madeWs n ns).sum + 2)
def madeOf (n : Nat) (a b : List Crowd) (way : Int) (ns : List Int) : Nat × List Crowd :=
  if way = 0 then (n, bothOf n a b)
  else if way = 1 then (n, eitherOf n a b)
  else if way = 2 then (n, turnedOf n a)
  else if way = 3 ∧ 1 < n then (n - 1, withoutOf n a (cell ns 30 % (n : Int)) (decide (cell ns 31 % 2 = 1)))
  else if way = 4 then (n, byCrowds (madeWs n ns) (madeBar n ns))
  else (n, least n a)
theorem made_size {n : Nat} (h1 : 1 ≤ n) (h5 : n ≤ 5) (a b : List Crowd) (way : Int) (ns : List Int) : 1 ≤ (madeOf n a b way ns).1 ∧ (madeOf n a b way ns).1 ≤ 5 := by
  unfold madeOf
  split
  · exact ⟨h1, h5⟩
  · split
    · exact ⟨h1, h5⟩
    · split
      · exact ⟨h1, h5⟩
      · split
        · rename_i q
          exact ⟨by show 1 ≤ n - 1; omega, by show n - 1 ≤ 5; omega⟩
        · split
          · exact ⟨h1, h5⟩
          · exact ⟨h1, h5⟩
def R__law_made : List D → Res → Prop := fun ds r => ∃ (n : Nat) (a b : List Crowd) (way : Int) (ns : List Int), ds = [.cou n a, .cou n b, .int way, .scr ns] ∧ 1 ≤ n ∧ n ≤ 5 ∧ r = .val (.cou ((madeOf n a b way ns).1 : Nat) (madeOf n a b way ns).2)
theorem ok__law_made (T : Txt G mg) {f : Addr} {fd : FuncData} (F : Fun G.K "_law_made" "_law_made" s__law_made f fd) (H_both : Fn G P w mg base "both" 4 ["one", "other"] R_both) (H_either : Fn G P w mg base "either" 4 ["one", "other"] R_either) (H_turned : Fn G P w mg base "turned" 4 ["council"] R_turned) (H_Council_many : Mt G P w mg base "many" 1 ["self"] R_Council_many) (H_without : Fn G P w mg base "without" 4 ["council", "member", "carried"] R_without) (H__law_cell_at : Fn G P w mg base "_law_cell_at" 1 ["script", "k"] R__law_cell_at) (H_by_weights : Fn G P w mg base "by_weights" 4 ["weights", "bar"] R_by_weights) (H_read : Fn G P w mg base "read" 5 ["text"] R_read) (H_shown : Fn G P w mg base "shown" 4 ["council"] R_shown) : FnOk P w G.K mg base CX0 6 f fd ["one", "other", "way", "script"] (mkSp G R__law_made) := by
  refine okD F sc__law_made (fun ds r hR => ?_) (by decide) (fun cdv A outer s H E hr => ⟨_, (pss_cons (ps_if (pt_cmpR op_eq (pv 2) pe_int (nomark _)) (pss_one (ps_ret (pe_callF H_both (hr.mono (by decide)) rfl (pa_cons (pv 0) (pa_cons (pv 1) pa_nil))))) pss_nil) (pss_cons (ps_if (pt_cmpR op_eq (pv 2) pe_int (nomark _)) (pss_one (ps_ret (pe_callF H_either (hr.mono (by decide)) rfl (pa_cons (pv 0) (pa_cons (pv 1) pa_nil))))) pss_nil) (pss_cons (ps_if (pt_cmpR op_eq (pv 2) pe_int (nomark _)) (pss_one (ps_ret (pe_callF H_turned (hr.mono (by decide)) rfl (pa_cons (pv 0) pa_nil)))) pss_nil) (pss_cons (ps_if (PW.pt (pw_and (pt_cmpR op_eq (pv 2) pe_int (nomark _)) (pw_and1 (pt_cmpR op_gt (pe_methF0 (pv 0) T.cl H_Council_many (hr.mono (by decide))) pe_int (nomark _))))) (pss_one (ps_ret (pe_callF H_without (hr.mono (by decide)) rfl (pa_cons (pv 0) (pa_cons (pe_op op_mod (pe_callF H__law_cell_at (hr.mono (by decide)) rfl (pa_cons (pv 3) (pa_cons pe_int pa_nil))) (pe_methF0 (pv 0) T.cl H_Council_many (hr.mono (by decide)))) (pa_cons (pe_cmpR op_eq (pe_op op_mod (pe_callF H__law_cell_at (hr.mono (by decide)) rfl (pa_cons (pv 3) (pa_cons pe_int pa_nil))) pe_int) pe_int (nomark _)) pa_nil)))))) pss_nil) (pss_cons (ps_if (pt_cmpR op_eq (pv 2) pe_int (nomark _)) (pss_cons (ps_setLc (i := 4) (own := [("k", 6)]) (g := gName 6) (tt := tYes) rfl sc__law_made.nd rfl rfl (sw_true rfl rfl rfl (by decide +kernel)) (pi_range1 rfl T.range (pa_cons (pe_methF0 (pv 0) T.cl H_Council_many (hr.mono (by decide))) pa_nil)) (blkOk_by (N := nm__law_made) (sc := defScope s__law_made) (by decide +kernel)) (fun _ _ _ _ _ => pg_name (i := 6) sc__law_made.nd rfl (by first | exact Or.inl rfl | exact Or.inr rfl)) (fun _ _ _ _ _ => pts_nil) (fun _ _ _ _ _ => (pe_op op_mod (pe_callF H__law_cell_at (hr.mono (by decide)) rfl (pa_cons (pv 3) (pa_cons (pe_op op_add pe_int (pv 6)) pa_nil))) pe_int))) (pss_cons (ps_asg (pe_callF H_by_weights (hr.mono (by decide)) rfl (pa_cons (pv 4) (pa_cons (pe_op op_mod (pe_callF H__law_cell_at (hr.mono (by decide)) rfl (pa_cons (pv 3) (pa_cons pe_int pa_nil))) (pe_op op_add (pe_callB (k_sum G.K rfl) (by rfl) T.sum (by decide +kernel) (pa_cons (pv 4) pa_nil)) pe_int)) pa_nil))) (pg_name (i := 5) sc__law_made.nd rfl (by first | exact Or.inl rfl | exact Or.inr rfl))) (pss_cons (ps_expr (pe_bm0 PySem.F.plainAttrs_list PySem.F.slot_list_clear PySem.F.type_list_clear mt_clear (pv 4))) (pss_one (ps_ret (pv 5)))))) pss_nil) (pss_one (ps_ret (pe_callF H_read (hr.mono (by decide)) rfl (pa_cons (pe_callF H_shown (hr.mono (by decide)) rfl (pa_cons (pv 0) pa_nil)) pa_nil))))))))), fun ds r hR => ?_⟩)
  · obtain ⟨n, a, b, way, ns, rfl, h1, h5, rfl⟩ := hR
    rfl
  · obtain ⟨n, a, b, way, ns, rfl, h1, h5, rfl⟩ := hR
    show WS G _ _ _ [.im (.cou n a), .im (.cou n b), .im (.int way), .im (.scr ns), .no, .no, .no]
    have many : ∀ {ρ : Rho}, ρ[0]? = some (.im (.cou n a)) → EvD G (tMeth G.C "many" (mkSp G R_Council_many) [] E0 (tVar 0) tNil) ρ (.int n) := fun h => evd_meth (evd_var h) eva_nil ⟨n, a, rfl, rfl⟩
    by_cases w0 : way = 0
    · have e : madeOf n a b way ns = (n, bothOf n a b) := by unfold madeOf; rw [if_pos w0]
      rw [e]
      exact ws_seq (ws_when (evt_test (evd_eqI (evd_var rfl) evd_int)) (fun _ => ws_ret (evd_call (ea2 (evd_var rfl) (evd_var rfl)) ⟨n, n, a, b, rfl, h1, h5, by rw [if_pos rfl]⟩) rfl) (fun h => absurd w0 (of_decide_eq_false h)))
    refine ws_seq (ws_when (evt_test (evd_eqI (evd_var rfl) evd_int)) (fun h => absurd (of_decide_eq_true h) w0) (fun _ => ?_))
    by_cases w1 : way = 1
    · have e : madeOf n a b way ns = (n, eitherOf n a b) := by unfold madeOf; rw [if_neg w0, if_pos w1]
      rw [e]
      exact ws_seq (ws_when (evt_test (evd_eqI (evd_var rfl) evd_int)) (fun _ => ws_ret (evd_call (ea2 (evd_var rfl) (evd_var rfl)) ⟨n, n, a, b, rfl, h1, h5, by rw [if_pos rfl]⟩) rfl) (fun h => absurd w1 (of_decide_eq_false h)))
    refine ws_seq (ws_when (evt_test (evd_eqI (evd_var rfl) evd_int)) (fun h => absurd (of_decide_eq_true h) w1) (fun _ => ?_))
    by_cases w2 : way = 2
    · have e : madeOf n a b way ns = (n, turnedOf n a) := by unfold madeOf; rw [if_neg w0, if_neg w1, if_pos w2]
      rw [e]
      exact ws_seq (ws_when (evt_test (evd_eqI (evd_var rfl) evd_int)) (fun _ => ws_ret (evd_call (ea1 (evd_var rfl)) ⟨n, a, rfl, h1, h5, rfl⟩) rfl) (fun h => absurd w2 (of_decide_eq_false h)))
    refine ws_seq (ws_when (evt_test (evd_eqI (evd_var rfl) evd_int)) (fun h => absurd (of_decide_eq_true h) w2) (fun _ => ?_))
    have t3 := evt_and (G := G) (ρ := [.im (.cou n a), .im (.cou n b), .im (.int way), .im (.scr ns), .no, .no, .no]) (evt_test (evd_eqI (evd_var (i := 2) rfl) (evd_int (i := 3)))) (fun _ => evt_test (evd_gt (many rfl) (evd_int (i := 1))))
    by_cases w3 : way = 3 ∧ 1 < n
    · have qm : 0 ≤ cell ns 30 % (n : Int) ∧ cell ns 30 % (n : Int) < n := ⟨Int.emod_nonneg _ (by omega), Int.emod_lt_of_pos _ (by omega)⟩
      have e : madeOf n a b way ns = (n - 1, withoutOf n a (cell ns 30 % (n : Int)) (decide (cell ns 31 % 2 = 1))) := by unfold madeOf; rw [if_neg w0, if_neg w1, if_neg w2, if_pos w3]
      rw [e]
      refine ws_seq (ws_when t3 (fun _ => ?_) (fun h => ?_))
      · exact ws_ret (evd_call (eva_cons (evd_var rfl) (ea2 (evd_mod (evd_call (ea2 (evd_var rfl) evd_int) ⟨ns, 30, rfl, rfl⟩) (many rfl) (by omega)) (evd_eqI (evd_mod (evd_call (ea2 (evd_var rfl) evd_int) ⟨ns, 31, rfl, rfl⟩) evd_int (by decide)) evd_int))) ⟨n, a, _, _, rfl, h5, by rw [if_neg (by omega), if_neg (by omega)]⟩) rfl
      · exfalso
        rw [decide_eq_true w3.1, decide_eq_true (by omega)] at h
        cases h
    refine ws_seq (ws_when t3 (fun h => ?_) (fun _ => ?_))
    · exfalso
      have h' := Bool.and_eq_true_iff.mp h
      exact w3 ⟨of_decide_eq_true h'.1, by have := of_decide_eq_true h'.2; omega⟩
    by_cases w4 : way = 4
    · have e : madeOf n a b way ns = (n, byCrowds (madeWs n ns) (madeBar n ns)) := by unfold madeOf; rw [if_neg w0, if_neg w1, if_neg w2, if_neg w3, if_pos w4]
      rw [e]
      have wl : (madeWs n ns).length = n := by simp [madeWs]
      have wn : ∀ x ∈ madeWs n ns, 0 ≤ x := fun x hx => by
        unfold madeWs at hx
        obtain ⟨k, _, rfl⟩ := List.mem_map.mp hx
        exact Int.emod_nonneg _ (by decide)
      have wsum : 0 ≤ (madeWs n ns).sum := by
        have := weigh_nonneg wn (rng n)
        rw [weigh_rng wl] at this
        exact this
      have hb : 0 ≤ madeBar n ns := Int.emod_nonneg _ (by omega)
      have eb : byWeights (madeWs n ns) (madeBar n ns) = .val (.cou n (byCrowds (madeWs n ns) (madeBar n ns))) := by
        unfold byWeights
        rw [if_neg (by omega), if_neg (by
          rintro (z | z)
          · omega
          · obtain ⟨x, hx, z⟩ := List.any_eq_true.mp z
            have := wn x hx
            have := of_decide_eq_true z
            omega), wl]
      refine ws_seq (ws_when (evt_test (evd_eqI (evd_var rfl) evd_int)) (fun _ => ?_) (fun h => absurd w4 (of_decide_eq_false h)))
      refine ws_seq (ws_asgN (i := 4) (evn_is (evn_lcR1 (n := (n : Int)) (fun _ => true) (fun k => .int (cell ns (32 + k) % 6)) (ea1 (many rfl)) (by omega) (by simp) (fun _ _ => evt_yes) (fun k _ _ =>
        evd_mod (evd_call (ea2 (evd_var rfl) (evd_add evd_int (evd_var rfl))) ⟨ns, 32 + k, by simp, rfl⟩) evd_int (by decide))) (es := (madeWs n ns).map .int) (by rw [filter_yes]; simp [madeWs, List.map_map, Function.comp_def])) ?_)
      refine ws_seq (ws_asgD (i := 5) (evd_call (eva_consL (evs_own rfl) (ea1 (evd_mod (evd_call (ea2 (evd_var rfl) evd_int) ⟨ns, 31, rfl, rfl⟩) (evd_add (evd_sum (ns := madeWs n ns) (evs_own rfl)) evd_int) (by omega)))) ⟨madeWs n ns, madeBar n ns, rfl, by omega, eb.symm⟩) ?_)
      refine ws_seq (ws_clear rfl ?_)
      exact ws_ret (evd_var rfl) rfl
    · have e : madeOf n a b way ns = (n, least n a) := by unfold madeOf; rw [if_neg w0, if_neg w1, if_neg w2, if_neg w3, if_neg w4]
      rw [e]
      refine ws_seq (ws_when (evt_test (evd_eqI (evd_var rfl) evd_int)) (fun h => absurd (of_decide_eq_true h) w4) (fun _ => ?_))
      exact ws_ret (evd_call (ea1 (evd_call (ea1 (evd_var rfl)) ⟨n, a, rfl, h1, h5, rfl⟩)) ⟨n, a, rfl, h1, h5, rfl⟩) rfl

/-! #### idle -/
abbrev s_idle : Stmt := top 24
abbrev nm_idle : List Str := ["council", "least", "member", "crowd"]
theorem sc_idle : FnScope nm_idle ["council"] (defScope s_idle) := ⟨rfl, rfl, rfl, by decide +kernel, rfl, by decide +kernel, by decide +kernel⟩
def R_idle : List D → Res → Prop := fun ds r => ∃ (n : Nat) (told : List Crowd), ds = [.cou n told] ∧ n ≤ 5 ∧ r = .new ((idleOf n told).map .int)
theorem ok_idle (T : Txt G mg) {f : Addr} {fd : FuncData} (F : Fun G.K "idle" "idle" s_idle f fd) (H_Council_least : Mt G P w mg base "least" 3 ["self"] R_Council_least) (H_Council_many : Mt G P w mg base "many" 1 ["self"] R_Council_many) : FnOk P w G.K mg base CX0 4 f fd ["council"] (mkSp G R_idle) := by
  refine okD F sc_idle (fun ds r hR => ?_) (by decide) (fun cdv A outer s H E hr => ⟨_, (pss_cons (ps_asg (pe_methF0 (pv 0) T.cl H_Council_least (hr.mono (by decide))) (pg_name (i := 1) sc_idle.nd rfl (by first | exact Or.inl rfl | exact Or.inr rfl))) (pss_one (ps_ret (pe_lc (own := [("member", 2)]) (g := gName 2) (tt := _) rfl sc_idle.nd (pi_range1 rfl T.range (pa_cons (pe_methF0 (pv 0) T.cl H_Council_many (hr.mono (by decide))) pa_nil)) (blkOk_by (N := nm_idle) (sc := defScope s_idle) (by decide +kernel)) (fun _ _ _ _ _ => pg_name (i := 2) sc_idle.nd rfl (by first | exact Or.inl rfl | exact Or.inr rfl)) (fun _ _ _ _ _ => (pts_one (pt_not (k_truth G.K (pe_lc (own := [("crowd", 3)]) (g := gName 3) (tt := _) rfl sc_idle.nd (k_pl G.K (pv 1)) (blkOk_by (by kernel_rfl)) (fun _ _ _ _ _ => pg_name (i := 3) sc_idle.nd rfl (by first | exact Or.inl rfl | exact Or.inr rfl)) (fun _ _ _ _ _ => (pts_one (pt_cmpR (k_in G.K) (pv 2) (pv 3) rfl))) (fun _ _ _ _ _ => (pv 3))) (by intro _; rfl))))) (fun _ _ _ _ _ => (pv 2)))))), fun ds r hR => ?_⟩)
  · obtain ⟨n, told, rfl, hn, rfl⟩ := hR
    rfl
  · obtain ⟨n, told, rfl, hn, rfl⟩ := hR
    show WS G _ _ _ [.im (.cou n told), .no, .no, .no]
    refine ws_seq (ws_asgN (evn_meth (evd_var rfl) eva_nil ⟨n, told, rfl, hn, rfl⟩) ?_)
    have hl := least_len hn told
    refine ws_retN (evn_is (evn_lcR1 (n := (n : Int)) (isIdle n told) (fun k => .int (k : Int)) (ea1 (evd_meth (evd_var rfl) eva_nil ⟨n, told, rfl, rfl⟩)) (by omega) (by simp) (fun k _ => evt_is (evt_not (evt_lst (evs_new (evn_lcL (least n told) eC (fun c => decide ((k : Int) ∈ c)) eC (evs_own rfl) (by omega) (by simp) (fun c _ => evt_test (evd_inT (evd_var rfl) (evd_var rfl))) (fun c _ _ => evd_var rfl))))) ?_) (fun k _ _ => evd_var rfl)) ?_) rfl
    · rw [List.isEmpty_map]
      rfl
    · simp [idleOf, List.map_map, Function.comp_def]

/-! #### vetoes -/
abbrev s_vetoes : Stmt := top 23
abbrev nm_vetoes : List Str := ["council", "found", "member", "free", "crowd"]
theorem sc_vetoes : FnScope nm_vetoes ["council"] (defScope s_vetoes) := ⟨rfl, rfl, rfl, by decide +kernel, rfl, by decide +kernel, by decide +kernel⟩
def R_vetoes : List D → Res → Prop := fun ds r => ∃ (n : Nat) (told : List Crowd), ds = [.cou n told] ∧ n ≤ 5 ∧ r = .new ((vetoesOf n told).map .int)
theorem ok_vetoes (T : Txt G mg) {f : Addr} {fd : FuncData} (F : Fun G.K "vetoes" "vetoes" s_vetoes f fd) (H_Council_many : Mt G P w mg base "many" 1 ["self"] R_Council_many) (H_crowds_of : Fn G P w mg base "crowds_of" 1 ["many"] R_crowds_of) (H_Council_carries : Mt G P w mg base "carries" 3 ["self", "crowd"] R_Council_carries) : FnOk P w G.K mg base CX0 4 f fd ["council"] (mkSp G R_vetoes) := by
  refine okD F sc_vetoes (fun ds r hR => ?_) (by decide) (fun cdv A outer s H E hr => ⟨_, (pss_cons (ps_asg (pe_lst pa_nil) (pg_name (i := 1) sc_vetoes.nd rfl (by first | exact Or.inl rfl | exact Or.inr rfl))) (pss_cons (ps_for PassesOwn.never rfl (pi_range1 rfl T.range (pa_cons (pe_methF0 (pv 0) T.cl H_Council_many (hr.mono (by decide))) pa_nil)) (pg_name (i := 2) sc_vetoes.nd rfl (by first | exact Or.inl rfl | exact Or.inr rfl)) (pss_cons (ps_setLc (i := 3) (own := [("crowd", 4)]) (g := gName 4) (tt := _) rfl sc_vetoes.nd rfl rfl (sw_true rfl rfl rfl (by decide +kernel)) (k_pl G.K (pe_callF H_crowds_of (hr.mono (by decide)) rfl (pa_cons (pe_methF0 (pv 0) T.cl H_Council_many (hr.mono (by decide))) pa_nil))) (blkOk_by (N := nm_vetoes) (sc := defScope s_vetoes) (by decide +kernel)) (fun _ _ _ _ _ => pg_name (i := 4) sc_vetoes.nd rfl (by first | exact Or.inl rfl | exact Or.inr rfl)) (fun _ _ _ _ _ => (pts_one (PW.pt (pw_and (pt_cmpR (k_notIn G.K) (pv 2) (pv 4) rfl) (pw_and1 (pt_val (pe_methF (pv 0) T.cl H_Council_carries (hr.mono (by decide)) (pa_cons (pv 4) pa_nil)))))))) (fun _ _ _ _ _ => (pv 4))) (pss_one (ps_if (pt_cmpR (k_eqD G.K hr.units) (pv 3) (pe_lst pa_nil) (nomark _)) (pss_one (ps_expr (pe_bm PySem.F.plainAttrs_list PySem.F.slot_list_append PySem.F.type_list_append mt_append (pv 1) (pa_cons (pv 2) pa_nil)))) pss_nil)))) (pss_one (ps_ret (pv 1))))), fun ds r hR => ?_⟩)
  · obtain ⟨n, told, rfl, hn, rfl⟩ := hR
    rfl
  · obtain ⟨n, told, rfl, hn, rfl⟩ := hR
    show WS G _ _ _ [.im (.cou n told), .no, .no, .no, .no]
    refine ws_seq (ws_asgN (evn_lst evad_nil) ?_)
    refine ws_seq (ws_forR1 (n := (n : Int)) (fun found : List Int => [.im (.cou n told), .own (found.map .int), .no, .no, .no]) (fun found k => .go (if isVeto n told k = true then found ++ [(k : Int)] else found)) [] (ea1 (evd_meth (evd_var rfl) eva_nil ⟨n, told, rfl, rfl⟩)) (by omega) (by walk_at "weak") (fun i found hi hf => ?_) ?_)
    · have hfound := fold_go_take (f := fun (found : List Int) (k : Nat) => if isVeto n told k = true then found ++ [(k : Int)] else found) hf
      have hl := foldl_pick_len (isVeto n told) (fun k : Nat => (k : Int)) (List.range (n : Int).toNat) i
      rw [← hfound] at hl
      simp only [List.length_range] at hl
      refine ws_seq (ws_asgN (i := 3) (evn_lcL (crowdsOf n) eC (fun c => !decide ((i : Int) ∈ c) && bears told c) eC (evs_new (evn_call (ea1 (evd_meth (evd_var rfl) eva_nil ⟨n, told, rfl, rfl⟩)) ⟨n, rfl, hn, rfl⟩)) (by have := crowdsOf_len hn; omega) (by simp) (fun c hc => evt_and (evt_test (evd_ninT (evd_var rfl) (evd_var rfl))) (fun _ => evt_B (evd_meth (evd_var rfl) (ea1 (evd_var rfl)) ⟨n, told, c, rfl, by rw [if_pos (cs_good hn hc).1]⟩))) (fun c _ _ => evd_var rfl)) ?_)
      refine ws_when (b := isVeto n told i) (evt_test (evd_eqL enc_eC (b := []) (evs_own rfl) (evs_new (evn_lst evad_nil)))) (fun hb => ?_) (fun hb => ?_)
      · refine ws_append rfl (evd_var rfl) (by simp; omega) ⟨_, rfl, ?_⟩
        rw [if_pos hb]
        walk_at "weak"
      · refine ⟨_, rfl, ?_⟩
        rw [if_neg (by rw [hb]; decide)]
        walk_at "weak"
    · rw [fold_go, foldl_pick]
      exact ws_retOwn rfl rfl

/-! #### swings_of -/
abbrev s_swings_of : Stmt := top 33
abbrev nm_swings_of : List Str := ["council", "member", "found", "crowd"]
theorem sc_swings_of : FnScope nm_swings_of ["council", "member"] (defScope s_swings_of) := ⟨rfl, rfl, rfl, by decide +kernel, rfl, by decide +kernel, by decide +kernel⟩
def R_swings_of : List D → Res → Prop := fun ds r => ∃ (n : Nat) (told : List Crowd) (m : Nat), ds = [.cou n told, .int m] ∧ n ≤ 5 ∧ m < n ∧ r = .new ((swingsOf n told m).map eC)
theorem ok_swings_of (T : Txt G mg) {f : Addr} {fd : FuncData} (F : Fun G.K "swings_of" "swings_of" s_swings_of f fd) (H_crowds_of : Fn G P w mg base "crowds_of" 1 ["many"] R_crowds_of) (H_Council_many : Mt G P w mg base "many" 1 ["self"] R_Council_many) (H_Council_carries : Mt G P w mg base "carries" 3 ["self", "crowd"] R_Council_carries) (H_with_them : Fn G P w mg base "with_them" 1 ["crowd", "more"] R_with_them) : FnOk P w G.K mg base CX0 4 f fd ["council", "member"] (mkSp G R_swings_of) := by
  refine okD F sc_swings_of (fun ds r hR => ?_) (by decide) (fun cdv A outer s H E hr => ⟨_, (pss_cons (ps_asg (pe_lst pa_nil) (pg_name (i := 2) sc_swings_of.nd rfl (by first | exact Or.inl rfl | exact Or.inr rfl))) (pss_cons (ps_for PassesOwn.never rfl (k_pl G.K (pe_callF H_crowds_of (hr.mono (by decide)) rfl (pa_cons (pe_methF0 (pv 0) T.cl H_Council_many (hr.mono (by decide))) pa_nil))) (pg_name (i := 3) sc_swings_of.nd rfl (by first | exact Or.inl rfl | exact Or.inr rfl)) (pss_one (ps_if (PW.pt (pw_and (pt_cmpR (k_notIn G.K) (pv 1) (pv 3) rfl) (pw_and (pt_not (pt_val (pe_methF (pv 0) T.cl H_Council_carries (hr.mono (by decide)) (pa_cons (pv 3) pa_nil)))) (pw_and1 (pt_val (pe_methF (pv 0) T.cl H_Council_carries (hr.mono (by decide)) (pa_cons (pe_callF H_with_them (hr.mono (by decide)) rfl (pa_cons (pv 3) (pa_cons (pe_tup (pa_cons (pv 1) pa_nil)) pa_nil))) pa_nil))))))) (pss_one (ps_expr (pe_bm PySem.F.plainAttrs_list PySem.F.slot_list_append PySem.F.type_list_append mt_append (pv 2) (pa_cons (pv 3) pa_nil)))) pss_nil))) (pss_one (ps_ret (pv 2))))), fun ds r hR => ?_⟩)
  · obtain ⟨n, told, m, rfl, hn, hm, rfl⟩ := hR
    rfl
  · obtain ⟨n, told, m, rfl, hn, hm, rfl⟩ := hR
    show WS G _ _ _ [.im (.cou n told), .im (.int m), .no, .no]
    refine ws_seq (ws_asgN (evn_lst evad_nil) ?_)
    refine ws_seq (ws_forL (crowdsOf n) eC (fun found : List Crowd => [.im (.cou n told), .im (.int m), .own (found.map eC), .no]) (fun found c => .go (if swings1 told m c = true then found ++ [c] else found)) [] (evz_new (evn_call (ea1 (evd_meth (evd_var rfl) eva_nil ⟨n, told, rfl, rfl⟩)) ⟨n, rfl, hn, rfl⟩)) (by walk_at "weak") (fun i found c hc hf => ?_) ?_)
    · have gc := cs_good hn (List.mem_of_getElem? hc)
      have hfound := fold_go_take (f := fun (found : List Crowd) (c : Crowd) => if swings1 told m c = true then found ++ [c] else found) hf
      have hl := foldl_pick_len (swings1 told m) (fun c : Crowd => c) (crowdsOf n) i
      rw [← hfound] at hl
      have hlen := crowdsOf_len hn
      refine ws_when (b := swings1 told m c) (evt_and (evt_test (evd_ninT (evd_var rfl) (evd_var rfl))) (fun _ => evt_and (b := !bears told c) (evt_not (evt_B (evd_meth (evd_var rfl) (ea1 (evd_var rfl)) ⟨n, told, c, rfl, by rw [if_pos gc.1]⟩))) (fun _ => evt_B (evd_meth (evd_var rfl) (ea1 (evd_call (ea2 (evd_var rfl) (evd_tup (evad_cons (evd_var rfl) evad_nil))) ⟨c, [(m : Int)], rfl, by omega, by simp, rfl⟩)) ⟨n, told, _, rfl, by rw [if_pos (with_ok gc.1 (by omega) (by omega))]⟩)))) (fun hb => ?_) (fun hb => ?_)
      · refine ws_append rfl (evd_var rfl) (by simp; omega) ⟨_, rfl, ?_⟩
        rw [if_pos hb]
        walk_at "weak"
      · refine ⟨_, rfl, ?_⟩
        rw [if_neg (by rw [hb]; decide)]
        walk_at "weak"
    · have e : (crowdsOf n).foldl (fun (found : List Crowd) (c : Crowd) => if swings1 told m c = true then found ++ [c] else found) [] = swingsOf n told m := by
        have h := foldl_pick (swings1 told m) (fun c : Crowd => c) (crowdsOf n) []
        rw [h]
        simp [swingsOf]
      rw [fold_go, e]
      exact ws_retOwn rfl rfl

/-! #### orders_of -/
abbrev s_orders_of : Stmt := top 35
abbrev nm_orders_of : List Str := ["many", "total", "k"]
theorem sc_orders_of : FnScope nm_orders_of ["many"] (defScope s_orders_of) := ⟨rfl, rfl, rfl, by decide +kernel, rfl, by decide +kernel, by decide +kernel⟩
theorem fact_fold : ∀ k : Nat, (List.range k).foldl (fun (t i : Nat) => t * (i + 1)) 1 = fact k
  | 0 => rfl
  | k + 1 => by
    rw [List.range_succ, List.foldl_append, fact_fold k]
    rfl
def R_orders_of : List D → Res → Prop := fun ds r => ∃ k : Nat, ds = [.int k] ∧ k ≤ 10 ∧ r = .val (.int (fact k))
theorem ok_orders_of (T : Txt G mg) {f : Addr} {fd : FuncData} (F : Fun G.K "orders_of" "orders_of" s_orders_of f fd)  : FnOk P w G.K mg base CX0 1 f fd ["many"] (mkSp G R_orders_of) := by
  refine okD F sc_orders_of (fun ds r hR => ?_) (by decide) (fun cdv A outer s H E hr => ⟨_, (pss_cons (ps_asg pe_int (pg_name (i := 1) sc_orders_of.nd rfl (by first | exact Or.inl rfl | exact Or.inr rfl))) (pss_cons (ps_for PassesOwn.never rfl (pi_range1 rfl T.range (pa_cons (pv 0) pa_nil)) (pg_name (i := 2) sc_orders_of.nd rfl (by first | exact Or.inl rfl | exact Or.inr rfl)) (pss_one (ps_asg (pe_op op_mul (pv 1) (pe_op op_add (pv 2) pe_int)) (pg_name (i := 1) sc_orders_of.nd rfl (by first | exact Or.inl rfl | exact Or.inr rfl))))) (pss_one (ps_ret (pv 1))))), fun ds r hR => ?_⟩)
  · obtain ⟨k, rfl, hk, rfl⟩ := hR
    rfl
  · obtain ⟨k, rfl, hk, rfl⟩ := hR
    show WS G _ _ _ [.im (.int k), .no, .no]
    refine ws_seq (ws_asgD (i := 1) (d := .int ((1 : Nat) : Int)) evd_int ?_)
    refine ws_seq (ws_forR1 (n := (k : Int)) (fun t : Nat => [.im (.int k), .im (.int (t : Int)), .no]) (fun t i => .go (t * (i + 1))) 1 (ea1 (evd_var rfl)) (by omega) (by walk_at "weak") (fun i t hi hf => ?_) ?_)
    · refine ws_asgD (i := 1) (evd_is (evd_mul (evd_var rfl) (evd_add (evd_var rfl) evd_int) (.inr (by omega))) (y := .int ((t * (i + 1) : Nat) : Int)) (by push_cast; rfl)) ⟨t * (i + 1), rfl, by walk_at "weak"⟩
    · rw [fold_go]
      show WS G _ _ _ _
      rw [Int.toNat_natCast, fact_fold]
      exact ws_ret (evd_var rfl) rfl

/-! #### lowest -/
abbrev s_lowest : Stmt := top 36
abbrev nm_lowest : List Str := ["top", "bottom", "one", "other", "rest"]
theorem sc_lowest : FnScope nm_lowest ["top", "bottom"] (defScope s_lowest) := ⟨rfl, rfl, rfl, by decide +kernel, rfl, by decide +kernel, by decide +kernel⟩
def R_lowest : List D → Res → Prop := fun ds r => ∃ a b : Nat, ds = [.int a, .int b] ∧ 0 < b ∧ a ≤ 100000 ∧ b ≤ 100000 ∧ r = .val (.tup [.int (lowestOf a b).1, .int (lowestOf a b).2])
theorem ok_lowest (T : Txt G mg) {f : Addr} {fd : FuncData} (F : Fun G.K "lowest" "lowest" s_lowest f fd)  : FnOk P w G.K mg base CX0 1 f fd ["top", "bottom"] (mkSp G R_lowest) := by
  refine okD F sc_lowest (fun ds r hR => ?_) (by decide) (fun cdv A outer s H E hr => ⟨_, (pss_cons (ps_asg (pv 0) (pg_name (i := 2) sc_lowest.nd rfl (by first | exact Or.inl rfl | exact Or.inr rfl))) (pss_cons (ps_asg (pv 1) (pg_name (i := 3) sc_lowest.nd rfl (by first | exact Or.inl rfl | exact Or.inr rfl))) (pss_cons (ps_while PassesOwn.never (pt_cmpR op_gt (pv 3) pe_int (nomark _)) (pss_cons (ps_asg (pe_op op_mod (pv 2) (pv 3)) (pg_name (i := 4) sc_lowest.nd rfl (by first | exact Or.inl rfl | exact Or.inr rfl))) (pss_cons (ps_asg (pv 3) (pg_name (i := 2) sc_lowest.nd rfl (by first | exact Or.inl rfl | exact Or.inr rfl))) (pss_one (ps_asg (pv 4) (pg_name (i := 3) sc_lowest.nd rfl (by first | exact Or.inl rfl | exact Or.inr rfl))))))) (pss_one (ps_ret (pe_tup (pa_cons (pe_op op_fdiv (pv 0) (pv 2)) (pa_cons (pe_op op_fdiv (pv 1) (pv 2)) pa_nil)))))))), fun ds r hR => ?_⟩)
  · obtain ⟨a, b, rfl, hb, ha5, hb5, rfl⟩ := hR
    rfl
  · obtain ⟨a, b, rfl, hb, ha5, hb5, rfl⟩ := hR
    show WS G _ _ _ [.im (.int a), .im (.int b), .no, .no, .no]
    refine ws_seq (ws_asgD (i := 2) (evd_var rfl) ?_)
    refine ws_seq (ws_asgD (i := 3) (evd_var rfl) ?_)
    refine ws_seq (ws_while (fun s : Nat × Nat => [.im (.int a), .im (.int b), .im (.int (s.1 : Int)), .im (.int (s.2 : Int)), .no]) (fun s => s.2) (fun s => Nat.gcd s.1 s.2 = Nat.gcd a b ∧ s.2 ≤ 100000) (a, b) (by walk_at "weak") ⟨rfl, hb5⟩ (fun s hs => ⟨decide ((0 : Int) < (s.2 : Int)), evt_test (evd_gt (evd_var rfl) evd_int), fun h => ?_, fun h => ?_⟩))
    · have h0 : 0 < s.2 := by
        have := of_decide_eq_true h
        omega
      refine ⟨(s.2, s.1 % s.2), Nat.mod_lt _ h0, ⟨?_, ?_⟩, ?_⟩
      · rw [← hs.1, Nat.gcd_comm, ← Nat.gcd_rec, Nat.gcd_comm]
      · have := Nat.mod_lt s.1 h0
        show s.1 % s.2 ≤ _
        omega
      · refine ws_seq (ws_asgD (i := 4) (evd_mod (evd_var rfl) (evd_var rfl) (by omega)) ?_)
        refine ws_seq (ws_asgD (i := 2) (evd_var rfl) ?_)
        refine ws_asgD (i := 3) (evd_is (evd_var rfl) (y := .int ((s.1 % s.2 : Nat) : Int)) (by push_cast; rfl)) ?_
        walk_at "weak"
    · have h0 : s.2 = 0 := by
        have := of_decide_eq_false h
        omega
      have hg := hs.1
      rw [h0, Nat.gcd_zero_right] at hg
      have hp := Nat.gcd_pos_of_pos_right a hb
      have hle := Nat.le_of_dvd hb (Nat.gcd_dvd_right a b)
      refine ws_ret (evd_is (evd_tup (evad_cons (evd_fdiv (evd_var rfl) (evd_var rfl) ⟨by omega, by omega⟩) (evad_cons (evd_fdiv (evd_var rfl) (evd_var rfl) ⟨by omega, by omega⟩) evad_nil))) ?_) rfl
      rw [hg]
      rfl

/-! #### powers -/
abbrev s_powers : Stmt := top 37
abbrev nm_powers : List Str := ["council", "many", "found", "member", "top", "crowd"]
theorem sc_powers : FnScope nm_powers ["council"] (defScope s_powers) := ⟨rfl, rfl, rfl, by decide +kernel, rfl, by decide +kernel, by decide +kernel⟩
def eP (p : Int × Int) : D := .tup [.int p.1, .int p.2]
theorem sum_take_le (f : Crowd → Nat) : ∀ (l : List Crowd) (i : Nat), ((l.take i).map f).sum ≤ (l.map f).sum
  | [], i => by simp
  | c :: l, 0 => by simp
  | c :: l, i + 1 => by
    rw [List.take_succ_cons, List.map_cons, List.map_cons, List.sum_cons, List.sum_cons]
    have := sum_take_le f l i
    omega
theorem foldl_sum (f : Crowd → Nat) : ∀ (l : List Crowd) (a : Nat), l.foldl (fun t c => t + f c) a = a + (l.map f).sum
  | [], a => by simp
  | c :: l, a => by
    rw [List.foldl_cons, foldl_sum f l, List.map_cons, List.sum_cons]
    omega
theorem foldl_map {α β : Type} (f : α → β) : ∀ (l : List α) (acc : List β), l.foldl (fun acc x => acc ++ [f x]) acc = acc ++ l.map f
  | [], acc => by simp
  | x :: l, acc => by
    rw [List.foldl_cons, foldl_map f l]
    simp
theorem swings_room {n : Nat} (hn : n ≤ 5) {told : List Crowd} {m : Nat} (hm : m < n) {c : Crowd} (h : c ∈ swingsOf n told m) : c.length ≤ n - 1 := by
  obtain ⟨h1, h2⟩ := List.mem_filter.mp h
  have h3 : (m : Int) ∉ c := by
    unfold swings1 at h2
    have := (Bool.and_eq_true_iff.mp h2).1
    simpa using this
  exact crowds_room n (by omega) m hm c h1 h3
def R_powers : List D → Res → Prop := fun ds r => ∃ (n : Nat) (told : List Crowd), ds = [.cou n told] ∧ n ≤ 5 ∧ r = .new ((powersOf n told).map eP)
theorem ok_powers (T : Txt G mg) {f : Addr} {fd : FuncData} (F : Fun G.K "powers" "powers" s_powers f fd) (H_Council_many : Mt G P w mg base "many" 1 ["self"] R_Council_many) (H_swings_of : Fn G P w mg base "swings_of" 4 ["council", "member"] R_swings_of) (H_orders_of : Fn G P w mg base "orders_of" 1 ["many"] R_orders_of) (H_lowest : Fn G P w mg base "lowest" 1 ["top", "bottom"] R_lowest) : FnOk P w G.K mg base CX0 5 f fd ["council"] (mkSp G R_powers) := by
  refine okD F sc_powers (fun ds r hR => ?_) (by decide) (fun cdv A outer s H E hr => ⟨_, (pss_cons (ps_asg (pe_methF0 (pv 0) T.cl H_Council_many (hr.mono (by decide))) (pg_name (i := 1) sc_powers.nd rfl (by first | exact Or.inl rfl | exact Or.inr rfl))) (pss_cons (ps_asg (pe_lst pa_nil) (pg_name (i := 2) sc_powers.nd rfl (by first | exact Or.inl rfl | exact Or.inr rfl))) (pss_cons (ps_for PassesOwn.never rfl (pi_range1 rfl T.range (pa_cons (pv 1) pa_nil)) (pg_name (i := 3) sc_powers.nd rfl (by first | exact Or.inl rfl | exact Or.inr rfl)) (pss_cons (ps_asg pe_int (pg_name (i := 4) sc_powers.nd rfl (by first | exact Or.inl rfl | exact Or.inr rfl))) (pss_cons (ps_for PassesOwn.never rfl (k_pl G.K (pe_callF H_swings_of (hr.mono (by decide)) rfl (pa_cons (pv 0) (pa_cons (pv 3) pa_nil)))) (pg_name (i := 5) sc_powers.nd rfl (by first | exact Or.inl rfl | exact Or.inr rfl)) (pss_one (ps_asg (pe_op op_add (pv 4) (pe_op op_mul (pe_callF H_orders_of (hr.mono (by decide)) rfl (pa_cons (pe_callB (k_len G.K) (by rfl) T.len PySem.boot_len (pa_cons (pv 5) pa_nil)) pa_nil)) (pe_callF H_orders_of (hr.mono (by decide)) rfl (pa_cons (pe_op op_sub (pe_op op_sub (pv 1) pe_int) (pe_callB (k_len G.K) (by rfl) T.len PySem.boot_len (pa_cons (pv 5) pa_nil))) pa_nil)))) (pg_name (i := 4) sc_powers.nd rfl (by first | exact Or.inl rfl | exact Or.inr rfl))))) (pss_one (ps_expr (pe_bm PySem.F.plainAttrs_list PySem.F.slot_list_append PySem.F.type_list_append mt_append (pv 2) (pa_cons (pe_callF H_lowest (hr.mono (by decide)) rfl (pa_cons (pv 4) (pa_cons (pe_callF H_orders_of (hr.mono (by decide)) rfl (pa_cons (pv 1) pa_nil)) pa_nil))) pa_nil))))))) (pss_one (ps_ret (pv 2)))))), fun ds r hR => ?_⟩)
  · obtain ⟨n, told, rfl, hn, rfl⟩ := hR
    rfl
  · obtain ⟨n, told, rfl, hn, rfl⟩ := hR
    show WS G _ _ _ [.im (.cou n told), .no, .no, .no, .no, .no]
    refine ws_seq (ws_asgD (i := 1) (evd_meth (evd_var rfl) eva_nil ⟨n, told, rfl, rfl⟩) ?_)
    refine ws_seq (ws_asgN (i := 2) (evn_lst evad_nil) ?_)
    refine ws_seq (ws_forR1 (n := (n : Int)) (fun found : List (Int × Int) => [.im (.cou n told), .im (.int (n : Int)), .own (found.map eP), .no, .no, .no]) (fun found m => .go (found ++ [lowestOf (topOf n told m) (fact n)])) [] (ea1 (evd_var rfl)) (by omega) (by walk_at "weak") (fun m found hm hf => ?_) ?_)
    · have hfound := fold_go_take (f := fun (found : List (Int × Int)) (m : Nat) => found ++ [lowestOf (topOf n told m) (fact n)]) hf
      have hlen : found.length ≤ 100 := by
        rw [hfound, foldl_map]
        simp
        omega
      have hm' : m < n := by omega
      have htop := topOf_le hn told hm'
      have hsm := orders_small n (by omega)
      clear hf hfound
      refine ws_seq (ws_asgD (i := 4) (d := .int ((0 : Nat) : Int)) evd_int ?_)
      refine ws_seq (ws_forL (swingsOf n told m) eC (fun t : Nat => [.im (.cou n told), .im (.int (n : Int)), .own (found.map eP), .im (.int (m : Int)), .im (.int (t : Int)), .no]) (fun t c => .go (t + fact c.length * fact (n - 1 - c.length))) 0 (evz_new (evn_call (ea2 (evd_var rfl) (evd_var rfl)) ⟨n, told, m, rfl, hn, hm', rfl⟩)) (by walk_at "weak") (fun i t c hc hf => ?_) ?_)
      · have hroom := swings_room hn hm' (List.mem_of_getElem? hc)
        have f1 : fact c.length ≤ 120 := orders_small _ (by omega)
        refine ws_asgD (i := 4) (evd_is (evd_add (evd_var rfl) (evd_mul (evd_call (ea1 (evd_is (evd_lenT (ds := c.map .int) (evd_var rfl)) (y := .int (c.length : Int)) (by simp))) ⟨c.length, rfl, by omega, rfl⟩) (evd_call (ea1 (evd_is (evd_sub (evd_sub (evd_var rfl) evd_int) (evd_lenT (ds := c.map .int) (evd_var rfl))) (y := .int ((n - 1 - c.length : Nat) : Int)) (by simp; omega))) ⟨n - 1 - c.length, rfl, by omega, rfl⟩) (.inl (by omega)))) (y := .int ((t + fact c.length * fact (n - 1 - c.length) : Nat) : Int)) (by push_cast; rfl)) ⟨_, rfl, by walk_at "weak"⟩
      · have e : (swingsOf n told m).foldl (fun (t : Nat) (c : Crowd) => t + fact c.length * fact (n - 1 - c.length)) 0 = topOf n told m := by
          rw [foldl_sum (fun c => fact c.length * fact (n - 1 - c.length))]
          unfold topOf
          omega
        rw [fold_go, e]
        refine ws_append rfl (evd_call (ea2 (evd_var rfl) (evd_call (ea1 (evd_var rfl)) ⟨n, rfl, by omega, rfl⟩)) ⟨topOf n told m, fact n, rfl, fact_pos n, by omega, by omega, rfl⟩) (by simp; omega) ⟨_, rfl, ?_⟩
        dsimp only
        rw [show (found ++ [lowestOf (topOf n told m) (fact n)]).map eP = found.map eP ++ [.tup [.int (lowestOf (topOf n told m) (fact n)).1, .int (lowestOf (topOf n told m) (fact n)).2]] by rw [List.map_append]; rfl]
        walk_at "weak"
    · have e : (List.range (n : Int).toNat).foldl (fun (found : List (Int × Int)) (m : Nat) => found ++ [lowestOf (topOf n told m) (fact n)]) [] = powersOf n told := by
        rw [foldl_map]
        simp [powersOf]
      rw [fold_go, e]
      exact ws_retOwn rfl rfl

/-! #### swings -/
abbrev s_swings : Stmt := top 34
abbrev nm_swings : List Str := ["council", "member"]
theorem sc_swings : FnScope nm_swings ["council"] (defScope s_swings) := ⟨rfl, rfl, rfl, by decide +kernel, rfl, by decide +kernel, by decide +kernel⟩
def R_swings : List D → Res → Prop := fun ds r => ∃ (n : Nat) (told : List Crowd), ds = [.cou n told] ∧ n ≤ 5 ∧ r = .new ((swingCounts n told).map .int)
theorem ok_swings (T : Txt G mg) {f : Addr} {fd : FuncData} (F : Fun G.K "swings" "swings" s_swings f fd) (H_Council_many : Mt G P w mg base "many" 1 ["self"] R_Council_many) (H_swings_of : Fn G P w mg base "swings_of" 4 ["council", "member"] R_swings_of) : FnOk P w G.K mg base CX0 5 f fd ["council"] (mkSp G R_swings) := by
  refine okD F sc_swings (fun ds r hR => ?_) (by decide) (fun cdv A outer s H E hr => ⟨_, (pss_one (ps_ret (pe_lc (own := [("member", 1)]) (g := gName 1) (tt := tYes) rfl sc_swings.nd (pi_range1 rfl T.range (pa_cons (pe_methF0 (pv 0) T.cl H_Council_many (hr.mono (by decide))) pa_nil)) (blkOk_by (N := nm_swings) (sc := defScope s_swings) (by decide +kernel)) (fun _ _ _ _ _ => pg_name (i := 1) sc_swings.nd rfl (by first | exact Or.inl rfl | exact Or.inr rfl)) (fun _ _ _ _ _ => pts_nil) (fun _ _ _ _ _ => (pe_callB (k_len G.K) (by rfl) T.len PySem.boot_len (pa_cons (pe_callF H_swings_of (hr.mono (by decide)) rfl (pa_cons (pv 0) (pa_cons (pv 1) pa_nil))) pa_nil)))))), fun ds r hR => ?_⟩)
  · obtain ⟨n, told, rfl, hn, rfl⟩ := hR
    rfl
  · obtain ⟨n, told, rfl, hn, rfl⟩ := hR
    show WS G _ _ _ [.im (.cou n told), .no]
    refine ws_retN (evn_is (evn_lcR1 (n := (n : Int)) (fun _ => true) (fun k => .int ((swingsOf n told k).length : Int)) (ea1 (evd_meth (evd_var rfl) eva_nil ⟨n, told, rfl, rfl⟩)) (by omega) (by simp) (fun _ _ => evt_yes) (fun k hk _ => evd_is (evd_lenL (evs_new (evn_call (ea2 (evd_var rfl) (evd_var rfl)) ⟨n, told, k, rfl, hn, by omega, rfl⟩))) (by simp))) ?_) rfl
    rw [filter_yes]
    simp [swingCounts, List.map_map, Function.comp_def]

/-! #### can_all -/
abbrev s_can_all : Stmt := top 25
abbrev nm_can_all : List Str := ["council", "one", "other", "crowd"]
theorem sc_can_all : FnScope nm_can_all ["council", "one", "other"] (defScope s_can_all) := ⟨rfl, rfl, rfl, by decide +kernel, rfl, by decide +kernel, by decide +kernel⟩
def R_can_all : List D → Res → Prop := fun ds r => ∃ (n : Nat) (told : List Crowd) (a b : Int), ds = [.cou n told, .int a, .int b] ∧ n ≤ 5 ∧ r = if (a < 0 ∨ a ≥ n) ∨ (b < 0 ∨ b ≥ n) then .err .member else .val (.bl (canAll n told a b))
theorem ok_can_all (T : Txt G mg) {f : Addr} {fd : FuncData} (F : Fun G.K "can_all" "can_all" s_can_all f fd) (H_Council_look_for : Mt G P w mg base "look_for" 1 ["self", "member"] R_Council_look_for) (H_crowds_of : Fn G P w mg base "crowds_of" 1 ["many"] R_crowds_of) (H_Council_many : Mt G P w mg base "many" 1 ["self"] R_Council_many) (H_Council_carries : Mt G P w mg base "carries" 3 ["self", "crowd"] R_Council_carries) (H_with_them : Fn G P w mg base "with_them" 1 ["crowd", "more"] R_with_them) : FnOk P w G.K mg base (L2.CX P w) 4 f fd ["council", "one", "other"] (mkSp G R_can_all) := by
  refine okX F sc_can_all (fun ds r hR => ?_) (by decide) (fun cdv A outer s H E hr => ⟨_, (pss_cons (ps_expr (pe_methX (pv 0) T.cl H_Council_look_for (hr.mono (by decide)) (takes_of rfl rfl rfl rfl) (pa_cons (pv 1) pa_nil))) (pss_cons (ps_expr (pe_methX (pv 0) T.cl H_Council_look_for (hr.mono (by decide)) (takes_of rfl rfl rfl rfl) (pa_cons (pv 2) pa_nil))) (pss_cons (ps_for (passes_of rfl) rfl (k_pl G.K (pe_callF H_crowds_of (hr.mono (by decide)) rfl (pa_cons (pe_methF0 (pv 0) T.cl H_Council_many (hr.mono (by decide))) pa_nil))) (pg_name (i := 3) sc_can_all.nd rfl (by first | exact Or.inl rfl | exact Or.inr rfl)) (pss_one (ps_if (PW.pt (pw_and (pt_cmpR (k_notIn G.K) (pv 1) (pv 3) rfl) (pw_and1 (pt_cmpR (k_notIn G.K) (pv 2) (pv 3) rfl)))) (pss_one (ps_if (PW.pt (pw_and (pt_val (pe_methX (pv 0) T.cl H_Council_carries (hr.mono (by decide)) (takes_of rfl rfl rfl rfl) (pa_cons (pe_callF H_with_them (hr.mono (by decide)) rfl (pa_cons (pv 3) (pa_cons (pe_tup (pa_cons (pv 2) pa_nil)) pa_nil))) pa_nil))) (pw_and1 (pt_not (pt_val (pe_methX (pv 0) T.cl H_Council_carries (hr.mono (by decide)) (takes_of rfl rfl rfl rfl) (pa_cons (pe_callF H_with_them (hr.mono (by decide)) rfl (pa_cons (pv 3) (pa_cons (pe_tup (pa_cons (pv 1) pa_nil)) pa_nil))) pa_nil))))))) (pss_one (ps_ret pe_bl)) pss_nil)) pss_nil))) (pss_one (ps_ret pe_bl))))), fun ds r hR => ?_⟩)
  · obtain ⟨n, told, a, b, rfl, hn, rfl⟩ := hR
    rfl
  · obtain ⟨n, told, a, b, rfl, hn, rfl⟩ := hR
    show WS G _ _ _ [.im (.cou n told), .im (.int a), .im (.int b), .no]
    refine ws_seq (ws_dropX (evx_meth (evd_var rfl) (ea1 (evd_var rfl)) ⟨n, told, a, rfl, rfl⟩) ?_)
    by_cases ha : a < 0 ∨ a ≥ n
    · rw [if_pos ha]
      show _ = _
      rw [if_pos (.inl ha)]
    · rw [if_neg ha]
      refine ws_seq (ws_dropX (evx_meth (evd_var rfl) (ea1 (evd_var rfl)) ⟨n, told, b, rfl, rfl⟩) ?_)
      by_cases hb : b < 0 ∨ b ≥ n
      · rw [if_pos hb]
        show _ = _
        rw [if_pos (.inr hb)]
      · rw [if_neg hb, if_neg (by omega)]
        refine ws_seq (ws_forL (crowdsOf n) eC (fun _ : Unit => [.im (.cou n told), .im (.int a), .im (.int b), .no]) (fun _ c => if canStep told a b c then .go () else .stop (.val (.bl false))) () (evz_new (evn_call (ea1 (evd_meth (evd_var rfl) eva_nil ⟨n, told, rfl, rfl⟩)) ⟨n, rfl, hn, rfl⟩)) (by walk_at "weak") (fun i s c hc hf => ?_) ?_)
        · have gc := cs_good hn (List.mem_of_getElem? hc)
          refine ws_when (evt_and (evt_test (evd_ninT (evd_var rfl) (evd_var rfl))) (fun _ => evt_test (evd_ninT (evd_var rfl) (evd_var rfl)))) (fun h => ?_) (fun h => ⟨(), ?_, by walk_at "weak"⟩)
          · refine ws_when (evt_and (b := bears told (withThem c [b])) (c := !bears told (withThem c [a])) (evt_B (evd_meth (evd_var rfl) (ea1 (evd_call (ea2 (evd_var rfl) (evd_tup (evad_cons (evd_var rfl) evad_nil))) ⟨c, [b], rfl, by omega, by simp, rfl⟩)) ⟨n, told, _, rfl, by rw [if_pos (with_ok gc.1 (by omega) (by omega))]⟩))
              (fun _ => evt_not (evt_B (evd_meth (evd_var rfl) (ea1 (evd_call (ea2 (evd_var rfl) (evd_tup (evad_cons (evd_var rfl) evad_nil))) ⟨c, [a], rfl, by omega, by simp, rfl⟩)) ⟨n, told, _, rfl, by rw [if_pos (with_ok gc.1 (by omega) (by omega))]⟩)))) (fun h2 => ws_ret evd_bl ?_) (fun h2 => ⟨(), ?_, by walk_at "weak"⟩)
            · have e : canStep told a b c = false := by
                unfold canStep
                rw [h, h2]
                rfl
              show (if _ then _ else _) = _
              rw [if_neg (by rw [e]; decide)]
            · have e : canStep told a b c = true := by
                unfold canStep
                rw [h2]
                simp
              rw [if_pos e]
          · have e : canStep told a b c = true := by
              unfold canStep
              rw [h]
              rfl
            rw [if_pos e]
        · rw [fold_all]
          unfold canAll
          cases h : (crowdsOf n).all (canStep told a b) with
          | true => exact ws_ret evd_bl rfl
          | false => exact rfl

/-! #### exchanges -/
abbrev s_exchanges : Stmt := top 44
abbrev nm_exchanges : List Str := ["one", "other", "shared", "pairs", "member", "longer", "pair"]
theorem sc_exchanges : FnScope nm_exchanges ["one", "other"] (defScope s_exchanges) := ⟨rfl, rfl, rfl, by decide +kernel, rfl, by decide +kernel, by decide +kernel⟩
def ePr (p : Crowd × Crowd) : D := .tup [eC p.1, eC p.2]
theorem foldl_two (m : Int) : ∀ (l acc : List (Crowd × Crowd)), l.foldl (fun acc p => acc ++ [(withThem p.1 [m], p.2), (p.1, withThem p.2 [m])]) acc = acc ++ l.flatMap fun p => [(withThem p.1 [m], p.2), (p.1, withThem p.2 [m])]
  | [], acc => by simp
  | c :: l, acc => by
    rw [List.foldl_cons, foldl_two m l, List.flatMap_cons, List.append_assoc]
def R_exchanges : List D → Res → Prop := fun ds r => ∃ a b : Crowd, ds = [eC a, eC b] ∧ a.length ≤ 5 ∧ b.length ≤ 5 ∧ a.Pairwise (· < ·) ∧ (withThem a b).length ≤ 5 ∧ r = .val (.lst ((exch a b).map ePr))
theorem ok_exchanges (T : Txt G mg) {f : Addr} {fd : FuncData} (F : Fun G.K "exchanges" "exchanges" s_exchanges f fd) (H_with_them : Fn G P w mg base "with_them" 1 ["crowd", "more"] R_with_them) : FnOk P w G.K mg base CX0 2 f fd ["one", "other"] (mkSp G R_exchanges) := by
  refine okD F sc_exchanges (fun ds r hR => ?_) (by decide) (fun cdv A outer s H E hr => ⟨_, (pss_cons (ps_asg (pe_callTy (k_tuple G.K) (by rfl) T.tuple (by decide +kernel) (pa_cons (pe_lc (own := [("member", 4)]) (g := gName 4) (tt := _) rfl sc_exchanges.nd (k_pt G.K (pv 0)) (blkOk_by (N := nm_exchanges) (sc := defScope s_exchanges) (by decide +kernel)) (fun _ _ _ _ _ => pg_name (i := 4) sc_exchanges.nd rfl (by first | exact Or.inl rfl | exact Or.inr rfl)) (fun _ _ _ _ _ => (pts_one (pt_cmpR (k_in G.K) (pv 4) (pv 1) rfl))) (fun _ _ _ _ _ => (pv 4))) pa_nil)) (pg_name (i := 2) sc_exchanges.nd rfl (by first | exact Or.inl rfl | exact Or.inr rfl))) (pss_cons (ps_asg (pe_lst (pa_cons (pe_tup (pa_cons (pv 2) (pa_cons (pv 2) pa_nil))) pa_nil)) (pg_name (i := 3) sc_exchanges.nd rfl (by first | exact Or.inl rfl | exact Or.inr rfl))) (pss_cons (ps_for PassesOwn.never rfl (k_pl G.K (pe_callB (k_sortedSet w rfl) (by rfl) T.sorted (by decide +kernel) (pa_cons (pe_callTy (k_setT G.K w rfl) (by rfl) T.set (by decide +kernel) (pa_cons (pe_op (k_catA G.K) (pv 0) (pv 1)) pa_nil)) pa_nil))) (pg_name (i := 4) sc_exchanges.nd rfl (by first | exact Or.inl rfl | exact Or.inr rfl)) (pss_one (ps_if (pt_cmpR (k_notIn G.K) (pv 4) (pv 2) rfl) (pss_cons (ps_asg (pe_lst pa_nil) (pg_name (i := 5) sc_exchanges.nd rfl (by first | exact Or.inl rfl | exact Or.inr rfl))) (pss_cons (ps_for PassesOwn.never rfl (k_pl G.K (pv 3)) (pg_name (i := 6) sc_exchanges.nd rfl (by first | exact Or.inl rfl | exact Or.inr rfl)) (pss_cons (ps_expr (pe_bm PySem.F.plainAttrs_list PySem.F.slot_list_append PySem.F.type_list_append mt_append (pv 5) (pa_cons (pe_tup (pa_cons (pe_callF H_with_them (hr.mono (by decide)) rfl (pa_cons (pe_ix (k_ixT G.K) (pv 6) pe_int (fun _ _ => rfl)) (pa_cons (pe_tup (pa_cons (pv 4) pa_nil)) pa_nil))) (pa_cons (pe_ix (k_ixT G.K) (pv 6) pe_int (fun _ _ => rfl)) pa_nil))) pa_nil))) (pss_one (ps_expr (pe_bm PySem.F.plainAttrs_list PySem.F.slot_list_append PySem.F.type_list_append mt_append (pv 5) (pa_cons (pe_tup (pa_cons (pe_ix (k_ixT G.K) (pv 6) pe_int (fun _ _ => rfl)) (pa_cons (pe_callF H_with_them (hr.mono (by decide)) rfl (pa_cons (pe_ix (k_ixT G.K) (pv 6) pe_int (fun _ _ => rfl)) (pa_cons (pe_tup (pa_cons (pv 4) pa_nil)) pa_nil))) pa_nil))) pa_nil)))))) (pss_one (ps_asg (pv 5) (pg_name (i := 3) sc_exchanges.nd rfl (by first | exact Or.inl rfl | exact Or.inr rfl)))))) pss_nil))) (pss_one (ps_ret (pv 3)))))), fun ds r hR => ?_⟩)
  · obtain ⟨a, b, rfl, ha, hb, hsa, hu, rfl⟩ := hR
    rfl
  · obtain ⟨a, b, rfl, ha, hb, hsa, hu, rfl⟩ := hR
    show WS G _ _ _ [.im (eC a), .im (eC b), .no, .no, .no, .no, .no]
    have shl : (sharedOf a b).length ≤ 5 := Nat.le_trans (List.length_filter_le _ _) ha
    refine ws_seq (ws_asgD (i := 2) (d := eC (sharedOf a b)) (evd_tupleL (evs_new (evn_lcT a D.int (fun m => decide (m ∈ b)) D.int (evd_var rfl) (by omega) (by simp) (fun m _ => evt_test (evd_inT (evd_var rfl) (evd_var rfl))) (fun m _ _ => evd_var rfl))) (by
      show ((sharedOf a b).map D.int).length ≤ _
      rw [List.length_map]
      omega)) ?_)
    refine ws_seq (ws_asgN (i := 3) (evn_lst (evad_cons (evd_tup (evad_cons (evd_var rfl) (evad_cons (evd_var rfl) evad_nil))) evad_nil)) ?_)
    have ulen : ∀ i, ((withThem a b).take i).length ≤ 5 := fun i => by rw [List.length_take]; omega
    refine ws_freeze 3 rfl (ws_seq (ws_forL (withThem a b) D.int (fun pairs : List (Crowd × Crowd) => [.im (eC a), .im (eC b), .im (eC (sharedOf a b)), .im (.lst (pairs.map ePr)), .no, .no, .no]) (fun pairs m => .go (exStep (sharedOf a b) pairs m)) [(sharedOf a b, sharedOf a b)] (evz_new (evn_sortedSet (ns := a ++ b) (evd_is (evd_catT (ds := a.map .int) (es := b.map .int) (evd_var rfl) (evd_var rfl) (by simp; omega)) (by rw [List.map_append])) (by simp; omega) (sortU_sorted (a ++ b)) (fun k => sortU_mem))) (by walk_at "weak") (fun i pairs m hm hf => ?_) ?_))
    · have hp := fold_go_take (f := exStep (sharedOf a b)) hf
      have hlen : pairs.length ≤ 32 := by
        have h := ex_len (sharedOf a b) ((withThem a b).take i) [(sharedOf a b, sharedOf a b)]
        rw [← hp] at h
        have h2 : 2 ^ ((withThem a b).take i).length ≤ 2 ^ 5 := Nat.pow_le_pow_right (by decide) (ulen i)
        simp only [List.length_cons, List.length_nil] at h
        omega
      have hgood : ∀ p ∈ pairs, p.1.length ≤ 5 ∧ p.2.length ≤ 5 := fun p hpm => by
        have nd := with_nodup a b
        have h := ex_good (sharedOf a b) ((withThem a b).take i) [] [(sharedOf a b, sharedOf a b)] (by rw [List.nil_append]; exact nd.sublist (List.take_sublist _ _)) (fun p hp => by
          have : p = (sharedOf a b, sharedOf a b) := by simpa using hp
          subst this
          exact ⟨shared_sorted hsa, shared_sorted hsa, fun k hk => ⟨hk, hk⟩, fun k _ hk => absurd hk (by simp), fun k hk _ => ⟨hk, hk⟩⟩) p (by rw [← hp]; exact hpm)
        rw [List.nil_append] at h
        have sub : ∀ c : Crowd, c.Pairwise (· < ·) → (∀ k ∈ c, k ∈ withThem a b) → c.length ≤ 5 := fun c hc hk => Nat.le_trans (sub_sorted hc (sortU_sorted _) hk).length_le hu
        have mem : ∀ k, (k ∈ p.1 ∨ k ∈ p.2) → k ∈ withThem a b := fun k hk => by
          by_cases h1 : k ∈ sharedOf a b
          · exact withThem_mem.mpr (.inl (shared_mem.mp h1).1)
          · by_cases h2 : k ∈ (withThem a b).take i
            · exact List.mem_of_mem_take h2
            · have := h.no k h1 h2
              rcases hk with z | z
              · exact absurd z this.1
              · exact absurd z this.2
        exact ⟨sub _ h.s1 fun k hk => mem k (.inl hk), sub _ h.s2 fun k hk => mem k (.inr hk)⟩
      clear hf hp
      by_cases hs : m ∈ sharedOf a b
      · refine ws_when (evt_test (evd_ninT (evd_var rfl) (evd_var rfl))) (fun h => ?_) (fun _ => ⟨_, rfl, ?_⟩)
        · simp [hs] at h
        · unfold exStep
          rw [if_pos hs]
          walk_at "weak"
      · refine ws_when (evt_test (evd_ninT (evd_var rfl) (evd_var rfl))) (fun _ => ?_) (fun h => by simp [hs] at h)
        refine ws_seq (ws_asgN (i := 5) (evn_lst evad_nil) ?_)
        refine ws_seq (ws_forL pairs ePr (fun acc : List (Crowd × Crowd) => [.im (eC a), .im (eC b), .im (eC (sharedOf a b)), .im (.lst (pairs.map ePr)), .im (.int m), .own (acc.map ePr), .no]) (fun acc (p : Crowd × Crowd) => .go (acc ++ [(withThem p.1 [m], p.2), (p.1, withThem p.2 [m])])) [] (evz_of (evd_var rfl)) (by walk_at "weak") (fun j acc p hp2 hf2 => ?_) ?_)
        · have hacc := fold_go_take (f := fun (acc : List (Crowd × Crowd)) (p : Crowd × Crowd) => acc ++ [(withThem p.1 [m], p.2), (p.1, withThem p.2 [m])]) hf2
          rw [foldl_two, List.nil_append] at hacc
          have hal : acc.length ≤ 64 := by
            rw [hacc, List.length_flatMap]
            have : ∀ l : List (Crowd × Crowd), (l.map fun p => ([(withThem p.1 [m], p.2), (p.1, withThem p.2 [m])] : List (Crowd × Crowd)).length).sum = 2 * l.length := by
              intro l
              induction l with
              | nil => rfl
              | cons a l ih =>
                simp only [List.map_cons, List.sum_cons, List.length_cons, List.length_nil] at ih ⊢
                omega
            rw [this, List.length_take]
            omega
          have g := hgood p (List.mem_of_getElem? hp2)
          refine ws_seq (ws_append rfl (evd_tup (evad_cons (evd_call (ea2 (evd_ixT (ds := [eC p.1, eC p.2]) (j := 0) (evd_var rfl) evd_int rfl rfl) (evd_tup (evad_cons (evd_var rfl) evad_nil))) ⟨p.1, [m], rfl, by omega, by simp, rfl⟩) (evad_cons (evd_ixT (ds := [eC p.1, eC p.2]) (j := 1) (evd_var rfl) evd_int rfl rfl) evad_nil))) (by simp; omega) ?_)
          refine ws_append rfl (evd_tup (evad_cons (evd_ixT (ds := [eC p.1, eC p.2]) (j := 0) (evd_var rfl) evd_int rfl rfl) (evad_cons (evd_call (ea2 (evd_ixT (ds := [eC p.1, eC p.2]) (j := 1) (evd_var rfl) evd_int rfl rfl) (evd_tup (evad_cons (evd_var rfl) evad_nil))) ⟨p.2, [m], rfl, by omega, by simp, rfl⟩) evad_nil))) (by simp; omega) ⟨_, rfl, ?_⟩
          dsimp only
          rw [List.map_append]
          refine Weak.of ?_
          simp only [List.set_cons_zero, List.set_cons_succ, List.append_assoc, List.map_cons, List.map_nil, List.singleton_append]
          repeat (first | exact trivial | refine ⟨.inr rfl, ?_⟩ | refine ⟨.inl rfl, ?_⟩)
        · rw [fold_go, foldl_two, List.nil_append]
          refine ws_move (ds := (pairs.flatMap fun p => [(withThem p.1 [m], p.2), (p.1, withThem p.2 [m])]).map ePr) rfl ⟨_, rfl, ?_⟩
          unfold exStep
          rw [if_neg hs]
          walk_at "weak"
    · rw [fold_go]
      exact ws_ret (evd_var rfl) rfl

/-! #### trade_of -/
abbrev s_trade_of : Stmt := top 45
abbrev nm_trade_of : List Str := ["council", "least", "one", "other", "pair"]
theorem sc_trade_of : FnScope nm_trade_of ["council"] (defScope s_trade_of) := ⟨rfl, rfl, rfl, by decide +kernel, rfl, by decide +kernel, by decide +kernel⟩
def R_trade_of : List D → Res → Prop := fun ds r => ∃ (n : Nat) (told : List Crowd), ds = [.cou n told] ∧ n ≤ 5 ∧ r = .val (tradeD (tradeOf n told))
theorem ok_trade_of (T : Txt G mg) {f : Addr} {fd : FuncData} (F : Fun G.K "trade_of" "trade_of" s_trade_of f fd) (H_Council_least : Mt G P w mg base "least" 3 ["self"] R_Council_least) (H_exchanges : Fn G P w mg base "exchanges" 2 ["one", "other"] R_exchanges) (H_Council_carries : Mt G P w mg base "carries" 3 ["self", "crowd"] R_Council_carries) : FnOk P w G.K mg base CX0 4 f fd ["council"] (mkSp G R_trade_of) := by
  refine okD F sc_trade_of (fun ds r hR => ?_) (by decide) (fun cdv A outer s H E hr => ⟨_, (pss_cons (ps_asg (pe_methF0 (pv 0) T.cl H_Council_least (hr.mono (by decide))) (pg_name (i := 1) sc_trade_of.nd rfl (by first | exact Or.inl rfl | exact Or.inr rfl))) (pss_cons (ps_for PassesOwn.never rfl (k_pl G.K (pv 1)) (pg_name (i := 2) sc_trade_of.nd rfl (by first | exact Or.inl rfl | exact Or.inr rfl)) (pss_one (ps_for PassesOwn.never rfl (k_pl G.K (pv 1)) (pg_name (i := 3) sc_trade_of.nd rfl (by first | exact Or.inl rfl | exact Or.inr rfl)) (pss_one (ps_for PassesOwn.never rfl (k_pl G.K (pe_callF H_exchanges (hr.mono (by decide)) rfl (pa_cons (pv 2) (pa_cons (pv 3) pa_nil)))) (pg_name (i := 4) sc_trade_of.nd rfl (by first | exact Or.inl rfl | exact Or.inr rfl)) (pss_one (ps_if (PW.pt (pw_and (pt_not (pt_val (pe_methF (pv 0) T.cl H_Council_carries (hr.mono (by decide)) (pa_cons (pe_ix (k_ixT G.K) (pv 4) pe_int (fun _ _ => rfl)) pa_nil)))) (pw_and1 (pt_not (pt_val (pe_methF (pv 0) T.cl H_Council_carries (hr.mono (by decide)) (pa_cons (pe_ix (k_ixT G.K) (pv 4) pe_int (fun _ _ => rfl)) pa_nil))))))) (pss_one (ps_ret (pe_tup (pa_cons (pv 2) (pa_cons (pv 3) (pa_cons (pe_ix (k_ixT G.K) (pv 4) pe_int (fun _ _ => rfl)) (pa_cons (pe_ix (k_ixT G.K) (pv 4) pe_int (fun _ _ => rfl)) pa_nil))))))) pss_nil))))))) (pss_one (ps_ret pe_non)))), fun ds r hR => ?_⟩)
  · obtain ⟨n, told, rfl, hn, rfl⟩ := hR
    rfl
  · obtain ⟨n, told, rfl, hn, rfl⟩ := hR
    show WS G _ _ _ [.im (.cou n told), .no, .no, .no, .no]
    have hg := least_good hn told
    refine ws_seq (ws_asgN (i := 1) (evn_meth (evd_var rfl) eva_nil ⟨n, told, rfl, hn, rfl⟩) ?_)
    refine ws_freeze 1 rfl (ws_seq (ws_forL (least n told) eC (fun _ : Unit => [.im (.cou n told), .im (.lst ((least n told).map eC)), .no, .no, .no]) (fun _ one => goOf (fun t => .val (tradeD (some t))) ((least n told).findSome? (fun other => (exch one other).findSome? (tradeP told one other)))) () (evz_of (evd_var rfl)) (by walk_at "weak") (fun i s one h1 hf => ?_) ?_))
    · have c1 := hg one (List.mem_of_getElem? h1)
      have g1 := cs_good hn c1
      refine ws_forL (least n told) eC (fun _ : Unit => [.im (.cou n told), .im (.lst ((least n told).map eC)), .im (eC one), .no, .no]) (fun _ other => goOf (fun t => .val (tradeD (some t))) ((exch one other).findSome? (tradeP told one other))) () (evz_of (evd_var rfl)) (by walk_at "weak") (fun j s2 other h2 hf2 => ?_) ?_
      · have c2 := hg other (List.mem_of_getElem? h2)
        have g2 := cs_good hn c2
        have ul : (withThem one other).length ≤ 5 := by
          have := (sub_sorted (sortU_sorted (one ++ other)) (rng_sorted n) fun k hk => (withThem_mem.mp hk).elim (cs_rng hn c1 k) (cs_rng hn c2 k)).length_le
          rw [rng_len] at this
          exact Nat.le_trans this hn
        refine ws_forL (exch one other) ePr (fun _ : Unit => [.im (.cou n told), .im (.lst ((least n told).map eC)), .im (eC one), .im (eC other), .no]) (fun _ p => goOf (fun t => .val (tradeD (some t))) (tradeP told one other p)) () (evz_of (evd_call (ea2 (evd_var rfl) (evd_var rfl)) ⟨one, other, rfl, g1.2, g2.2, (crowdOk_iff.mp g1.1).1, ul, rfl⟩)) (by walk_at "weak") (fun q s3 p hp hf3 => ?_) ?_
        · have ok := exch_ok g1.1 g2.1 (List.mem_of_getElem? hp)
          have x0 : ∀ {ρ : Rho}, ρ[4]? = some (.im (ePr p)) → EvD G (tOp (rIxT G.K) (tVar 4) (tC (.int 0))) ρ (eC p.1) := fun h => evd_ixT (j := 0) (evd_var h) evd_int rfl rfl
          have x1 : ∀ {ρ : Rho}, ρ[4]? = some (.im (ePr p)) → EvD G (tOp (rIxT G.K) (tVar 4) (tC (.int 1))) ρ (eC p.2) := fun h => evd_ixT (j := 1) (evd_var h) evd_int rfl rfl
          refine ws_when (b := !bears told p.1 && !bears told p.2) (evt_and (evt_not (evt_B (evd_meth (evd_var rfl) (ea1 (x0 rfl)) ⟨n, told, p.1, rfl, by rw [if_pos ok.1]⟩))) (fun _ => evt_not (evt_B (evd_meth (evd_var rfl) (ea1 (x1 rfl)) ⟨n, told, p.2, rfl, by rw [if_pos ok.2]⟩)))) (fun hb => ?_) (fun hb => ?_)
          · refine ws_ret (d := tradeD (some (one, other, p.1, p.2))) (evd_tup (evad_cons (evd_var rfl) (evad_cons (evd_var rfl) (evad_cons (x0 rfl) (evad_cons (x1 rfl) evad_nil))))) ?_
            show goOf _ (tradeP told one other p) = _
            unfold tradeP
            rw [if_pos hb]
            rfl
          · refine ⟨(), ?_, by walk_at "weak"⟩
            unfold tradeP
            rw [if_neg (by rw [hb]; decide)]
            rfl
        · rw [fold_find (tradeP told one other)]
          cases (exch one other).findSome? (tradeP told one other) with
          | some t => exact rfl
          | none => exact ⟨(), rfl, by walk_at "weak"⟩
      · rw [fold_find (fun other => (exch one other).findSome? (tradeP told one other))]
        cases (least n told).findSome? (fun other => (exch one other).findSome? (tradeP told one other)) with
        | some t => exact rfl
        | none => exact ⟨(), rfl, by walk_at "weak"⟩
    · rw [fold_find (fun one => (least n told).findSome? (fun other => (exch one other).findSome? (tradeP told one other)))]
      show endGo _ _ (goOf _ (tradeOf n told))
      cases tradeOf n told with
      | some t => exact rfl
      | none => exact ws_ret evd_non rfl

/-! #### falling_rows -/
abbrev s_falling_rows : Stmt := top 42
abbrev nm_falling_rows : List Str := ["many", "most", "rows", "k", "longer", "row", "top", "number"]
theorem sc_falling_rows : FnScope nm_falling_rows ["many", "most"] (defScope s_falling_rows) := ⟨rfl, rfl, rfl, by decide +kernel, rfl, by decide +kernel, by decide +kernel⟩
theorem fall_len : ∀ n < 6, (fallRows 9 n).length ≤ 2002 := by decide +kernel
theorem fall_top : ∀ n < 6, ∀ row ∈ fallRows 9 n, 0 ≤ topRow 9 row ∧ topRow 9 row ≤ 9 ∧ row.length ≤ 5 := by decide +kernel
def extRow (row : List Int) : List (List Int) := (List.range (topRow 9 row + 1).toNat).map fun (x : Nat) => row ++ [(x : Int)]
theorem fall_fold : ∀ k : Nat, (List.range k).foldl (fun (rows : List (List Int)) (_ : Nat) => rows.flatMap extRow) [[]] = fallRows 9 k
  | 0 => rfl
  | k + 1 => by
    rw [List.range_succ, List.foldl_append, fall_fold k]
    rfl
theorem foldl_ext : ∀ (l acc : List (List Int)), l.foldl (fun acc c => acc ++ extRow c) acc = acc ++ l.flatMap extRow
  | [], acc => by simp
  | c :: l, acc => by rw [List.foldl_cons, foldl_ext l, List.flatMap_cons, List.append_assoc]
theorem ext_take_len (l : List (List Int)) (i : Nat) : ((l.take i).flatMap extRow).length ≤ (l.flatMap extRow).length := by
  conv => rhs; rw [← List.take_append_drop i l]
  rw [List.flatMap_append, List.length_append]
  omega
def R_falling_rows : List D → Res → Prop := fun ds r => ∃ n : Nat, ds = [.int n, .int 9] ∧ n ≤ 5 ∧ r = .val (.lst ((fallRows 9 n).map eC))
theorem ok_falling_rows (T : Txt G mg) {f : Addr} {fd : FuncData} (F : Fun G.K "falling_rows" "falling_rows" s_falling_rows f fd)  : FnOk P w G.K mg base CX0 1 f fd ["many", "most"] (mkSp G R_falling_rows) := by
  refine okD F sc_falling_rows (fun ds r hR => ?_) (by decide) (fun cdv A outer s H E hr => ⟨_, (pss_cons (ps_asg (pe_lst (pa_cons (pe_tup pa_nil) pa_nil)) (pg_name (i := 2) sc_falling_rows.nd rfl (by first | exact Or.inl rfl | exact Or.inr rfl))) (pss_cons (ps_for PassesOwn.never rfl (pi_range1 rfl T.range (pa_cons (pv 0) pa_nil)) (pg_name (i := 3) sc_falling_rows.nd rfl (by first | exact Or.inl rfl | exact Or.inr rfl)) (pss_cons (ps_asg (pe_lst pa_nil) (pg_name (i := 4) sc_falling_rows.nd rfl (by first | exact Or.inl rfl | exact Or.inr rfl))) (pss_cons (ps_for PassesOwn.never rfl (k_pl G.K (pv 2)) (pg_name (i := 5) sc_falling_rows.nd rfl (by first | exact Or.inl rfl | exact Or.inr rfl)) (pss_cons (ps_asg (pv 1) (pg_name (i := 6) sc_falling_rows.nd rfl (by first | exact Or.inl rfl | exact Or.inr rfl))) (pss_cons (ps_if (pt_cmpR (k_neD G.K hr.units) (pv 5) (pe_tup pa_nil) (nomark _)) (pss_one (ps_asg (pe_ix (k_ixT G.K) (pv 5) (pe_un un_neg pe_int) (fun _ _ => rfl)) (pg_name (i := 6) sc_falling_rows.nd rfl (by first | exact Or.inl rfl | exact Or.inr rfl)))) pss_nil) (pss_one (ps_expr (pe_bm PySem.F.plainAttrs_list PySem.F.slot_list_extend PySem.F.type_list_extend mt_extend (pv 4) (pa_cons (pe_lc (own := [("number", 7)]) (g := gName 7) (tt := tYes) rfl sc_falling_rows.nd (pi_range1 rfl T.range (pa_cons (pe_op op_add (pv 6) pe_int) pa_nil)) (blkOk_by (N := nm_falling_rows) (sc := defScope s_falling_rows) (by decide +kernel)) (fun _ _ _ _ _ => pg_name (i := 7) sc_falling_rows.nd rfl (by first | exact Or.inl rfl | exact Or.inr rfl)) (fun _ _ _ _ _ => pts_nil) (fun _ _ _ _ _ => (pe_op (k_catA G.K) (pv 5) (pe_tup (pa_cons (pv 7) pa_nil))))) pa_nil))))))) (pss_one (ps_asg (pv 4) (pg_name (i := 2) sc_falling_rows.nd rfl (by first | exact Or.inl rfl | exact Or.inr rfl))))))) (pss_one (ps_ret (pv 2))))), fun ds r hR => ?_⟩)
  · obtain ⟨n, rfl, hn, rfl⟩ := hR
    rfl
  · obtain ⟨n, rfl, hn, rfl⟩ := hR
    show WS G _ _ _ [.im (.int n), .im (.int 9), .no, .no, .no, .no, .no, .no]
    refine ws_seq (ws_asgN (i := 2) (evn_lst (evad_cons (evd_tup evad_nil) evad_nil)) ?_)
    refine ws_freeze 2 rfl (ws_seq (ws_forR1 (n := (n : Int)) (fun rows : List (List Int) => [.im (.int n), .im (.int 9), .im (.lst (rows.map eC)), .no, .no, .no, .no, .no]) (fun rows _ => .go (rows.flatMap extRow)) [[]] (ea1 (evd_var rfl)) (by omega) (by walk_at "weak") (fun i rows hi hf => ?_) ?_))
    · have es : rows = fallRows 9 i := by
        have h := fold_go_take (f := fun (rows : List (List Int)) (_ : Nat) => rows.flatMap extRow) hf
        rw [List.take_range, Nat.min_eq_left (by omega), fall_fold] at h
        exact h
      have hl := fall_len (i + 1) (by omega)
      have ht := fall_top i (by omega)
      have hl0 := fall_len i (by omega)
      rw [← es] at ht hl0
      have hl2 : (rows.flatMap extRow).length ≤ 2002 := by rw [es]; exact hl
      clear hf es hl
      refine ws_seq (ws_asgN (i := 4) (evn_lst evad_nil) ?_)
      refine ws_seq (ws_forL rows eC (fun acc : List (List Int) => [.im (.int n), .im (.int 9), .im (.lst (rows.map eC)), .im (.int (i : Int)), .own (acc.map eC), .no, .no, .no]) (fun acc c => .go (acc ++ extRow c)) [] (evz_of (evd_var rfl)) (by walk_at "weak") (fun j acc c hc hf2 => ?_) ?_)
      · have hmem : c ∈ rows := List.mem_of_getElem? hc
        have hacc : acc = (rows.take j).flatMap extRow := by
          have h := fold_go_take (f := fun (acc : List (List Int)) c => acc ++ extRow c) hf2
          rw [foldl_ext] at h
          exact h
        have hb := ht c hmem
        refine ws_seq (ws_asgD (i := 6) (evd_var rfl) ?_)
        refine ws_seq (ws_mono (k := { nx := fun ρ' => ρ' = [.im (.int n), .im (.int 9), .im (.lst (rows.map eC)), .im (.int (i : Int)), .own (acc.map eC), .im (eC c), .im (.int (topRow 9 c)), .no], rt := fun _ => False }) (ws_when (b := !decide (c = [])) (evt_test (evd_neC (b := []) (evd_var rfl) (evd_tup evad_nil))) (fun hb => ?_) (fun hb => ?_)) (fun ρ' e => ?_) (fun _ z => z.elim) (fun _ z => z.elim) (fun _ z => z.elim) (fun _ z => z.elim))
        · have hne : c ≠ [] := by simpa using hb
          refine ws_asgD (i := 6) (evd_ixTlast (d := .int (topRow 9 c)) (evd_var rfl) (evd_neg evd_int) ?_) rfl
          rw [List.length_map, List.getElem?_map]
          have : c[c.length - 1]? = some (topRow 9 c) := by
            unfold topRow
            rw [← List.getLast?_eq_getElem?, List.getLast?_eq_some_getLast hne]
            simp [List.getLastD_eq_getLast?, List.getLast?_eq_some_getLast hne]
          rw [this]
          rfl
        · have he : c = [] := by simpa using hb
          subst he
          rfl
        · subst e
          have hmore : (acc ++ extRow c).length ≤ 2002 := by
            have h1 : acc ++ extRow c = (rows.take (j + 1)).flatMap extRow := by
              rw [List.take_add_one, hc, hacc]
              simp
            rw [h1]
            exact Nat.le_trans (ext_take_len rows (j + 1)) hl2
          refine ws_extend (ds := acc.map eC) (es := (extRow c).map eC) rfl (evs_new (evn_is (evn_lcR1 (n := topRow 9 c + 1) (fun _ => true) (fun k => eC (c ++ [(k : Int)])) (ea1 (evd_add (evd_var rfl) evd_int)) (by omega) (by simp) (fun _ _ => evt_yes) (fun x _ _ => evd_is (evd_catT (ds := c.map .int) (es := [.int (x : Int)]) (evd_var rfl) (evd_tup (evad_cons (evd_var rfl) evad_nil)) (by simp; omega)) (by unfold eC; simp))) ?_)) (by rw [List.length_append] at hmore; simp only [List.length_map]; omega) ⟨acc ++ extRow c, rfl, ?_⟩
          · rw [filter_yes]
            simp [extRow, List.map_map, Function.comp_def]
          · dsimp only
            rw [← List.map_append]
            walk_at "weak"
      · rw [fold_go, foldl_ext]
        show WS G _ _ _ _
        rw [List.nil_append]
        refine ws_move (ds := (rows.flatMap extRow).map eC) rfl ⟨_, rfl, by walk_at "weak"⟩
    · rw [fold_go, Int.toNat_natCast, fall_fold]
      exact ws_ret (evd_var rfl) rfl

/-! #### bar_for -/
abbrev s_bar_for : Stmt := top 43
abbrev nm_bar_for : List Str := ["table", "weights", "bar", "highest", "crowd", "carried", "weight"]
theorem sc_bar_for : FnScope nm_bar_for ["table", "weights"] (defScope s_bar_for) := ⟨rfl, rfl, rfl, by decide +kernel, rfl, by decide +kernel, by decide +kernel⟩
def R_bar_for : List D → Res → Prop := fun ds r => ∃ (n : Nat) (told : List Crowd) (W : List Int), ds = [.lst ((crowdsOf n).map fun c => D.tup [eC c, .bl (bears told c)]), .lst (W.map .int)] ∧ n ≤ 5 ∧ W.length = n ∧ r = .val (eO (if (barPair n told W).2 < (barPair n told W).1 then some (barPair n told W).1 else none))
theorem ok_bar_for (T : Txt G mg) {f : Addr} {fd : FuncData} (F : Fun G.K "bar_for" "bar_for" s_bar_for f fd) (H_weight_of : Fn G P w mg base "weight_of" 1 ["weights", "crowd"] R_weight_of) : FnOk P w G.K mg base CX0 2 f fd ["table", "weights"] (mkSp G R_bar_for) := by
  refine okD F sc_bar_for (fun ds r hR => ?_) (by decide) (fun cdv A outer s H E hr => ⟨_, (pss_cons (ps_asg (pe_op op_add (pe_callB (k_sum G.K rfl) (by rfl) T.sum (by decide +kernel) (pa_cons (pv 1) pa_nil)) pe_int) (pg_name (i := 2) sc_bar_for.nd rfl (by first | exact Or.inl rfl | exact Or.inr rfl))) (pss_cons (ps_asg (pe_un un_neg pe_int) (pg_name (i := 3) sc_bar_for.nd rfl (by first | exact Or.inl rfl | exact Or.inr rfl))) (pss_cons (ps_for PassesOwn.never rfl (k_pl G.K (pv 0)) (pg_tup rfl (pgs_cons (pg_name (i := 4) sc_bar_for.nd rfl (by first | exact Or.inl rfl | exact Or.inr rfl)) (pgs_cons (pg_name (i := 5) sc_bar_for.nd rfl (by first | exact Or.inl rfl | exact Or.inr rfl)) pgs_nil))) (pss_cons (ps_asg (pe_callF H_weight_of (hr.mono (by decide)) rfl (pa_cons (pv 1) (pa_cons (pv 4) pa_nil))) (pg_name (i := 6) sc_bar_for.nd rfl (by first | exact Or.inl rfl | exact Or.inr rfl))) (pss_one (ps_if (pt_val (pv 5)) (pss_one (ps_asg (pe_callB (call_min2 rfl) (by rfl) T.min (by decide +kernel) (pa_cons (pv 2) (pa_cons (pv 6) pa_nil))) (pg_name (i := 2) sc_bar_for.nd rfl (by first | exact Or.inl rfl | exact Or.inr rfl)))) (pss_one (ps_asg (pe_callB (call_max2 rfl) (by rfl) T.max (by decide +kernel) (pa_cons (pv 3) (pa_cons (pv 6) pa_nil))) (pg_name (i := 3) sc_bar_for.nd rfl (by first | exact Or.inl rfl | exact Or.inr rfl)))))))) (pss_cons (ps_if (pt_cmpR op_lt (pv 3) (pv 2) (nomark _)) (pss_one (ps_ret (pv 2))) pss_nil) (pss_one (ps_ret pe_non)))))), fun ds r hR => ?_⟩)
  · obtain ⟨n, told, W, rfl, hn, hW, rfl⟩ := hR
    rfl
  · obtain ⟨n, told, W, rfl, hn, hW, rfl⟩ := hR
    show WS G _ _ _ [.ar ((crowdsOf n).map fun c => D.tup [eC c, .bl (bears told c)]), .ar (W.map .int), .no, .no, .no, .no, .no]
    refine ws_seq (ws_asgD (i := 2) (evd_add (evd_sum (ns := W) (evs_ar rfl)) evd_int) ?_)
    refine ws_seq (ws_asgD (i := 3) (evd_neg evd_int) ?_)
    refine ws_seq (ws_forP (crowdsOf n) eC (fun c => .bl (bears told c)) (fun s : Int × Int => [.ar ((crowdsOf n).map fun c => D.tup [eC c, .bl (bears told c)]), .ar (W.map .int), .im (.int s.1), .im (.int s.2), .no, .no, .no]) (fun s c => .go (barStep told W s c)) (W.sum + 1, -1) (evz_ar rfl) (by walk_at "weak") (fun i s c hc hf => ?_) ?_)
    · have gc := cs_good hn (List.mem_of_getElem? hc)
      refine ws_seq (ws_asgD (i := 6) (evd_call (eva_consL (evs_ar rfl) (ea1 (evd_var rfl))) ⟨W, c, rfl, by omega, by rw [hW]; exact crowdOk_mem gc.1, rfl⟩) ?_)
      refine ws_if (b := bears told c) (evt_B (evd_var rfl)) (fun hb => ?_) (fun hb => ?_)
      · refine ws_asgD (i := 2) (evd_min2 (evd_var rfl) (evd_var rfl)) ⟨_, rfl, ?_⟩
        unfold barStep
        rw [if_pos hb]
        walk_at "weak"
      · refine ws_asgD (i := 3) (evd_max2 (evd_var rfl) (evd_var rfl)) ⟨_, rfl, ?_⟩
        unfold barStep
        rw [if_neg (by rw [hb]; decide)]
        walk_at "weak"
    · rw [fold_go]
      show WS G _ _ _ [_, _, .im (.int (barPair n told W).1), .im (.int (barPair n told W).2), _, _, _]
      generalize barPair n told W = p
      by_cases h : p.2 < p.1
      · rw [if_pos h]
        exact ws_seq (ws_when (evt_test (evd_lt (evd_var rfl) (evd_var rfl))) (fun _ => ws_ret (evd_var rfl) rfl) (fun z => absurd h (of_decide_eq_false z)))
      · rw [if_neg h]
        exact ws_seq (ws_when (evt_test (evd_lt (evd_var rfl) (evd_var rfl))) (fun z => absurd (of_decide_eq_true z) h) (fun _ => ws_ret evd_non rfl))

/-! #### weighed -/
abbrev s_weighed : Stmt := top 46
abbrev nm_weighed : List Str := ["council", "trade", "table", "counts", "order", "row", "weights", "place", "bar", "crowd", "pair", "member"]
theorem sc_weighed : FnScope nm_weighed ["council"] (defScope s_weighed) := ⟨rfl, rfl, rfl, by decide +kernel, rfl, by decide +kernel, by decide +kernel⟩
def R_weighed : List D → Res → Prop := fun ds r => ∃ (n : Nat) (told : List Crowd), ds = [.cou n told] ∧ 1 ≤ n ∧ n ≤ 5 ∧ r = weighRes n told
theorem ok_weighed (T : Txt G mg) {f : Addr} {fd : FuncData} (F : Fun G.K "weighed" "weighed" s_weighed f fd) (H_trade_of : Fn G P w mg base "trade_of" 4 ["council"] R_trade_of) (H_crowds_of : Fn G P w mg base "crowds_of" 1 ["many"] R_crowds_of) (H_Council_many : Mt G P w mg base "many" 1 ["self"] R_Council_many) (H_Council_carries : Mt G P w mg base "carries" 3 ["self", "crowd"] R_Council_carries) (H_swings : Fn G P w mg base "swings" 5 ["council"] R_swings) (H_falling_rows : Fn G P w mg base "falling_rows" 1 ["many", "most"] R_falling_rows) (H_bar_for : Fn G P w mg base "bar_for" 2 ["table", "weights"] R_bar_for) (c_HEAVIEST : ∃ v, mg "HEAVIEST" = some v ∧ RelV (.int 9) v) : FnOk P w G.K mg base CX0 6 f fd ["council"] (mkSp G R_weighed) := by
  obtain ⟨v_HEAVIEST, g_HEAVIEST, r_HEAVIEST⟩ := c_HEAVIEST
  refine okD F sc_weighed (fun ds r hR => ?_) (by decide) (fun cdv A outer s H E hr => ⟨_, (pss_cons (ps_asg (pe_callF H_trade_of (hr.mono (by decide)) rfl (pa_cons (pv 0) pa_nil)) (pg_name (i := 1) sc_weighed.nd rfl (by first | exact Or.inl rfl | exact Or.inr rfl))) (pss_cons (ps_if (pt_cmpR op_notN (pv 1) pe_non (nomark _)) (pss_one (ps_ret (pe_tup (pa_cons pe_str (pa_cons (pv 1) pa_nil))))) pss_nil) (pss_cons (ps_setLc (i := 2) (own := [("crowd", 9)]) (g := gName 9) (tt := tYes) rfl sc_weighed.nd rfl rfl (sw_true rfl rfl rfl (by decide +kernel)) (k_pl G.K (pe_callF H_crowds_of (hr.mono (by decide)) rfl (pa_cons (pe_methF0 (pv 0) T.cl H_Council_many (hr.mono (by decide))) pa_nil))) (blkOk_by (N := nm_weighed) (sc := defScope s_weighed) (by decide +kernel)) (fun _ _ _ _ _ => pg_name (i := 9) sc_weighed.nd rfl (by first | exact Or.inl rfl | exact Or.inr rfl)) (fun _ _ _ _ _ => pts_nil) (fun _ _ _ _ _ => (pe_tup (pa_cons (pv 9) (pa_cons (pe_methF (pv 0) T.cl H_Council_carries (hr.mono (by decide)) (pa_cons (pv 9) pa_nil)) pa_nil))))) (pss_cons (ps_asg (pe_callF H_swings (hr.mono (by decide)) rfl (pa_cons (pv 0) pa_nil)) (pg_name (i := 3) sc_weighed.nd rfl (by first | exact Or.inl rfl | exact Or.inr rfl))) (pss_cons (ps_setLc (i := 4) (own := [("pair", 10)]) (g := gName 10) (tt := tYes) rfl sc_weighed.nd rfl rfl (sw_true rfl rfl rfl (by decide +kernel)) (k_pl G.K (pe_callB (k_sortedPO G.K) (by rfl) T.sorted (by decide +kernel) (pa_cons (pe_lc (own := [("member", 11)]) (g := gName 11) (tt := tYes) rfl sc_weighed.nd (pi_range1 rfl T.range (pa_cons (pe_methF0 (pv 0) T.cl H_Council_many (hr.mono (by decide))) pa_nil)) (blkOk_by (N := nm_weighed) (sc := defScope s_weighed) (by decide +kernel)) (fun _ _ _ _ _ => pg_name (i := 11) sc_weighed.nd rfl (by first | exact Or.inl rfl | exact Or.inr rfl)) (fun _ _ _ _ _ => pts_nil) (fun _ _ _ _ _ => (pe_tup (pa_cons (pe_un un_neg (pe_ix (k_ixL G.K) (pv 3) (pv 11) (fun _ _ => rfl))) (pa_cons (pv 11) pa_nil))))) pa_nil))) (blkOk_by (N := nm_weighed) (sc := defScope s_weighed) (by decide +kernel)) (fun _ _ _ _ _ => pg_name (i := 10) sc_weighed.nd rfl (by first | exact Or.inl rfl | exact Or.inr rfl)) (fun _ _ _ _ _ => pts_nil) (fun _ _ _ _ _ => (pe_ix (k_ixT G.K) (pv 10) pe_int (fun _ _ => rfl)))) (pss_cons (ps_for PassesOwn.never rfl (k_pl G.K (pe_callF H_falling_rows (hr.mono (by decide)) rfl (pa_cons (pe_methF0 (pv 0) T.cl H_Council_many (hr.mono (by decide))) (pa_cons (pe_glob rfl g_HEAVIEST r_HEAVIEST) pa_nil)))) (pg_name (i := 5) sc_weighed.nd rfl (by first | exact Or.inl rfl | exact Or.inr rfl)) (pss_cons (ps_asg (pe_op op_rep (pe_lst (pa_cons pe_int pa_nil)) (pe_methF0 (pv 0) T.cl H_Council_many (hr.mono (by decide)))) (pg_name (i := 6) sc_weighed.nd rfl (by first | exact Or.inl rfl | exact Or.inr rfl))) (pss_cons (ps_for PassesOwn.never rfl (pi_range1 rfl T.range (pa_cons (pe_methF0 (pv 0) T.cl H_Council_many (hr.mono (by decide))) pa_nil)) (pg_name (i := 7) sc_weighed.nd rfl (by first | exact Or.inl rfl | exact Or.inr rfl)) (pss_one (ps_asg (pe_ix (k_ixT G.K) (pv 5) (pv 7) (fun _ _ => rfl)) (pg_sub (pv 6) (pe_ix (k_ixL G.K) (pv 4) (pv 7) (fun _ _ => rfl)) set_list)))) (pss_cons (ps_asg (pe_callF H_bar_for (hr.mono (by decide)) rfl (pa_cons (pv 2) (pa_cons (pv 6) pa_nil))) (pg_name (i := 8) sc_weighed.nd rfl (by first | exact Or.inl rfl | exact Or.inr rfl))) (pss_one (ps_if (pt_cmpR op_notN (pv 8) pe_non (nomark _)) (pss_one (ps_ret (pe_tup (pa_cons pe_str (pa_cons (pv 6) (pa_cons (pv 8) pa_nil)))))) pss_nil)))))) (pss_one (ps_ret pe_non)))))))), fun ds r hR => ?_⟩)
  · obtain ⟨n, told, rfl, h1, h5, rfl⟩ := hR
    rfl
  · obtain ⟨n, told, rfl, h1, h5, rfl⟩ := hR
    show WS G _ _ _ [.im (.cou n told), .no, .no, .no, .no, .no, .no, .no, .no, .no, .no, .no]
    refine ws_seq (ws_asgD (i := 1) (evd_call (ea1 (evd_var rfl)) ⟨n, told, rfl, h5, rfl⟩) ?_)
    cases et : tradeOf n told with
    | some t =>
      rw [weighRes_trade et]
      exact ws_seq (ws_when (evt_test (evd_notN (x := tradeD (some t)) (evd_var rfl))) (fun _ => ws_ret (evd_tup (evad_cons evd_str (evad_cons (evd_var rfl) evad_nil))) rfl) (fun h => nomatch h))
    | none =>
      obtain ⟨W0, b0, ew⟩ := weights_found h1 h5 et
      rw [weighRes_weights et ew]
      refine ws_seq (ws_when (evt_test (evd_notN (x := tradeD none) (evd_var rfl))) (fun h => nomatch h) (fun _ => ?_))
      have hcl := crowdsOf_len h5
      have many : ∀ {ρ : Rho}, ρ[0]? = some (.im (.cou n told)) → EvD G (tMeth G.C "many" (mkSp G R_Council_many) [] E0 (tVar 0) tNil) ρ (.int n) := fun h => evd_meth (evd_var h) eva_nil ⟨n, told, rfl, rfl⟩
      refine ws_seq (ws_asgN (i := 2) (evn_is (evn_lcL (crowdsOf n) eC (fun _ => true) (fun c => .tup [eC c, .bl (bears told c)]) (evs_new (evn_call (ea1 (many rfl)) ⟨n, rfl, h5, rfl⟩)) (by omega) (by simp) (fun _ _ => evt_yes) (fun c hc _ => evd_tup (evad_cons (evd_var rfl) (evad_cons (evd_meth (evd_var rfl) (ea1 (evd_var rfl)) ⟨n, told, c, rfl, by rw [if_pos (cs_good h5 hc).1]⟩) evad_nil)))) (es := (crowdsOf n).map fun c => D.tup [eC c, .bl (bears told c)]) (by rw [filter_yes])) ?_)
      refine ws_seq (ws_asgN (i := 3) (evn_call (ea1 (evd_var rfl)) ⟨n, told, rfl, h5, rfl⟩) ?_)
      have scl : (swingCounts n told).length = n := by simp [swingCounts]
      have sat : ∀ k, k < n → ((swingCounts n told).map D.int)[k]? = some (.int ((swingCounts n told).getD k 0)) := fun k hk => by
        rw [List.getElem?_map, List.getD_eq_getElem?_getD, List.getElem?_eq_getElem (by omega : k < (swingCounts n told).length)]
        rfl
      refine ws_seq (ws_asgN (i := 4) (evn_is (evn_lcL (sortP (pairsBy (swingCounts n told))) ePi (fun _ => true) (fun p => .int p.2) (evs_new (evn_sortedPO (xs := pairsBy (swingCounts n told)) (evs_new (evn_is (evn_lcR1 (n := (n : Int)) (fun _ => true) (fun k => .tup [.int (-((swingCounts n told).getD k 0)), .int (k : Int)]) (ea1 (many rfl)) (by omega) (by simp) (fun _ _ => evt_yes) (fun k hk _ => evd_tup (evad_cons (evd_neg (evd_ixL (j := k) (evs_own rfl) (evd_var rfl) rfl (sat k (by omega)))) (evad_cons (evd_var rfl) evad_nil)))) (es := (pairsBy (swingCounts n told)).map ePi) (by rw [filter_yes]; unfold pairsBy; rw [scl, List.map_map]; rfl))) (sortP_perm _) (sortP_sorted _))) (by
        have := (sortP_perm (pairsBy (swingCounts n told))).length_eq
        rw [this]
        unfold pairsBy
        rw [List.length_map, List.length_range]
        omega) (by simp) (fun _ _ => evt_yes) (fun p _ _ => evd_ixT (ds := [.int p.1, .int p.2]) (j := 1) (evd_var rfl) evd_int rfl rfl)) (es := (orderOf n told).map .int) (by rw [filter_yes]; unfold orderOf; rw [orderBy_eq, List.map_map]; rfl)) ?_)
      have op := order_perm n told
      have ol : (orderOf n told).length = n := by rw [op.length_eq, rng_len]
      have oat : ∀ k, k < n → ((orderOf n told).map D.int)[k]? = some (.int ((orderOf n told).getD k 0)) := fun k hk => by
        rw [List.getElem?_map, List.getD_eq_getElem?_getD, List.getElem?_eq_getElem (by omega : k < (orderOf n told).length)]
        rfl
      have fl := fall_len n (by omega)
      refine ws_seq (ws_forL (fallRows 9 n) eC (fun _ : Unit => [.im (.cou n told), .im .non, .own ((crowdsOf n).map fun c => D.tup [eC c, .bl (bears told c)]), .own ((swingCounts n told).map .int), .own ((orderOf n told).map .int), .no, .no, .no, .no, .no, .no, .no]) (fun _ row => goOf (fun x => .trip "weights" x.1 x.2) (rowFit n told row)) () (evz_of (evd_call (ea2 (many rfl) evd_int) ⟨n, rfl, h5, rfl⟩)) (by walk_at "weak") (fun i s row hrow hf => ?_) ?_)
      · have rg := fall_good 9 n row (List.mem_of_getElem? hrow)
        refine ws_seq (ws_asgN (i := 6) (evn_is (evn_rep (n := (n : Int)) (evs_new (evn_lst (evad_cons evd_int evad_nil))) (many rfl) (by omega) (by simp)) (es := (List.replicate n (0 : Int)).map .int) (by rw [Int.toNat_natCast]; exact rep_flat n 0)) ?_)
        refine ws_seq (ws_forR1 (n := (n : Int)) (fun W : List Int => [.im (.cou n told), .im .non, .own ((crowdsOf n).map fun c => D.tup [eC c, .bl (bears told c)]), .own ((swingCounts n told).map .int), .own ((orderOf n told).map .int), .im (eC row), .own (W.map .int), .no, .no, .no, .no, .no]) (fun W p => .go (wStep (orderOf n told) row W p)) (List.replicate n 0) (ea1 (many rfl)) (by omega) (by walk_at "weak") (fun p W hp hf2 => ?_) ?_)
        · have hW := fold_go_take (f := wStep (orderOf n told) row) hf2
          rw [Int.toNat_natCast, List.take_range, Nat.min_eq_left (by omega)] at hW
          have wl : W.length = n := by rw [hW]; exact wFold_len _ _ n p
          have hb := perm_at op (by omega : p < n)
          refine ws_setL (i := 6) (j := ((orderOf n told).getD p 0).toNat) (d := .int (row.getD p 0)) rfl (evd_ixT (ds := row.map .int) (j := p) (evd_var rfl) (evd_var rfl) rfl ?_) (evd_is (evd_ixL (j := p) (evs_own rfl) (evd_var rfl) rfl (oat p (by omega))) (by rw [Int.toNat_of_nonneg hb.1])) (by rw [List.length_map]; omega) ⟨_, rfl, ?_⟩
          · rw [List.getElem?_map, List.getD_eq_getElem?_getD, List.getElem?_eq_getElem (by rw [rg.1]; omega)]
            rfl
          · unfold wStep
            dsimp only
            rw [List.map_set]
            walk_at "weak"
        · rw [fold_go, Int.toNat_natCast]
          show WS G _ _ _ [_, _, _, _, _, _, .own ((weightsOf n (orderOf n told) row).map .int), _, _, _, _, _]
          have wl := weights_len n (orderOf n told) row
          refine ws_seq (ws_asgD (i := 8) (evd_call (eva_consL (evs_own rfl) (ea1L (evs_own rfl))) ⟨n, told, weightsOf n (orderOf n told) row, rfl, h5, wl, rfl⟩) ?_)
          by_cases hfit : (barPair n told (weightsOf n (orderOf n told) row)).2 < (barPair n told (weightsOf n (orderOf n told) row)).1
          · rw [if_pos hfit]
            refine ws_when (evt_test (evd_notN (x := eO (some (barPair n told (weightsOf n (orderOf n told) row)).1)) (evd_var rfl))) (fun _ => ?_) (fun h => nomatch h)
            refine ws_retTrip (b := (barPair n told (weightsOf n (orderOf n told) row)).1) rfl rfl ?_
            show goOf _ (rowFit n told row) = _
            unfold rowFit
            rw [if_pos hfit]
            rfl
          · rw [if_neg hfit]
            refine ws_when (evt_test (evd_notN (x := eO none) (evd_var rfl))) (fun h => nomatch h) (fun _ => ⟨(), ?_, by walk_at "weak"⟩)
            unfold rowFit
            rw [if_neg hfit]
            rfl
      · rw [fold_find (rowFit n told)]
        show endGo _ _ (goOf _ (weightsFound n told))
        rw [ew]
        exact rfl

/-! #### _law_whole -/
abbrev s__law_whole : Stmt := top 58
abbrev nm__law_whole : List Str := ["found"]
theorem sc__law_whole : FnScope nm__law_whole ["found"] (defScope s__law_whole) := ⟨rfl, rfl, rfl, by decide +kernel, rfl, by decide +kernel, by decide +kernel⟩
def R__law_whole : List D → Res → Prop := fun ds r => ∃ i : Int, ds = [.int i] ∧ r = .val (.bl true)
theorem ok__law_whole (T : Txt G mg) {f : Addr} {fd : FuncData} (F : Fun G.K "_law_whole" "_law_whole" s__law_whole f fd)  : FnOk P w G.K mg base CX0 1 f fd ["found"] (mkSp G R__law_whole) := by
  refine okD F sc__law_whole (fun ds r hR => ?_) (by decide) (fun cdv A outer s H E hr => ⟨_, (pss_one (ps_ret (pe_and (pe_callB (k_isi G.K) (by rfl) T.isinstance (by decide +kernel) (pa_cons (pv 0) (pa_cons (pe_bltn (v := .ty "int") (by rfl) T.int (by decide +kernel) rfl) pa_nil))) (pe_one (pe_not (pe_callB (k_isi G.K) (by rfl) T.isinstance (by decide +kernel) (pa_cons (pv 0) (pa_cons (pe_bltn (v := .ty "bool") (by rfl) T.bool (by decide +kernel) rfl) pa_nil)))))))), fun ds r hR => ?_⟩)
  · obtain ⟨i, rfl, rfl⟩ := hR
    rfl
  · obtain ⟨i, rfl, rfl⟩ := hR
    show WS G _ _ _ [.im (.int i)]
    exact ws_ret (evd_andV (evd_isi (evd_var rfl) rfl kit_ii) (fun _ => evd_notV (evd_isi (evd_var rfl) rfl kit_ib))) rfl

/-! #### _law_in -/
abbrev s__law_in : Stmt := top 56
abbrev nm__law_in : List Str := ["crowd", "other", "member"]
theorem sc__law_in : FnScope nm__law_in ["crowd", "other"] (defScope s__law_in) := ⟨rfl, rfl, rfl, by decide +kernel, rfl, by decide +kernel, by decide +kernel⟩
theorem filt_all (a b : Crowd) : decide (((a.filter fun m => decide (m ∈ b)).length : Int) = (a.length : Int)) = liesIn a b := by
  unfold liesIn
  by_cases h : ∀ m ∈ a, decide (m ∈ b) = true
  · rw [List.filter_eq_self.mpr h, List.all_eq_true.mpr h]
    simp
  · have h1 : (a.all fun m => decide (m ∈ b)) = false := by
      cases q : a.all fun m => decide (m ∈ b) with
      | false => rfl
      | true => exact absurd (List.all_eq_true.mp q) h
    rw [h1]
    have h2 : (a.filter fun m => decide (m ∈ b)).length ≤ a.length := List.length_filter_le _ _
    have h3 : (a.filter fun m => decide (m ∈ b)).length ≠ a.length := fun e => h (List.length_filter_eq_length_iff.mp e)
    exact decide_eq_false (by omega)
def R__law_in : List D → Res → Prop := fun ds r => ∃ (a b : Crowd), ds = [eC a, eC b] ∧ a.length ≤ 1000 ∧ r = .val (.bl (liesIn a b))
theorem ok__law_in (T : Txt G mg) {f : Addr} {fd : FuncData} (F : Fun G.K "_law_in" "_law_in" s__law_in f fd)  : FnOk P w G.K mg base CX0 1 f fd ["crowd", "other"] (mkSp G R__law_in) := by
  refine okD F sc__law_in (fun ds r hR => ?_) (by decide) (fun cdv A outer s H E hr => ⟨_, (pss_one (ps_ret (pe_cmpR op_eq (pe_callB (k_len G.K) (by rfl) T.len PySem.boot_len (pa_cons (pe_lc (own := [("member", 2)]) (g := gName 2) (tt := _) rfl sc__law_in.nd (k_pt G.K (pv 0)) (blkOk_by (N := nm__law_in) (sc := defScope s__law_in) (by decide +kernel)) (fun _ _ _ _ _ => pg_name (i := 2) sc__law_in.nd rfl (by first | exact Or.inl rfl | exact Or.inr rfl)) (fun _ _ _ _ _ => (pts_one (pt_cmpR (k_in G.K) (pv 2) (pv 1) rfl))) (fun _ _ _ _ _ => (pv 2))) pa_nil)) (pe_callB (k_len G.K) (by rfl) T.len PySem.boot_len (pa_cons (pv 0) pa_nil)) (nomark _)))), fun ds r hR => ?_⟩)
  · obtain ⟨a, b, rfl, ha, rfl⟩ := hR
    rfl
  · obtain ⟨a, b, rfl, ha, rfl⟩ := hR
    show WS G _ _ _ [.im (eC a), .im (eC b), .no]
    refine ws_ret (evd_is (evd_eqI (evd_lenL (evs_new (evn_lcT a D.int (fun m => decide (m ∈ b)) D.int (evd_var rfl) (by omega) (by simp) (fun m _ => evt_test (evd_inT (evd_var rfl) (evd_var rfl))) (fun m _ _ => evd_var rfl)))) (evd_lenT (ds := a.map .int) (evd_var rfl))) ?_) rfl
    rw [List.length_map, List.length_map, filt_all]

/-! #### _law_carries -/
abbrev s__law_carries : Stmt := top 57
abbrev nm__law_carries : List Str := ["told", "crowd", "one"]
theorem sc__law_carries : FnScope nm__law_carries ["told", "crowd"] (defScope s__law_carries) := ⟨rfl, rfl, rfl, by decide +kernel, rfl, by decide +kernel, by decide +kernel⟩
theorem filt_any (told : List Crowd) (c : Crowd) : decide ((0 : Int) < ((told.filter fun t => liesIn t c).length : Int)) = bears told c := by
  unfold bears
  cases h : told.any fun t => liesIn t c with
  | false =>
    rw [List.filter_eq_nil_iff.mpr (fun a ha => by simpa using (List.any_eq_false.mp h) a ha)]
    rfl
  | true =>
    obtain ⟨a, ha, hl⟩ := List.any_eq_true.mp h
    have : 0 < (told.filter fun t => liesIn t c).length := List.length_pos_of_mem (List.mem_filter.mpr ⟨ha, hl⟩)
    exact decide_eq_true (by omega)
def R__law_carries : List D → Res → Prop := fun ds r => ∃ (told : List Crowd) (c : Crowd), ds = [.lst (told.map eC), eC c] ∧ told.length ≤ 1000 ∧ (∀ t ∈ told, t.length ≤ 1000) ∧ r = .val (.bl (bears told c))
theorem ok__law_carries (T : Txt G mg) {f : Addr} {fd : FuncData} (F : Fun G.K "_law_carries" "_law_carries" s__law_carries f fd) (H__law_in : Fn G P w mg base "_law_in" 1 ["crowd", "other"] R__law_in) : FnOk P w G.K mg base CX0 2 f fd ["told", "crowd"] (mkSp G R__law_carries) := by
  refine okD F sc__law_carries (fun ds r hR => ?_) (by decide) (fun cdv A outer s H E hr => ⟨_, (pss_one (ps_ret (pe_cmpR op_gt (pe_callB (k_len G.K) (by rfl) T.len PySem.boot_len (pa_cons (pe_lc (own := [("one", 2)]) (g := gName 2) (tt := _) rfl sc__law_carries.nd (k_pl G.K (pv 0)) (blkOk_by (N := nm__law_carries) (sc := defScope s__law_carries) (by decide +kernel)) (fun _ _ _ _ _ => pg_name (i := 2) sc__law_carries.nd rfl (by first | exact Or.inl rfl | exact Or.inr rfl)) (fun _ _ _ _ _ => (pts_one (pt_val (pe_callF H__law_in (hr.mono (by decide)) rfl (pa_cons (pv 2) (pa_cons (pv 1) pa_nil)))))) (fun _ _ _ _ _ => (pv 2))) pa_nil)) pe_int (nomark _)))), fun ds r hR => ?_⟩)
  · obtain ⟨told, c, rfl, ht, hl, rfl⟩ := hR
    rfl
  · obtain ⟨told, c, rfl, ht, hl, rfl⟩ := hR
    show WS G _ _ _ [.ar (told.map eC), .im (eC c), .no]
    refine ws_ret (evd_is (evd_gt (evd_lenL (evs_new (evn_lcL told eC (fun t => liesIn t c) eC (evs_ar rfl) (by omega) (by simp) (fun t h => evt_B (evd_call (ea2 (evd_var rfl) (evd_var rfl)) ⟨t, c, rfl, hl t h, rfl⟩)) (fun t _ _ => evd_var rfl)))) evd_int) ?_) rfl
    rw [List.length_map, filt_any]

/-! #### _law_weights_right -/
abbrev s__law_weights_right : Stmt := top 59
abbrev nm__law_weights_right : List Str := ["found", "told", "many", "weight", "crowd", "member"]
theorem sc__law_weights_right : FnScope nm__law_weights_right ["found", "told", "many"] (defScope s__law_weights_right) := ⟨rfl, rfl, rfl, by decide +kernel, rfl, by decide +kernel, by decide +kernel⟩
def R__law_weights_right : List D → Res → Prop := fun ds r => ∃ (n : Nat) (told : List Crowd) (W : List Int) (b : Int), ds = [.tup [.str "weights", .lst (W.map .int), .int b], .lst (told.map eC), .int n] ∧ n ≤ 5 ∧ told.length ≤ 1000 ∧ (∀ t ∈ told, t.length ≤ 1000) ∧ WeightsRight n told W b ∧ r = .val (.bl true)
theorem ok__law_weights_right (T : Txt G mg) {f : Addr} {fd : FuncData} (F : Fun G.K "_law_weights_right" "_law_weights_right" s__law_weights_right f fd) (H__law_whole : Fn G P w mg base "_law_whole" 1 ["found"] R__law_whole) (H__law_crowds : Fn G P w mg base "_law_crowds" 2 ["many"] R__law_crowds) (H__law_carries : Fn G P w mg base "_law_carries" 2 ["told", "crowd"] R__law_carries) : FnOk P w G.K mg base CX0 3 f fd ["found", "told", "many"] (mkSp G R__law_weights_right) := by
  refine okD F sc__law_weights_right (fun ds r hR => ?_) (by decide) (fun cdv A outer s H E hr => ⟨_, (pss_cons (ps_if (PW.pt (pw_or (pt_cmpR op_ne (pe_callB (k_len G.K) (by rfl) T.len PySem.boot_len (pa_cons (pv 0) pa_nil)) pe_int (nomark _)) (pw_or (pt_not (pt_val (pe_callB (k_isi G.K) (by rfl) T.isinstance (by decide +kernel) (pa_cons (pe_ix (k_ixT G.K) (pv 0) pe_int (fun _ _ => rfl)) (pa_cons (pe_bltn (v := .ty "list") (by rfl) T.list (by decide +kernel) rfl) pa_nil))))) (pw_or (pt_cmpR op_ne (pe_callB (k_len G.K) (by rfl) T.len PySem.boot_len (pa_cons (pe_ix (k_ixT G.K) (pv 0) pe_int (fun _ _ => rfl)) pa_nil)) (pv 2) (nomark _)) (pw_or1 (pt_not (pt_val (pe_callF H__law_whole (hr.mono (by decide)) rfl (pa_cons (pe_ix (k_ixT G.K) (pv 0) pe_int (fun _ _ => rfl)) pa_nil))))))))) (pss_one (ps_ret pe_bl)) pss_nil) (pss_cons (ps_for PassesOwn.never rfl (k_pl G.K (pe_ix (k_ixT G.K) (pv 0) pe_int (fun _ _ => rfl))) (pg_name (i := 3) sc__law_weights_right.nd rfl (by first | exact Or.inl rfl | exact Or.inr rfl)) (pss_one (ps_if (PW.pt (pw_or (pt_not (pt_val (pe_callF H__law_whole (hr.mono (by decide)) rfl (pa_cons (pv 3) pa_nil)))) (pw_or1 (pt_cmpR op_lt (pv 3) pe_int (nomark _))))) (pss_one (ps_ret pe_bl)) pss_nil))) (pss_cons (ps_if (pt_cmpR op_lt (pe_ix (k_ixT G.K) (pv 0) pe_int (fun _ _ => rfl)) pe_int (nomark _)) (pss_one (ps_ret pe_bl)) pss_nil) (pss_cons (ps_for PassesOwn.never rfl (k_pl G.K (pe_callF H__law_crowds (hr.mono (by decide)) rfl (pa_cons (pv 2) pa_nil))) (pg_name (i := 4) sc__law_weights_right.nd rfl (by first | exact Or.inl rfl | exact Or.inr rfl)) (pss_cons (ps_asg (pe_callB (k_sum G.K rfl) (by rfl) T.sum (by decide +kernel) (pa_cons (pe_lc (own := [("member", 5)]) (g := gName 5) (tt := tYes) rfl sc__law_weights_right.nd (k_pt G.K (pv 4)) (blkOk_by (N := nm__law_weights_right) (sc := defScope s__law_weights_right) (by decide +kernel)) (fun _ _ _ _ _ => pg_name (i := 5) sc__law_weights_right.nd rfl (by first | exact Or.inl rfl | exact Or.inr rfl)) (fun _ _ _ _ _ => pts_nil) (fun _ _ _ _ _ => (pe_ix (k_ixL G.K) (pe_ix (k_ixT G.K) (pv 0) pe_int (fun _ _ => rfl)) (pv 5) (fun _ _ => rfl)))) pa_nil)) (pg_name (i := 3) sc__law_weights_right.nd rfl (by first | exact Or.inl rfl | exact Or.inr rfl))) (pss_one (ps_if (pt_cmpR op_ne (pe_cmpR op_ge (pv 3) (pe_ix (k_ixT G.K) (pv 0) pe_int (fun _ _ => rfl)) (nomark _)) (pe_callF H__law_carries (hr.mono (by decide)) rfl (pa_cons (pv 1) (pa_cons (pv 4) pa_nil))) (nomark _)) (pss_one (ps_ret pe_bl)) pss_nil)))) (pss_one (ps_ret pe_bl)))))), fun ds r hR => ?_⟩)
  · obtain ⟨n, told, W, b, rfl, h5, ht, hl, wr, rfl⟩ := hR
    rfl
  · obtain ⟨n, told, W, b, rfl, h5, ht, hl, wr, rfl⟩ := hR
    show WS G _ _ _ [.im (.tup [.str "weights", .lst (W.map .int), .int b]), .ar (told.map eC), .im (.int n), .no, .no, .no]
    have wl := wr.len
    have x1 : ∀ {ρ : Rho}, ρ[0]? = some (.im (.tup [.str "weights", .lst (W.map .int), .int b])) → EvD G (tOp (rIxT G.K) (tVar 0) (tC (.int 1))) ρ (.lst (W.map .int)) := fun h => evd_ixT (j := 1) (evd_var h) evd_int rfl rfl
    have x2 : ∀ {ρ : Rho}, ρ[0]? = some (.im (.tup [.str "weights", .lst (W.map .int), .int b])) → EvD G (tOp (rIxT G.K) (tVar 0) (tC (.int 2))) ρ (.int b) := fun h => evd_ixT (j := 2) (evd_var h) evd_int rfl rfl
    refine ws_seq (ws_when (evt_or (evt_test (evd_neI (evd_lenT (evd_var rfl)) evd_int)) (fun _ => evt_or (evt_not (evt_B (evd_isi (x1 rfl) rfl kit_ll))) (fun _ => evt_or (evt_test (evd_neI (evd_lenL (evs_of (x1 rfl))) (evd_var rfl))) (fun _ => evt_not (evt_B (evd_call (ea1 (x2 rfl)) ⟨b, rfl, rfl⟩)))))) (fun h => by simp [wl] at h) (fun _ => ?_))
    refine ws_seq (ws_forL W D.int (fun _ : Unit => [.im (.tup [.str "weights", .lst (W.map .int), .int b]), .ar (told.map eC), .im (.int n), .no, .no, .no]) (fun _ _ => if true then .go () else .stop (.val (.bl false))) () (evz_of (x1 rfl)) (by walk_at "weak") (fun i s x hx hf => ?_) ?_)
    · have nn := wr.nn x (List.mem_of_getElem? hx)
      refine ws_when (evt_or (evt_not (evt_B (evd_call (ea1 (evd_var rfl)) ⟨x, rfl, rfl⟩))) (fun _ => evt_test (evd_lt (evd_var rfl) evd_int))) (fun h => ?_) (fun _ => ⟨(), rfl, by walk_at "weak"⟩)
      exfalso
      simp at h
      omega
    rw [fold_all (p := fun _ => true), List.all_eq_true.mpr (fun _ _ => rfl)]
    refine ws_seq (ws_when (evt_test (evd_lt (x2 rfl) evd_int)) (fun h => ?_) (fun _ => ?_))
    · have := of_decide_eq_true h
      have := wr.bar
      omega
    refine ws_seq (ws_forL (crowdsOf n) eC (fun _ : Unit => [.im (.tup [.str "weights", .lst (W.map .int), .int b]), .ar (told.map eC), .im (.int n), .no, .no, .no]) (fun _ _ => if true then .go () else .stop (.val (.bl false))) () (evz_new (evn_call (ea1 (evd_var rfl)) ⟨n, rfl, h5, rfl⟩)) (by walk_at "weak") (fun i s c hc hf => ?_) ?_)
    · have hcm := List.mem_of_getElem? hc
      have gc := cs_good h5 hcm
      refine ws_seq (ws_asgD (i := 3) (d := .int (weigh W c)) (evd_is (evd_sum (ns := c.map fun i => W.getD i.toNat 0) (evs_new (evn_is (evn_lcT c D.int (fun _ => true) (fun i => .int (W.getD i.toNat 0)) (evd_var rfl) (by have := gc.2; omega) (by simp) (fun _ _ => evt_yes) (fun i hi _ =>
        evd_ixL (j := i.toNat) (evs_of (x1 rfl)) (evd_var rfl) (by have := crowdOk_mem gc.1 i hi; omega) (ws_at (crowdOk_mem gc.1 i hi).1 (by have := (crowdOk_mem gc.1 i hi).2; omega)))) (by rw [filter_yes]; simp [List.map_map, Function.comp_def])))) rfl) ?_)
      refine ws_when (evt_test (evd_neB (evd_ge (evd_var rfl) (x2 rfl)) (evd_call (eva_consL (evs_ar rfl) (ea1 (evd_var rfl))) ⟨told, c, rfl, ht, hl, rfl⟩))) (fun h => ?_) (fun _ => ⟨(), rfl, by walk_at "weak"⟩)
      exfalso
      rw [wr.tells c hcm] at h
      simp at h
    rw [fold_all (p := fun _ => true), List.all_eq_true.mpr (fun _ _ => rfl)]
    exact ws_ret evd_bl rfl

/-! #### _law_trade_right -/
abbrev s__law_trade_right : Stmt := top 60
abbrev nm__law_trade_right : List Str := ["found", "told", "many", "k", "member", "crowd", "holds"]
theorem sc__law_trade_right : FnScope nm__law_trade_right ["found", "told", "many"] (defScope s__law_trade_right) := ⟨rfl, rfl, rfl, by decide +kernel, rfl, by decide +kernel, by decide +kernel⟩
def intIn (k : Int) (c : Crowd) : Int := if decide (k ∈ c) = true then 1 else 0
theorem sum_ints {a b c d : Crowd} {k : Int} (h : sumOf a b k = sumOf c d k) : intIn k a + intIn k b = intIn k c + intIn k d := by
  unfold sumOf at h
  unfold intIn
  by_cases x1 : k ∈ a <;> by_cases x2 : k ∈ b <;> by_cases x3 : k ∈ c <;> by_cases x4 : k ∈ d <;> simp [x1, x2, x3, x4] at h ⊢
def R__law_trade_right : List D → Res → Prop := fun ds r => ∃ (n : Nat) (told : List Crowd) (t : Crowd × Crowd × Crowd × Crowd), ds = [.tup [.str "trade", tradeD (some t)], .lst (told.map eC), .int n] ∧ n ≤ 5 ∧ told.length ≤ 1000 ∧ (∀ t ∈ told, t.length ≤ 1000) ∧ TradeRight n told t ∧ r = .val (.bl true)
theorem ok__law_trade_right (T : Txt G mg) {f : Addr} {fd : FuncData} (F : Fun G.K "_law_trade_right" "_law_trade_right" s__law_trade_right f fd) (H__law_crowds : Fn G P w mg base "_law_crowds" 2 ["many"] R__law_crowds) (H__law_carries : Fn G P w mg base "_law_carries" 2 ["told", "crowd"] R__law_carries) (H__law_whole : Fn G P w mg base "_law_whole" 1 ["found"] R__law_whole) : FnOk P w G.K mg base CX0 3 f fd ["found", "told", "many"] (mkSp G R__law_trade_right) := by
  refine okD F sc__law_trade_right (fun ds r hR => ?_) (by decide) (fun cdv A outer s H E hr => ⟨_, (pss_cons (ps_if (PW.pt (pw_or (pt_cmpR op_ne (pe_callB (k_len G.K) (by rfl) T.len PySem.boot_len (pa_cons (pv 0) pa_nil)) pe_int (nomark _)) (pw_or (pt_not (pt_val (pe_callB (k_isi G.K) (by rfl) T.isinstance (by decide +kernel) (pa_cons (pe_ix (k_ixT G.K) (pv 0) pe_int (fun _ _ => rfl)) (pa_cons (pe_bltn (v := .ty "tuple") (by rfl) T.tuple (by decide +kernel) rfl) pa_nil))))) (pw_or1 (pt_cmpR op_ne (pe_callB (k_len G.K) (by rfl) T.len PySem.boot_len (pa_cons (pe_ix (k_ixT G.K) (pv 0) pe_int (fun _ _ => rfl)) pa_nil)) pe_int (nomark _)))))) (pss_one (ps_ret pe_bl)) pss_nil) (pss_cons (ps_for PassesOwn.never rfl (pi_range1 rfl T.range (pa_cons pe_int pa_nil)) (pg_name (i := 3) sc__law_trade_right.nd rfl (by first | exact Or.inl rfl | exact Or.inr rfl)) (pss_cons (ps_asg (pe_ix (k_ixT G.K) (pe_ix (k_ixT G.K) (pv 0) pe_int (fun _ _ => rfl)) (pv 3) (fun _ _ => rfl)) (pg_name (i := 5) sc__law_trade_right.nd rfl (by first | exact Or.inl rfl | exact Or.inr rfl))) (pss_cons (ps_if (PW.pt (pw_or (pt_not (pt_val (pe_callB (k_isi G.K) (by rfl) T.isinstance (by decide +kernel) (pa_cons (pv 5) (pa_cons (pe_bltn (v := .ty "tuple") (by rfl) T.tuple (by decide +kernel) rfl) pa_nil))))) (pw_or1 (pt_cmpR (k_notInD (K := G.K) (hu100 hr)) (pv 5) (pe_callF H__law_crowds (hr.mono (by decide)) rfl (pa_cons (pv 2) pa_nil)) rfl)))) (pss_one (ps_ret pe_bl)) pss_nil) (pss_one (ps_if (PW.pt (pw_or (pt_not (pt_val (pe_callB (k_all G.K rfl) (by rfl) T.all (by decide +kernel) (pa_cons (pe_lc (own := [("member", 4)]) (g := gName 4) (tt := tYes) rfl sc__law_trade_right.nd (k_pt G.K (pv 5)) (blkOk_by (N := nm__law_trade_right) (sc := defScope s__law_trade_right) (by decide +kernel)) (fun _ _ _ _ _ => pg_name (i := 4) sc__law_trade_right.nd rfl (by first | exact Or.inl rfl | exact Or.inr rfl)) (fun _ _ _ _ _ => pts_nil) (fun _ _ _ _ _ => (pe_callF H__law_whole (hr.mono (by decide)) rfl (pa_cons (pv 4) pa_nil)))) pa_nil)))) (pw_or1 (pt_cmpR op_ne (pe_callF H__law_carries (hr.mono (by decide)) rfl (pa_cons (pv 1) (pa_cons (pv 5) pa_nil))) (pe_cmpR op_lt (pv 3) pe_int (nomark _)) (nomark _))))) (pss_one (ps_ret pe_bl)) pss_nil))))) (pss_cons (ps_for PassesOwn.never rfl (pi_range1 rfl T.range (pa_cons (pv 2) pa_nil)) (pg_name (i := 4) sc__law_trade_right.nd rfl (by first | exact Or.inl rfl | exact Or.inr rfl)) (pss_cons (ps_setLc (i := 6) (own := [("crowd", 5)]) (g := gName 5) (tt := tYes) rfl sc__law_trade_right.nd rfl rfl (sw_true rfl rfl rfl (by decide +kernel)) (k_pt G.K (pe_ix (k_ixT G.K) (pv 0) pe_int (fun _ _ => rfl))) (blkOk_by (N := nm__law_trade_right) (sc := defScope s__law_trade_right) (by decide +kernel)) (fun _ _ _ _ _ => pg_name (i := 5) sc__law_trade_right.nd rfl (by first | exact Or.inl rfl | exact Or.inr rfl)) (fun _ _ _ _ _ => pts_nil) (fun _ _ _ _ _ => (pe_callTy call_int1 (by rfl) T.int (by decide +kernel) (pa_cons (pe_cmpR (k_in G.K) (pv 4) (pv 5) rfl) pa_nil)))) (pss_one (ps_if (pt_cmpR op_ne (pe_op op_add (pe_ix (k_ixL G.K) (pv 6) pe_int (fun _ _ => rfl)) (pe_ix (k_ixL G.K) (pv 6) pe_int (fun _ _ => rfl))) (pe_op op_add (pe_ix (k_ixL G.K) (pv 6) pe_int (fun _ _ => rfl)) (pe_ix (k_ixL G.K) (pv 6) pe_int (fun _ _ => rfl))) (nomark _)) (pss_one (ps_ret pe_bl)) pss_nil)))) (pss_one (ps_ret pe_bl))))), fun ds r hR => ?_⟩)
  · obtain ⟨n, told, t, rfl, h5, ht, hl, tr, rfl⟩ := hR
    rfl
  · obtain ⟨n, told, t, rfl, h5, ht, hl, tr, rfl⟩ := hR
    show WS G _ _ _ [.im (.tup [.str "trade", tradeD (some t)]), .ar (told.map eC), .im (.int n), .no, .no, .no, .no]
    obtain ⟨x, y, a, b⟩ := t
    have x1 : ∀ {ρ : Rho}, ρ[0]? = some (.im (.tup [.str "trade", tradeD (some (x, y, a, b))])) → EvD G (tOp (rIxT G.K) (tVar 0) (tC (.int 1))) ρ (.tup [eC x, eC y, eC a, eC b]) := fun h => evd_ixT (j := 1) (evd_var h) evd_int rfl rfl
    refine ws_seq (ws_when (evt_or (evt_test (evd_neI (evd_lenT (evd_var rfl)) evd_int)) (fun _ => evt_or (evt_not (evt_B (evd_isi (x1 rfl) rfl kit_tt))) (fun _ => evt_test (evd_neI (evd_lenT (x1 rfl)) evd_int)))) (fun h => by simp at h) (fun _ => ?_))
    refine ws_seq (ws_forR1 (n := 4) (fun _ : Unit => [.im (.tup [.str "trade", tradeD (some (x, y, a, b))]), .ar (told.map eC), .im (.int n), .no, .no, .no, .no]) (fun _ _ => if true then .go () else .stop (.val (.bl false))) () (ea1 evd_int) (by decide) (by walk_at "weak") (fun k s hk hf => ?_) ?_)
    · obtain ⟨c, hc1, hc2, hc3⟩ : ∃ c : Crowd, ([eC x, eC y, eC a, eC b] : List D)[k]? = some (eC c) ∧ c ∈ crowdsOf n ∧ bears told c = decide ((k : Int) < 2) := by
        have : k = 0 ∨ k = 1 ∨ k = 2 ∨ k = 3 := by omega
        rcases this with e | e | e | e <;> subst e
        · exact ⟨x, rfl, tr.ok x (by simp), by rw [tr.b1]; rfl⟩
        · exact ⟨y, rfl, tr.ok y (by simp), by rw [tr.b2]; rfl⟩
        · exact ⟨a, rfl, tr.ok a (by simp), by rw [tr.b3]; rfl⟩
        · exact ⟨b, rfl, tr.ok b (by simp), by rw [tr.b4]; rfl⟩
      have gc := cs_good h5 hc2
      refine ws_seq (ws_asgD (i := 5) (d := eC c) (evd_ixT (j := k) (x1 rfl) (evd_var rfl) rfl hc1) ?_)
      refine ws_seq (ws_when (evt_or (evt_not (evt_B (evd_isi (evd_var rfl) rfl kit_tt))) (fun _ => evt_test (evd_ninE enc_eC (evd_var rfl) (evs_new (evn_call (ea1 (evd_var rfl)) ⟨n, rfl, h5, rfl⟩))))) (fun h => by simp [hc2] at h) (fun _ => ?_))
      refine ws_when (evt_or (evt_not (evt_B (evd_all (bs := c.map fun _ => true) (evs_new (evn_is (evn_lcT c D.int (fun _ => true) (fun _ => .bl true) (evd_var rfl) (by have := gc.2; omega) (by simp) (fun _ _ => evt_yes) (fun m _ _ => evd_call (ea1 (evd_var rfl)) ⟨m, rfl, rfl⟩)) (by rw [filter_yes, List.map_map]; rfl)))))) (fun _ => evt_test (evd_neB (evd_call (eva_consL (evs_ar rfl) (ea1 (evd_var rfl))) ⟨told, c, rfl, ht, hl, rfl⟩) (evd_lt (evd_var rfl) evd_int)))) (fun h => ?_) (fun _ => ⟨(), rfl, by walk_at "weak"⟩)
      exfalso
      rw [hc3] at h
      have : (c.map fun _ => true).all id = true := by simp
      rw [this] at h
      simp at h
    rw [fold_all (p := fun _ => true), List.all_eq_true.mpr (fun _ _ => rfl)]
    refine ws_seq (ws_forR1 (n := (n : Int)) (fun _ : Unit => [.im (.tup [.str "trade", tradeD (some (x, y, a, b))]), .ar (told.map eC), .im (.int n), .no, .no, .no, .no]) (fun _ _ => if true then .go () else .stop (.val (.bl false))) () (ea1 (evd_var rfl)) (by omega) (by walk_at "weak") (fun k s hk hf => ?_) ?_)
    · have hs := sum_ints (tr.sums k (by omega))
      refine ws_seq (ws_asgN (i := 6) (evn_is (evn_lcT ([x, y, a, b] : List Crowd) eC (fun _ => true) (fun c => .int (intIn k c)) (x1 rfl) (by simp) (by simp) (fun _ _ => evt_yes) (fun c _ _ => evd_intB (evd_inT (evd_var rfl) (evd_var rfl)))) (es := [.int (intIn k x), .int (intIn k y), .int (intIn k a), .int (intIn k b)]) (by rw [filter_yes]; rfl)) ?_)
      refine ws_when (evt_test (evd_neI (evd_add (evd_ixL (j := 0) (evs_own rfl) evd_int rfl rfl) (evd_ixL (j := 1) (evs_own rfl) evd_int rfl rfl)) (evd_add (evd_ixL (j := 2) (evs_own rfl) evd_int rfl rfl) (evd_ixL (j := 3) (evs_own rfl) evd_int rfl rfl)))) (fun h => ?_) (fun _ => ⟨(), rfl, by walk_at "weak"⟩)
      exfalso
      dsimp only at hs
      rw [hs] at h
      simp at h
    rw [fold_all (p := fun _ => true), List.all_eq_true.mpr (fun _ _ => rfl)]
    exact ws_ret evd_bl rfl

/-! #### _law_right -/
abbrev s__law_right : Stmt := top 61
abbrev nm__law_right : List Str := ["found", "told", "many"]
theorem sc__law_right : FnScope nm__law_right ["found", "told", "many"] (defScope s__law_right) := ⟨rfl, rfl, rfl, by decide +kernel, rfl, by decide +kernel, by decide +kernel⟩
theorem str_wt : decide (Str.ofString "trade" = Str.ofString "weights") = false := by decide +kernel
def R__law_right : List D → Res → Prop := fun ds r => ∃ (n : Nat) (told : List Crowd) (d : D), ds = [d, .lst (told.map eC), .int n] ∧ n ≤ 5 ∧ told.length ≤ 1000 ∧ (∀ t ∈ told, t.length ≤ 1000) ∧ ((∃ W b, d = .tup [.str "weights", .lst (W.map .int), .int b] ∧ WeightsRight n told W b) ∨ (∃ t, d = .tup [.str "trade", tradeD (some t)] ∧ TradeRight n told t)) ∧ r = .val (.bl true)
theorem ok__law_right (T : Txt G mg) {f : Addr} {fd : FuncData} (F : Fun G.K "_law_right" "_law_right" s__law_right f fd) (H__law_weights_right : Fn G P w mg base "_law_weights_right" 3 ["found", "told", "many"] R__law_weights_right) (H__law_trade_right : Fn G P w mg base "_law_trade_right" 3 ["found", "told", "many"] R__law_trade_right) : FnOk P w G.K mg base CX0 4 f fd ["found", "told", "many"] (mkSp G R__law_right) := by
  refine okD F sc__law_right (fun ds r hR => ?_) (by decide) (fun cdv A outer s H E hr => ⟨_, (pss_cons (ps_if (PW.pt (pw_or (pt_not (pt_val (pe_callB (k_isi G.K) (by rfl) T.isinstance (by decide +kernel) (pa_cons (pv 0) (pa_cons (pe_bltn (v := .ty "tuple") (by rfl) T.tuple (by decide +kernel) rfl) pa_nil))))) (pw_or1 (pt_cmpR op_lt (pe_callB (k_len G.K) (by rfl) T.len PySem.boot_len (pa_cons (pv 0) pa_nil)) pe_int (nomark _))))) (pss_one (ps_ret pe_bl)) pss_nil) (pss_cons (ps_if (pt_cmpR op_eq (pe_ix (k_ixT G.K) (pv 0) pe_int (fun _ _ => rfl)) pe_str (nomark _)) (pss_one (ps_ret (pe_callF H__law_weights_right (hr.mono (by decide)) rfl (pa_cons (pv 0) (pa_cons (pv 1) (pa_cons (pv 2) pa_nil)))))) pss_nil) (pss_one (ps_ret (pe_and (pe_cmpR op_eq (pe_ix (k_ixT G.K) (pv 0) pe_int (fun _ _ => rfl)) pe_str (nomark _)) (pe_one (pe_callF H__law_trade_right (hr.mono (by decide)) rfl (pa_cons (pv 0) (pa_cons (pv 1) (pa_cons (pv 2) pa_nil)))))))))), fun ds r hR => ?_⟩)
  · obtain ⟨n, told, d, rfl, h5, ht, hl, hd, rfl⟩ := hR
    rfl
  · obtain ⟨n, told, d, rfl, h5, ht, hl, hd, rfl⟩ := hR
    rcases hd with ⟨W, b, rfl, wr⟩ | ⟨t, rfl, tr⟩
    · show WS G _ _ _ [.im (.tup [.str "weights", .lst (W.map .int), .int b]), .ar (told.map eC), .im (.int n)]
      refine ws_seq (ws_when (evt_or (evt_not (evt_B (evd_isi (evd_var rfl) rfl kit_tt))) (fun _ => evt_test (evd_lt (evd_lenT (evd_var rfl)) evd_int))) (fun h => by simp at h) (fun _ => ?_))
      exact ws_seq (ws_when (evt_test (evd_eqS (evd_ixT (j := 0) (evd_var rfl) evd_int rfl rfl) evd_str)) (fun _ => ws_ret (evd_call (eva_cons (evd_var rfl) (eva_consL (evs_ar rfl) (ea1 (evd_var rfl)))) ⟨n, told, W, b, rfl, h5, ht, hl, wr, rfl⟩) rfl) (fun h => by simp at h))
    · show WS G _ _ _ [.im (.tup [.str "trade", tradeD (some t)]), .ar (told.map eC), .im (.int n)]
      refine ws_seq (ws_when (evt_or (evt_not (evt_B (evd_isi (evd_var rfl) rfl kit_tt))) (fun _ => evt_test (evd_lt (evd_lenT (evd_var rfl)) evd_int))) (fun h => by simp at h) (fun _ => ?_))
      refine ws_seq (ws_when (evt_test (evd_eqS (evd_ixT (j := 0) (evd_var rfl) evd_int rfl rfl) evd_str)) (fun h => by rw [str_wt] at h; cases h) (fun _ => ?_))
      exact ws_ret (evd_is (evd_andV (evd_eqS (evd_ixT (j := 0) (evd_var rfl) evd_int rfl rfl) evd_str) (fun _ => evd_call (eva_cons (evd_var rfl) (eva_consL (evs_ar rfl) (ea1 (evd_var rfl)))) ⟨n, told, t, rfl, h5, ht, hl, tr, rfl⟩)) (y := .bl true) (by simp)) rfl

/-! #### _law_refused -/
abbrev s__law_refused : Stmt := top 62
abbrev nm__law_refused : List Str := ["council", "refused", "way"]
theorem sc__law_refused : FnScope nm__law_refused ["council"] (defScope s__law_refused) := ⟨rfl, rfl, rfl, by decide +kernel, rfl, by decide +kernel, by decide +kernel⟩
def refStep (s : List Str) (k : Nat) : List Str := s ++ [if k < 2 then Str.ofString "crowd" else Str.ofString "member"]
theorem ref_fold : (List.range 3).foldl refStep [] = [Str.ofString "crowd", Str.ofString "crowd", Str.ofString "member"] := rfl
abbrev eCM (b : Bool) : D := .str (if b then Str.ofString "crowd" else Str.ofString "member")
theorem encCM : Enc eCM 0 := ⟨fun b => by cases b <;> decide +kernel, fun b => by cases b <;> decide +kernel, fun b => by cases b <;> decide +kernel, fun a b => by cases a <;> cases b <;> decide +kernel⟩
theorem bad_00 (n : Int) : crowdOk n [0, 0] = false := by
  cases q : crowdOk n [0, 0] with
  | false => rfl
  | true =>
    have := (List.pairwise_cons.mp (crowdOk_iff.mp q).1).1 0 (by simp)
    omega
theorem bad_0n (n : Int) : crowdOk n [0, n] = false := by
  cases q : crowdOk n [0, n] with
  | false => rfl
  | true =>
    have := (crowdOk_iff.mp q).2 n (by simp)
    omega
def R__law_refused : List D → Res → Prop := fun ds r => ∃ (n : Nat) (a : List Crowd), ds = [.cou n a] ∧ n ≤ 5 ∧ r = .val (.bl true)
theorem ok__law_refused (T : Txt G mg) {f : Addr} {fd : FuncData} (F : Fun G.K "_law_refused" "_law_refused" s__law_refused f fd) (H_Council_carries : Mt G P w mg base "carries" 3 ["self", "crowd"] R_Council_carries) (H_Council_many : Mt G P w mg base "many" 1 ["self"] R_Council_many) (H_can_all : Fn G P w mg base "can_all" 4 ["council", "one", "other"] R_can_all) (X_BadCrowd : ExT G mg "BadCrowd" (G.ex .crowd)) (X_NoMember : ExT G mg "NoMember" (G.ex .member)) (m_cc : PySem.W.exmOne G.K (.ref (G.ex .crowd)) (.ref (G.ex .crowd)) = some true) (m_mc : PySem.W.exmOne G.K (.ref (G.ex .member)) (.ref (G.ex .crowd)) = some false) (m_mm : PySem.W.exmOne G.K (.ref (G.ex .member)) (.ref (G.ex .member)) = some true) : FnOk P w G.K mg base CX0 5 f fd ["council"] (mkSp G R__law_refused) := by
  refine okD F sc__law_refused (fun ds r hR => ?_) (by decide) (fun cdv A outer s H E hr => ⟨_, (pss_cons (ps_asg (pe_lst pa_nil) (pg_name (i := 1) sc__law_refused.nd rfl (by first | exact Or.inl rfl | exact Or.inr rfl))) (pss_cons (ps_for PassesOwn.never rfl (pi_range1 rfl T.range (pa_cons pe_int pa_nil)) (pg_name (i := 2) sc__law_refused.nd rfl (by first | exact Or.inl rfl | exact Or.inr rfl)) (pss_one (ps_tryTwo rfl rfl takes0 (fun W pn xe tk _ => (pss_one (ps_if (pt_cmpR op_eq (pv 2) pe_int (nomark _)) (pss_one (ps_expr (pe_methS' (pv 0) T.cl H_Council_carries (hr.mono (by decide)) tk (pa_cons (pe_tup (pa_cons pe_int (pa_cons pe_int pa_nil))) pa_nil)))) (pss_one (ps_if (pt_cmpR op_eq (pv 2) pe_int (nomark _)) (pss_one (ps_expr (pe_methS' (pv 0) T.cl H_Council_carries (hr.mono (by decide)) tk (pa_cons (pe_tup (pa_cons pe_int (pa_cons (pe_methF0 (pv 0) T.cl H_Council_many (hr.mono (by decide))) pa_nil))) pa_nil)))) (pss_one (ps_expr (pe_callS' H_can_all (hr.mono (by decide)) rfl tk (pa_cons (pv 0) (pa_cons (pe_methF0 (pv 0) T.cl H_Council_many (hr.mono (by decide))) (pa_cons (pe_methF0 (pv 0) T.cl H_Council_many (hr.mono (by decide))) pa_nil))))))))))) ⟨rfl, by decide, .inl X_BadCrowd.g⟩ (fun a oe cls d pn hz hf => (pss_one (ps_expr (pe_bmK (K := G.K) PySem.F.plainAttrs_list PySem.F.slot_list_append PySem.F.type_list_append mt_append (pv 1) (pa_cons pe_str pa_nil))))) ⟨rfl, by decide, .inl X_NoMember.g⟩ (fun a oe cls d pn hz hf => (pss_one (ps_expr (pe_bmK (K := G.K) PySem.F.plainAttrs_list PySem.F.slot_list_append PySem.F.type_list_append mt_append (pv 1) (pa_cons pe_str pa_nil)))))))) (pss_one (ps_ret (pe_cmpR (k_eqD G.K hr.units) (pv 1) (pe_lst (pa_cons pe_str (pa_cons pe_str (pa_cons pe_str pa_nil)))) (nomark _)))))), fun ds r hR => ?_⟩)
  · obtain ⟨n, a, rfl, h5, rfl⟩ := hR
    rfl
  · obtain ⟨n, a, rfl, h5, rfl⟩ := hR
    show WS G _ _ _ [.im (.cou n a), .no, .no]
    refine ws_seq (ws_asgN (i := 1) (evn_lst evad_nil) ?_)
    refine ws_seq (ws_forR1 (n := 3) (fun s : List Str => [.im (.cou n a), .own (s.map .str), .no]) (fun s k => .go (refStep s k)) [] (ea1 evd_int) (by decide) (by walk_at "weak") (fun k s hk hf => ?_) ?_)
    · have hs := fold_go_take (f := refStep) hf
      have sl : s.length ≤ 3 := by
        rw [hs]
        have : k = 0 ∨ k = 1 ∨ k = 2 := by omega
        rcases this with e | e | e <;> subst e <;> decide
      clear hf hs
      have many : ∀ {ρ : Rho}, ρ[0]? = some (.im (.cou n a)) → EvD G (tMeth G.C "many" (mkSp G R_Council_many) [] E0 (tVar 0) tNil) ρ (.int n) := fun h => evd_meth (evd_var h) eva_nil ⟨n, a, rfl, rfl⟩
      have : k = 0 ∨ k = 1 ∨ k = 2 := by omega
      rcases this with e | e | e <;> subst e
      · refine ws_tryMany (e := .crowd) (tryb_if (evt_test (evd_eqI (evd_var rfl) evd_int)) (fun _ => tryb_meth (evd_var rfl) (ea1 (evd_tup (evad_cons evd_int (evad_cons evd_int evad_nil)))) ⟨n, a, [0, 0], rfl, by rw [bad_00]; rfl⟩) (fun h => nomatch h)) (.inl ⟨m_cc, fun q => ?_⟩)
        exact ws_append rfl evd_str (by simp; omega) ⟨_, rfl, by unfold refStep; walk_at "weak"⟩
      · refine ws_tryMany (e := .crowd) (tryb_if (evt_test (evd_eqI (evd_var rfl) evd_int)) (fun h => nomatch h) (fun _ => tryb_if (evt_test (evd_eqI (evd_var rfl) evd_int)) (fun _ => tryb_meth (evd_var rfl) (ea1 (evd_tup (evad_cons evd_int (evad_cons (many rfl) evad_nil)))) ⟨n, a, [0, (n : Int)], rfl, by rw [bad_0n]; rfl⟩) (fun h => nomatch h))) (.inl ⟨m_cc, fun q => ?_⟩)
        exact ws_append rfl evd_str (by simp; omega) ⟨_, rfl, by unfold refStep; walk_at "weak"⟩
      · refine ws_tryMany (e := .member) (tryb_if (evt_test (evd_eqI (evd_var rfl) evd_int)) (fun h => nomatch h) (fun _ => tryb_if (evt_test (evd_eqI (evd_var rfl) evd_int)) (fun h => nomatch h) (fun _ => tryb_call (eva_cons (evd_var rfl) (ea2 (many rfl) (many rfl))) ⟨n, a, n, n, rfl, h5, by rw [if_pos (by omega)]⟩))) (.inr ⟨m_mc, m_mm, fun q => ?_⟩)
        exact ws_append rfl evd_str (by simp; omega) ⟨_, rfl, by unfold refStep; walk_at "weak"⟩
    · rw [fold_go]
      show WS G _ _ _ [_, .own (((List.range 3).foldl refStep []).map .str), _]
      rw [ref_fold]
      exact ws_ret (evd_is (evd_eqL encCM (a := [true, true, false]) (b := [true, true, false]) (evs_own rfl) (evs_new (evn_lst (evad_cons evd_str (evad_cons evd_str (evad_cons evd_str evad_nil)))))) (y := .bl true) (by simp)) rfl

/-! #### law -/
abbrev s_law : Stmt := top 63
abbrev nm_law : List Str := ["script", "many", "one", "other", "found", "size", "plain", "member", "told", "turn", "pair", "answer", "crowd"]
theorem sc_law : FnScope nm_law ["script"] (defScope s_law) := ⟨rfl, rfl, rfl, by decide +kernel, rfl, by decide +kernel, by decide +kernel⟩
section
variable {n : Nat} {a b : List Crowd}
theorem congr_vetoes (h : ∀ c ∈ crowdsOf n, bears a c = bears b c) : vetoesOf n a = vetoesOf n b := by
  unfold vetoesOf
  congr 1
  refine List.filter_congr fun m _ => ?_
  unfold isVeto
  have : ((crowdsOf n).filter fun c => !decide ((m : Int) ∈ c) && bears a c) = (crowdsOf n).filter fun c => !decide ((m : Int) ∈ c) && bears b c := List.filter_congr fun c hc => by rw [h c hc]
  rw [this]
theorem congr_idle (hn : n ≤ 5) (h : ∀ c ∈ crowdsOf n, bears a c = bears b c) : idleOf n a = idleOf n b := by
  unfold idleOf
  congr 1
  refine List.filter_congr fun m _ => ?_
  unfold isIdle
  rw [least_congr hn h]
theorem congr_counts (hn : n ≤ 5) (h : ∀ c ∈ crowdsOf n, bears a c = bears b c) : swingCounts n a = swingCounts n b := by
  unfold swingCounts
  exact List.map_congr_left fun m hm => by rw [swings_congr hn h (List.mem_range.mp hm)]
theorem congr_powers (hn : n ≤ 5) (h : ∀ c ∈ crowdsOf n, bears a c = bears b c) : powersOf n a = powersOf n b := by
  unfold powersOf topOf
  exact List.map_congr_left fun m hm => by rw [swings_congr hn h (List.mem_range.mp hm)]
theorem congr_can (hn : n ≤ 5) (h : ∀ c ∈ crowdsOf n, bears a c = bears b c) {x y : Nat} (hx : x < n) (hy : y < n) : canAll n a x y = canAll n b x y := by
  have go : ∀ c ∈ crowdsOf n, canStep a x y c = canStep b x y c := fun c hc => by
    unfold canStep
    rw [h _ (with_listed hn hc hx), h _ (with_listed hn hc hy)]
  unfold canAll
  rw [Bool.eq_iff_iff, List.all_eq_true, List.all_eq_true]
  exact ⟨fun q c hc => by rw [← go c hc]; exact q c hc, fun q c hc => by rw [go c hc]; exact q c hc⟩
theorem trade_congr13 (h : ∀ c ∈ crowdsOf n, bears a c = bears b c) : TradeIn n a → TradeIn n b := by
  rintro ⟨x, hx, y, hy, p, hp, q, hq, bx, by_, bp, bq, hs⟩
  exact ⟨x, hx, y, hy, p, hp, q, hq, by rw [← h x hx, bx], by rw [← h y hy, by_], by rw [← h p hp, bp], by rw [← h q hq, bq], hs⟩
theorem kind_congr (hn : n ≤ 5) (h : ∀ c ∈ crowdsOf n, bears a c = bears b c) : kindOf n a = kindOf n b := kind_iff hn ⟨trade_congr13 h, trade_congr13 fun c hc => (h c hc).symm⟩
theorem right_congr {W : List Int} {bar : Int} (h : ∀ c ∈ crowdsOf n, bears a c = bears b c) (r : WeightsRight n a W bar) : WeightsRight n b W bar := ⟨r.len, r.nn, r.bar, fun c hc => by rw [← h c hc]; exact r.tells c hc⟩
theorem tright_congr {t : Crowd × Crowd × Crowd × Crowd} (h : ∀ c ∈ crowdsOf n, bears a c = bears b c) (r : TradeRight n a t) : TradeRight n b t :=
  ⟨r.ok, by rw [← h _ (r.ok _ (by simp))]; exact r.b1, by rw [← h _ (r.ok _ (by simp))]; exact r.b2, by rw [← h _ (r.ok _ (by simp))]; exact r.b3, by rw [← h _ (r.ok _ (by simp))]; exact r.b4, r.sums⟩
end
def R_law : List D → Res → Prop := fun ds r => ∃ ns : List Int, ds = [.scr ns] ∧ ns.length ≤ 63 ∧ r = .val (.bl true)
theorem ok_law (T : Txt G mg) {f : Addr} {fd : FuncData} (F : Fun G.K "law" "law" s_law f fd) (H__law_many : Fn G P w mg base "_law_many" 1 ["cell"] R__law_many) (H__law_cell_at : Fn G P w mg base "_law_cell_at" 1 ["script", "k"] R__law_cell_at) (H_Council : Ini G P w mg base 2) (H__law_told : Fn G P w mg base "_law_told" 4 ["script", "start", "many"] R__law_told) (H__law_made : Fn G P w mg base "_law_made" 6 ["one", "other", "way", "script"] R__law_made) (H_Council_many : Mt G P w mg base "many" 1 ["self"] R_Council_many) (H__law_crowds : Fn G P w mg base "_law_crowds" 2 ["many"] R__law_crowds) (H_Council_carries : Mt G P w mg base "carries" 3 ["self", "crowd"] R_Council_carries) (H_idle : Fn G P w mg base "idle" 4 ["council"] R_idle) (H_vetoes : Fn G P w mg base "vetoes" 4 ["council"] R_vetoes) (H_Council_least : Mt G P w mg base "least" 3 ["self"] R_Council_least) (H_powers : Fn G P w mg base "powers" 5 ["council"] R_powers) (H_swings : Fn G P w mg base "swings" 5 ["council"] R_swings) (H_can_all : Fn G P w mg base "can_all" 4 ["council", "one", "other"] R_can_all) (H_weighed : Fn G P w mg base "weighed" 6 ["council"] R_weighed) (H__law_right : Fn G P w mg base "_law_right" 4 ["found", "told", "many"] R__law_right) (H__law_refused : Fn G P w mg base "_law_refused" 5 ["council"] R__law_refused) : FnOk P w G.K mg base CX0 7 f fd ["script"] (mkSp G R_law) := by
  refine okD F sc_law (fun ds r hR => ?_) (by decide) (fun cdv A outer s H E hr => ⟨_, (pss_cons (ps_asg (pe_callF H__law_many (hr.mono (by decide)) rfl (pa_cons (pe_callF H__law_cell_at (hr.mono (by decide)) rfl (pa_cons (pv 0) (pa_cons pe_int pa_nil))) pa_nil)) (pg_name (i := 1) sc_law.nd rfl (by first | exact Or.inl rfl | exact Or.inr rfl))) (pss_cons (ps_asg (pe_makeF H_Council (hr.mono (by decide)) rfl (pa_cons (pv 1) (pa_cons (pe_callF H__law_told (hr.mono (by decide)) rfl (pa_cons (pv 0) (pa_cons pe_int (pa_cons (pv 1) pa_nil)))) pa_nil))) (pg_name (i := 2) sc_law.nd rfl (by first | exact Or.inl rfl | exact Or.inr rfl))) (pss_cons (ps_asg (pe_makeF H_Council (hr.mono (by decide)) rfl (pa_cons (pv 1) (pa_cons (pe_callF H__law_told (hr.mono (by decide)) rfl (pa_cons (pv 0) (pa_cons pe_int (pa_cons (pv 1) pa_nil)))) pa_nil))) (pg_name (i := 3) sc_law.nd rfl (by first | exact Or.inl rfl | exact Or.inr rfl))) (pss_cons (ps_asg (pe_callF H__law_made (hr.mono (by decide)) rfl (pa_cons (pv 2) (pa_cons (pv 3) (pa_cons (pe_op op_mod (pe_callF H__law_cell_at (hr.mono (by decide)) rfl (pa_cons (pv 0) (pa_cons pe_int pa_nil))) pe_int) (pa_cons (pv 0) pa_nil))))) (pg_name (i := 4) sc_law.nd rfl (by first | exact Or.inl rfl | exact Or.inr rfl))) (pss_cons (ps_asg (pe_methF0 (pv 4) T.cl H_Council_many (hr.mono (by decide))) (pg_name (i := 5) sc_law.nd rfl (by first | exact Or.inl rfl | exact Or.inr rfl))) (pss_cons (ps_asg (pe_makeF H_Council (hr.mono (by decide)) rfl (pa_cons (pv 5) (pa_cons (pe_lc (own := [("crowd", 12)]) (g := gName 12) (tt := _) rfl sc_law.nd (k_pl G.K (pe_callF H__law_crowds (hr.mono (by decide)) rfl (pa_cons (pv 5) pa_nil))) (blkOk_by (N := nm_law) (sc := defScope s_law) (by decide +kernel)) (fun _ _ _ _ _ => pg_name (i := 12) sc_law.nd rfl (by first | exact Or.inl rfl | exact Or.inr rfl)) (fun _ _ _ _ _ => (pts_one (pt_val (pe_methF (pv 4) T.cl H_Council_carries (hr.mono (by decide)) (pa_cons (pv 12) pa_nil))))) (fun _ _ _ _ _ => (pv 12))) pa_nil))) (pg_name (i := 6) sc_law.nd rfl (by first | exact Or.inl rfl | exact Or.inr rfl))) (pss_cons (ps_if (PW.pt (pw_or (pt_cmpR (k_neD G.K hr.units) (pe_methF0 (pv 4) T.cl H_Council_least (hr.mono (by decide))) (pe_methF0 (pv 6) T.cl H_Council_least (hr.mono (by decide))) (nomark _)) (pw_or (pt_cmpR (k_neD G.K hr.units) (pe_callF H_vetoes (hr.mono (by decide)) rfl (pa_cons (pv 4) pa_nil)) (pe_callF H_vetoes (hr.mono (by decide)) rfl (pa_cons (pv 6) pa_nil)) (nomark _)) (pw_or1 (pt_cmpR (k_neD G.K hr.units) (pe_callF H_idle (hr.mono (by decide)) rfl (pa_cons (pv 4) pa_nil)) (pe_callF H_idle (hr.mono (by decide)) rfl (pa_cons (pv 6) pa_nil)) (nomark _)))))) (pss_one (ps_ret pe_bl)) pss_nil) (pss_cons (ps_if (PW.pt (pw_or (pt_cmpR (k_neD G.K hr.units) (pe_callF H_swings (hr.mono (by decide)) rfl (pa_cons (pv 4) pa_nil)) (pe_callF H_swings (hr.mono (by decide)) rfl (pa_cons (pv 6) pa_nil)) (nomark _)) (pw_or1 (pt_cmpR (k_neD G.K hr.units) (pe_callF H_powers (hr.mono (by decide)) rfl (pa_cons (pv 4) pa_nil)) (pe_callF H_powers (hr.mono (by decide)) rfl (pa_cons (pv 6) pa_nil)) (nomark _))))) (pss_one (ps_ret pe_bl)) pss_nil) (pss_cons (ps_for PassesOwn.never rfl (pi_range1 rfl T.range (pa_cons (pe_op op_mul (pv 5) (pv 5)) pa_nil)) (pg_name (i := 7) sc_law.nd rfl (by first | exact Or.inl rfl | exact Or.inr rfl)) (pss_cons (ps_asg (pe_tup (pa_cons (pe_op op_mod (pv 7) (pv 5)) (pa_cons (pe_op op_fdiv (pv 7) (pv 5)) pa_nil))) (pg_name (i := 10) sc_law.nd rfl (by first | exact Or.inl rfl | exact Or.inr rfl))) (pss_one (ps_if (pt_cmpR op_ne (pe_callF H_can_all (hr.mono (by decide)) rfl (pa_cons (pv 4) (pa_cons (pe_ix (k_ixT G.K) (pv 10) pe_int (fun _ _ => rfl)) (pa_cons (pe_ix (k_ixT G.K) (pv 10) pe_int (fun _ _ => rfl)) pa_nil)))) (pe_callF H_can_all (hr.mono (by decide)) rfl (pa_cons (pv 6) (pa_cons (pe_ix (k_ixT G.K) (pv 10) pe_int (fun _ _ => rfl)) (pa_cons (pe_ix (k_ixT G.K) (pv 10) pe_int (fun _ _ => rfl)) pa_nil)))) (nomark _)) (pss_one (ps_ret pe_bl)) pss_nil)))) (pss_cons (ps_setLc (i := 8) (own := [("crowd", 12)]) (g := gName 12) (tt := _) rfl sc_law.nd rfl rfl (sw_true rfl rfl rfl (by decide +kernel)) (k_pl G.K (pe_callF H__law_crowds (hr.mono (by decide)) rfl (pa_cons (pv 5) pa_nil))) (blkOk_by (N := nm_law) (sc := defScope s_law) (by decide +kernel)) (fun _ _ _ _ _ => pg_name (i := 12) sc_law.nd rfl (by first | exact Or.inl rfl | exact Or.inr rfl)) (fun _ _ _ _ _ => (pts_one (pt_val (pe_methF (pv 4) T.cl H_Council_carries (hr.mono (by decide)) (pa_cons (pv 12) pa_nil))))) (fun _ _ _ _ _ => (pv 12))) (pss_cons (ps_for PassesOwn.never rfl (pi_range1 rfl T.range (pa_cons pe_int pa_nil)) (pg_name (i := 9) sc_law.nd rfl (by first | exact Or.inl rfl | exact Or.inr rfl)) (pss_cons (ps_asg (pe_callF H_weighed (hr.mono (by decide)) rfl (pa_cons (pv 4) pa_nil)) (pg_name (i := 11) sc_law.nd rfl (by first | exact Or.inl rfl | exact Or.inr rfl))) (pss_cons (ps_if (PW.pt (pw_or (pt_not (pt_val (pe_callF H__law_right (hr.mono (by decide)) rfl (pa_cons (pv 11) (pa_cons (pv 8) (pa_cons (pv 5) pa_nil)))))) (pw_or1 (pt_cmpR op_ne (pe_ix (k_ixT G.K) (pv 11) pe_int (fun _ _ => rfl)) (pe_ix (k_ixT G.K) (pe_callF H_weighed (hr.mono (by decide)) rfl (pa_cons (pv 6) pa_nil)) pe_int (fun _ _ => rfl)) (nomark _))))) (pss_one (ps_ret pe_bl)) pss_nil) (pss_one (ps_if (pt_cmpR op_eq (pe_ix (k_ixT G.K) (pv 11) pe_int (fun _ _ => rfl)) pe_str (nomark _)) (pss_one (ps_expr (pe_bm0 PySem.F.plainAttrs_list PySem.F.slot_list_clear PySem.F.type_list_clear mt_clear (pe_ix (k_ixT G.K) (pv 11) pe_int (fun _ _ => rfl))))) pss_nil))))) (pss_one (ps_ret (pe_callF H__law_refused (hr.mono (by decide)) rfl (pa_cons (pv 4) pa_nil))))))))))))))), fun ds r hR => ?_⟩)
  · obtain ⟨ns, rfl, hns, rfl⟩ := hR
    rfl
  · obtain ⟨ns, rfl, hns, rfl⟩ := hR
    show WS G _ _ _ [.im (.scr ns), .no, .no, .no, .no, .no, .no, .no, .no, .no, .no, .no, .no]
    have hm := manyOf_le (cell ns 0)
    generalize em : manyOf (cell ns 0) = m at hm
    obtain ⟨h1, h5⟩ := hm
    refine ws_seq (ws_asgD (i := 1) (d := .int m) (evd_call (ea1 (evd_call (ea2 (evd_var rfl) evd_int) ⟨ns, 0, rfl, rfl⟩)) ⟨_, rfl, by rw [em]⟩) ?_)
    have tg := told_good (ns := ns) (start := 2) h5
    have tl := told_len (ns := ns) (start := 2) h5
    have tg2 := told_good (ns := ns) (start := 15) h5
    have tl2 := told_len (ns := ns) (start := 15) h5
    refine ws_seq (ws_asgD (i := 2) (d := .cou m (toldOf ns 2 m)) (evd_x (Ex := E0) (evx_is (evx_make (cs := toldOf ns 2 m) (eva_cons (evd_var rfl) (ea1L (evs_new (evn_call (eva_cons (evd_var rfl) (eva_cons evd_int (eva_cons (evd_var rfl) eva_nil))) ⟨ns, 2, m, rfl, h1, h5, rfl⟩)))) (by omega)) (couRes_ok h1 h5 (fun c hc => (tg c hc).1)))) ?_)
    refine ws_seq (ws_asgD (i := 3) (d := .cou m (toldOf ns 15 m)) (evd_x (Ex := E0) (evx_is (evx_make (cs := toldOf ns 15 m) (eva_cons (evd_var rfl) (ea1L (evs_new (evn_call (eva_cons (evd_var rfl) (eva_cons evd_int (eva_cons (evd_var rfl) eva_nil))) ⟨ns, 15, m, rfl, h1, h5, rfl⟩)))) (by omega)) (couRes_ok h1 h5 (fun c hc => (tg2 c hc).1)))) ?_)
    generalize toldOf ns 2 m = a
    generalize toldOf ns 15 m = b
    have ms := made_size h1 h5 a b (cell ns 1 % 6) ns
    obtain ⟨z, ez⟩ : ∃ z, z = (madeOf m a b (cell ns 1 % 6) ns).1 := ⟨_, rfl⟩
    obtain ⟨t, et⟩ : ∃ t, t = (madeOf m a b (cell ns 1 % 6) ns).2 := ⟨_, rfl⟩
    refine ws_seq (ws_asgD (i := 4) (d := .cou z t) (evd_is (evd_call (eva_cons (evd_var rfl) (eva_cons (evd_var rfl) (ea2 (evd_mod (evd_call (ea2 (evd_var rfl) evd_int) ⟨ns, 1, rfl, rfl⟩) evd_int (by decide)) (evd_var rfl)))) ⟨m, a, b, cell ns 1 % 6, ns, rfl, h1, h5, rfl⟩) (by rw [ez, et])) ?_)
    rw [← ez] at ms
    clear ez et
    obtain ⟨z1, z5⟩ := ms
    refine ws_seq (ws_asgD (i := 5) (d := .int z) (evd_meth (evd_var rfl) eva_nil ⟨z, t, rfl, rfl⟩) ?_)
    have hcl := crowdsOf_len z5
    obtain ⟨p, ep⟩ : ∃ p, p = (crowdsOf z).filter (bears t) := ⟨_, rfl⟩
    have pl : p.length ≤ 32 := by rw [ep]; exact Nat.le_trans (List.length_filter_le _ _) hcl
    have pc : ∀ c ∈ p, c.length ≤ 1000 := fun c hc => by
      rw [ep] at hc
      have := (cs_good z5 (List.mem_filter.mp hc).1).2
      omega
    have hb : ∀ c ∈ crowdsOf z, bears t c = bears p c := fun c hc => by rw [ep, bears_filter (mono_bears z t) hc]
    refine ws_seq (ws_asgD (i := 6) (d := .cou z p) (evd_x (Ex := E0) (evx_is (evx_make (cs := p) (eva_cons (evd_var rfl) (ea1L (evs_new (evn_is (evn_lcL (crowdsOf z) eC (bears t) eC (evs_new (evn_call (ea1 (evd_var rfl)) ⟨z, rfl, z5, rfl⟩)) (by omega) (by simp) (fun c hc => evt_B (evd_meth (evd_var rfl) (ea1 (evd_var rfl)) ⟨z, t, c, rfl, by rw [if_pos (cs_good z5 hc).1]⟩)) (fun c _ _ => evd_var rfl)) (es := p.map eC) (by rw [ep]))))) (by omega)) (couRes_ok z1 z5 (fun c hc => by rw [ep] at hc; exact (cs_good z5 (List.mem_filter.mp hc).1).1)))) ?_)
    have lst : ∀ {te : TE} {ρ : Rho} {u : List Crowd}, EvD G te ρ (.cou z u) → EvN G (tMeth G.C "least" (mkSp G R_Council_least) [] E0 te tNil) ρ ((least z u).map eC) := fun {te ρ u} h => evn_meth h eva_nil ⟨z, u, rfl, z5, rfl⟩
    refine ws_seq (ws_when (evt_or (evt_test (evd_neL enc_eC (evs_new (lst (evd_var rfl))) (evs_new (lst (evd_var rfl))))) (fun _ => evt_or (evt_test (evd_neL encI (evs_new (evn_call (ea1 (evd_var rfl)) ⟨z, t, rfl, z5, rfl⟩)) (evs_new (evn_call (ea1 (evd_var rfl)) ⟨z, p, rfl, z5, rfl⟩)))) (fun _ => evt_test (evd_neL encI (evs_new (evn_call (ea1 (evd_var rfl)) ⟨z, t, rfl, z5, rfl⟩)) (evs_new (evn_call (ea1 (evd_var rfl)) ⟨z, p, rfl, z5, rfl⟩)))))) (fun h => by rw [least_congr z5 hb, congr_vetoes hb, congr_idle z5 hb] at h; simp at h) (fun _ => ?_))
    refine ws_seq (ws_when (evt_or (evt_test (evd_neL encI (evs_new (evn_call (ea1 (evd_var rfl)) ⟨z, t, rfl, z5, rfl⟩)) (evs_new (evn_call (ea1 (evd_var rfl)) ⟨z, p, rfl, z5, rfl⟩)))) (fun _ => evt_test (evd_neL (encI.pair encI) (a := powersOf z t) (b := powersOf z p) (evs_new (evn_call (ea1 (evd_var rfl)) ⟨z, t, rfl, z5, rfl⟩)) (evs_new (evn_call (ea1 (evd_var rfl)) ⟨z, p, rfl, z5, rfl⟩))))) (fun h => by rw [congr_counts z5 hb, congr_powers z5 hb] at h; simp at h) (fun _ => ?_))
    have zz : (z : Int) * z ≤ 25 ∧ 0 ≤ (z : Int) * z := by
      have : z = 1 ∨ z = 2 ∨ z = 3 ∨ z = 4 ∨ z = 5 := by omega
      rcases this with e | e | e | e | e <;> subst e <;> decide
    refine ws_seq (ws_forR1 (n := (z : Int) * z) (fun _ : Unit => [.im (.scr ns), .im (.int m), .im (.cou m a), .im (.cou m b), .im (.cou z t), .im (.int z), .im (.cou z p), .no, .no, .no, .no, .no, .no]) (fun _ _ => if true then .go () else .stop (.val (.bl false))) () (ea1 (evd_mul (evd_var rfl) (evd_var rfl) (.inl (by omega)))) (by omega) (by walk_at "weak") (fun k s hk hf => ?_) ?_)
    · have hk2 : (k : Int) < (z : Int) * z := by omega
      have q1 : 0 ≤ (k : Int) % (z : Int) ∧ (k : Int) % (z : Int) < z := ⟨Int.emod_nonneg _ (by omega), Int.emod_lt_of_pos _ (by omega)⟩
      have q2 : 0 ≤ (k : Int) / (z : Int) ∧ (k : Int) / (z : Int) < z := ⟨Int.ediv_nonneg (by omega) (by omega), Int.ediv_lt_of_lt_mul (by omega) hk2⟩
      obtain ⟨x, ex⟩ : ∃ x : Nat, (x : Int) = (k : Int) % (z : Int) := ⟨((k : Int) % (z : Int)).toNat, by omega⟩
      obtain ⟨y, ey⟩ : ∃ y : Nat, (y : Int) = (k : Int) / (z : Int) := ⟨((k : Int) / (z : Int)).toNat, by omega⟩
      refine ws_seq (ws_asgD (i := 10) (d := .tup [.int x, .int y]) (evd_is (evd_tup (evad_cons (evd_mod (evd_var rfl) (evd_var rfl) (by omega)) (evad_cons (evd_fdiv (evd_var rfl) (evd_var rfl) ⟨by omega, by omega⟩) evad_nil))) (by rw [ex, ey])) ?_)
      have x0 : ∀ {ρ : Rho}, ρ[10]? = some (.im (.tup [.int x, .int y])) → EvD G (tOp (rIxT G.K) (tVar 10) (tC (.int 0))) ρ (.int x) := fun h => evd_ixT (j := 0) (evd_var h) evd_int rfl rfl
      have x1 : ∀ {ρ : Rho}, ρ[10]? = some (.im (.tup [.int x, .int y])) → EvD G (tOp (rIxT G.K) (tVar 10) (tC (.int 1))) ρ (.int y) := fun h => evd_ixT (j := 1) (evd_var h) evd_int rfl rfl
      refine ws_when (evt_test (evd_neB (evd_call (eva_cons (evd_var rfl) (ea2 (x0 rfl) (x1 rfl))) ⟨z, t, x, y, rfl, z5, by rw [if_neg (by omega)]⟩) (evd_call (eva_cons (evd_var rfl) (ea2 (x0 rfl) (x1 rfl))) ⟨z, p, x, y, rfl, z5, by rw [if_neg (by omega)]⟩))) (fun h => ?_) (fun _ => ⟨(), rfl, by walk_at "weak"⟩)
      exfalso
      rw [congr_can z5 hb (by omega) (by omega)] at h
      simp at h
    rw [fold_all (p := fun _ => true), List.all_eq_true.mpr (fun _ _ => rfl)]
    refine ws_seq (ws_asgN (i := 8) (evn_is (evn_lcL (crowdsOf z) eC (bears t) eC (evs_new (evn_call (ea1 (evd_var rfl)) ⟨z, rfl, z5, rfl⟩)) (by omega) (by simp) (fun c hc => evt_B (evd_meth (evd_var rfl) (ea1 (evd_var rfl)) ⟨z, t, c, rfl, by rw [if_pos (cs_good z5 hc).1]⟩)) (fun c _ _ => evd_var rfl)) (es := p.map eC) (by rw [ep])) ?_)
    clear ep
    have kc := kind_congr z5 hb
    refine ws_seq (ws_forR1 (n := 2) (fun _ : Unit => [.im (.scr ns), .im (.int m), .im (.cou m a), .im (.cou m b), .im (.cou z t), .im (.int z), .im (.cou z p), .no, .own (p.map eC), .no, .no, .no, .no]) (fun _ _ => if true then .go () else .stop (.val (.bl false))) () (ea1 evd_int) (by decide) (by walk_at "weak") (fun k s hk hf => ?_) ?_)
    · cases et : tradeOf z t with
      | some tr =>
        have tr1 := tright_congr hb (trade_right z5 et)
        have kk : kindOf z p = Str.ofString "trade" := by
          rw [← kc]
          unfold kindOf
          rw [et]
          rfl
        refine ws_seq (ws_asgD (i := 11) (evd_call (ea1 (evd_var rfl)) ⟨z, t, rfl, z1, z5, (weighRes_trade et).symm⟩) ?_)
        refine ws_seq (ws_when (evt_or (evt_not (evt_B (evd_call (eva_cons (evd_var rfl) (eva_consL (evs_own rfl) (ea1 (evd_var rfl)))) ⟨z, p, _, rfl, z5, by omega, pc, .inr ⟨tr, rfl, tr1⟩, rfl⟩))) (fun _ => evt_test (evd_neS (evd_ixT (j := 0) (evd_var rfl) evd_int rfl rfl) (evd_kind z1 z5 (evx_call (ea1 (evd_var rfl)) ⟨z, p, rfl, z1, z5, rfl⟩))))) (fun h => by rw [kk] at h; simp at h) (fun _ => ?_))
        exact ws_when (evt_test (evd_eqS (evd_ixT (j := 0) (evd_var rfl) evd_int rfl rfl) evd_str)) (fun h => by rw [str_wt] at h; cases h) (fun _ => ⟨(), rfl, by walk_at "weak"⟩)
      | none =>
        obtain ⟨W, bar, ew⟩ := weights_found z1 z5 et
        have wr := right_congr hb (weights_some ew)
        have kk : kindOf z p = Str.ofString "weights" := by
          rw [← kc]
          unfold kindOf
          rw [et]
          rfl
        exact ws_tripClearEnd (evx_call (ea1 (evd_var rfl)) ⟨z, t, rfl, z1, z5, (weighRes_weights et ew).symm⟩) (by simp) (evt_is (evt_or (evt_not (evt_B (evd_call (eva_cons (evd_var rfl) (eva_consL (evs_own rfl) (ea1 (evd_var rfl)))) ⟨z, p, _, rfl, z5, by omega, pc, .inl ⟨W, bar, rfl, wr⟩, rfl⟩))) (fun _ => evt_test (evd_neS (evd_ixT (j := 0) (evd_var rfl) evd_int rfl rfl) (evd_kind z1 z5 (evx_call (ea1 (evd_var rfl)) ⟨z, p, rfl, z1, z5, rfl⟩))))) (by rw [kk]; simp)) (evt_is (evt_test (evd_eqS (evd_ixT (j := 0) (evd_var rfl) evd_int rfl rfl) evd_str)) (by simp)) ⟨(), rfl, by walk_at "weak"⟩
    rw [fold_all (p := fun _ => true), List.all_eq_true.mpr (fun _ _ => rfl)]
    exact ws_ret (evd_call (ea1 (evd_var rfl)) ⟨z, t, rfl, z5, rfl⟩) rfl

end
/-! ### the end -/
section
variable {l : PySem.W.OpenLaw} {w : World} {K : PySem.W.Frag} {h : Heap} {mg : Str → Option Value} {fa C : Addr} {f0 f1 f2 f3 f4 f5 f6 f7 f8 f9 f10 f11 f12 f13 f14 f15 f16 f17 f18 f19 f20 f21 f22 f23 f24 f25 f26 f27 f28 f29 f30 f31 f32 f33 f34 f35 f36 f37 f38 f39 f40 f41 f42 f43 f44 f45 f46 f47 f48 f49 f50 : Addr} {E_BadCrowd E_BadSize E_Unlike E_NoMember E_BadWeights E_BadNote : Addr}
theorem all_mk (X : K.In h) (G : h.Ns mainGlobals mg) (hfa : mg "law" = some (.ref fa))
    {od0 an0 : Option Addr} {sl0 : Array (Option Value)} {oc0 kV0 dc0 pm0 cd0 ct0 : Value} {od1 an1 : Option Addr} {sl1 : Array (Option Value)} {oc1 kV1 dc1 pm1 cd1 ct1 : Value} {od2 an2 : Option Addr} {sl2 : Array (Option Value)} {oc2 kV2 dc2 pm2 cd2 ct2 : Value} {od3 an3 : Option Addr} {sl3 : Array (Option Value)} {oc3 kV3 dc3 pm3 cd3 ct3 : Value} {od4 an4 : Option Addr} {sl4 : Array (Option Value)} {oc4 kV4 dc4 pm4 cd4 ct4 : Value} {od5 an5 : Option Addr} {sl5 : Array (Option Value)} {oc5 kV5 dc5 pm5 cd5 ct5 : Value} {od6 an6 : Option Addr} {sl6 : Array (Option Value)} {oc6 kV6 dc6 pm6 cd6 ct6 : Value} {od7 an7 : Option Addr} {sl7 : Array (Option Value)} {oc7 kV7 dc7 pm7 cd7 ct7 : Value} {od8 an8 : Option Addr} {sl8 : Array (Option Value)} {oc8 kV8 dc8 pm8 cd8 ct8 : Value} {od9 an9 : Option Addr} {sl9 : Array (Option Value)} {oc9 kV9 dc9 pm9 cd9 ct9 : Value} {od10 an10 : Option Addr} {sl10 : Array (Option Value)} {oc10 kV10 dc10 pm10 cd10 ct10 : Value} {od11 an11 : Option Addr} {sl11 : Array (Option Value)} {oc11 kV11 dc11 pm11 cd11 ct11 : Value} {od12 an12 : Option Addr} {sl12 : Array (Option Value)} {oc12 kV12 dc12 pm12 cd12 ct12 : Value} {od13 an13 : Option Addr} {sl13 : Array (Option Value)} {oc13 kV13 dc13 pm13 cd13 ct13 : Value} {od14 an14 : Option Addr} {sl14 : Array (Option Value)} {oc14 kV14 dc14 pm14 cd14 ct14 : Value} {od15 an15 : Option Addr} {sl15 : Array (Option Value)} {oc15 kV15 dc15 pm15 cd15 ct15 : Value} {od16 an16 : Option Addr} {sl16 : Array (Option Value)} {oc16 kV16 dc16 pm16 cd16 ct16 : Value} {od17 an17 : Option Addr} {sl17 : Array (Option Value)} {oc17 kV17 dc17 pm17 cd17 ct17 : Value} {od18 an18 : Option Addr} {sl18 : Array (Option Value)} {oc18 kV18 dc18 pm18 cd18 ct18 : Value} {od19 an19 : Option Addr} {sl19 : Array (Option Value)} {oc19 kV19 dc19 pm19 cd19 ct19 : Value} {od20 an20 : Option Addr} {sl20 : Array (Option Value)} {oc20 kV20 dc20 pm20 cd20 ct20 : Value} {od21 an21 : Option Addr} {sl21 : Array (Option Value)} {oc21 kV21 dc21 pm21 cd21 ct21 : Value} {od22 an22 : Option Addr} {sl22 : Array (Option Value)} {oc22 kV22 dc22 pm22 cd22 ct22 : Value} {od23 an23 : Option Addr} {sl23 : Array (Option Value)} {oc23 kV23 dc23 pm23 cd23 ct23 : Value} {od24 an24 : Option Addr} {sl24 : Array (Option Value)} {oc24 kV24 dc24 pm24 cd24 ct24 : Value} {od25 an25 : Option Addr} {sl25 : Array (Option Value)} {oc25 kV25 dc25 pm25 cd25 ct25 : Value} {od26 an26 : Option Addr} {sl26 : Array (Option Value)} {oc26 kV26 dc26 pm26 cd26 ct26 : Value} {od27 an27 : Option Addr} {sl27 : Array (Option Value)} {oc27 kV27 dc27 pm27 cd27 ct27 : Value} {od28 an28 : Option Addr} {sl28 : Array (Option Value)} {oc28 kV28 dc28 pm28 cd28 ct28 : Value} {od29 an29 : Option Addr} {sl29 : Array (Option Value)} {oc29 kV29 dc29 pm29 cd29 ct29 : Value} {od30 an30 : Option Addr} {sl30 : Array (Option Value)} {oc30 kV30 dc30 pm30 cd30 ct30 : Value} {od31 an31 : Option Addr} {sl31 : Array (Option Value)} {oc31 kV31 dc31 pm31 cd31 ct31 : Value} {od32 an32 : Option Addr} {sl32 : Array (Option Value)} {oc32 kV32 dc32 pm32 cd32 ct32 : Value} {od33 an33 : Option Addr} {sl33 : Array (Option Value)} {oc33 kV33 dc33 pm33 cd33 ct33 : Value} {od34 an34 : Option Addr} {sl34 : Array (Option Value)} {oc34 kV34 dc34 pm34 cd34 ct34 : Value} {od35 an35 : Option Addr} {sl35 : Array (Option Value)} {oc35 kV35 dc35 pm35 cd35 ct35 : Value} {od36 an36 : Option Addr} {sl36 : Array (Option Value)} {oc36 kV36 dc36 pm36 cd36 ct36 : Value} {od37 an37 : Option Addr} {sl37 : Array (Option Value)} {oc37 kV37 dc37 pm37 cd37 ct37 : Value} {od38 an38 : Option Addr} {sl38 : Array (Option Value)} {oc38 kV38 dc38 pm38 cd38 ct38 : Value} {od39 an39 : Option Addr} {sl39 : Array (Option Value)} {oc39 kV39 dc39 pm39 cd39 ct39 : Value} {od40 an40 : Option Addr} {sl40 : Array (Option Value)} {oc40 kV40 dc40 pm40 cd40 ct40 : Value} {od41 an41 : Option Addr} {sl41 : Array (Option Value)} {oc41 kV41 dc41 pm41 cd41 ct41 : Value} {od42 an42 : Option Addr} {sl42 : Array (Option Value)} {oc42 kV42 dc42 pm42 cd42 ct42 : Value} {od43 an43 : Option Addr} {sl43 : Array (Option Value)} {oc43 kV43 dc43 pm43 cd43 ct43 : Value} {od44 an44 : Option Addr} {sl44 : Array (Option Value)} {oc44 kV44 dc44 pm44 cd44 ct44 : Value} {od45 an45 : Option Addr} {sl45 : Array (Option Value)} {oc45 kV45 dc45 pm45 cd45 ct45 : Value} {od46 an46 : Option Addr} {sl46 : Array (Option Value)} {oc46 kV46 dc46 pm46 cd46 ct46 : Value} {od47 an47 : Option Addr} {sl47 : Array (Option Value)} {oc47 kV47 dc47 pm47 cd47 ct47 : Value} {od48 an48 : Option Addr} {sl48 : Array (Option Value)} {oc48 kV48 dc48 pm48 cd48 ct48 : Value} {od49 an49 : Option Addr} {sl49 : Array (Option Value)} {oc49 kV49 dc49 pm49 cd49 ct49 : Value} {od50 an50 : Option Addr} {sl50 : Array (Option Value)} {oc50 kV50 dc50 pm50 cd50 ct50 : Value} {tk_MOST : Tok} {tk_FIGURES : Tok} {tk_HEAVIEST : Tok}
    (aC : PySem.W.nsIn K mainGlobals "Council" = some (some (.ref C)))
    (a0 : PySem.W.nsIn K mainGlobals "_law_many" = some (some (.ref f0)))
    (l0 : K.lookup f0 = some ⟨oc0, od0, .func (PySem.W.fnOf "_law_many" "_law_many" (defArgs s__law_many) (defBody s__law_many) (defScope s__law_many) .none kV0 dc0 pm0 an0 cd0 ct0), sl0⟩)
    (c0 : PySem.W.codeIn K cd0 "_law_many" = true)
    (k0 : PySem.W.keepIn K (.ref f0) = true)
    (a1 : PySem.W.nsIn K mainGlobals "_law_cell_at" = some (some (.ref f1)))
    (l1 : K.lookup f1 = some ⟨oc1, od1, .func (PySem.W.fnOf "_law_cell_at" "_law_cell_at" (defArgs s__law_cell_at) (defBody s__law_cell_at) (defScope s__law_cell_at) .none kV1 dc1 pm1 an1 cd1 ct1), sl1⟩)
    (c1 : PySem.W.codeIn K cd1 "_law_cell_at" = true)
    (k1 : PySem.W.keepIn K (.ref f1) = true)
    (a2 : PySem.W.nsIn K mainGlobals "look_at" = some (some (.ref f2)))
    (l2 : K.lookup f2 = some ⟨oc2, od2, .func (PySem.W.fnOf "look_at" "look_at" (defArgs s_look_at) (defBody s_look_at) (defScope s_look_at) .none kV2 dc2 pm2 an2 cd2 ct2), sl2⟩)
    (c2 : PySem.W.codeIn K cd2 "look_at" = true)
    (k2 : PySem.W.keepIn K (.ref f2) = true)
    (a3 : PySem.W.findIn K (.ref C) "__init__" = some (some (.ref f3)))
    (i3 : PySem.W.isFn K (.ref f3) = true)
    (l3 : K.lookup f3 = some ⟨oc3, od3, .func (PySem.W.fnOf "__init__" "Council.__init__" (defArgs s_Council___init__) (defBody s_Council___init__) (defScope s_Council___init__) .none kV3 dc3 pm3 an3 cd3 ct3), sl3⟩)
    (c3 : PySem.W.codeIn K cd3 "Council.__init__" = true)
    (k3 : PySem.W.keepIn K (.ref f3) = true)
    (a4 : PySem.W.nsIn K mainGlobals "_law_bits" = some (some (.ref f4)))
    (l4 : K.lookup f4 = some ⟨oc4, od4, .func (PySem.W.fnOf "_law_bits" "_law_bits" (defArgs s__law_bits) (defBody s__law_bits) (defScope s__law_bits) .none kV4 dc4 pm4 an4 cd4 ct4), sl4⟩)
    (c4 : PySem.W.codeIn K cd4 "_law_bits" = true)
    (k4 : PySem.W.keepIn K (.ref f4) = true)
    (a5 : PySem.W.nsIn K mainGlobals "_law_some" = some (some (.ref f5)))
    (l5 : K.lookup f5 = some ⟨oc5, od5, .func (PySem.W.fnOf "_law_some" "_law_some" (defArgs s__law_some) (defBody s__law_some) (defScope s__law_some) .none kV5 dc5 pm5 an5 cd5 ct5), sl5⟩)
    (c5 : PySem.W.codeIn K cd5 "_law_some" = true)
    (k5 : PySem.W.keepIn K (.ref f5) = true)
    (a6 : PySem.W.nsIn K mainGlobals "_law_crowds" = some (some (.ref f6)))
    (l6 : K.lookup f6 = some ⟨oc6, od6, .func (PySem.W.fnOf "_law_crowds" "_law_crowds" (defArgs s__law_crowds) (defBody s__law_crowds) (defScope s__law_crowds) .none kV6 dc6 pm6 an6 cd6 ct6), sl6⟩)
    (c6 : PySem.W.codeIn K cd6 "_law_crowds" = true)
    (k6 : PySem.W.keepIn K (.ref f6) = true)
    (a7 : PySem.W.nsIn K mainGlobals "_law_weighed_crowds" = some (some (.ref f7)))
    (l7 : K.lookup f7 = some ⟨oc7, od7, .func (PySem.W.fnOf "_law_weighed_crowds" "_law_weighed_crowds" (defArgs s__law_weighed_crowds) (defBody s__law_weighed_crowds) (defScope s__law_weighed_crowds) .none kV7 dc7 pm7 an7 cd7 ct7), sl7⟩)
    (c7 : PySem.W.codeIn K cd7 "_law_weighed_crowds" = true)
    (k7 : PySem.W.keepIn K (.ref f7) = true)
    (a8 : PySem.W.nsIn K mainGlobals "_law_told" = some (some (.ref f8)))
    (l8 : K.lookup f8 = some ⟨oc8, od8, .func (PySem.W.fnOf "_law_told" "_law_told" (defArgs s__law_told) (defBody s__law_told) (defScope s__law_told) .none kV8 dc8 pm8 an8 cd8 ct8), sl8⟩)
    (c8 : PySem.W.codeIn K cd8 "_law_told" = true)
    (k8 : PySem.W.keepIn K (.ref f8) = true)
    (a9 : PySem.W.findIn K (.ref C) "many" = some (some (.ref f9)))
    (i9 : PySem.W.isFn K (.ref f9) = true)
    (l9 : K.lookup f9 = some ⟨oc9, od9, .func (PySem.W.fnOf "many" "Council.many" (defArgs s_Council_many) (defBody s_Council_many) (defScope s_Council_many) .none kV9 dc9 pm9 an9 cd9 ct9), sl9⟩)
    (c9 : PySem.W.codeIn K cd9 "Council.many" = true)
    (k9 : PySem.W.keepIn K (.ref f9) = true)
    (a10 : PySem.W.nsIn K mainGlobals "look_at_two" = some (some (.ref f10)))
    (l10 : K.lookup f10 = some ⟨oc10, od10, .func (PySem.W.fnOf "look_at_two" "look_at_two" (defArgs s_look_at_two) (defBody s_look_at_two) (defScope s_look_at_two) .none kV10 dc10 pm10 an10 cd10 ct10), sl10⟩)
    (c10 : PySem.W.codeIn K cd10 "look_at_two" = true)
    (k10 : PySem.W.keepIn K (.ref f10) = true)
    (a11 : PySem.W.nsIn K mainGlobals "crowds_of" = some (some (.ref f11)))
    (l11 : K.lookup f11 = some ⟨oc11, od11, .func (PySem.W.fnOf "crowds_of" "crowds_of" (defArgs s_crowds_of) (defBody s_crowds_of) (defScope s_crowds_of) .none kV11 dc11 pm11 an11 cd11 ct11), sl11⟩)
    (c11 : PySem.W.codeIn K cd11 "crowds_of" = true)
    (k11 : PySem.W.keepIn K (.ref f11) = true)
    (a12 : PySem.W.nsIn K mainGlobals "lies_in" = some (some (.ref f12)))
    (l12 : K.lookup f12 = some ⟨oc12, od12, .func (PySem.W.fnOf "lies_in" "lies_in" (defArgs s_lies_in) (defBody s_lies_in) (defScope s_lies_in) .none kV12 dc12 pm12 an12 cd12 ct12), sl12⟩)
    (c12 : PySem.W.codeIn K cd12 "lies_in" = true)
    (k12 : PySem.W.keepIn K (.ref f12) = true)
    (a13 : PySem.W.findIn K (.ref C) "bears" = some (some (.ref f13)))
    (i13 : PySem.W.isFn K (.ref f13) = true)
    (l13 : K.lookup f13 = some ⟨oc13, od13, .func (PySem.W.fnOf "bears" "Council.bears" (defArgs s_Council_bears) (defBody s_Council_bears) (defScope s_Council_bears) .none kV13 dc13 pm13 an13 cd13 ct13), sl13⟩)
    (c13 : PySem.W.codeIn K cd13 "Council.bears" = true)
    (k13 : PySem.W.keepIn K (.ref f13) = true)
    (a14 : PySem.W.findIn K (.ref C) "carries" = some (some (.ref f14)))
    (i14 : PySem.W.isFn K (.ref f14) = true)
    (l14 : K.lookup f14 = some ⟨oc14, od14, .func (PySem.W.fnOf "carries" "Council.carries" (defArgs s_Council_carries) (defBody s_Council_carries) (defScope s_Council_carries) .none kV14 dc14 pm14 an14 cd14 ct14), sl14⟩)
    (c14 : PySem.W.codeIn K cd14 "Council.carries" = true)
    (k14 : PySem.W.keepIn K (.ref f14) = true)
    (a15 : PySem.W.nsIn K mainGlobals "both" = some (some (.ref f15)))
    (l15 : K.lookup f15 = some ⟨oc15, od15, .func (PySem.W.fnOf "both" "both" (defArgs s_both) (defBody s_both) (defScope s_both) .none kV15 dc15 pm15 an15 cd15 ct15), sl15⟩)
    (c15 : PySem.W.codeIn K cd15 "both" = true)
    (k15 : PySem.W.keepIn K (.ref f15) = true)
    (a16 : PySem.W.findIn K (.ref C) "least" = some (some (.ref f16)))
    (i16 : PySem.W.isFn K (.ref f16) = true)
    (l16 : K.lookup f16 = some ⟨oc16, od16, .func (PySem.W.fnOf "least" "Council.least" (defArgs s_Council_least) (defBody s_Council_least) (defScope s_Council_least) .none kV16 dc16 pm16 an16 cd16 ct16), sl16⟩)
    (c16 : PySem.W.codeIn K cd16 "Council.least" = true)
    (k16 : PySem.W.keepIn K (.ref f16) = true)
    (a17 : PySem.W.nsIn K mainGlobals "either" = some (some (.ref f17)))
    (l17 : K.lookup f17 = some ⟨oc17, od17, .func (PySem.W.fnOf "either" "either" (defArgs s_either) (defBody s_either) (defScope s_either) .none kV17 dc17 pm17 an17 cd17 ct17), sl17⟩)
    (c17 : PySem.W.codeIn K cd17 "either" = true)
    (k17 : PySem.W.keepIn K (.ref f17) = true)
    (a18 : PySem.W.nsIn K mainGlobals "without_them" = some (some (.ref f18)))
    (l18 : K.lookup f18 = some ⟨oc18, od18, .func (PySem.W.fnOf "without_them" "without_them" (defArgs s_without_them) (defBody s_without_them) (defScope s_without_them) .none kV18 dc18 pm18 an18 cd18 ct18), sl18⟩)
    (c18 : PySem.W.codeIn K cd18 "without_them" = true)
    (k18 : PySem.W.keepIn K (.ref f18) = true)
    (a19 : PySem.W.nsIn K mainGlobals "turned" = some (some (.ref f19)))
    (l19 : K.lookup f19 = some ⟨oc19, od19, .func (PySem.W.fnOf "turned" "turned" (defArgs s_turned) (defBody s_turned) (defScope s_turned) .none kV19 dc19 pm19 an19 cd19 ct19), sl19⟩)
    (c19 : PySem.W.codeIn K cd19 "turned" = true)
    (k19 : PySem.W.keepIn K (.ref f19) = true)
    (a20 : PySem.W.findIn K (.ref C) "look_for" = some (some (.ref f20)))
    (i20 : PySem.W.isFn K (.ref f20) = true)
    (l20 : K.lookup f20 = some ⟨oc20, od20, .func (PySem.W.fnOf "look_for" "Council.look_for" (defArgs s_Council_look_for) (defBody s_Council_look_for) (defScope s_Council_look_for) .none kV20 dc20 pm20 an20 cd20 ct20), sl20⟩)
    (c20 : PySem.W.codeIn K cd20 "Council.look_for" = true)
    (k20 : PySem.W.keepIn K (.ref f20) = true)
    (a21 : PySem.W.nsIn K mainGlobals "with_them" = some (some (.ref f21)))
    (l21 : K.lookup f21 = some ⟨oc21, od21, .func (PySem.W.fnOf "with_them" "with_them" (defArgs s_with_them) (defBody s_with_them) (defScope s_with_them) .none kV21 dc21 pm21 an21 cd21 ct21), sl21⟩)
    (c21 : PySem.W.codeIn K cd21 "with_them" = true)
    (k21 : PySem.W.keepIn K (.ref f21) = true)
    (a22 : PySem.W.nsIn K mainGlobals "without" = some (some (.ref f22)))
    (l22 : K.lookup f22 = some ⟨oc22, od22, .func (PySem.W.fnOf "without" "without" (defArgs s_without) (defBody s_without) (defScope s_without) .none kV22 dc22 pm22 an22 cd22 ct22), sl22⟩)
    (c22 : PySem.W.codeIn K cd22 "without" = true)
    (k22 : PySem.W.keepIn K (.ref f22) = true)
    (a23 : PySem.W.nsIn K mainGlobals "weight_of" = some (some (.ref f23)))
    (l23 : K.lookup f23 = some ⟨oc23, od23, .func (PySem.W.fnOf "weight_of" "weight_of" (defArgs s_weight_of) (defBody s_weight_of) (defScope s_weight_of) .none kV23 dc23 pm23 an23 cd23 ct23), sl23⟩)
    (c23 : PySem.W.codeIn K cd23 "weight_of" = true)
    (k23 : PySem.W.keepIn K (.ref f23) = true)
    (a24 : PySem.W.nsIn K mainGlobals "by_weights" = some (some (.ref f24)))
    (l24 : K.lookup f24 = some ⟨oc24, od24, .func (PySem.W.fnOf "by_weights" "by_weights" (defArgs s_by_weights) (defBody s_by_weights) (defScope s_by_weights) .none kV24 dc24 pm24 an24 cd24 ct24), sl24⟩)
    (c24 : PySem.W.codeIn K cd24 "by_weights" = true)
    (k24 : PySem.W.keepIn K (.ref f24) = true)
    (a25 : PySem.W.nsIn K mainGlobals "number_of" = some (some (.ref f25)))
    (l25 : K.lookup f25 = some ⟨oc25, od25, .func (PySem.W.fnOf "number_of" "number_of" (defArgs s_number_of) (defBody s_number_of) (defScope s_number_of) .none kV25 dc25 pm25 an25 cd25 ct25), sl25⟩)
    (c25 : PySem.W.codeIn K cd25 "number_of" = true)
    (k25 : PySem.W.keepIn K (.ref f25) = true)
    (a26 : PySem.W.nsIn K mainGlobals "crowd_of" = some (some (.ref f26)))
    (l26 : K.lookup f26 = some ⟨oc26, od26, .func (PySem.W.fnOf "crowd_of" "crowd_of" (defArgs s_crowd_of) (defBody s_crowd_of) (defScope s_crowd_of) .none kV26 dc26 pm26 an26 cd26 ct26), sl26⟩)
    (c26 : PySem.W.codeIn K cd26 "crowd_of" = true)
    (k26 : PySem.W.keepIn K (.ref f26) = true)
    (a27 : PySem.W.nsIn K mainGlobals "shown" = some (some (.ref f27)))
    (l27 : K.lookup f27 = some ⟨oc27, od27, .func (PySem.W.fnOf "shown" "shown" (defArgs s_shown) (defBody s_shown) (defScope s_shown) .none kV27 dc27 pm27 an27 cd27 ct27), sl27⟩)
    (c27 : PySem.W.codeIn K cd27 "shown" = true)
    (k27 : PySem.W.keepIn K (.ref f27) = true)
    (a28 : PySem.W.nsIn K mainGlobals "read" = some (some (.ref f28)))
    (l28 : K.lookup f28 = some ⟨oc28, od28, .func (PySem.W.fnOf "read" "read" (defArgs s_read) (defBody s_read) (defScope s_read) .none kV28 dc28 pm28 an28 cd28 ct28), sl28⟩)
    (c28 : PySem.W.codeIn K cd28 "read" = true)
    (k28 : PySem.W.keepIn K (.ref f28) = true)
    (a29 : PySem.W.nsIn K mainGlobals "_law_made" = some (some (.ref f29)))
    (l29 : K.lookup f29 = some ⟨oc29, od29, .func (PySem.W.fnOf "_law_made" "_law_made" (defArgs s__law_made) (defBody s__law_made) (defScope s__law_made) .none kV29 dc29 pm29 an29 cd29 ct29), sl29⟩)
    (c29 : PySem.W.codeIn K cd29 "_law_made" = true)
    (k29 : PySem.W.keepIn K (.ref f29) = true)
    (a30 : PySem.W.nsIn K mainGlobals "idle" = some (some (.ref f30)))
    (l30 : K.lookup f30 = some ⟨oc30, od30, .func (PySem.W.fnOf "idle" "idle" (defArgs s_idle) (defBody s_idle) (defScope s_idle) .none kV30 dc30 pm30 an30 cd30 ct30), sl30⟩)
    (c30 : PySem.W.codeIn K cd30 "idle" = true)
    (k30 : PySem.W.keepIn K (.ref f30) = true)
    (a31 : PySem.W.nsIn K mainGlobals "vetoes" = some (some (.ref f31)))
    (l31 : K.lookup f31 = some ⟨oc31, od31, .func (PySem.W.fnOf "vetoes" "vetoes" (defArgs s_vetoes) (defBody s_vetoes) (defScope s_vetoes) .none kV31 dc31 pm31 an31 cd31 ct31), sl31⟩)
    (c31 : PySem.W.codeIn K cd31 "vetoes" = true)
    (k31 : PySem.W.keepIn K (.ref f31) = true)
    (a32 : PySem.W.nsIn K mainGlobals "swings_of" = some (some (.ref f32)))
    (l32 : K.lookup f32 = some ⟨oc32, od32, .func (PySem.W.fnOf "swings_of" "swings_of" (defArgs s_swings_of) (defBody s_swings_of) (defScope s_swings_of) .none kV32 dc32 pm32 an32 cd32 ct32), sl32⟩)
    (c32 : PySem.W.codeIn K cd32 "swings_of" = true)
    (k32 : PySem.W.keepIn K (.ref f32) = true)
    (a33 : PySem.W.nsIn K mainGlobals "orders_of" = some (some (.ref f33)))
    (l33 : K.lookup f33 = some ⟨oc33, od33, .func (PySem.W.fnOf "orders_of" "orders_of" (defArgs s_orders_of) (defBody s_orders_of) (defScope s_orders_of) .none kV33 dc33 pm33 an33 cd33 ct33), sl33⟩)
    (c33 : PySem.W.codeIn K cd33 "orders_of" = true)
    (k33 : PySem.W.keepIn K (.ref f33) = true)
    (a34 : PySem.W.nsIn K mainGlobals "lowest" = some (some (.ref f34)))
    (l34 : K.lookup f34 = some ⟨oc34, od34, .func (PySem.W.fnOf "lowest" "lowest" (defArgs s_lowest) (defBody s_lowest) (defScope s_lowest) .none kV34 dc34 pm34 an34 cd34 ct34), sl34⟩)
    (c34 : PySem.W.codeIn K cd34 "lowest" = true)
    (k34 : PySem.W.keepIn K (.ref f34) = true)
    (a35 : PySem.W.nsIn K mainGlobals "powers" = some (some (.ref f35)))
    (l35 : K.lookup f35 = some ⟨oc35, od35, .func (PySem.W.fnOf "powers" "powers" (defArgs s_powers) (defBody s_powers) (defScope s_powers) .none kV35 dc35 pm35 an35 cd35 ct35), sl35⟩)
    (c35 : PySem.W.codeIn K cd35 "powers" = true)
    (k35 : PySem.W.keepIn K (.ref f35) = true)
    (a36 : PySem.W.nsIn K mainGlobals "swings" = some (some (.ref f36)))
    (l36 : K.lookup f36 = some ⟨oc36, od36, .func (PySem.W.fnOf "swings" "swings" (defArgs s_swings) (defBody s_swings) (defScope s_swings) .none kV36 dc36 pm36 an36 cd36 ct36), sl36⟩)
    (c36 : PySem.W.codeIn K cd36 "swings" = true)
    (k36 : PySem.W.keepIn K (.ref f36) = true)
    (a37 : PySem.W.nsIn K mainGlobals "can_all" = some (some (.ref f37)))
    (l37 : K.lookup f37 = some ⟨oc37, od37, .func (PySem.W.fnOf "can_all" "can_all" (defArgs s_can_all) (defBody s_can_all) (defScope s_can_all) .none kV37 dc37 pm37 an37 cd37 ct37), sl37⟩)
    (c37 : PySem.W.codeIn K cd37 "can_all" = true)
    (k37 : PySem.W.keepIn K (.ref f37) = true)
    (a38 : PySem.W.nsIn K mainGlobals "exchanges" = some (some (.ref f38)))
    (l38 : K.lookup f38 = some ⟨oc38, od38, .func (PySem.W.fnOf "exchanges" "exchanges" (defArgs s_exchanges) (defBody s_exchanges) (defScope s_exchanges) .none kV38 dc38 pm38 an38 cd38 ct38), sl38⟩)
    (c38 : PySem.W.codeIn K cd38 "exchanges" = true)
    (k38 : PySem.W.keepIn K (.ref f38) = true)
    (a39 : PySem.W.nsIn K mainGlobals "trade_of" = some (some (.ref f39)))
    (l39 : K.lookup f39 = some ⟨oc39, od39, .func (PySem.W.fnOf "trade_of" "trade_of" (defArgs s_trade_of) (defBody s_trade_of) (defScope s_trade_of) .none kV39 dc39 pm39 an39 cd39 ct39), sl39⟩)
    (c39 : PySem.W.codeIn K cd39 "trade_of" = true)
    (k39 : PySem.W.keepIn K (.ref f39) = true)
    (a40 : PySem.W.nsIn K mainGlobals "falling_rows" = some (some (.ref f40)))
    (l40 : K.lookup f40 = some ⟨oc40, od40, .func (PySem.W.fnOf "falling_rows" "falling_rows" (defArgs s_falling_rows) (defBody s_falling_rows) (defScope s_falling_rows) .none kV40 dc40 pm40 an40 cd40 ct40), sl40⟩)
    (c40 : PySem.W.codeIn K cd40 "falling_rows" = true)
    (k40 : PySem.W.keepIn K (.ref f40) = true)
    (a41 : PySem.W.nsIn K mainGlobals "bar_for" = some (some (.ref f41)))
    (l41 : K.lookup f41 = some ⟨oc41, od41, .func (PySem.W.fnOf "bar_for" "bar_for" (defArgs s_bar_for) (defBody s_bar_for) (defScope s_bar_for) .none kV41 dc41 pm41 an41 cd41 ct41), sl41⟩)
    (c41 : PySem.W.codeIn K cd41 "bar_for" = true)
    (k41 : PySem.W.keepIn K (.ref f41) = true)
    (a42 : PySem.W.nsIn K mainGlobals "weighed" = some (some (.ref f42)))
    (l42 : K.lookup f42 = some ⟨oc42, od42, .func (PySem.W.fnOf "weighed" "weighed" (defArgs s_weighed) (defBody s_weighed) (defScope s_weighed) .none kV42 dc42 pm42 an42 cd42 ct42), sl42⟩)
    (c42 : PySem.W.codeIn K cd42 "weighed" = true)
    (k42 : PySem.W.keepIn K (.ref f42) = true)
    (a43 : PySem.W.nsIn K mainGlobals "_law_whole" = some (some (.ref f43)))
    (l43 : K.lookup f43 = some ⟨oc43, od43, .func (PySem.W.fnOf "_law_whole" "_law_whole" (defArgs s__law_whole) (defBody s__law_whole) (defScope s__law_whole) .none kV43 dc43 pm43 an43 cd43 ct43), sl43⟩)
    (c43 : PySem.W.codeIn K cd43 "_law_whole" = true)
    (k43 : PySem.W.keepIn K (.ref f43) = true)
    (a44 : PySem.W.nsIn K mainGlobals "_law_in" = some (some (.ref f44)))
    (l44 : K.lookup f44 = some ⟨oc44, od44, .func (PySem.W.fnOf "_law_in" "_law_in" (defArgs s__law_in) (defBody s__law_in) (defScope s__law_in) .none kV44 dc44 pm44 an44 cd44 ct44), sl44⟩)
    (c44 : PySem.W.codeIn K cd44 "_law_in" = true)
    (k44 : PySem.W.keepIn K (.ref f44) = true)
    (a45 : PySem.W.nsIn K mainGlobals "_law_carries" = some (some (.ref f45)))
    (l45 : K.lookup f45 = some ⟨oc45, od45, .func (PySem.W.fnOf "_law_carries" "_law_carries" (defArgs s__law_carries) (defBody s__law_carries) (defScope s__law_carries) .none kV45 dc45 pm45 an45 cd45 ct45), sl45⟩)
    (c45 : PySem.W.codeIn K cd45 "_law_carries" = true)
    (k45 : PySem.W.keepIn K (.ref f45) = true)
    (a46 : PySem.W.nsIn K mainGlobals "_law_weights_right" = some (some (.ref f46)))
    (l46 : K.lookup f46 = some ⟨oc46, od46, .func (PySem.W.fnOf "_law_weights_right" "_law_weights_right" (defArgs s__law_weights_right) (defBody s__law_weights_right) (defScope s__law_weights_right) .none kV46 dc46 pm46 an46 cd46 ct46), sl46⟩)
    (c46 : PySem.W.codeIn K cd46 "_law_weights_right" = true)
    (k46 : PySem.W.keepIn K (.ref f46) = true)
    (a47 : PySem.W.nsIn K mainGlobals "_law_trade_right" = some (some (.ref f47)))
    (l47 : K.lookup f47 = some ⟨oc47, od47, .func (PySem.W.fnOf "_law_trade_right" "_law_trade_right" (defArgs s__law_trade_right) (defBody s__law_trade_right) (defScope s__law_trade_right) .none kV47 dc47 pm47 an47 cd47 ct47), sl47⟩)
    (c47 : PySem.W.codeIn K cd47 "_law_trade_right" = true)
    (k47 : PySem.W.keepIn K (.ref f47) = true)
    (a48 : PySem.W.nsIn K mainGlobals "_law_right" = some (some (.ref f48)))
    (l48 : K.lookup f48 = some ⟨oc48, od48, .func (PySem.W.fnOf "_law_right" "_law_right" (defArgs s__law_right) (defBody s__law_right) (defScope s__law_right) .none kV48 dc48 pm48 an48 cd48 ct48), sl48⟩)
    (c48 : PySem.W.codeIn K cd48 "_law_right" = true)
    (k48 : PySem.W.keepIn K (.ref f48) = true)
    (a49 : PySem.W.nsIn K mainGlobals "_law_refused" = some (some (.ref f49)))
    (l49 : K.lookup f49 = some ⟨oc49, od49, .func (PySem.W.fnOf "_law_refused" "_law_refused" (defArgs s__law_refused) (defBody s__law_refused) (defScope s__law_refused) .none kV49 dc49 pm49 an49 cd49 ct49), sl49⟩)
    (c49 : PySem.W.codeIn K cd49 "_law_refused" = true)
    (k49 : PySem.W.keepIn K (.ref f49) = true)
    (a50 : PySem.W.nsIn K mainGlobals "law" = some (some (.ref f50)))
    (l50 : K.lookup f50 = some ⟨oc50, od50, .func (PySem.W.fnOf "law" "law" (defArgs s_law) (defBody s_law) (defScope s_law) .none kV50 dc50 pm50 an50 cd50 ct50), sl50⟩)
    (c50 : PySem.W.codeIn K cd50 "law" = true)
    (k50 : PySem.W.keepIn K (.ref f50) = true)
    (pg : PySem.W.plainGet K C Str.empty = true)
    (hd : PySem.W.hasDictIn K C = true)
    (po : PySem.W.plainOver K C = true)
    (sa : PySem.W.findIn K (.ref C) "__setattr__" = some (some (.builtin "object.__setattr__")))
    (mk : PySem.W.makesIn K C = true)
    (kc : PySem.W.keepIn K (.ref C) = true)
    (nS : PySem.W.findIn K (.ref C) "size" = some none)
    (nT : PySem.W.findIn K (.ref C) "told" = some none)
    (z_len : PySem.W.nsIn K mainGlobals "len" = some none)
    (z_range : PySem.W.nsIn K mainGlobals "range" = some none)
    (z_tuple : PySem.W.nsIn K mainGlobals "tuple" = some none)
    (z_sorted : PySem.W.nsIn K mainGlobals "sorted" = some none)
    (z_set : PySem.W.nsIn K mainGlobals "set" = some none)
    (z_sum : PySem.W.nsIn K mainGlobals "sum" = some none)
    (z_max : PySem.W.nsIn K mainGlobals "max" = some none)
    (z_min : PySem.W.nsIn K mainGlobals "min" = some none)
    (z_int : PySem.W.nsIn K mainGlobals "int" = some none)
    (z_str : PySem.W.nsIn K mainGlobals "str" = some none)
    (z_list : PySem.W.nsIn K mainGlobals "list" = some none)
    (z_isinstance : PySem.W.nsIn K mainGlobals "isinstance" = some none)
    (z_all : PySem.W.nsIn K mainGlobals "all" = some none)
    (z_bool : PySem.W.nsIn K mainGlobals "bool" = some none)
    (z_reversed : PySem.W.nsIn K mainGlobals "reversed" = some none)
    (eg_BadCrowd : PySem.W.nsIn K mainGlobals "BadCrowd" = some (some (.ref E_BadCrowd)))
    (eg_BadSize : PySem.W.nsIn K mainGlobals "BadSize" = some (some (.ref E_BadSize)))
    (eg_Unlike : PySem.W.nsIn K mainGlobals "Unlike" = some (some (.ref E_Unlike)))
    (eg_NoMember : PySem.W.nsIn K mainGlobals "NoMember" = some (some (.ref E_NoMember)))
    (eg_BadWeights : PySem.W.nsIn K mainGlobals "BadWeights" = some (some (.ref E_BadWeights)))
    (eg_BadNote : PySem.W.nsIn K mainGlobals "BadNote" = some (some (.ref E_BadNote)))
    (ex_BadCrowd : PySem.W.excIn K E_BadCrowd [.type "ValueError", .type "Exception", .type "BaseException", .type "object"] "ValueError.__new__" = true)
    (ek_BadCrowd : PySem.W.keepIn K (.ref E_BadCrowd) = true)
    (eb_BadCrowd : PySem.W.subIn K (.ref E_BadCrowd) (.type "BaseException") = some true)
    (et_BadCrowd : PySem.W.typeIn K (.ref E_BadCrowd) = some (.type "type"))
    (ex_BadSize : PySem.W.excIn K E_BadSize [.type "ValueError", .type "Exception", .type "BaseException", .type "object"] "ValueError.__new__" = true)
    (ek_BadSize : PySem.W.keepIn K (.ref E_BadSize) = true)
    (eb_BadSize : PySem.W.subIn K (.ref E_BadSize) (.type "BaseException") = some true)
    (et_BadSize : PySem.W.typeIn K (.ref E_BadSize) = some (.type "type"))
    (ex_Unlike : PySem.W.excIn K E_Unlike [.type "ValueError", .type "Exception", .type "BaseException", .type "object"] "ValueError.__new__" = true)
    (ek_Unlike : PySem.W.keepIn K (.ref E_Unlike) = true)
    (eb_Unlike : PySem.W.subIn K (.ref E_Unlike) (.type "BaseException") = some true)
    (et_Unlike : PySem.W.typeIn K (.ref E_Unlike) = some (.type "type"))
    (ex_NoMember : PySem.W.excIn K E_NoMember [.type "ValueError", .type "Exception", .type "BaseException", .type "object"] "ValueError.__new__" = true)
    (ek_NoMember : PySem.W.keepIn K (.ref E_NoMember) = true)
    (eb_NoMember : PySem.W.subIn K (.ref E_NoMember) (.type "BaseException") = some true)
    (et_NoMember : PySem.W.typeIn K (.ref E_NoMember) = some (.type "type"))
    (ex_BadWeights : PySem.W.excIn K E_BadWeights [.type "ValueError", .type "Exception", .type "BaseException", .type "object"] "ValueError.__new__" = true)
    (ek_BadWeights : PySem.W.keepIn K (.ref E_BadWeights) = true)
    (eb_BadWeights : PySem.W.subIn K (.ref E_BadWeights) (.type "BaseException") = some true)
    (et_BadWeights : PySem.W.typeIn K (.ref E_BadWeights) = some (.type "type"))
    (ex_BadNote : PySem.W.excIn K E_BadNote [.type "ValueError", .type "Exception", .type "BaseException", .type "object"] "ValueError.__new__" = true)
    (ek_BadNote : PySem.W.keepIn K (.ref E_BadNote) = true)
    (eb_BadNote : PySem.W.subIn K (.ref E_BadNote) (.type "BaseException") = some true)
    (et_BadNote : PySem.W.typeIn K (.ref E_BadNote) = some (.type "type"))
    (q_hd_BadCrowd : PySem.W.hasDictIn K E_BadCrowd = true)
    (q_hd_NoMember : PySem.W.hasDictIn K E_NoMember = true)
    (q_s_cc : PySem.W.subIn K (.ref E_BadCrowd) (.ref E_BadCrowd) = some true)
    (q_s_mc : PySem.W.subIn K (.ref E_NoMember) (.ref E_BadCrowd) = some false)
    (q_s_mm : PySem.W.subIn K (.ref E_NoMember) (.ref E_NoMember) = some true)
    (gc_MOST : PySem.W.nsIn K mainGlobals "MOST" = some (some (.int 5 tk_MOST)))
    (gc_FIGURES : PySem.W.nsIn K mainGlobals "FIGURES" = some (some (.str "0123456789" tk_FIGURES)))
    (gc_HEAVIEST : PySem.W.nsIn K mainGlobals "HEAVIEST" = some (some (.int 9 tk_HEAVIEST))) :
    ∃ fd : FuncData, (∀ (s : Shared) (v : Value), BindsTo s fd ⟨[v], []⟩ [("script", v)]) ∧ ∀ base : Heap, K.In base → base.Ns mainGlobals mg → FnOk l.prog w K mg base CX0 7 fa fd ["script"] (spLaw K) := by
  have e := hfa.symm.trans (PySem.W.mg_of X G a50)
  cases e
  have T : Txt ⟨K, C, fun e => match e with | .size => E_BadSize | .crowd => E_BadCrowd | .member => E_NoMember | .weights => E_BadWeights | .unlike => E_Unlike | .note => E_BadNote⟩ mg := ⟨⟨pg, hd, po, sa⟩, nS, nT, PySem.W.mg_of X G aC, PySem.W.mg_none_of X G z_len, PySem.W.mg_none_of X G z_range, PySem.W.mg_none_of X G z_tuple, PySem.W.mg_none_of X G z_sorted, PySem.W.mg_none_of X G z_set, PySem.W.mg_none_of X G z_sum, PySem.W.mg_none_of X G z_max, PySem.W.mg_none_of X G z_min, PySem.W.mg_none_of X G z_int, PySem.W.mg_none_of X G z_str, PySem.W.mg_none_of X G z_list, PySem.W.mg_none_of X G z_isinstance, PySem.W.mg_none_of X G z_all, PySem.W.mg_none_of X G z_bool, PySem.W.mg_none_of X G z_reversed⟩
  have X_BadCrowd : ExT ⟨K, C, fun e => match e with | .size => E_BadSize | .crowd => E_BadCrowd | .member => E_NoMember | .weights => E_BadWeights | .unlike => E_Unlike | .note => E_BadNote⟩ mg "BadCrowd" E_BadCrowd := ⟨PySem.W.mg_of X G eg_BadCrowd, ex_BadCrowd, ek_BadCrowd, eb_BadCrowd, et_BadCrowd⟩
  have X_BadSize : ExT ⟨K, C, fun e => match e with | .size => E_BadSize | .crowd => E_BadCrowd | .member => E_NoMember | .weights => E_BadWeights | .unlike => E_Unlike | .note => E_BadNote⟩ mg "BadSize" E_BadSize := ⟨PySem.W.mg_of X G eg_BadSize, ex_BadSize, ek_BadSize, eb_BadSize, et_BadSize⟩
  have X_Unlike : ExT ⟨K, C, fun e => match e with | .size => E_BadSize | .crowd => E_BadCrowd | .member => E_NoMember | .weights => E_BadWeights | .unlike => E_Unlike | .note => E_BadNote⟩ mg "Unlike" E_Unlike := ⟨PySem.W.mg_of X G eg_Unlike, ex_Unlike, ek_Unlike, eb_Unlike, et_Unlike⟩
  have X_NoMember : ExT ⟨K, C, fun e => match e with | .size => E_BadSize | .crowd => E_BadCrowd | .member => E_NoMember | .weights => E_BadWeights | .unlike => E_Unlike | .note => E_BadNote⟩ mg "NoMember" E_NoMember := ⟨PySem.W.mg_of X G eg_NoMember, ex_NoMember, ek_NoMember, eb_NoMember, et_NoMember⟩
  have X_BadWeights : ExT ⟨K, C, fun e => match e with | .size => E_BadSize | .crowd => E_BadCrowd | .member => E_NoMember | .weights => E_BadWeights | .unlike => E_Unlike | .note => E_BadNote⟩ mg "BadWeights" E_BadWeights := ⟨PySem.W.mg_of X G eg_BadWeights, ex_BadWeights, ek_BadWeights, eb_BadWeights, et_BadWeights⟩
  have X_BadNote : ExT ⟨K, C, fun e => match e with | .size => E_BadSize | .crowd => E_BadCrowd | .member => E_NoMember | .weights => E_BadWeights | .unlike => E_Unlike | .note => E_BadNote⟩ mg "BadNote" E_BadNote := ⟨PySem.W.mg_of X G eg_BadNote, ex_BadNote, ek_BadNote, eb_BadNote, et_BadNote⟩
  have c_MOST : ∃ v, mg "MOST" = some v ∧ RelV (.int 5) v := ⟨_, PySem.W.mg_of X G gc_MOST, ⟨_, rfl⟩⟩
  have c_FIGURES : ∃ v, mg "FIGURES" = some v ∧ RelV (.str "0123456789") v := ⟨_, PySem.W.mg_of X G gc_FIGURES, ⟨_, rfl⟩⟩
  have c_HEAVIEST : ∃ v, mg "HEAVIEST" = some v ∧ RelV (.int 9) v := ⟨_, PySem.W.mg_of X G gc_HEAVIEST, ⟨_, rfl⟩⟩
  refine ⟨PySem.W.fnOf "law" "law" (defArgs s_law) (defBody s_law) (defScope s_law) .none kV50 dc50 pm50 an50 cd50 ct50, fun s v => .of_eq rfl, fun base _ _ => ?_⟩
  have F__law_many := fun_mk (st := s__law_many) l0 c0 k0
  have b__law_many := F__law_many.binds (ps := ["cell"]) fun _ _ _ _ _ _ us hl => match us, hl with | [_], _ => rfl
  have H__law_many : Fn _ l.prog w mg base "_law_many" 1 ["cell"] R__law_many := ⟨CX0, _, _, .inl rfl, ok__law_many (P := l.prog) (w := w) (base := base) T F__law_many , PySem.W.mg_of X G a0, k0, b__law_many⟩
  have F__law_cell_at := fun_mk (st := s__law_cell_at) l1 c1 k1
  have b__law_cell_at := F__law_cell_at.binds (ps := ["script", "k"]) fun _ _ _ _ _ _ us hl => match us, hl with | [_, _], _ => rfl
  have H__law_cell_at : Fn _ l.prog w mg base "_law_cell_at" 1 ["script", "k"] R__law_cell_at := ⟨CX0, _, _, .inl rfl, ok__law_cell_at (P := l.prog) (w := w) (base := base) T F__law_cell_at , PySem.W.mg_of X G a1, k1, b__law_cell_at⟩
  have F_look_at := fun_mk (st := s_look_at) l2 c2 k2
  have b_look_at := F_look_at.binds (ps := ["many", "crowd"]) fun _ _ _ _ _ _ us hl => match us, hl with | [_, _], _ => rfl
  have H_look_at : Fn _ l.prog w mg base "look_at" 1 ["many", "crowd"] R_look_at := ⟨L2.CX l.prog w, _, _, .inr rfl, ok_look_at (P := l.prog) (w := w) (base := base) T F_look_at X_BadCrowd, PySem.W.mg_of X G a2, k2, b_look_at⟩
  have F_Council___init__ := fun_mk (st := s_Council___init__) l3 c3 k3
  have b_Council___init__ := F_Council___init__.binds (ps := ["self", "many", "crowds"]) fun _ _ _ _ _ _ us hl => match us, hl with | [_, _, _], _ => rfl
  have H_Council : Ini _ l.prog w mg base 2 := ⟨L2.CX l.prog w, _, _, .inr rfl, ok_Council___init__ (P := l.prog) (w := w) (base := base) T F_Council___init__ H_look_at X_BadSize c_MOST, ⟨mk, a3, i3, kc⟩, PySem.W.mg_of X G aC, b_Council___init__⟩
  have F__law_bits := fun_mk (st := s__law_bits) l4 c4 k4
  have b__law_bits := F__law_bits.binds (ps := ["number", "many"]) fun _ _ _ _ _ _ us hl => match us, hl with | [_, _], _ => rfl
  have H__law_bits : Fn _ l.prog w mg base "_law_bits" 1 ["number", "many"] R__law_bits := ⟨CX0, _, _, .inl rfl, ok__law_bits (P := l.prog) (w := w) (base := base) T F__law_bits , PySem.W.mg_of X G a4, k4, b__law_bits⟩
  have F__law_some := fun_mk (st := s__law_some) l5 c5 k5
  have b__law_some := F__law_some.binds (ps := ["script", "start", "many", "count"]) fun _ _ _ _ _ _ us hl => match us, hl with | [_, _, _, _], _ => rfl
  have H__law_some : Fn _ l.prog w mg base "_law_some" 2 ["script", "start", "many", "count"] R__law_some := ⟨CX0, _, _, .inl rfl, ok__law_some (P := l.prog) (w := w) (base := base) T F__law_some H__law_bits H__law_cell_at, PySem.W.mg_of X G a5, k5, b__law_some⟩
  have F__law_crowds := fun_mk (st := s__law_crowds) l6 c6 k6
  have b__law_crowds := F__law_crowds.binds (ps := ["many"]) fun _ _ _ _ _ _ us hl => match us, hl with | [_], _ => rfl
  have H__law_crowds : Fn _ l.prog w mg base "_law_crowds" 2 ["many"] R__law_crowds := ⟨CX0, _, _, .inl rfl, ok__law_crowds (P := l.prog) (w := w) (base := base) T F__law_crowds H__law_bits, PySem.W.mg_of X G a6, k6, b__law_crowds⟩
  have F__law_weighed_crowds := fun_mk (st := s__law_weighed_crowds) l7 c7 k7
  have b__law_weighed_crowds := F__law_weighed_crowds.binds (ps := ["script", "start", "many"]) fun _ _ _ _ _ _ us hl => match us, hl with | [_, _, _], _ => rfl
  have H__law_weighed_crowds : Fn _ l.prog w mg base "_law_weighed_crowds" 3 ["script", "start", "many"] R__law_weighed_crowds := ⟨CX0, _, _, .inl rfl, ok__law_weighed_crowds (P := l.prog) (w := w) (base := base) T F__law_weighed_crowds H__law_cell_at H__law_crowds, PySem.W.mg_of X G a7, k7, b__law_weighed_crowds⟩
  have F__law_told := fun_mk (st := s__law_told) l8 c8 k8
  have b__law_told := F__law_told.binds (ps := ["script", "start", "many"]) fun _ _ _ _ _ _ us hl => match us, hl with | [_, _, _], _ => rfl
  have H__law_told : Fn _ l.prog w mg base "_law_told" 4 ["script", "start", "many"] R__law_told := ⟨CX0, _, _, .inl rfl, ok__law_told (P := l.prog) (w := w) (base := base) T F__law_told H__law_cell_at H__law_some H__law_weighed_crowds H__law_bits H__law_crowds, PySem.W.mg_of X G a8, k8, b__law_told⟩
  have F_Council_many := fun_mk (st := s_Council_many) l9 c9 k9
  have b_Council_many := F_Council_many.binds (ps := ["self"]) fun _ _ _ _ _ _ us hl => match us, hl with | [_], _ => rfl
  have H_Council_many : Mt _ l.prog w mg base "many" 1 ["self"] R_Council_many := ⟨CX0, _, _, .inl rfl, ok_Council_many (P := l.prog) (w := w) (base := base) T F_Council_many , ⟨a9, i9, k9⟩, b_Council_many⟩
  have F_look_at_two := fun_mk (st := s_look_at_two) l10 c10 k10
  have b_look_at_two := F_look_at_two.binds (ps := ["one", "other"]) fun _ _ _ _ _ _ us hl => match us, hl with | [_, _], _ => rfl
  have H_look_at_two : Fn _ l.prog w mg base "look_at_two" 2 ["one", "other"] R_look_at_two := ⟨L2.CX l.prog w, _, _, .inr rfl, ok_look_at_two (P := l.prog) (w := w) (base := base) T F_look_at_two H_Council_many X_Unlike, PySem.W.mg_of X G a10, k10, b_look_at_two⟩
  have F_crowds_of := fun_mk (st := s_crowds_of) l11 c11 k11
  have b_crowds_of := F_crowds_of.binds (ps := ["many"]) fun _ _ _ _ _ _ us hl => match us, hl with | [_], _ => rfl
  have H_crowds_of : Fn _ l.prog w mg base "crowds_of" 1 ["many"] R_crowds_of := ⟨CX0, _, _, .inl rfl, ok_crowds_of (P := l.prog) (w := w) (base := base) T F_crowds_of , PySem.W.mg_of X G a11, k11, b_crowds_of⟩
  have F_lies_in := fun_mk (st := s_lies_in) l12 c12 k12
  have b_lies_in := F_lies_in.binds (ps := ["crowd", "other"]) fun _ _ _ _ _ _ us hl => match us, hl with | [_, _], _ => rfl
  have H_lies_in : Fn _ l.prog w mg base "lies_in" 1 ["crowd", "other"] R_lies_in := ⟨CX0, _, _, .inl rfl, ok_lies_in (P := l.prog) (w := w) (base := base) T F_lies_in , PySem.W.mg_of X G a12, k12, b_lies_in⟩
  have F_Council_bears := fun_mk (st := s_Council_bears) l13 c13 k13
  have b_Council_bears := F_Council_bears.binds (ps := ["self", "crowd"]) fun _ _ _ _ _ _ us hl => match us, hl with | [_, _], _ => rfl
  have H_Council_bears : Mt _ l.prog w mg base "bears" 2 ["self", "crowd"] R_Council_bears := ⟨CX0, _, _, .inl rfl, ok_Council_bears (P := l.prog) (w := w) (base := base) T F_Council_bears H_lies_in, ⟨a13, i13, k13⟩, b_Council_bears⟩
  have F_Council_carries := fun_mk (st := s_Council_carries) l14 c14 k14
  have b_Council_carries := F_Council_carries.binds (ps := ["self", "crowd"]) fun _ _ _ _ _ _ us hl => match us, hl with | [_, _], _ => rfl
  have H_Council_carries : Mt _ l.prog w mg base "carries" 3 ["self", "crowd"] R_Council_carries := ⟨L2.CX l.prog w, _, _, .inr rfl, ok_Council_carries (P := l.prog) (w := w) (base := base) T F_Council_carries H_look_at H_Council_bears, ⟨a14, i14, k14⟩, b_Council_carries⟩
  have F_both := fun_mk (st := s_both) l15 c15 k15
  have b_both := F_both.binds (ps := ["one", "other"]) fun _ _ _ _ _ _ us hl => match us, hl with | [_, _], _ => rfl
  have H_both : Fn _ l.prog w mg base "both" 4 ["one", "other"] R_both := ⟨L2.CX l.prog w, _, _, .inr rfl, ok_both (P := l.prog) (w := w) (base := base) T F_both H_look_at_two H_crowds_of H_Council_many H_Council_carries H_Council, PySem.W.mg_of X G a15, k15, b_both⟩
  have F_Council_least := fun_mk (st := s_Council_least) l16 c16 k16
  have b_Council_least := F_Council_least.binds (ps := ["self"]) fun _ _ _ _ _ _ us hl => match us, hl with | [_], _ => rfl
  have H_Council_least : Mt _ l.prog w mg base "least" 3 ["self"] R_Council_least := ⟨CX0, _, _, .inl rfl, ok_Council_least (P := l.prog) (w := w) (base := base) T F_Council_least H_crowds_of H_lies_in H_Council_bears, ⟨a16, i16, k16⟩, b_Council_least⟩
  have F_either := fun_mk (st := s_either) l17 c17 k17
  have b_either := F_either.binds (ps := ["one", "other"]) fun _ _ _ _ _ _ us hl => match us, hl with | [_, _], _ => rfl
  have H_either : Fn _ l.prog w mg base "either" 4 ["one", "other"] R_either := ⟨L2.CX l.prog w, _, _, .inr rfl, ok_either (P := l.prog) (w := w) (base := base) T F_either H_look_at_two H_Council H_Council_least H_Council_many, PySem.W.mg_of X G a17, k17, b_either⟩
  have F_without_them := fun_mk (st := s_without_them) l18 c18 k18
  have b_without_them := F_without_them.binds (ps := ["crowd", "gone"]) fun _ _ _ _ _ _ us hl => match us, hl with | [_, _], _ => rfl
  have H_without_them : Fn _ l.prog w mg base "without_them" 1 ["crowd", "gone"] R_without_them := ⟨CX0, _, _, .inl rfl, ok_without_them (P := l.prog) (w := w) (base := base) T F_without_them , PySem.W.mg_of X G a18, k18, b_without_them⟩
  have F_turned := fun_mk (st := s_turned) l19 c19 k19
  have b_turned := F_turned.binds (ps := ["council"]) fun _ _ _ _ _ _ us hl => match us, hl with | [_], _ => rfl
  have H_turned : Fn _ l.prog w mg base "turned" 4 ["council"] R_turned := ⟨CX0, _, _, .inl rfl, ok_turned (P := l.prog) (w := w) (base := base) T F_turned H_Council_many H_crowds_of H_Council_carries H_without_them H_Council, PySem.W.mg_of X G a19, k19, b_turned⟩
  have F_Council_look_for := fun_mk (st := s_Council_look_for) l20 c20 k20
  have b_Council_look_for := F_Council_look_for.binds (ps := ["self", "member"]) fun _ _ _ _ _ _ us hl => match us, hl with | [_, _], _ => rfl
  have H_Council_look_for : Mt _ l.prog w mg base "look_for" 1 ["self", "member"] R_Council_look_for := ⟨L2.CX l.prog w, _, _, .inr rfl, ok_Council_look_for (P := l.prog) (w := w) (base := base) T F_Council_look_for X_NoMember, ⟨a20, i20, k20⟩, b_Council_look_for⟩
  have F_with_them := fun_mk (st := s_with_them) l21 c21 k21
  have b_with_them := F_with_them.binds (ps := ["crowd", "more"]) fun _ _ _ _ _ _ us hl => match us, hl with | [_, _], _ => rfl
  have H_with_them : Fn _ l.prog w mg base "with_them" 1 ["crowd", "more"] R_with_them := ⟨CX0, _, _, .inl rfl, ok_with_them (P := l.prog) (w := w) (base := base) T F_with_them , PySem.W.mg_of X G a21, k21, b_with_them⟩
  have F_without := fun_mk (st := s_without) l22 c22 k22
  have b_without := F_without.binds (ps := ["council", "member", "carried"]) fun _ _ _ _ _ _ us hl => match us, hl with | [_, _, _], _ => rfl
  have H_without : Fn _ l.prog w mg base "without" 4 ["council", "member", "carried"] R_without := ⟨L2.CX l.prog w, _, _, .inr rfl, ok_without (P := l.prog) (w := w) (base := base) T F_without H_Council_look_for H_Council_many H_crowds_of H_with_them H_Council_carries H_Council X_BadSize, PySem.W.mg_of X G a22, k22, b_without⟩
  have F_weight_of := fun_mk (st := s_weight_of) l23 c23 k23
  have b_weight_of := F_weight_of.binds (ps := ["weights", "crowd"]) fun _ _ _ _ _ _ us hl => match us, hl with | [_, _], _ => rfl
  have H_weight_of : Fn _ l.prog w mg base "weight_of" 1 ["weights", "crowd"] R_weight_of := ⟨CX0, _, _, .inl rfl, ok_weight_of (P := l.prog) (w := w) (base := base) T F_weight_of , PySem.W.mg_of X G a23, k23, b_weight_of⟩
  have F_by_weights := fun_mk (st := s_by_weights) l24 c24 k24
  have b_by_weights := F_by_weights.binds (ps := ["weights", "bar"]) fun _ _ _ _ _ _ us hl => match us, hl with | [_, _], _ => rfl
  have H_by_weights : Fn _ l.prog w mg base "by_weights" 4 ["weights", "bar"] R_by_weights := ⟨L2.CX l.prog w, _, _, .inr rfl, ok_by_weights (P := l.prog) (w := w) (base := base) T F_by_weights H_Council H_crowds_of H_weight_of X_BadSize X_BadWeights c_MOST, PySem.W.mg_of X G a24, k24, b_by_weights⟩
  have F_number_of := fun_mk (st := s_number_of) l25 c25 k25
  have b_number_of := F_number_of.binds (ps := ["word"]) fun _ _ _ _ _ _ us hl => match us, hl with | [_], _ => rfl
  have H_number_of : Fn _ l.prog w mg base "number_of" 1 ["word"] R_number_of := ⟨L2.CX l.prog w, _, _, .inr rfl, ok_number_of (P := l.prog) (w := w) (base := base) T F_number_of X_BadNote c_FIGURES, PySem.W.mg_of X G a25, k25, b_number_of⟩
  have F_crowd_of := fun_mk (st := s_crowd_of) l26 c26 k26
  have b_crowd_of := F_crowd_of.binds (ps := ["word"]) fun _ _ _ _ _ _ us hl => match us, hl with | [_], _ => rfl
  have H_crowd_of : Fn _ l.prog w mg base "crowd_of" 2 ["word"] R_crowd_of := ⟨L2.CX l.prog w, _, _, .inr rfl, ok_crowd_of (P := l.prog) (w := w) (base := base) T F_crowd_of H_number_of X_BadNote, PySem.W.mg_of X G a26, k26, b_crowd_of⟩
  have F_shown := fun_mk (st := s_shown) l27 c27 k27
  have b_shown := F_shown.binds (ps := ["council"]) fun _ _ _ _ _ _ us hl => match us, hl with | [_], _ => rfl
  have H_shown : Fn _ l.prog w mg base "shown" 4 ["council"] R_shown := ⟨CX0, _, _, .inl rfl, ok_shown (P := l.prog) (w := w) (base := base) T F_shown H_Council_least H_Council_many, PySem.W.mg_of X G a27, k27, b_shown⟩
  have F_read := fun_mk (st := s_read) l28 c28 k28
  have b_read := F_read.binds (ps := ["text"]) fun _ _ _ _ _ _ us hl => match us, hl with | [_], _ => rfl
  have H_read : Fn _ l.prog w mg base "read" 5 ["text"] R_read := ⟨L2.CX l.prog w, _, _, .inr rfl, ok_read (P := l.prog) (w := w) (base := base) T F_read H_number_of H_crowd_of H_Council H_shown X_BadNote, PySem.W.mg_of X G a28, k28, b_read⟩
  have F__law_made := fun_mk (st := s__law_made) l29 c29 k29
  have b__law_made := F__law_made.binds (ps := ["one", "other", "way", "script"]) fun _ _ _ _ _ _ us hl => match us, hl with | [_, _, _, _], _ => rfl
  have H__law_made : Fn _ l.prog w mg base "_law_made" 6 ["one", "other", "way", "script"] R__law_made := ⟨CX0, _, _, .inl rfl, ok__law_made (P := l.prog) (w := w) (base := base) T F__law_made H_both H_either H_turned H_Council_many H_without H__law_cell_at H_by_weights H_read H_shown, PySem.W.mg_of X G a29, k29, b__law_made⟩
  have F_idle := fun_mk (st := s_idle) l30 c30 k30
  have b_idle := F_idle.binds (ps := ["council"]) fun _ _ _ _ _ _ us hl => match us, hl with | [_], _ => rfl
  have H_idle : Fn _ l.prog w mg base "idle" 4 ["council"] R_idle := ⟨CX0, _, _, .inl rfl, ok_idle (P := l.prog) (w := w) (base := base) T F_idle H_Council_least H_Council_many, PySem.W.mg_of X G a30, k30, b_idle⟩
  have F_vetoes := fun_mk (st := s_vetoes) l31 c31 k31
  have b_vetoes := F_vetoes.binds (ps := ["council"]) fun _ _ _ _ _ _ us hl => match us, hl with | [_], _ => rfl
  have H_vetoes : Fn _ l.prog w mg base "vetoes" 4 ["council"] R_vetoes := ⟨CX0, _, _, .inl rfl, ok_vetoes (P := l.prog) (w := w) (base := base) T F_vetoes H_Council_many H_crowds_of H_Council_carries, PySem.W.mg_of X G a31, k31, b_vetoes⟩
  have F_swings_of := fun_mk (st := s_swings_of) l32 c32 k32
  have b_swings_of := F_swings_of.binds (ps := ["council", "member"]) fun _ _ _ _ _ _ us hl => match us, hl with | [_, _], _ => rfl
  have H_swings_of : Fn _ l.prog w mg base "swings_of" 4 ["council", "member"] R_swings_of := ⟨CX0, _, _, .inl rfl, ok_swings_of (P := l.prog) (w := w) (base := base) T F_swings_of H_crowds_of H_Council_many H_Council_carries H_with_them, PySem.W.mg_of X G a32, k32, b_swings_of⟩
  have F_orders_of := fun_mk (st := s_orders_of) l33 c33 k33
  have b_orders_of := F_orders_of.binds (ps := ["many"]) fun _ _ _ _ _ _ us hl => match us, hl with | [_], _ => rfl
  have H_orders_of : Fn _ l.prog w mg base "orders_of" 1 ["many"] R_orders_of := ⟨CX0, _, _, .inl rfl, ok_orders_of (P := l.prog) (w := w) (base := base) T F_orders_of , PySem.W.mg_of X G a33, k33, b_orders_of⟩
  have F_lowest := fun_mk (st := s_lowest) l34 c34 k34
  have b_lowest := F_lowest.binds (ps := ["top", "bottom"]) fun _ _ _ _ _ _ us hl => match us, hl with | [_, _], _ => rfl
  have H_lowest : Fn _ l.prog w mg base "lowest" 1 ["top", "bottom"] R_lowest := ⟨CX0, _, _, .inl rfl, ok_lowest (P := l.prog) (w := w) (base := base) T F_lowest , PySem.W.mg_of X G a34, k34, b_lowest⟩
  have F_powers := fun_mk (st := s_powers) l35 c35 k35
  have b_powers := F_powers.binds (ps := ["council"]) fun _ _ _ _ _ _ us hl => match us, hl with | [_], _ => rfl
  have H_powers : Fn _ l.prog w mg base "powers" 5 ["council"] R_powers := ⟨CX0, _, _, .inl rfl, ok_powers (P := l.prog) (w := w) (base := base) T F_powers H_Council_many H_swings_of H_orders_of H_lowest, PySem.W.mg_of X G a35, k35, b_powers⟩
  have F_swings := fun_mk (st := s_swings) l36 c36 k36
  have b_swings := F_swings.binds (ps := ["council"]) fun _ _ _ _ _ _ us hl => match us, hl with | [_], _ => rfl
  have H_swings : Fn _ l.prog w mg base "swings" 5 ["council"] R_swings := ⟨CX0, _, _, .inl rfl, ok_swings (P := l.prog) (w := w) (base := base) T F_swings H_Council_many H_swings_of, PySem.W.mg_of X G a36, k36, b_swings⟩
  have F_can_all := fun_mk (st := s_can_all) l37 c37 k37
  have b_can_all := F_can_all.binds (ps := ["council", "one", "other"]) fun _ _ _ _ _ _ us hl => match us, hl with | [_, _, _], _ => rfl
  have H_can_all : Fn _ l.prog w mg base "can_all" 4 ["council", "one", "other"] R_can_all := ⟨L2.CX l.prog w, _, _, .inr rfl, ok_can_all (P := l.prog) (w := w) (base := base) T F_can_all H_Council_look_for H_crowds_of H_Council_many H_Council_carries H_with_them, PySem.W.mg_of X G a37, k37, b_can_all⟩
  have F_exchanges := fun_mk (st := s_exchanges) l38 c38 k38
  have b_exchanges := F_exchanges.binds (ps := ["one", "other"]) fun _ _ _ _ _ _ us hl => match us, hl with | [_, _], _ => rfl
  have H_exchanges : Fn _ l.prog w mg base "exchanges" 2 ["one", "other"] R_exchanges := ⟨CX0, _, _, .inl rfl, ok_exchanges (P := l.prog) (w := w) (base := base) T F_exchanges H_with_them, PySem.W.mg_of X G a38, k38, b_exchanges⟩
  have F_trade_of := fun_mk (st := s_trade_of) l39 c39 k39
  have b_trade_of := F_trade_of.binds (ps := ["council"]) fun _ _ _ _ _ _ us hl => match us, hl with | [_], _ => rfl
  have H_trade_of : Fn _ l.prog w mg base "trade_of" 4 ["council"] R_trade_of := ⟨CX0, _, _, .inl rfl, ok_trade_of (P := l.prog) (w := w) (base := base) T F_trade_of H_Council_least H_exchanges H_Council_carries, PySem.W.mg_of X G a39, k39, b_trade_of⟩
  have F_falling_rows := fun_mk (st := s_falling_rows) l40 c40 k40
  have b_falling_rows := F_falling_rows.binds (ps := ["many", "most"]) fun _ _ _ _ _ _ us hl => match us, hl with | [_, _], _ => rfl
  have H_falling_rows : Fn _ l.prog w mg base "falling_rows" 1 ["many", "most"] R_falling_rows := ⟨CX0, _, _, .inl rfl, ok_falling_rows (P := l.prog) (w := w) (base := base) T F_falling_rows , PySem.W.mg_of X G a40, k40, b_falling_rows⟩
  have F_bar_for := fun_mk (st := s_bar_for) l41 c41 k41
  have b_bar_for := F_bar_for.binds (ps := ["table", "weights"]) fun _ _ _ _ _ _ us hl => match us, hl with | [_, _], _ => rfl
  have H_bar_for : Fn _ l.prog w mg base "bar_for" 2 ["table", "weights"] R_bar_for := ⟨CX0, _, _, .inl rfl, ok_bar_for (P := l.prog) (w := w) (base := base) T F_bar_for H_weight_of, PySem.W.mg_of X G a41, k41, b_bar_for⟩
  have F_weighed := fun_mk (st := s_weighed) l42 c42 k42
  have b_weighed := F_weighed.binds (ps := ["council"]) fun _ _ _ _ _ _ us hl => match us, hl with | [_], _ => rfl
  have H_weighed : Fn _ l.prog w mg base "weighed" 6 ["council"] R_weighed := ⟨CX0, _, _, .inl rfl, ok_weighed (P := l.prog) (w := w) (base := base) T F_weighed H_trade_of H_crowds_of H_Council_many H_Council_carries H_swings H_falling_rows H_bar_for c_HEAVIEST, PySem.W.mg_of X G a42, k42, b_weighed⟩
  have F__law_whole := fun_mk (st := s__law_whole) l43 c43 k43
  have b__law_whole := F__law_whole.binds (ps := ["found"]) fun _ _ _ _ _ _ us hl => match us, hl with | [_], _ => rfl
  have H__law_whole : Fn _ l.prog w mg base "_law_whole" 1 ["found"] R__law_whole := ⟨CX0, _, _, .inl rfl, ok__law_whole (P := l.prog) (w := w) (base := base) T F__law_whole , PySem.W.mg_of X G a43, k43, b__law_whole⟩
  have F__law_in := fun_mk (st := s__law_in) l44 c44 k44
  have b__law_in := F__law_in.binds (ps := ["crowd", "other"]) fun _ _ _ _ _ _ us hl => match us, hl with | [_, _], _ => rfl
  have H__law_in : Fn _ l.prog w mg base "_law_in" 1 ["crowd", "other"] R__law_in := ⟨CX0, _, _, .inl rfl, ok__law_in (P := l.prog) (w := w) (base := base) T F__law_in , PySem.W.mg_of X G a44, k44, b__law_in⟩
  have F__law_carries := fun_mk (st := s__law_carries) l45 c45 k45
  have b__law_carries := F__law_carries.binds (ps := ["told", "crowd"]) fun _ _ _ _ _ _ us hl => match us, hl with | [_, _], _ => rfl
  have H__law_carries : Fn _ l.prog w mg base "_law_carries" 2 ["told", "crowd"] R__law_carries := ⟨CX0, _, _, .inl rfl, ok__law_carries (P := l.prog) (w := w) (base := base) T F__law_carries H__law_in, PySem.W.mg_of X G a45, k45, b__law_carries⟩
  have F__law_weights_right := fun_mk (st := s__law_weights_right) l46 c46 k46
  have b__law_weights_right := F__law_weights_right.binds (ps := ["found", "told", "many"]) fun _ _ _ _ _ _ us hl => match us, hl with | [_, _, _], _ => rfl
  have H__law_weights_right : Fn _ l.prog w mg base "_law_weights_right" 3 ["found", "told", "many"] R__law_weights_right := ⟨CX0, _, _, .inl rfl, ok__law_weights_right (P := l.prog) (w := w) (base := base) T F__law_weights_right H__law_whole H__law_crowds H__law_carries, PySem.W.mg_of X G a46, k46, b__law_weights_right⟩
  have F__law_trade_right := fun_mk (st := s__law_trade_right) l47 c47 k47
  have b__law_trade_right := F__law_trade_right.binds (ps := ["found", "told", "many"]) fun _ _ _ _ _ _ us hl => match us, hl with | [_, _, _], _ => rfl
  have H__law_trade_right : Fn _ l.prog w mg base "_law_trade_right" 3 ["found", "told", "many"] R__law_trade_right := ⟨CX0, _, _, .inl rfl, ok__law_trade_right (P := l.prog) (w := w) (base := base) T F__law_trade_right H__law_crowds H__law_carries H__law_whole, PySem.W.mg_of X G a47, k47, b__law_trade_right⟩
  have F__law_right := fun_mk (st := s__law_right) l48 c48 k48
  have b__law_right := F__law_right.binds (ps := ["found", "told", "many"]) fun _ _ _ _ _ _ us hl => match us, hl with | [_, _, _], _ => rfl
  have H__law_right : Fn _ l.prog w mg base "_law_right" 4 ["found", "told", "many"] R__law_right := ⟨CX0, _, _, .inl rfl, ok__law_right (P := l.prog) (w := w) (base := base) T F__law_right H__law_weights_right H__law_trade_right, PySem.W.mg_of X G a48, k48, b__law_right⟩
  have F__law_refused := fun_mk (st := s__law_refused) l49 c49 k49
  have b__law_refused := F__law_refused.binds (ps := ["council"]) fun _ _ _ _ _ _ us hl => match us, hl with | [_], _ => rfl
  have H__law_refused : Fn _ l.prog w mg base "_law_refused" 5 ["council"] R__law_refused := ⟨CX0, _, _, .inl rfl, ok__law_refused (P := l.prog) (w := w) (base := base) T F__law_refused H_Council_carries H_Council_many H_can_all X_BadCrowd X_NoMember (PySem.W.exm_ref eb_BadCrowd q_hd_BadCrowd et_BadCrowd q_s_cc) (PySem.W.exm_ref eb_BadCrowd q_hd_BadCrowd et_BadCrowd q_s_mc) (PySem.W.exm_ref eb_NoMember q_hd_NoMember et_NoMember q_s_mm), PySem.W.mg_of X G a49, k49, b__law_refused⟩
  have F_law := fun_mk (st := s_law) l50 c50 k50
  exact (ok_law (P := l.prog) (w := w) (base := base) T F_law H__law_many H__law_cell_at H_Council H__law_told H__law_made H_Council_many H__law_crowds H_Council_carries H_idle H_vetoes H_Council_least H_powers H_swings H_can_all H_weighed H__law_right H__law_refused).imp fun vs H Q E hq => by
    obtain ⟨a, ns, rfl, hS, hl, q⟩ := hq
    exact ⟨H, [.scr ns], _, Same.refl _, .cons (.inl (.scr hS)) .nil, ⟨ns, rfl, hl, rfl⟩, fun v F' H' _ r => by cases r; exact q H'⟩
end
theorem walk {l : PySem.W.OpenLaw} {q : Program} {loose : List Str} {XP : (Str → Option Value) → Heap → Prop} {YP : World → Heap → Prop} {d : DefRec} {K : Params → PySem.W.Frag} (hn : l.most = some 63) (hdf : d.params.defaults = [])
    (hY : ∀ (w : World) (h : Heap), YP w h → (K w.params).In h)
    (F : ∀ (w : World) (mg : Str → Option Value) (fa : Addr) (h : Heap), (K w.params).In h → h.Ns mainGlobals mg → mg d.name = some (.ref fa) →
      ∃ fd : FuncData, (∀ (s : Shared) (u : Value), BindsTo s fd ⟨[u], []⟩ [("script", u)]) ∧ ∀ base : Heap, (K w.params).In base → base.Ns mainGlobals mg → FnOk l.prog w (K w.params) mg base CX0 7 fa fd ["script"] (spLaw (K w.params))) :
    PySem.W.WalkO q loose XP YP l.row.toRowW d [] (fun f vs => PySem.call f vs) :=
  L2.walk_of (n := 63) (k := 7) (x := "script") (CX := fun _ => CX0) (sp := fun w => spLaw (K w.params)) hn (by decide) hdf ⟨rfl, by decide, by decide⟩ hY F (fun _ _ a ns hl _ hS => ⟨a, ns, rfl, hS, hl, fun _ => rfl⟩) fun _ _ _ _ _ z => z
end Vw
open PySem PySem.W PyProof.Rows
set_option maxRecDepth 100000 in
set_option maxHeartbeats 0 in
theorem PySem.Challenge.cw_votesway_k13_whole_made_councils_asked_holds : PySem.Challenge.rw_votesway_k13_whole_made_councils_asked.Holds := by
  w_on; o_law; k_head; (case hw => w_witness2)
  k_fill
  refine Vw.walk (l := PySem.Challenge.rw_votesway_k13_whole_made_councils_asked) rfl rfl (fun w h Y => PySem.W.kIn_of Y) ?F
  case F =>
    intro w mg fa h KX G hmg
    refine' Vw.all_mk KX G hmg ?aC ?a0 ?l0 ?c0 ?k0 ?a1 ?l1 ?c1 ?k1 ?a2 ?l2 ?c2 ?k2 ?a3 ?i3 ?l3 ?c3 ?k3 ?a4 ?l4 ?c4 ?k4 ?a5 ?l5 ?c5 ?k5 ?a6 ?l6 ?c6 ?k6 ?a7 ?l7 ?c7 ?k7 ?a8 ?l8 ?c8 ?k8 ?a9 ?i9 ?l9 ?c9 ?k9 ?a10 ?l10 ?c10 ?k10 ?a11 ?l11 ?c11 ?k11 ?a12 ?l12 ?c12 ?k12 ?a13 ?i13 ?l13 ?c13 ?k13 ?a14 ?i14 ?l14 ?c14 ?k14 ?a15 ?l15 ?c15 ?k15 ?a16 ?i16 ?l16 ?c16 ?k16 ?a17 ?l17 ?c17 ?k17 ?a18 ?l18 ?c18 ?k18 ?a19 ?l19 ?c19 ?k19 ?a20 ?i20 ?l20 ?c20 ?k20 ?a21 ?l21 ?c21 ?k21 ?a22 ?l22 ?c22 ?k22 ?a23 ?l23 ?c23 ?k23 ?a24 ?l24 ?c24 ?k24 ?a25 ?l25 ?c25 ?k25 ?a26 ?l26 ?c26 ?k26 ?a27 ?l27 ?c27 ?k27 ?a28 ?l28 ?c28 ?k28 ?a29 ?l29 ?c29 ?k29 ?a30 ?l30 ?c30 ?k30 ?a31 ?l31 ?c31 ?k31 ?a32 ?l32 ?c32 ?k32 ?a33 ?l33 ?c33 ?k33 ?a34 ?l34 ?c34 ?k34 ?a35 ?l35 ?c35 ?k35 ?a36 ?l36 ?c36 ?k36 ?a37 ?l37 ?c37 ?k37 ?a38 ?l38 ?c38 ?k38 ?a39 ?l39 ?c39 ?k39 ?a40 ?l40 ?c40 ?k40 ?a41 ?l41 ?c41 ?k41 ?a42 ?l42 ?c42 ?k42 ?a43 ?l43 ?c43 ?k43 ?a44 ?l44 ?c44 ?k44 ?a45 ?l45 ?c45 ?k45 ?a46 ?l46 ?c46 ?k46 ?a47 ?l47 ?c47 ?k47 ?a48 ?l48 ?c48 ?k48 ?a49 ?l49 ?c49 ?k49 ?a50 ?l50 ?c50 ?k50 ?pg ?hd ?po ?sa ?mk ?kc ?nS ?nT ?z_len ?z_range ?z_tuple ?z_sorted ?z_set ?z_sum ?z_max ?z_min ?z_int ?z_str ?z_list ?z_isinstance ?z_all ?z_bool ?z_reversed ?eg_BadCrowd ?eg_BadSize ?eg_Unlike ?eg_NoMember ?eg_BadWeights ?eg_BadNote ?ex_BadCrowd ?ek_BadCrowd ?eb_BadCrowd ?et_BadCrowd ?ex_BadSize ?ek_BadSize ?eb_BadSize ?et_BadSize ?ex_Unlike ?ek_Unlike ?eb_Unlike ?et_Unlike ?ex_NoMember ?ek_NoMember ?eb_NoMember ?et_NoMember ?ex_BadWeights ?ek_BadWeights ?eb_BadWeights ?et_BadWeights ?ex_BadNote ?ek_BadNote ?eb_BadNote ?et_BadNote ?q_hd_BadCrowd ?q_hd_NoMember ?q_s_cc ?q_s_mc ?q_s_mm ?gc_MOST ?gc_FIGURES ?gc_HEAVIEST
    (case aC => k_is)
    (case a0 => k_is)
    (case l0 => k_is)
    (case c0 => k_is)
    (case k0 => k_is)
    (case a1 => k_is)
    (case l1 => k_is)
    (case c1 => k_is)
    (case k1 => k_is)
    (case a2 => k_is)
    (case l2 => k_is)
    (case c2 => k_is)
    (case k2 => k_is)
    (case a3 => k_is)
    (case i3 => k_is)
    (case l3 => k_is)
    (case c3 => k_is)
    (case k3 => k_is)
    (case a4 => k_is)
    (case l4 => k_is)
    (case c4 => k_is)
    (case k4 => k_is)
    (case a5 => k_is)
    (case l5 => k_is)
    (case c5 => k_is)
    (case k5 => k_is)
    (case a6 => k_is)
    (case l6 => k_is)
    (case c6 => k_is)
    (case k6 => k_is)
    (case a7 => k_is)
    (case l7 => k_is)
    (case c7 => k_is)
    (case k7 => k_is)
    (case a8 => k_is)
    (case l8 => k_is)
    (case c8 => k_is)
    (case k8 => k_is)
    (case a9 => k_is)
    (case i9 => k_is)
    (case l9 => k_is)
    (case c9 => k_is)
    (case k9 => k_is)
    (case a10 => k_is)
    (case l10 => k_is)
    (case c10 => k_is)
    (case k10 => k_is)
    (case a11 => k_is)
    (case l11 => k_is)
    (case c11 => k_is)
    (case k11 => k_is)
    (case a12 => k_is)
    (case l12 => k_is)
    (case c12 => k_is)
    (case k12 => k_is)
    (case a13 => k_is)
    (case i13 => k_is)
    (case l13 => k_is)
    (case c13 => k_is)
    (case k13 => k_is)
    (case a14 => k_is)
    (case i14 => k_is)
    (case l14 => k_is)
    (case c14 => k_is)
    (case k14 => k_is)
    (case a15 => k_is)
    (case l15 => k_is)
    (case c15 => k_is)
    (case k15 => k_is)
    (case a16 => k_is)
    (case i16 => k_is)
    (case l16 => k_is)
    (case c16 => k_is)
    (case k16 => k_is)
    (case a17 => k_is)
    (case l17 => k_is)
    (case c17 => k_is)
    (case k17 => k_is)
    (case a18 => k_is)
    (case l18 => k_is)
    (case c18 => k_is)
    (case k18 => k_is)
    (case a19 => k_is)
    (case l19 => k_is)
    (case c19 => k_is)
    (case k19 => k_is)
    (case a20 => k_is)
    (case i20 => k_is)
    (case l20 => k_is)
    (case c20 => k_is)
    (case k20 => k_is)
    (case a21 => k_is)
    (case l21 => k_is)
    (case c21 => k_is)
    (case k21 => k_is)
    (case a22 => k_is)
    (case l22 => k_is)
    (case c22 => k_is)
    (case k22 => k_is)
    (case a23 => k_is)
    (case l23 => k_is)
    (case c23 => k_is)
    (case k23 => k_is)
    (case a24 => k_is)
    (case l24 => k_is)
    (case c24 => k_is)
    (case k24 => k_is)
    (case a25 => k_is)
    (case l25 => k_is)
    (case c25 => k_is)
    (case k25 => k_is)
    (case a26 => k_is)
    (case l26 => k_is)
    (case c26 => k_is)
    (case k26 => k_is)
    (case a27 => k_is)
    (case l27 => k_is)
    (case c27 => k_is)
    (case k27 => k_is)
    (case a28 => k_is)
    (case l28 => k_is)
    (case c28 => k_is)
    (case k28 => k_is)
    (case a29 => k_is)
    (case l29 => k_is)
    (case c29 => k_is)
    (case k29 => k_is)
    (case a30 => k_is)
    (case l30 => k_is)
    (case c30 => k_is)
    (case k30 => k_is)
    (case a31 => k_is)
    (case l31 => k_is)
    (case c31 => k_is)
    (case k31 => k_is)
    (case a32 => k_is)
    (case l32 => k_is)
    (case c32 => k_is)
    (case k32 => k_is)
    (case a33 => k_is)
    (case l33 => k_is)
    (case c33 => k_is)
    (case k33 => k_is)
    (case a34 => k_is)
    (case l34 => k_is)
    (case c34 => k_is)
    (case k34 => k_is)
    (case a35 => k_is)
    (case l35 => k_is)
    (case c35 => k_is)
    (case k35 => k_is)
    (case a36 => k_is)
    (case l36 => k_is)
    (case c36 => k_is)
    (case k36 => k_is)
    (case a37 => k_is)
    (case l37 => k_is)
    (case c37 => k_is)
    (case k37 => k_is)
    (case a38 => k_is)
    (case l38 => k_is)
    (case c38 => k_is)
    (case k38 => k_is)
    (case a39 => k_is)
    (case l39 => k_is)
    (case c39 => k_is)
    (case k39 => k_is)
    (case a40 => k_is)
    (case l40 => k_is)
    (case c40 => k_is)
    (case k40 => k_is)
    (case a41 => k_is)
    (case l41 => k_is)
    (case c41 => k_is)
    (case k41 => k_is)
    (case a42 => k_is)
    (case l42 => k_is)
    (case c42 => k_is)
    (case k42 => k_is)
    (case a43 => k_is)
    (case l43 => k_is)
    (case c43 => k_is)
    (case k43 => k_is)
    (case a44 => k_is)
    (case l44 => k_is)
    (case c44 => k_is)
    (case k44 => k_is)
    (case a45 => k_is)
    (case l45 => k_is)
    (case c45 => k_is)
    (case k45 => k_is)
    (case a46 => k_is)
    (case l46 => k_is)
    (case c46 => k_is)
    (case k46 => k_is)
    (case a47 => k_is)
    (case l47 => k_is)
    (case c47 => k_is)
    (case k47 => k_is)
    (case a48 => k_is)
    (case l48 => k_is)
    (case c48 => k_is)
    (case k48 => k_is)
    (case a49 => k_is)
    (case l49 => k_is)
    (case c49 => k_is)
    (case k49 => k_is)
    (case a50 => k_is)
    (case l50 => k_is)
    (case c50 => k_is)
    (case k50 => k_is)
    (case pg => k_is)
    (case hd => k_is)
    (case po => k_is)
    (case sa => k_is)
    (case mk => k_is)
    (case kc => k_is)
    (case nS => k_is)
    (case nT => k_is)
    (case z_len => k_is)
    (case z_range => k_is)
    (case z_tuple => k_is)
    (case z_sorted => k_is)
    (case z_set => k_is)
    (case z_sum => k_is)
    (case z_max => k_is)
    (case z_min => k_is)
    (case z_int => k_is)
    (case z_str => k_is)
    (case z_list => k_is)
    (case z_isinstance => k_is)
    (case z_all => k_is)
    (case z_bool => k_is)
    (case z_reversed => k_is)
    (case eg_BadCrowd => k_is)
    (case eg_BadSize => k_is)
    (case eg_Unlike => k_is)
    (case eg_NoMember => k_is)
    (case eg_BadWeights => k_is)
    (case eg_BadNote => k_is)
    (case ex_BadCrowd => k_exc)
    (case ek_BadCrowd => k_is)
    (case eb_BadCrowd => k_is)
    (case et_BadCrowd => k_is)
    (case ex_BadSize => k_exc)
    (case ek_BadSize => k_is)
    (case eb_BadSize => k_is)
    (case et_BadSize => k_is)
    (case ex_Unlike => k_exc)
    (case ek_Unlike => k_is)
    (case eb_Unlike => k_is)
    (case et_Unlike => k_is)
    (case ex_NoMember => k_exc)
    (case ek_NoMember => k_is)
    (case eb_NoMember => k_is)
    (case et_NoMember => k_is)
    (case ex_BadWeights => k_exc)
    (case ek_BadWeights => k_is)
    (case eb_BadWeights => k_is)
    (case et_BadWeights => k_is)
    (case ex_BadNote => k_exc)
    (case ek_BadNote => k_is)
    (case eb_BadNote => k_is)
    (case et_BadNote => k_is)
    (case q_hd_BadCrowd => k_is)
    (case q_hd_NoMember => k_is)
    (case q_s_cc => k_is)
    (case q_s_mc => k_is)
    (case q_s_mm => k_is)
    (case gc_MOST => k_is)
    (case gc_FIGURES => k_is)
    (case gc_HEAVIEST => k_is)
#print axioms PySem.Challenge.cw_votesway_k13_whole_made_councils_asked_holds
