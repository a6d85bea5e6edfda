import PyProof.Rows.All
import Wide.All
import OpenK.AllK
import Wide.FinOn
import HandS.ForMost
import HandS.Walk
import HandS.Wide
import HandS.Exc
import HandS.TryOnly
import HandS.ExcOwn
import HandS.WordsExc
import HandS.TryMany
import HandS.IsInst
import HandS.EndBits
import HandS.ExcIs
import PySem.Challenge.RW_lotbook_k04_whole_lots_used
set_option Elab.async false
set_option linter.all false
set_option maxRecDepth 100000
set_option maxHeartbeats 4000000
/-! T3: a layer of values over HandS: tuples and lists that stay are values, what changes stands in a list of objects. -/
namespace T3
open PySem L2

/-- a value: tuples by their items, lists that never change again by their items, other objects by their places -/
inductive D where
  | non | bl (b : Bool) | int (i : Int) | str (s : Str) | ref (a : Addr) | tup (ds : List D) | lst (ds : List D) | scr (ns : List Int)
/-- what is known for ever: at a stands a list of vs that stays, a tuple of vs, the script -/
structure Wd where
  L : Addr → List V → Prop
  T : Addr → List V → Prop
  S : Addr → List Int → Prop
structure Wd.le (W W' : Wd) : Prop where
  l : ∀ a vs, W.L a vs → W'.L a vs
  t : ∀ a vs, W.T a vs → W'.T a vs
  s : ∀ a vs, W.S a vs → W'.S a vs
theorem Wd.le.refl (W : Wd) : W.le W := ⟨fun _ _ h => h, fun _ _ h => h, fun _ _ h => h⟩
theorem Wd.le.trans {W W1 W2 : Wd} (a : W.le W1) (b : W1.le W2) : W.le W2 := ⟨fun x y h => b.l x y (a.l x y h), fun x y h => b.t x y (a.t x y h), fun x y h => b.s x y (a.s x y h)⟩
mutual
def Rl (W : Wd) : D → V → Prop
  | .non, v => v = .non
  | .bl b, v => v = .bl b
  | .int i, v => v = .int i
  | .str s, v => v = .str s
  | .ref a, v => v = .ref a
  | .tup ds, v => ∃ a vs, v = .ref a ∧ W.T a vs ∧ RlL W ds vs
  | .lst ds, v => ∃ a vs, v = .ref a ∧ W.L a vs ∧ RlL W ds vs
  | .scr ns, v => ∃ a, v = .ref a ∧ W.S a ns
def RlL (W : Wd) : List D → List V → Prop
  | [], vs => vs = []
  | d :: ds, vs => ∃ v r, vs = v :: r ∧ Rl W d v ∧ RlL W ds r
end
mutual
theorem Rl.mono {W W' : Wd} (h : W.le W') : ∀ {d : D} {v : V}, Rl W d v → Rl W' d v
  | .non, _, r => r
  | .bl _, _, r => r
  | .int _, _, r => r
  | .str _, _, r => r
  | .ref _, _, r => r
  | .tup ds, _, ⟨a, vs, e, t, r⟩ => ⟨a, vs, e, h.t a vs t, RlL.mono h r⟩
  | .lst ds, _, ⟨a, vs, e, t, r⟩ => ⟨a, vs, e, h.l a vs t, RlL.mono h r⟩
  | .scr _, _, ⟨a, e, t⟩ => ⟨a, e, h.s a _ t⟩
theorem RlL.mono {W W' : Wd} (h : W.le W') : ∀ {ds : List D} {vs : List V}, RlL W ds vs → RlL W' ds vs
  | [], _, r => r
  | _ :: _, _, ⟨v, r, e, h1, h2⟩ => ⟨v, r, e, Rl.mono h h1, RlL.mono h h2⟩
end
theorem RlL.length {W : Wd} : ∀ {ds : List D} {vs : List V}, RlL W ds vs → ds.length = vs.length
  | [], _, rfl => rfl
  | _ :: ds, _, ⟨_, r, e, _, h⟩ => by subst e; simp [RlL.length h]
theorem RlL.append {W : Wd} : ∀ {ds es : List D} {vs us : List V}, RlL W ds vs → RlL W es us → RlL W (ds ++ es) (vs ++ us)
  | [], _, _, _, rfl, h => h
  | _ :: _, _, _, _, ⟨v, r, e, h1, h2⟩, h => by subst e; exact ⟨v, _, rfl, h1, RlL.append h2 h⟩
theorem RlL.one {W : Wd} {d : D} {v : V} (h : Rl W d v) : RlL W [d] [v] := ⟨v, [], rfl, h, rfl⟩
theorem RlL.get {W : Wd} : ∀ {ds : List D} {vs : List V} {i : Nat} {d : D}, RlL W ds vs → ds[i]? = some d → ∃ v, vs[i]? = some v ∧ Rl W d v
  | [], _, i, _, _, h => by simp at h
  | _ :: _, _, 0, _, ⟨v, r, e, h1, h2⟩, h => by subst e; simp at h; subst h; exact ⟨v, rfl, h1⟩
  | _ :: _, _, i + 1, _, ⟨v, r, e, h1, h2⟩, h => by
    subst e
    obtain ⟨u, e1, e2⟩ := RlL.get (i := i) h2 (by simpa using h)
    exact ⟨u, by simpa using e1, e2⟩
theorem RlL.get' {W : Wd} : ∀ {ds : List D} {vs : List V} {i : Nat} {v : V}, RlL W ds vs → vs[i]? = some v → ∃ d, ds[i]? = some d ∧ Rl W d v
  | [], _, i, _, e, h => by subst e; simp at h
  | d :: _, _, 0, _, ⟨v, r, e, h1, h2⟩, h => by subst e; simp at h; subst h; exact ⟨d, rfl, h1⟩
  | _ :: _, _, i + 1, _, ⟨v, r, e, h1, h2⟩, h => by
    subst e
    obtain ⟨u, e1, e2⟩ := RlL.get' (i := i) h2 (by simpa using h)
    exact ⟨u, by simpa using e1, e2⟩
theorem RlL.take {W : Wd} : ∀ {ds : List D} {vs : List V} (n : Nat), RlL W ds vs → RlL W (ds.take n) (vs.take n)
  | _, _, 0, _ => by simp [RlL]
  | [], _, n + 1, e => by subst e; rfl
  | _ :: _, _, n + 1, ⟨v, r, e, h1, h2⟩ => by subst e; exact ⟨v, _, rfl, h1, RlL.take n h2⟩
theorem RlL.drop {W : Wd} : ∀ {ds : List D} {vs : List V} (n : Nat), RlL W ds vs → RlL W (ds.drop n) (vs.drop n)
  | _, _, 0, h => h
  | [], _, n + 1, e => by subst e; rfl
  | _ :: _, _, n + 1, ⟨v, r, e, h1, h2⟩ => by subst e; exact RlL.drop n h2
theorem RlL.set {W : Wd} {d : D} {v : V} (h : Rl W d v) : ∀ {ds : List D} {vs : List V} (n : Nat), RlL W ds vs → RlL W (ds.set n d) (vs.set n v)
  | [], _, n, e => by subst e; rfl
  | _ :: _, _, 0, ⟨u, r, e, h1, h2⟩ => by subst e; exact ⟨v, r, rfl, h, h2⟩
  | _ :: _, _, n + 1, ⟨u, r, e, h1, h2⟩ => by subst e; exact ⟨u, _, rfl, h1, RlL.set h n h2⟩
/-- the ints of a list -/
theorem RlL.ints {W : Wd} : ∀ {ns : List Int} {vs : List V}, RlL W (ns.map D.int) vs → vs = ns.map V.int
  | [], _, e => e
  | _ :: ns, _, ⟨v, r, e, h1, h2⟩ => by subst e; have := RlL.ints h2; cases h1; simp [this]
theorem RlL.of_ints {W : Wd} : ∀ (ns : List Int), RlL W (ns.map D.int) (ns.map V.int)
  | [] => rfl
  | n :: ns => ⟨.int n, _, rfl, rfl, RlL.of_ints ns⟩
theorem RlL.bls {W : Wd} : ∀ {ns : List Bool} {vs : List V}, RlL W (ns.map D.bl) vs → vs = ns.map V.bl
  | [], _, e => e
  | _ :: ns, _, ⟨v, r, e, h1, h2⟩ => by subst e; have := RlL.bls h2; cases h1; simp [this]
theorem RlL.strs {W : Wd} : ∀ {ns : List Str} {vs : List V}, RlL W (ns.map D.str) vs → vs = ns.map V.str
  | [], _, e => e
  | _ :: ns, _, ⟨v, r, e, h1, h2⟩ => by subst e; have := RlL.strs h2; cases h1; simp [this]

/-- what stands at a place and may change -/
inductive DO where
  | lst (ds : List D) | dict (kvs : List (Key × D)) | ins (C : Addr) (fs : List (Str × D)) | lck (o : Obj) (kvs : List (Key × D))
abbrev G3 := List (Addr × DO)
abbrev RlK {κ : Type} (W : Wd) : List (κ × D) → List (κ × V) → Prop := Paired fun p q => p.1 = q.1 ∧ Rl W p.2 q.2
theorem RlK.mono {κ : Type} {W W' : Wd} (h : W.le W') {a : List (κ × D)} {b : List (κ × V)} (r : RlK W a b) : RlK W' a b := Paired.mapP r fun _ _ q => ⟨q.1, q.2.mono h⟩
def ObR (W : Wd) (H : Hp) (a : Addr) : DO → Prop
  | .lst ds => ∃ vs, H a = some (.lst vs) ∧ RlL W ds vs
  | .dict kvs => ∃ vs, H a = some (.dK vs) ∧ RlK W kvs vs
  | .ins C fs => ∃ dx vs, H a = some (.ins C dx vs) ∧ RlK W fs vs
  | .lck o kvs => ∃ vs, H a = some (.frz o (.dK vs)) ∧ RlK W kvs vs
theorem ObR.mono {W W' : Wd} {H : Hp} {a : Addr} (h : W.le W') : ∀ {o : DO}, ObR W H a o → ObR W' H a o
  | .lst _, ⟨vs, e, r⟩ => ⟨vs, e, r.mono h⟩
  | .dict _, ⟨vs, e, r⟩ => ⟨vs, e, r.mono h⟩
  | .ins _ _, ⟨dx, vs, e, r⟩ => ⟨dx, vs, e, r.mono h⟩
  | .lck _ _, ⟨vs, e, r⟩ => ⟨vs, e, r.mono h⟩
theorem ObR.at {W : Wd} {H H' : Hp} {a : Addr} (h : H' a = H a) : ∀ {o : DO}, ObR W H a o → ObR W H' a o
  | .lst _, ⟨vs, e, r⟩ => ⟨vs, h.trans e, r⟩
  | .dict _, ⟨vs, e, r⟩ => ⟨vs, h.trans e, r⟩
  | .ins _ _, ⟨dx, vs, e, r⟩ => ⟨dx, vs, h.trans e, r⟩
  | .lck _ _, ⟨vs, e, r⟩ => ⟨vs, h.trans e, r⟩
theorem ObR.some {W : Wd} {H : Hp} {a : Addr} : ∀ {o : DO}, ObR W H a o → ∃ u, H a = .some u
  | .lst _, ⟨vs, e, r⟩ => ⟨_, e⟩
  | .dict _, ⟨vs, e, r⟩ => ⟨_, e⟩
  | .ins _ _, ⟨dx, vs, e, r⟩ => ⟨_, e⟩
  | .lck _ _, ⟨vs, e, r⟩ => ⟨_, e⟩
theorem ObR.notTup {W : Wd} {H : Hp} {a : Addr} {vs : List V} : ∀ {o : DO}, ObR W H a o → ¬ Rd H a (.tup vs)
  | .lst _, ⟨_, e, _⟩, h => by rcases h with h | ⟨_, h⟩ <;> rw [e] at h <;> cases h
  | .dict _, ⟨_, e, _⟩, h => by rcases h with h | ⟨_, h⟩ <;> rw [e] at h <;> cases h
  | .ins _ _, ⟨_, _, e, _⟩, h => by rcases h with h | ⟨_, h⟩ <;> rw [e] at h <;> cases h
  | .lck _ _, ⟨_, e, _⟩, h => by rcases h with h | ⟨_, h⟩ <;> rw [e] at h <;> cases h
theorem ObR.notScr {W : Wd} {H : Hp} {a : Addr} {x : Obj} {vs : List V} : ∀ {o : DO}, ObR W H a o → ¬ H a = Option.some (.frz x (.lst vs))
  | .lst _, ⟨_, e, _⟩, h => by rw [e] at h; cases h
  | .dict _, ⟨_, e, _⟩, h => by rw [e] at h; cases h
  | .ins _ _, ⟨_, _, e, _⟩, h => by rw [e] at h; cases h
  | .lck _ _, ⟨_, e, _⟩, h => by rw [e] at h; cases h
def StL (K : PySem.W.Frag) (a : Addr) (xs : List V) : Prop :=
  ∃ (o : Obj) (its : Array Value) (n : Nat), K.lookup a = some o ∧ o.cls = .type "list" ∧ o.dict = none ∧ o.data = .seq its n ∧ its.size ≤ sizeLine ∧ Vals xs its.toList
structure Sim (K : PySem.W.Frag) (W : Wd) (G : G3) (H : Hp) : Prop where
  nd : (G.map (·.1)).Nodup
  ob : ∀ a o, (a, o) ∈ G → ObR W H a o
  fl : ∀ a vs, W.L a vs → (∀ o, (a, o) ∉ G) ∧ H a = some (.lst vs)
  fs : ∀ a ns, W.S a ns → (∃ o, H a = some (.frz o (.lst (ns.map V.int)))) ∨ StL K a (ns.map V.int)
  ft : ∀ a vs, W.T a vs → SqT K H a vs
section
variable {K : PySem.W.Frag} {W W' : Wd} {G G' : G3} {H H' : Hp} {a p : Addr} {o : DO} {vs : List V} {ds : List D}
theorem Sim.sql (S : Sim K W G H) (h : W.L a vs) : SqL K H a vs := .inl (.inl (S.fl a vs h).2)
theorem Sim.sqs {ns : List Int} (S : Sim K W G H) (h : W.S a ns) : SqL K H a (ns.map V.int) := (S.fs a ns h).elim (fun ⟨o, x⟩ => .inl (.inr ⟨o, x⟩)) .inr
theorem Sim.sqt (S : Sim K W G H) (h : W.T a vs) : SqT K H a vs := S.ft a vs h
theorem Sim.list (S : Sim K W G H) (h : (a, DO.lst ds) ∈ G) : ∃ vs, H a = some (.lst vs) ∧ RlL W ds vs := S.ob _ _ h
theorem rd_keep {u : HO} (h : ∀ v, H a = some v → H' a = some v) (r : Rd H a u) : Rd H' a u := by
  rcases r with r | ⟨x, r⟩
  · exact .inl (h _ r)
  · exact .inr ⟨x, h _ r⟩
theorem sqt_keep {xs : List V} (h : ∀ v, H a = some v → H' a = some v) (r : SqT K H a xs) : SqT K H' a xs := by
  rcases r with r | r
  · exact .inl (rd_keep h r)
  · exact .inr r
/-- a new object that may change -/
theorem Sim.newO (S : Sim K W G H) {u : HO} (hp : H p = none) (h : ObR W (upd H p u) p o) : Sim K W ((p, o) :: G) (upd H p u) := by
  have hne : ∀ a v, H a = some v → upd H p u a = some v := fun a v e => by rw [upd_ne (ne_of_none e hp)]; exact e
  refine ⟨?_, ?_, ?_, ?_, ?_⟩
  · simp only [List.map_cons, List.nodup_cons]
    refine ⟨fun hm => ?_, S.nd⟩
    obtain ⟨⟨a, o'⟩, h1, h2⟩ := List.mem_map.mp hm
    simp at h2
    subst h2
    obtain ⟨v, e⟩ := (S.ob _ _ h1).some
    rw [hp] at e; cases e
  · intro a o' hm
    rcases List.mem_cons.mp hm with e | hm
    · cases e; exact h
    · have ho := S.ob _ _ hm
      obtain ⟨v, e⟩ := ho.some
      exact ho.at (by rw [upd_ne (ne_of_none e hp)])
  · intro a vs hl
    obtain ⟨h1, h2⟩ := S.fl a vs hl
    refine ⟨fun o' hm => ?_, hne a _ h2⟩
    rcases List.mem_cons.mp hm with e | hm
    · cases e
      rw [hp] at h2; cases h2
    · exact h1 o' hm
  · exact fun a ns hs => (S.fs a ns hs).imp (fun ⟨o, x⟩ => ⟨o, hne a _ x⟩) fun x => x
  · exact fun a vs ht => sqt_keep (hne a) (S.ft a vs ht)
/-- an untracked object of no concern -/
theorem Sim.junk (S : Sim K W G H) {u : HO} (hp : H p = none) : Sim K W G (upd H p u) := by
  have hne : ∀ a v, H a = some v → upd H p u a = some v := fun a v e => by rw [upd_ne (ne_of_none e hp)]; exact e
  refine ⟨S.nd, fun a o' hm => ?_, fun a vs hl => ⟨(S.fl a vs hl).1, hne a _ (S.fl a vs hl).2⟩, fun a ns hs => (S.fs a ns hs).imp (fun ⟨o, x⟩ => ⟨o, hne a _ x⟩) fun x => x, fun a vs ht => sqt_keep (hne a) (S.ft a vs ht)⟩
  have ho := S.ob _ _ hm
  obtain ⟨v, e⟩ := ho.some
  exact ho.at (by rw [upd_ne (ne_of_none e hp)])
/-- a new list that stays -/
theorem Sim.newL (S : Sim K W G H) (hp : H p = none) (h : RlL W ds vs) : ∃ W', W.le W' ∧ Sim K W' G (upd H p (.lst vs)) ∧ Rl W' (.lst ds) (.ref p) := by
  have le : W.le ⟨fun a us => W.L a us ∨ (a = p ∧ us = vs), W.T, W.S⟩ := ⟨fun _ _ h => .inl h, fun _ _ h => h, fun _ _ h => h⟩
  have S1 := S.junk (u := .lst vs) hp
  refine ⟨⟨fun a us => W.L a us ∨ (a = p ∧ us = vs), W.T, W.S⟩, le, ⟨S1.nd, fun a o hm => (S1.ob a o hm).mono le, fun a us hl => ?_, S1.fs, S1.ft⟩, p, vs, rfl, .inr ⟨rfl, rfl⟩, h.mono le⟩
  rcases hl with hl | ⟨e1, e2⟩
  · exact S1.fl a us hl
  · subst e1 e2
    refine ⟨fun o hm => ?_, upd_same⟩
    obtain ⟨v, e⟩ := (S.ob _ _ hm).some
    rw [hp] at e; cases e
/-- a new tuple -/
theorem Sim.newT (S : Sim K W G H) (hp : H p = none) (h : RlL W ds vs) : ∃ W', W.le W' ∧ Sim K W' G (upd H p (.tup vs)) ∧ Rl W' (.tup ds) (.ref p) := by
  have le : W.le ⟨W.L, fun a us => W.T a us ∨ (a = p ∧ us = vs), W.S⟩ := ⟨fun _ _ h => h, fun _ _ h => .inl h, fun _ _ h => h⟩
  have S1 := S.junk (u := .tup vs) hp
  refine ⟨⟨W.L, fun a us => W.T a us ∨ (a = p ∧ us = vs), W.S⟩, le, ⟨S1.nd, fun a o hm => (S1.ob a o hm).mono le, S1.fl, S1.fs, fun a us hl => ?_⟩, p, vs, rfl, .inr ⟨rfl, rfl⟩, h.mono le⟩
  rcases hl with hl | ⟨e1, e2⟩
  · exact S1.ft a us hl
  · subst e1 e2
    exact .inl (.inl upd_same)
/-- the order of what may change is of no concern -/
theorem Sim.perm (S : Sim K W G H) (h : G.Perm G') : Sim K W G' H :=
  ⟨(h.map _).nodup_iff.mp S.nd, fun a o hm => S.ob a o (h.mem_iff.mpr hm), fun a vs hl => ⟨fun o hm => (S.fl a vs hl).1 o (h.mem_iff.mpr hm), (S.fl a vs hl).2⟩, S.fs, S.ft⟩
/-- some of it forgotten -/
theorem Sim.drop {e : Addr × DO} (S : Sim K W (e :: G) H) : Sim K W G H := by
  have n := S.nd
  simp only [List.map_cons, List.nodup_cons] at n
  exact ⟨n.2, fun a o hm => S.ob a o (List.mem_cons_of_mem _ hm), fun a vs hl => ⟨fun o hm => (S.fl a vs hl).1 o (List.mem_cons_of_mem _ hm), (S.fl a vs hl).2⟩, S.fs, S.ft⟩
/-- a list that will not change again -/
theorem Sim.freeze (S : Sim K W ((a, .lst ds) :: G) H) : ∃ W', W.le W' ∧ Sim K W' G H ∧ Rl W' (.lst ds) (.ref a) := by
  have S1 := S.drop
  obtain ⟨vs, e, r⟩ := S.ob a _ (List.mem_cons_self ..)
  have le : W.le ⟨fun b us => W.L b us ∨ (b = a ∧ us = vs), W.T, W.S⟩ := ⟨fun _ _ h => .inl h, fun _ _ h => h, fun _ _ h => h⟩
  have n := S.nd
  simp only [List.map_cons, List.nodup_cons] at n
  refine ⟨⟨fun b us => W.L b us ∨ (b = a ∧ us = vs), W.T, W.S⟩, le, ⟨S1.nd, fun b o hm => (S1.ob b o hm).mono le, fun b us hl => ?_, S1.fs, S1.ft⟩, a, vs, rfl, .inr ⟨rfl, rfl⟩, r.mono le⟩
  rcases hl with hl | ⟨e1, e2⟩
  · exact S1.fl b us hl
  · subst e1 e2
    exact ⟨fun o hm => n.1 (List.mem_map.mpr ⟨_, hm, rfl⟩), e⟩
/-- an object changed -/
theorem Sim.write {o' : DO} {u : HO} {l1 l2 : G3} (S : Sim K W (l1 ++ (a, o) :: l2) H) (h : ObR W (upd H a u) a o') : Sim K W (l1 ++ (a, o') :: l2) (upd H a u) := by
  have n := S.nd
  have n2 : ∀ o'', (a, o'') ∉ l1 ∧ (a, o'') ∉ l2 := fun o'' => by
    simp only [List.map_append, List.map_cons] at n
    have n' := List.nodup_append.mp n
    refine ⟨fun hm => ?_, fun hm => ?_⟩
    · exact n'.2.2 _ (List.mem_map.mpr ⟨_, hm, rfl⟩) _ (List.mem_cons_self ..) rfl
    · exact (List.nodup_cons.mp n'.2.1).1 (List.mem_map.mpr ⟨_, hm, rfl⟩)
  have hin : (a, o) ∈ l1 ++ (a, o) :: l2 := List.mem_append_right _ (List.mem_cons_self ..)
  have oa := S.ob _ _ hin
  refine ⟨by simpa using n, fun b ob hm => ?_, fun b vs hl => ?_, fun b ns hs => ?_, fun b vs ht => ?_⟩
  · by_cases hb : b = a
    · subst hb
      rcases List.mem_append.mp hm with hm | hm
      · exact absurd hm (n2 _).1
      · rcases List.mem_cons.mp hm with e | hm
        · cases e; exact h
        · exact absurd hm (n2 _).2
    · refine (S.ob b ob ?_).at (by rw [upd_ne hb])
      rcases List.mem_append.mp hm with hm | hm
      · exact List.mem_append_left _ hm
      · rcases List.mem_cons.mp hm with e | hm
        · cases e; exact absurd rfl hb
        · exact List.mem_append_right _ (List.mem_cons_of_mem _ hm)
  · obtain ⟨h1, h2⟩ := S.fl b vs hl
    have hb : b ≠ a := fun e => by subst e; exact h1 _ hin
    refine ⟨fun ob hm => ?_, by rw [upd_ne hb]; exact h2⟩
    rcases List.mem_append.mp hm with hm | hm
    · exact h1 _ (List.mem_append_left _ hm)
    · rcases List.mem_cons.mp hm with e | hm
      · cases e; exact hb rfl
      · exact h1 _ (List.mem_append_right _ (List.mem_cons_of_mem _ hm))
  · rcases S.fs b ns hs with ⟨x, h2⟩ | h2
    · have hb : b ≠ a := fun e => by subst e; exact oa.notScr h2
      exact .inl ⟨x, by rw [upd_ne hb]; exact h2⟩
    · exact .inr h2
  · rcases S.ft b vs ht with h2 | h2
    · have hb : b ≠ a := fun e => by subst e; exact oa.notTup h2
      exact .inl (rd_keep (fun v e => by rw [upd_ne hb]; exact e) h2)
    · exact .inr h2
theorem Sim.old (S : Sim K W G H) (h : (a, o) ∈ G) : ∃ u, H a = some u := (S.ob _ _ h).some
end
end T3

namespace T3
open PySem L2

/-! ### slots -/
abbrev St3 := List (Option D)
def getS : St3 → Nat → Option D
  | [], _ => none
  | x :: _, 0 => x
  | _ :: r, n + 1 => getS r n
theorem getS_some : ∀ {σ : St3} {i : Nat} {d : D}, getS σ i = some d → i < σ.length
  | [], _, _, h => by cases h
  | _ :: _, 0, _, _ => Nat.succ_pos _
  | _ :: r, i + 1, d, h => Nat.succ_lt_succ (getS_some (σ := r) h)
theorem getS_set : ∀ {σ : St3} {i j : Nat} {x : Option D}, getS (σ.set i x) j = if i = j ∧ i < σ.length then x else getS σ j
  | [], i, j, x => by simp [getS]
  | y :: r, 0, 0, x => by simp [getS]
  | y :: r, 0, j + 1, x => by simp [getS]
  | y :: r, i + 1, 0, x => by simp [getS]
  | y :: r, i + 1, j + 1, x => by
    have := getS_set (σ := r) (i := i) (j := j) (x := x)
    simp only [List.set_cons_succ, getS, List.length_cons, Nat.add_lt_add_iff_right, Nat.add_right_cancel_iff]
    exact this
structure RepS (W : Wd) (σ3 : St3) (σ : St) : Prop where
  len : σ3.length = σ.length
  get : ∀ i d, getS σ3 i = some d → ∃ v, σ[i]? = some (some v) ∧ Rl W d v
section
variable {W W' : Wd} {σ3 : St3} {σ : St} {d : D} {v : V}
theorem RepS.mono (R : RepS W σ3 σ) (h : W.le W') : RepS W' σ3 σ := ⟨R.len, fun i d e => let ⟨v, a, b⟩ := R.get i d e; ⟨v, a, b.mono h⟩⟩
theorem RepS.set (R : RepS W σ3 σ) (i : Nat) (h : Rl W d v) : RepS W (σ3.set i (some d)) (σ.set i (some v)) := by
  refine ⟨by simp [R.len], fun j d' e => ?_⟩
  rw [getS_set] at e
  by_cases hj : i = j ∧ i < σ3.length
  · rw [if_pos hj] at e
    cases e
    obtain ⟨rfl, hl⟩ := hj
    exact ⟨v, by rw [List.getElem?_set_self (by rw [← R.len]; exact hl)], h⟩
  · rw [if_neg hj] at e
    obtain ⟨u, h1, h2⟩ := R.get j d' e
    refine ⟨u, ?_, h2⟩
    by_cases hij : i = j
    · subst hij
      have := getS_some e
      exact absurd ⟨rfl, this⟩ hj
    · rw [List.getElem?_set_ne hij]; exact h1
theorem RepS.forget (R : RepS W σ3 σ) (i : Nat) (x : Option V) : RepS W (σ3.set i none) (σ.set i x) := by
  refine ⟨by simp [R.len], fun j d' e => ?_⟩
  rw [getS_set] at e
  by_cases hj : i = j ∧ i < σ3.length
  · rw [if_pos hj] at e
    cases e
  · rw [if_neg hj] at e
    obtain ⟨u, h1, h2⟩ := R.get j d' e
    refine ⟨u, ?_, h2⟩
    by_cases hij : i = j
    · subst hij
      have := getS_some e
      exact absurd ⟨rfl, this⟩ hj
    · rw [List.getElem?_set_ne hij]; exact h1
end
def wipe3 (σ : St3) : List Nat → St3
  | [] => σ
  | v :: vs => (wipe3 σ vs).set v none
theorem RepS.wipe {W : Wd} {σ3 : St3} {σ : St} (R : RepS W σ3 σ) : ∀ vs : List Nat, RepS W (wipe3 σ3 vs) (wipe σ vs)
  | [] => R
  | v :: vs => (R.wipe vs).forget v none
def start3 (N : List Str) (ds : List D) : St3 := ds.map some ++ List.replicate (N.length - ds.length) none
theorem RepS.start {W : Wd} {ds : List D} {vs : List V} (N : List Str) (r : RlL W ds vs) : RepS W (start3 N ds) (start N vs) := by
  have key : ∀ (ds : List D) (vs : List V) (n : Nat), RlL W ds vs → RepS W (ds.map some ++ List.replicate n none) (vs.map some ++ List.replicate n none) := by
    intro ds
    induction ds with
    | nil =>
      intro vs n e
      cases (show vs = [] from e)
      refine ⟨by simp, fun i d h => ?_⟩
      have : ∀ (n i : Nat), getS (List.replicate n none) i = none := by
        intro n
        induction n with
        | zero => intro i; rfl
        | succ n ih => intro i; cases i with
          | zero => rfl
          | succ i => exact ih i
      simp [this] at h
    | cons d ds ih =>
      intro vs n ⟨v, r, e, h1, h2⟩
      subst e
      have R := ih r n h2
      refine ⟨by simpa using R.len, fun i d' h => ?_⟩
      cases i with
      | zero => cases h; exact ⟨v, rfl, h1⟩
      | succ i => 
        obtain ⟨u, a, b⟩ := R.get i d' h
        exact ⟨u, by simpa using a, b⟩
  have := key ds vs (N.length - ds.length) r
  unfold start3 L2.start
  rw [← r.length]
  exact this

/-! ### readings -/
abbrev EX3 := Addr → St3 → G3 → Prop
abbrev VK3 := D → G3 → Prop
abbrev TE3 := St3 → G3 → VK3 → EX3 → Prop
abbrev TT3 := St3 → G3 → (Bool → G3 → Prop) → EX3 → Prop
abbrev TA3 := St3 → G3 → (List D → G3 → Prop) → EX3 → Prop
structure Ends3 where
  nx : St3 → G3 → Prop
  rt : VK3
  bk : St3 → G3 → Prop := fun _ _ => False
  ct : St3 → G3 → Prop := fun _ _ => False
  ex : EX3 := fun _ _ _ => False
abbrev TS3 := Ends3 → St3 → G3 → Prop
section
variable (K : PySem.W.Frag) (W : Wd)
structure OkQ (Q3 : VK3) (Q : VK) : Prop where
  run : ∀ W' d G v H, W.le W' → Sim K W' G H → Rl W' d v → Q3 d G → Q v H
structure OkB (Q3 : Bool → G3 → Prop) (Q : Bool → Hp → Prop) : Prop where
  run : ∀ W' b G H, W.le W' → Sim K W' G H → Q3 b G → Q b H
structure OkA (Q3 : List D → G3 → Prop) (Q : List V → Hp → Prop) : Prop where
  run : ∀ W' ds G vs H, W.le W' → Sim K W' G H → RlL W' ds vs → Q3 ds G → Q vs H
structure OkN (Q3 : St3 → G3 → Prop) (Q : St → Hp → Prop) : Prop where
  run : ∀ W' σ3 G σ H, W.le W' → RepS W' σ3 σ → Sim K W' G H → Q3 σ3 G → Q σ H
structure OkE (E3 : EX3) (Wx : WX) : Prop where
  run : ∀ C W' σ3 G σ H, W.le W' → RepS W' σ3 σ → Sim K W' G H → E3 C σ3 G → Wx (.ref C) none σ H
structure OkD (Wx : WX) (D3 : Ends3) (D : Ends) : Prop where
  nx : OkN K W D3.nx D.nx
  rt : OkQ K W D3.rt D.rt
  bk : OkN K W D3.bk D.bk
  ct : OkN K W D3.ct D.ct
  ex : OkE K W D3.ex Wx
end
section
variable {K : PySem.W.Frag} {W W' : Wd}
theorem OkQ.mono {Q3 Q} (h : OkQ K W Q3 Q) (l : W.le W') : OkQ K W' Q3 Q := ⟨fun _ _ _ _ _ l' => h.run _ _ _ _ _ (l.trans l')⟩
theorem OkB.mono {Q3 Q} (h : OkB K W Q3 Q) (l : W.le W') : OkB K W' Q3 Q := ⟨fun _ _ _ _ l' => h.run _ _ _ _ (l.trans l')⟩
theorem OkA.mono {Q3 Q} (h : OkA K W Q3 Q) (l : W.le W') : OkA K W' Q3 Q := ⟨fun _ _ _ _ _ l' => h.run _ _ _ _ _ (l.trans l')⟩
theorem OkN.mono {Q3 Q} (h : OkN K W Q3 Q) (l : W.le W') : OkN K W' Q3 Q := ⟨fun _ _ _ _ _ l' => h.run _ _ _ _ _ (l.trans l')⟩
theorem OkE.mono {Q3 Q} (h : OkE K W Q3 Q) (l : W.le W') : OkE K W' Q3 Q := ⟨fun _ _ _ _ _ _ l' => h.run _ _ _ _ _ _ (l.trans l')⟩
theorem OkD.mono {Wx D3 D} (h : OkD K W Wx D3 D) (l : W.le W') : OkD K W' Wx D3 D := ⟨h.nx.mono l, h.rt.mono l, h.bk.mono l, h.ct.mono l, h.ex.mono l⟩
end
section
variable (K : PySem.W.Frag) (Wx : WX)
def lowE (t : TE3) : TE := fun σ H Q => ∃ σ3 W G Q3 E3, RepS W σ3 σ ∧ Sim K W G H ∧ t σ3 G Q3 E3 ∧ OkQ K W Q3 Q ∧ OkE K W E3 Wx
def lowT (t : TT3) : TT := fun σ H Q => ∃ σ3 W G Q3 E3, RepS W σ3 σ ∧ Sim K W G H ∧ t σ3 G Q3 E3 ∧ OkB K W Q3 Q ∧ OkE K W E3 Wx
def lowA (t : TA3) : TA := fun σ H Q => ∃ σ3 W G Q3 E3, RepS W σ3 σ ∧ Sim K W G H ∧ t σ3 G Q3 E3 ∧ OkA K W Q3 Q ∧ OkE K W E3 Wx
def lowS (t : TS3) : TS := fun D σ H => ∃ σ3 W G D3, RepS W σ3 σ ∧ Sim K W G H ∧ t D3 σ3 G ∧ OkD K W Wx D3 D
end
theorem _root_.L2.PE.imp3 {X : Cx} {e : Expr} {t t' : TE} (h : PE X e t) (m : ∀ σ H Q, t' σ H Q → t σ H Q) : PE X e t' := ⟨fun pins s σ H Q I q => h.run pins s σ H Q I (m σ H Q q)⟩
theorem _root_.L2.PT.imp3 {X : Cx} {e : Expr} {t t' : TT} (h : PT X e t) (m : ∀ σ H Q, t' σ H Q → t σ H Q) : PT X e t' := ⟨fun pins s σ H Q I q => h.run pins s σ H Q I (m σ H Q q)⟩
theorem _root_.L2.PW.imp3 {X : Cx} {e : Expr} {t t' : TT} (h : PW X e t) (m : ∀ σ H Q, t' σ H Q → t σ H Q) : PW X e t' := ⟨fun w pins s σ H Q I q => h.run w pins s σ H Q I (m σ H Q q)⟩
theorem _root_.L2.PTs.imp3 {X : Cx} {e : List Expr} {t t' : TT} (h : PTs X e t) (m : ∀ σ H Q, t' σ H Q → t σ H Q) : PTs X e t' := ⟨fun pins s σ H Q I q => h.run pins s σ H Q I (m σ H Q q)⟩
theorem _root_.L2.PA.imp3 {X : Cx} {e : List Expr} {t t' : TA} (h : PA X e t) (m : ∀ σ H Q, t' σ H Q → t σ H Q) : PA X e t' := ⟨fun pos pins s σ H Q I q => h.run pos pins s σ H Q I (m σ H Q q)⟩
theorem _root_.L2.PS.imp3 {X : Cx} {e : Stmt} {t t' : TS} (h : PS X e t) (m : ∀ D σ H, t' D σ H → t D σ H) : PS X e t' := ⟨fun pins s σ H D I q => h.run pins s σ H D I (m D σ H q)⟩
theorem _root_.L2.PSs.imp3 {X : Cx} {e : List Stmt} {t t' : TS} (h : PSs X e t) (m : ∀ D σ H, t' D σ H → t D σ H) : PSs X e t' := ⟨fun pins s σ H D I q => h.run pins s σ H D I (m D σ H q)⟩
theorem _root_.L2.PE.or3 {X : Cx} {e : Expr} {t t' : TE} (h : PE X e t) (h' : PE X e t') : PE X e (fun σ H Q => t σ H Q ∨ t' σ H Q) := ⟨fun pins s σ H Q I q => q.elim (h.run pins s σ H Q I) (h'.run pins s σ H Q I)⟩

section
variable {X : Cx} {Wx : WX}
/-! ### names, constants -/
def v3 (i : Nat) : TE3 := fun σ G Q _ => match getS σ i with
  | some d => Q d G
  | none => False
def c3 (d : D) : TE3 := fun _ G Q _ => Q d G
theorem e_var {e : Expr} {i : Nat} (h : PE X e (tVar i)) : PE X e (lowE X.K Wx (v3 i)) := by
  refine h.imp3 ?_
  rintro σ H Q ⟨σ3, W, G, Q3, E3, R, S, h, q, e⟩
  unfold v3 at h
  cases hd : getS σ3 i with
  | none => rw [hd] at h; exact h.elim
  | some d =>
    rw [hd] at h
    obtain ⟨v, e1, r⟩ := R.get i d hd
    exact ⟨v, e1, q.run _ _ _ _ _ (.refl _) S r h⟩
theorem e_c {e : Expr} {d : D} {v : V} (h : PE X e (tC v)) (r : ∀ W, Rl W d v) : PE X e (lowE X.K Wx (c3 d)) := by
  refine h.imp3 ?_
  rintro σ H Q ⟨σ3, W, G, Q3, E3, R, S, h, q, e⟩
  exact q.run _ _ _ _ _ (.refl _) S (r W) h
theorem e_int {i j pos} : PE X (.Constant (.int i) j pos) (lowE X.K Wx (c3 (.int i))) := e_c pe_int fun _ => rfl
theorem e_bl {i j pos} : PE X (.Constant (.bool i) j pos) (lowE X.K Wx (c3 (.bl i))) := e_c pe_bl fun _ => rfl
theorem e_non {j pos} : PE X (.Constant .none j pos) (lowE X.K Wx (c3 .non)) := e_c pe_non fun _ => rfl
theorem e_str {x j pos} : PE X (.Constant (.str x) j pos) (lowE X.K Wx (c3 (.str x))) := e_c pe_str fun _ => rfl

/-! ### two values -/
abbrev R3 := D → D → G3 → VK3 → Prop
def op3 (r : R3) (ta tb : TE3) : TE3 := fun σ G Q E => ta σ G (fun x G1 => tb σ G1 (fun y G2 => r x y G2 Q) E) E
def OpL (K : PySem.W.Frag) (r3 : R3) (r : R2) : Prop := ∀ W x y G Q3 x' y' H (Q : VK), Sim K W G H → Rl W x x' → Rl W y y' → r3 x y G Q3 → OkQ K W Q3 Q → r x' y' H Q
theorem low_op {K : PySem.W.Frag} {r3 : R3} {r : R2} {ta tb : TE3} (hl : OpL K r3 r) {σ : St} {H : Hp} {Q : VK} : lowE K Wx (op3 r3 ta tb) σ H Q → tOp r (lowE K Wx ta) (lowE K Wx tb) σ H Q := by
  rintro ⟨σ3, W, G, Q3, E3, R, S, h, q, e⟩
  refine ⟨σ3, W, G, _, E3, R, S, h, ⟨fun W1 x G1 x' H1 l1 S1 r1 h1 => ?_⟩, e⟩
  refine ⟨σ3, W1, G1, _, E3, R.mono l1, S1, h1, ⟨fun W2 y G2 y' H2 l2 S2 r2 h2 => ?_⟩, e.mono l1⟩
  exact hl _ _ _ _ _ _ _ _ _ S2 (r1.mono l2) r2 h2 (q.mono (l1.trans l2))
variable {a b e : Expr} {ta tb te : TE3} {pos : Pos}
theorem e_op {op : Operator} {r3 : R3} {r : R2} (ho : OpR X (binaryOp op) r) (hl : OpL X.K r3 r) (ha : PE X a (lowE X.K Wx ta)) (hb : PE X b (lowE X.K Wx tb)) : PE X (.BinOp a op b pos) (lowE X.K Wx (op3 r3 ta tb)) :=
  (pe_op ho ha hb).imp3 fun _ _ _ => low_op hl
theorem e_cmp {op : CmpOp} {r3 : R3} {r : R2} (ho : OpR X (compareOp op) r) (hl : OpL X.K r3 r) (hm : behindInMarks op b = false) (ha : PE X a (lowE X.K Wx ta)) (hb : PE X b (lowE X.K Wx tb)) : PE X (.Compare a [op] [b] pos) (lowE X.K Wx (op3 r3 ta tb)) :=
  (pe_cmpR ho ha hb hm).imp3 fun _ _ _ => low_op hl
/-- a value that is a truth value, as a test -/
def t3 (te : TE3) : TT3 := fun σ G Q E => te σ G (fun x G1 => match x with
  | .bl b => Q b G1
  | _ => False) E
theorem low_t {K : PySem.W.Frag} {te : TE3} {σ : St} {H : Hp} {Q : Bool → Hp → Prop} : lowT K Wx (t3 te) σ H Q → tTest (lowE K Wx te) σ H Q := by
  rintro ⟨σ3, W, G, Q3, E3, R, S, h, q, e⟩
  refine ⟨σ3, W, G, _, E3, R, S, h, ⟨fun W1 x G1 x' H1 l1 S1 r1 h1 => ?_⟩, e⟩
  cases x with
  | bl b => cases r1; exact ⟨b, rfl, q.run _ _ _ _ l1 S1 h1⟩
  | _ => exact h1.elim
theorem t_cmp {op : CmpOp} {r3 : R3} {r : R2} (ho : OpR X (compareOp op) r) (hl : OpL X.K r3 r) (hm : behindInMarks op b = false) (ha : PE X a (lowE X.K Wx ta)) (hb : PE X b (lowE X.K Wx tb)) : PT X (.Compare a [op] [b] pos) (lowT X.K Wx (t3 (op3 r3 ta tb))) := by
  refine (pt_cmpR ho ha hb hm).imp3 fun σ H Q h => ?_
  obtain ⟨σ3, W, G, Q3, E3, R, S, h, q, e⟩ := low_t h
  exact low_op hl ⟨σ3, W, G, Q3, E3, R, S, h, q, e⟩
theorem t_val (h : PE X e (lowE X.K Wx te)) (he : ∀ whole, isTrue e X.env whole = (do let v ← whole; standAt e.pos; holding [v] (truthy v)) := by intro _; rfl) : PT X e (lowT X.K Wx (t3 te)) :=
  (pt_val h he).imp3 fun _ _ _ h => low_t h
/-! ### and, or, not -/
def and3 (t u : TT3) : TT3 := fun σ G Q E => t σ G (fun c G1 => if c = true then u σ G1 Q E else Q false G1) E
def or3 (t u : TT3) : TT3 := fun σ G Q E => t σ G (fun c G1 => if c = true then Q true G1 else u σ G1 Q E) E
def not3 (t : TT3) : TT3 := fun σ G Q E => t σ G (fun c G1 => Q (!c) G1) E
variable {tA tB : TT3} {rest : List Expr}
theorem w_one (ha : PT X a (lowT X.K Wx tA)) : PW X (.BoolOp .And [a] pos) (lowT X.K Wx tA) := pw_and1 ha
theorem w_one' (ha : PT X a (lowT X.K Wx tA)) : PW X (.BoolOp .Or [a] pos) (lowT X.K Wx tA) := pw_or1 ha
theorem w_and (ha : PT X a (lowT X.K Wx tA)) (hb : PW X (.BoolOp .And (b :: rest) pos) (lowT X.K Wx tB)) : PW X (.BoolOp .And (a :: b :: rest) pos) (lowT X.K Wx (and3 tA tB)) := by
  refine (pw_and ha hb).imp3 ?_
  rintro σ H Q ⟨σ3, W, G, Q3, E3, R, S, h, q, e⟩
  refine ⟨σ3, W, G, _, E3, R, S, h, ⟨fun W1 c G1 H1 l1 S1 h1 => ?_⟩, e⟩
  cases c with
  | true => rw [if_pos rfl] at h1 ⊢; exact ⟨σ3, W1, G1, Q3, E3, R.mono l1, S1, h1, q.mono l1, e.mono l1⟩
  | false => rw [if_neg Bool.false_ne_true] at h1 ⊢; exact q.run _ _ _ _ l1 S1 h1
theorem w_or (ha : PT X a (lowT X.K Wx tA)) (hb : PW X (.BoolOp .Or (b :: rest) pos) (lowT X.K Wx tB)) : PW X (.BoolOp .Or (a :: b :: rest) pos) (lowT X.K Wx (or3 tA tB)) := by
  refine (pw_or ha hb).imp3 ?_
  rintro σ H Q ⟨σ3, W, G, Q3, E3, R, S, h, q, e⟩
  refine ⟨σ3, W, G, _, E3, R, S, h, ⟨fun W1 c G1 H1 l1 S1 h1 => ?_⟩, e⟩
  cases c with
  | true => rw [if_pos rfl] at h1 ⊢; exact q.run _ _ _ _ l1 S1 h1
  | false => rw [if_neg Bool.false_ne_true] at h1 ⊢; exact ⟨σ3, W1, G1, Q3, E3, R.mono l1, S1, h1, q.mono l1, e.mono l1⟩
theorem t_not (ha : PT X a (lowT X.K Wx tA)) : PT X (.UnaryOp .Not a pos) (lowT X.K Wx (not3 tA)) := by
  refine (pt_not ha).imp3 ?_
  rintro σ H Q ⟨σ3, W, G, Q3, E3, R, S, h, q, e⟩
  exact ⟨σ3, W, G, _, E3, R, S, h, ⟨fun W1 c G1 H1 l1 S1 h1 => q.run _ _ _ _ l1 S1 h1⟩, e⟩
def andV3 (ta tb : TE3) : TE3 := fun σ G Q E => ta σ G (fun x G1 => match x with
  | .bl c => if c = true then tb σ G1 Q E else Q (.bl false) G1
  | _ => False) E
def orV3 (ta tb : TE3) : TE3 := fun σ G Q E => ta σ G (fun x G1 => match x with
  | .bl c => if c = true then Q (.bl true) G1 else tb σ G1 Q E
  | _ => False) E
def notV3 (ta : TE3) : TE3 := fun σ G Q E => ta σ G (fun x G1 => match x with
  | .bl c => Q (.bl (!c)) G1
  | _ => False) E
theorem e_one {op} (h : PE X a (lowE X.K Wx ta)) : PE X (.BoolOp op [a] pos) (lowE X.K Wx ta) := pe_one h
theorem e_and (ha : PE X a (lowE X.K Wx ta)) (hb : PE X (.BoolOp .And (b :: rest) pos) (lowE X.K Wx tb)) : PE X (.BoolOp .And (a :: b :: rest) pos) (lowE X.K Wx (andV3 ta tb)) := by
  refine (pe_and ha hb).imp3 ?_
  rintro σ H Q ⟨σ3, W, G, Q3, E3, R, S, h, q, e⟩
  refine ⟨σ3, W, G, _, E3, R, S, h, ⟨fun W1 x G1 x' H1 l1 S1 r1 h1 => ?_⟩, e⟩
  cases x with
  | bl c =>
    cases r1
    refine ⟨c, rfl, ?_⟩
    cases c with
    | true => exact ⟨σ3, W1, G1, Q3, E3, R.mono l1, S1, h1, q.mono l1, e.mono l1⟩
    | false => exact q.run _ (.bl false) _ _ _ l1 S1 rfl h1
  | _ => exact h1.elim
theorem e_or (ha : PE X a (lowE X.K Wx ta)) (hb : PE X (.BoolOp .Or (b :: rest) pos) (lowE X.K Wx tb)) : PE X (.BoolOp .Or (a :: b :: rest) pos) (lowE X.K Wx (orV3 ta tb)) := by
  refine (pe_or ha hb).imp3 ?_
  rintro σ H Q ⟨σ3, W, G, Q3, E3, R, S, h, q, e⟩
  refine ⟨σ3, W, G, _, E3, R, S, h, ⟨fun W1 x G1 x' H1 l1 S1 r1 h1 => ?_⟩, e⟩
  cases x with
  | bl c =>
    cases r1
    refine ⟨c, rfl, ?_⟩
    cases c with
    | true => exact q.run _ (.bl true) _ _ _ l1 S1 rfl h1
    | false => exact ⟨σ3, W1, G1, Q3, E3, R.mono l1, S1, h1, q.mono l1, e.mono l1⟩
  | _ => exact h1.elim
theorem e_not (ha : PE X a (lowE X.K Wx ta)) : PE X (.UnaryOp .Not a pos) (lowE X.K Wx (notV3 ta)) := by
  refine (pe_not ha).imp3 ?_
  rintro σ H Q ⟨σ3, W, G, Q3, E3, R, S, h, q, e⟩
  refine ⟨σ3, W, G, _, E3, R, S, h, ⟨fun W1 x G1 x' H1 l1 S1 r1 h1 => ?_⟩, e⟩
  cases x with
  | bl c => cases r1; exact ⟨c, rfl, q.run _ (.bl (!c)) _ _ _ l1 S1 rfl h1⟩
  | _ => exact h1.elim
/-! ### one value -/
abbrev U3 := D → G3 → VK3 → Prop
def un3 (r : U3) (ta : TE3) : TE3 := fun σ G Q E => ta σ G (fun x G1 => r x G1 Q) E
def UnL (K : PySem.W.Frag) (r3 : U3) (r : V → Hp → VK → Prop) : Prop := ∀ W x G Q3 x' H (Q : VK), Sim K W G H → Rl W x x' → r3 x G Q3 → OkQ K W Q3 Q → r x' H Q
theorem e_un {op : UnaryOp} {r3 : U3} {r : V → Hp → VK → Prop} (ho : UnR X (unaryOp op) r) (hl : UnL X.K r3 r) (ha : PE X a (lowE X.K Wx ta)) : PE X (.UnaryOp op a pos) (lowE X.K Wx (un3 r3 ta)) := by
  refine (pe_un ho ha).imp3 ?_
  rintro σ H Q ⟨σ3, W, G, Q3, E3, R, S, h, q, e⟩
  exact ⟨σ3, W, G, _, E3, R, S, h, ⟨fun W1 x G1 x' H1 l1 S1 r1 h1 => hl _ _ _ _ _ _ _ S1 r1 h1 (q.mono l1)⟩, e⟩
/-! ### arguments -/
def nil3 : TA3 := fun _ G Q _ => Q [] G
def cons3 (ta : TE3) (tr : TA3) : TA3 := fun σ G Q E => ta σ G (fun x G1 => tr σ G1 (fun xs G2 => Q (x :: xs) G2) E) E
variable {es : List Expr} {tr : TA3}
theorem a_nil : PA X [] (lowA X.K Wx nil3) := by
  refine pa_nil.imp3 ?_
  rintro σ H Q ⟨σ3, W, G, Q3, E3, R, S, h, q, e⟩
  exact q.run _ [] _ _ _ (.refl _) S rfl h
theorem a_cons (ha : PE X e (lowE X.K Wx te)) (hr : PA X es (lowA X.K Wx tr)) (hs : starEach (e :: es) X.env = (false, eval e X.env) :: starEach es X.env := by rfl) : PA X (e :: es) (lowA X.K Wx (cons3 te tr)) := by
  refine (pa_cons ha hr hs).imp3 ?_
  rintro σ H Q ⟨σ3, W, G, Q3, E3, R, S, h, q, e⟩
  refine ⟨σ3, W, G, _, E3, R, S, h, ⟨fun W1 x G1 x' H1 l1 S1 r1 h1 => ?_⟩, e⟩
  refine ⟨σ3, W1, G1, _, E3, R.mono l1, S1, h1, ⟨fun W2 xs G2 vs H2 l2 S2 r2 h2 => ?_⟩, e.mono l1⟩
  exact q.run _ (x :: xs) _ _ _ (l1.trans l2) S2 ⟨x', vs, rfl, r1.mono l2, r2⟩ h2
/-! ### displays -/
def tup3 (ta : TA3) : TE3 := fun σ G Q E => ta σ G (fun xs G1 => xs.length ≤ sizeLine ∧ Q (.tup xs) G1) E
/-- a list that stays as it is -/
def lst3 (ta : TA3) : TE3 := fun σ G Q E => ta σ G (fun xs G1 => xs.length ≤ sizeLine ∧ Q (.lst xs) G1) E
/-- a list that will change -/
def lstO3 (ta : TA3) : TE3 := fun σ G Q E => ta σ G (fun xs G1 => xs.length ≤ sizeLine ∧ ∀ p, Q (.ref p) ((p, .lst xs) :: G1)) E
theorem e_tup {x1} (h : PA X es (lowA X.K Wx tr)) : PE X (.Tuple es x1 pos) (lowE X.K Wx (tup3 tr)) := by
  refine (pe_tup h).imp3 ?_
  rintro σ H Q ⟨σ3, W, G, Q3, E3, R, S, h, q, e⟩
  refine ⟨σ3, W, G, _, E3, R, S, h, ⟨fun W1 xs G1 vs H1 l1 S1 r1 h1 => ⟨by rw [← r1.length]; exact h1.1, fun p hp => ?_⟩⟩, e⟩
  obtain ⟨W2, l2, S2, r2⟩ := S1.newT hp r1
  exact q.run _ _ _ _ _ (l1.trans l2) S2 r2 h1.2
theorem e_lst (h : PA X es (lowA X.K Wx tr)) : PE X (.List es pos) (lowE X.K Wx (lst3 tr)) := by
  refine (pe_lst h).imp3 ?_
  rintro σ H Q ⟨σ3, W, G, Q3, E3, R, S, h, q, e⟩
  refine ⟨σ3, W, G, _, E3, R, S, h, ⟨fun W1 xs G1 vs H1 l1 S1 r1 h1 => ⟨by rw [← r1.length]; exact h1.1, fun p hp => ?_⟩⟩, e⟩
  obtain ⟨W2, l2, S2, r2⟩ := S1.newL hp r1
  exact q.run _ _ _ _ _ (l1.trans l2) S2 r2 h1.2
theorem e_lstO (h : PA X es (lowA X.K Wx tr)) : PE X (.List es pos) (lowE X.K Wx (lstO3 tr)) := by
  refine (pe_lst h).imp3 ?_
  rintro σ H Q ⟨σ3, W, G, Q3, E3, R, S, h, q, e⟩
  refine ⟨σ3, W, G, _, E3, R, S, h, ⟨fun W1 xs G1 vs H1 l1 S1 r1 h1 => ⟨by rw [← r1.length]; exact h1.1, fun p hp => ?_⟩⟩, e⟩
  exact q.run _ (.ref p) _ _ _ l1 (S1.newO (o := .lst xs) hp ⟨vs, upd_same, r1⟩) rfl (h1.2 p)
end
end T3

namespace T3
open PySem L2
/-- how many bits, less one -/
def bl (x : Int) : Nat := x.natAbs.log2
/-- * of two factors of together less than a hundred million bits -/
def CMulX (i j : Int) : Prop := bl i + bl j < 100000000
theorem CMulX.ok {i j : Int} (h : CMulX i j) : IntMulOk i j := by
  have b : ∀ x : Int, Builtin.Int.intBits x ≤ x.natAbs.log2 + 1 := fun x => by
    unfold Builtin.Int.intBits
    split <;> omega
  have h1 := b i
  have h2 := b j
  have h3 : i.natAbs.log2 + j.natAbs.log2 < 100000000 := h
  have e : bitsLine = 134217728 := by decide
  unfold IntMulOk
  intro z
  rw [Bool.and_eq_true] at z
  have z2 := z.2
  unfold Builtin.Int.intTooBig at z2
  have z3 := of_decide_eq_true z2
  rw [e] at z3
  omega
theorem op_mulX {X : Cx} : OpR X (binaryOp .Mult) (rI CMulX fun i j => .int (i * j)) := opI fun _ _ _ _ _ _ _ hc q => PyProof.Rows.mul_int q hc.ok
theorem bl_lt {x : Int} {n : Nat} (h : x.natAbs < 2 ^ (n + 1)) : bl x ≤ n := by
  unfold bl
  by_cases h0 : x.natAbs = 0
  · rw [h0]; simp
  · exact Nat.le_of_lt_succ ((Nat.log2_lt h0).mpr h)
theorem lt_bl (x : Int) : x.natAbs < 2 ^ (bl x + 1) := Nat.lt_log2_self
theorem bl_mul (x y : Int) : bl (x * y) ≤ bl x + bl y + 1 := by
  refine bl_lt ?_
  rw [Int.natAbs_mul]
  have := Nat.mul_lt_mul'' (lt_bl x) (lt_bl y)
  rw [← Nat.pow_add] at this
  refine Nat.lt_of_lt_of_le this (Nat.pow_le_pow_right (by decide) (by omega))
theorem bl_add (x y : Int) : bl (x + y) ≤ max (bl x) (bl y) + 1 := by
  refine bl_lt ?_
  have h1 := Nat.lt_of_lt_of_le (lt_bl x) (Nat.pow_le_pow_right (n := 2) (by decide) (Nat.succ_le_succ (Nat.le_max_left (bl x) (bl y))))
  have h2 := Nat.lt_of_lt_of_le (lt_bl y) (Nat.pow_le_pow_right (n := 2) (by decide) (Nat.succ_le_succ (Nat.le_max_right (bl x) (bl y))))
  have h3 := Int.natAbs_add_le x y
  have e : 2 ^ (max (bl x) (bl y) + 1 + 1) = 2 * 2 ^ (max (bl x) (bl y) + 1) := by rw [Nat.pow_succ 2 (max (bl x) (bl y) + 1)]; omega
  show (x + y).natAbs < 2 ^ (max (bl x) (bl y) + 1 + 1)
  rw [e]
  omega
theorem bl_neg (x : Int) : bl (-x) = bl x := by unfold bl; rw [Int.natAbs_neg]
theorem bl_sub (x y : Int) : bl (x - y) ≤ max (bl x) (bl y) + 1 := by
  have := bl_add x (-y)
  rw [bl_neg] at this
  rw [Int.sub_eq_add_neg]; exact this
theorem bl_mono {x y : Int} (h0 : 0 ≤ x) (h : x ≤ y) : bl x ≤ bl y := by
  refine bl_lt ?_
  have := lt_bl y
  omega
theorem mul_ok {i j : Int} {a b : Nat} (ha : bl i ≤ a) (hb : bl j ≤ b) (h : a + b < 100000000 := by omega) : CMulX i j := by unfold CMulX; omega
section
variable {X : Cx} {Wx : WX}
/-! ### arithmetic -/
def add3 : R3 := fun x y G Q => match x, y with
  | .int i, .int j => Q (.int (i + j)) G
  | .str s, .str t => s.length + t.length ≤ sizeLine ∧ Q (.str (s ++ t)) G
  | .lst a, .lst b => a.length + b.length ≤ sizeLine ∧ Q (.lst (a ++ b)) G
  | .tup a, .tup b => a ≠ [] ∧ a.length + b.length ≤ sizeLine ∧ Q (.tup (a ++ b)) G
  | _, _ => False
def sub3 : R3 := fun x y G Q => match x, y with
  | .int i, .int j => Q (.int (i - j)) G
  | _, _ => False
def mul3 : R3 := fun x y G Q => match x, y with
  | .int i, .int j => CMulX i j ∧ Q (.int (i * j)) G
  | .lst a, .int k => (0 ≤ k ∧ k < 2 ^ 63 ∧ a.length * k.toNat ≤ sizeLine) ∧ Q (.lst (List.replicate k.toNat a).flatten) G
  | _, _ => False
def fdiv3 : R3 := fun x y G Q => match x, y with
  | .int i, .int j => CDivW i j ∧ Q (.int (i / j)) G
  | _, _ => False
def mod3 : R3 := fun x y G Q => match x, y with
  | .int i, .int j => 0 < j ∧ Q (.int (i % j)) G
  | _, _ => False
def pow3 : R3 := fun x y G Q => match x, y with
  | .int i, .int j => CPow i j ∧ Q (.int (i ^ j.toNat)) G
  | _, _ => False
theorem RlL.nil_iff {W : Wd} {ds : List D} {vs : List V} (h : RlL W ds vs) : ds = [] ↔ vs = [] := by
  have := h.length
  constructor
  · rintro rfl; exact List.length_eq_zero_iff.mp this.symm
  · rintro rfl; exact List.length_eq_zero_iff.mp this
theorem RlL.rep {W : Wd} {ds : List D} {vs : List V} (h : RlL W ds vs) : ∀ n : Nat, RlL W (List.replicate n ds).flatten (List.replicate n vs).flatten
  | 0 => rfl
  | n + 1 => by rw [List.replicate_succ, List.replicate_succ]; exact h.append (h.rep n)
theorem opl_add {K : PySem.W.Frag} : OpL K add3 (fun x y H Q => rI0 (fun i j => .int (i + j)) x y H Q ∨ ((∃ i j, x = .str i ∧ y = .str j ∧ i.length + j.length ≤ sizeLine ∧ Q (.str (i ++ j)) H) ∨ (rCat x y H Q ∨ rCatT K x y H Q))) := by
  intro W x y G Q3 x' y' H Q S rx ry h q
  cases x with
  | int i =>
    cases y with
    | int j => cases rx; cases ry; exact .inl ⟨i, j, rfl, rfl, q.run _ (.int (i + j)) _ _ _ (.refl _) S rfl h⟩
    | _ => exact h.elim
  | str i =>
    cases y with
    | str j => cases rx; cases ry; exact .inr (.inl ⟨i, j, rfl, rfl, h.1, q.run _ (.str (i ++ j)) _ _ _ (.refl _) S rfl h.2⟩)
    | _ => exact h.elim
  | lst a =>
    cases y with
    | lst b =>
      obtain ⟨p1, vs, rfl, l1, r1⟩ := rx
      obtain ⟨p2, us, rfl, l2, r2⟩ := ry
      refine .inr (.inr (.inl ⟨p1, p2, vs, us, rfl, rfl, (S.fl _ _ l1).2, (S.fl _ _ l2).2, by rw [← r1.length, ← r2.length]; exact h.1, fun p hp => ?_⟩))
      obtain ⟨W2, l, S2, r⟩ := S.newL hp (r1.append r2)
      exact q.run _ _ _ _ _ l S2 r h.2
    | _ => exact h.elim
  | tup a =>
    cases y with
    | tup b =>
      obtain ⟨p1, vs, rfl, l1, r1⟩ := rx
      obtain ⟨p2, us, rfl, l2, r2⟩ := ry
      refine .inr (.inr (.inr ⟨p1, p2, vs, us, rfl, rfl, S.ft _ _ l1, S.ft _ _ l2, fun e => h.1 (r1.nil_iff.mpr e), by rw [← r1.length, ← r2.length]; exact h.2.1, fun e => ?_, fun _ p hp => ?_⟩))
      · have e2 := r2.nil_iff.mpr e
        subst e2
        have h2 := h.2.2
        rw [List.append_nil] at h2
        exact q.run _ _ _ _ _ (.refl _) S (show Rl W (.tup a) (.ref p1) from ⟨p1, vs, rfl, l1, r1⟩) h2
      · obtain ⟨W2, l, S2, r⟩ := S.newT hp (r1.append r2)
        exact q.run _ _ _ _ _ l S2 r h.2.2
    | _ => exact h.elim
  | _ => exact h.elim
/-- an operator on ints alone -/
theorem opl_int {K : PySem.W.Frag} {C : Int → Int → Prop} {g : Int → Int → V} {g3 : Int → Int → D} {r3 : R3} (hg : ∀ W i j, Rl W (g3 i j) (g i j)) (h3 : ∀ x y G Q, r3 x y G Q → ∃ i j, x = .int i ∧ y = .int j ∧ C i j ∧ Q (g3 i j) G) : OpL K r3 (rI C g) := by
  intro W x y G Q3 x' y' H Q S rx ry h q
  obtain ⟨i, j, rfl, rfl, c, h'⟩ := h3 _ _ _ _ h
  cases rx; cases ry
  exact ⟨i, j, rfl, rfl, c, q.run _ _ _ _ _ (.refl _) S (hg W i j) h'⟩
theorem opl_int0 {K : PySem.W.Frag} {g : Int → Int → V} {g3 : Int → Int → D} {r3 : R3} (hg : ∀ W i j, Rl W (g3 i j) (g i j)) (h3 : ∀ x y G Q, r3 x y G Q → ∃ i j, x = .int i ∧ y = .int j ∧ Q (g3 i j) G) : OpL K r3 (rI0 g) := by
  intro W x y G Q3 x' y' H Q S rx ry h q
  obtain ⟨i, j, rfl, rfl, h'⟩ := h3 _ _ _ _ h
  cases rx; cases ry
  exact ⟨i, j, rfl, rfl, q.run _ _ _ _ _ (.refl _) S (hg W i j) h'⟩
theorem opl_mul {K : PySem.W.Frag} : OpL K mul3 (fun x y H Q => rI CMulX (fun i j => .int (i * j)) x y H Q ∨ rRep x y H Q) := by
  intro W x y G Q3 x' y' H Q S rx ry h q
  cases x with
  | int i =>
    cases y with
    | int j => cases rx; cases ry; exact .inl ⟨i, j, rfl, rfl, h.1, q.run _ (.int (i * j)) _ _ _ (.refl _) S rfl h.2⟩
    | _ => exact h.elim
  | lst a =>
    cases y with
    | int k =>
      obtain ⟨p1, vs, rfl, l1, r1⟩ := rx
      cases ry
      refine .inr ⟨p1, k, vs, rfl, rfl, (S.fl _ _ l1).2, by have := h.1.1; omega, h.1.2.1, by rw [← r1.length]; exact h.1.2.2, fun p hp => ?_⟩
      obtain ⟨W2, l, S2, r⟩ := S.newL hp (r1.rep k.toNat)
      exact q.run _ _ _ _ _ l S2 r h.2
    | _ => exact h.elim
  | _ => exact h.elim
section
variable {a b e : Expr} {ta tb te : TE3} {pos : Pos}
theorem e_add (ha : PE X a (lowE X.K Wx ta)) (hb : PE X b (lowE X.K Wx tb)) : PE X (.BinOp a .Add b pos) (lowE X.K Wx (op3 add3 ta tb)) := e_op (op_add.or (op_add_str.or (op_cat.or op_catT))) opl_add ha hb
theorem e_sub (ha : PE X a (lowE X.K Wx ta)) (hb : PE X b (lowE X.K Wx tb)) : PE X (.BinOp a .Sub b pos) (lowE X.K Wx (op3 sub3 ta tb)) :=
  e_op op_sub (opl_int0 (g3 := fun i j => .int (i - j)) (fun _ _ _ => rfl) fun x y G Q h => by cases x with | int i => (cases y with | int j => exact ⟨i, j, rfl, rfl, h⟩ | _ => exact h.elim) | _ => exact h.elim) ha hb
theorem e_mul (ha : PE X a (lowE X.K Wx ta)) (hb : PE X b (lowE X.K Wx tb)) : PE X (.BinOp a .Mult b pos) (lowE X.K Wx (op3 mul3 ta tb)) := e_op (op_mulX.or op_rep) opl_mul ha hb
theorem e_fdiv (ha : PE X a (lowE X.K Wx ta)) (hb : PE X b (lowE X.K Wx tb)) : PE X (.BinOp a .FloorDiv b pos) (lowE X.K Wx (op3 fdiv3 ta tb)) :=
  e_op op_fdivW (opl_int (g3 := fun i j => .int (i / j)) (fun _ _ _ => rfl) fun x y G Q h => by cases x with | int i => (cases y with | int j => exact ⟨i, j, rfl, rfl, h.1, h.2⟩ | _ => exact h.elim) | _ => exact h.elim) ha hb
theorem e_mod (ha : PE X a (lowE X.K Wx ta)) (hb : PE X b (lowE X.K Wx tb)) : PE X (.BinOp a .Mod b pos) (lowE X.K Wx (op3 mod3 ta tb)) :=
  e_op op_mod (opl_int (g3 := fun i j => .int (i % j)) (fun _ _ _ => rfl) fun x y G Q h => by cases x with | int i => (cases y with | int j => exact ⟨i, j, rfl, rfl, h.1, h.2⟩ | _ => exact h.elim) | _ => exact h.elim) ha hb
theorem e_pow (ha : PE X a (lowE X.K Wx ta)) (hb : PE X b (lowE X.K Wx tb)) : PE X (.BinOp a .Pow b pos) (lowE X.K Wx (op3 pow3 ta tb)) :=
  e_op op_pow (opl_int (g3 := fun i j => .int (i ^ j.toNat)) (fun _ _ _ => rfl) fun x y G Q h => by cases x with | int i => (cases y with | int j => exact ⟨i, j, rfl, rfl, h.1, h.2⟩ | _ => exact h.elim) | _ => exact h.elim) ha hb
def neg3 : U3 := fun x G Q => match x with
  | .int i => Q (.int (-i)) G
  | _ => False
theorem e_neg (ha : PE X a (lowE X.K Wx ta)) : PE X (.UnaryOp .USub a pos) (lowE X.K Wx (un3 neg3 ta)) := e_un un_neg (fun W x G Q3 x' H Q S rx h q => by
  cases x with
  | int i => cases rx; exact ⟨i, rfl, q.run _ (.int (-i)) _ _ _ (.refl _) S rfl h⟩
  | _ => exact h.elim) ha
/-! ### comparisons of ints -/
def cmp3 (p : Int → Int → Bool) : R3 := fun x y G Q => match x, y with
  | .int i, .int j => Q (.bl (p i j)) G
  | _, _ => False
theorem opl_cmp {K : PySem.W.Frag} {p : Int → Int → Bool} : OpL K (cmp3 p) (rI0 fun i j => .bl (p i j)) :=
  opl_int0 (g3 := fun i j => .bl (p i j)) (fun _ _ _ => rfl) fun x y G Q h => by cases x with | int i => (cases y with | int j => exact ⟨i, j, rfl, rfl, h⟩ | _ => exact h.elim) | _ => exact h.elim
abbrev lt3 : R3 := cmp3 fun i j => decide (i < j)
abbrev le3 : R3 := cmp3 fun i j => decide (i ≤ j)
abbrev gt3 : R3 := cmp3 fun i j => decide (j < i)
abbrev ge3 : R3 := cmp3 fun i j => decide (j ≤ i)
theorem e_lt (ha : PE X a (lowE X.K Wx ta)) (hb : PE X b (lowE X.K Wx tb)) : PE X (.Compare a [.Lt] [b] pos) (lowE X.K Wx (op3 lt3 ta tb)) := e_cmp op_lt opl_cmp (nomark _) ha hb
theorem e_le (ha : PE X a (lowE X.K Wx ta)) (hb : PE X b (lowE X.K Wx tb)) : PE X (.Compare a [.LtE] [b] pos) (lowE X.K Wx (op3 le3 ta tb)) := e_cmp op_le opl_cmp (nomark _) ha hb
theorem e_gt (ha : PE X a (lowE X.K Wx ta)) (hb : PE X b (lowE X.K Wx tb)) : PE X (.Compare a [.Gt] [b] pos) (lowE X.K Wx (op3 gt3 ta tb)) := e_cmp op_gt opl_cmp (nomark _) ha hb
theorem e_ge (ha : PE X a (lowE X.K Wx ta)) (hb : PE X b (lowE X.K Wx tb)) : PE X (.Compare a [.GtE] [b] pos) (lowE X.K Wx (op3 ge3 ta tb)) := e_cmp op_ge opl_cmp (nomark _) ha hb
theorem t_lt (ha : PE X a (lowE X.K Wx ta)) (hb : PE X b (lowE X.K Wx tb)) : PT X (.Compare a [.Lt] [b] pos) (lowT X.K Wx (t3 (op3 lt3 ta tb))) := t_cmp op_lt opl_cmp (nomark _) ha hb
theorem t_le (ha : PE X a (lowE X.K Wx ta)) (hb : PE X b (lowE X.K Wx tb)) : PT X (.Compare a [.LtE] [b] pos) (lowT X.K Wx (t3 (op3 le3 ta tb))) := t_cmp op_le opl_cmp (nomark _) ha hb
theorem t_gt (ha : PE X a (lowE X.K Wx ta)) (hb : PE X b (lowE X.K Wx tb)) : PT X (.Compare a [.Gt] [b] pos) (lowT X.K Wx (t3 (op3 gt3 ta tb))) := t_cmp op_gt opl_cmp (nomark _) ha hb
theorem t_ge (ha : PE X a (lowE X.K Wx ta)) (hb : PE X b (lowE X.K Wx tb)) : PT X (.Compare a [.GtE] [b] pos) (lowT X.K Wx (t3 (op3 ge3 ta tb))) := t_cmp op_ge opl_cmp (nomark _) ha hb
end
/-! ### ==, != -/
mutual
def beqD : D → D → Bool
  | .non, .non => true
  | .bl a, .bl b => a == b
  | .int a, .int b => decide (a = b)
  | .str a, .str b => decide (a = b)
  | .tup a, .tup b => beqL a b
  | .lst a, .lst b => beqL a b
  | _, _ => false
def beqL : List D → List D → Bool
  | [], [] => true
  | x :: xs, y :: ys => beqD x y && beqL xs ys
  | _, _ => false
end
mutual
/-- no bools, no places -/
def plain : D → Bool
  | .non => true
  | .int _ => true
  | .str s => PySem.PyData.strOk s
  | .tup ds => plainL ds
  | .lst ds => plainL ds
  | _ => false
def plainL : List D → Bool
  | [] => true
  | d :: ds => plain d && plainL ds
end
mutual
def py : D → PyData
  | .int i => .int i
  | .str s => .str s
  | .tup ds => .tuple (pyL ds)
  | .lst ds => .list (pyL ds)
  | _ => .none
def pyL : List D → List PyData
  | [] => []
  | d :: ds => py d :: pyL ds
end
mutual
theorem eqv_py : ∀ x y : D, plain x = true → plain y = true → PyData.eqv (py x) (py y) = beqD x y
  | .non, y, hx, hy => by cases y <;> first | rfl | (simp [plain] at hy; done) | (simp [py, PyData.eqv, beqD])
  | .int i, y, hx, hy => by cases y <;> first | rfl | (simp [plain] at hy; done) | (simp only [py, PyData.eqv, beqD]; exact Bool.beq_eq_decide_eq _ _) | (simp [py, PyData.eqv, beqD])
  | .str s, y, hx, hy => by cases y <;> first | rfl | (simp [plain] at hy; done) | (simp only [py, PyData.eqv, beqD]; exact Bool.beq_eq_decide_eq _ _) | (simp [py, PyData.eqv, beqD])
  | .tup xs, y, hx, hy => by
    cases y with
    | tup ys => simp only [py, PyData.eqv, beqD]; exact eqv_pyL xs ys (by simpa [plain] using hx) (by simpa [plain] using hy)
    | _ => first | (simp [plain] at hy; done) | (simp [py, PyData.eqv, beqD])
  | .lst xs, y, hx, hy => by
    cases y with
    | lst ys => simp only [py, PyData.eqv, beqD]; exact eqv_pyL xs ys (by simpa [plain] using hx) (by simpa [plain] using hy)
    | _ => first | (simp [plain] at hy; done) | (simp [py, PyData.eqv, beqD])
  | .bl _, _, hx, _ => by simp [plain] at hx
  | .ref _, _, hx, _ => by simp [plain] at hx
  | .scr _, _, hx, _ => by simp [plain] at hx
theorem eqv_pyL : ∀ xs ys : List D, plainL xs = true → plainL ys = true → PyData.eqvAll (pyL xs) (pyL ys) = beqL xs ys
  | [], [], _, _ => by simp [pyL, PyData.eqvAll, beqL]
  | [], _ :: _, _, _ => by simp [pyL, PyData.eqvAll, beqL]
  | _ :: _, [], _, _ => by simp [pyL, PyData.eqvAll, beqL]
  | x :: xs, y :: ys, hx, hy => by
    simp only [plainL, Bool.and_eq_true] at hx hy
    simp only [pyL, PyData.eqvAll, beqL, eqv_py x y hx.1 hy.1, eqv_pyL xs ys hx.2 hy.2]
end
mutual
theorem canLay_py : ∀ x : D, plain x = true → (py x).canLay0 = true
  | .non, h => by simp [py, PyData.canLay0]
  | .int i, h => by simp [py, PyData.canLay0]
  | .str s, h => by simpa [py, PyData.canLay0, plain] using h
  | .tup xs, h => by simp only [py, PyData.canLay0]; exact canLay_pyL xs (by simpa [plain] using h)
  | .lst xs, h => by simp only [py, PyData.canLay0]; exact canLay_pyL xs (by simpa [plain] using h)
  | .bl _, h => by simp [plain] at h
  | .ref _, h => by simp [plain] at h
  | .scr _, h => by simp [plain] at h
theorem canLay_pyL : ∀ xs : List D, plainL xs = true → PyData.canLayAll0 (pyL xs) = true
  | [], h => by simp [pyL, PyData.canLayAll0]
  | x :: xs, h => by
    simp only [plainL, Bool.and_eq_true] at h
    simp only [pyL, PyData.canLayAll0, canLay_py x h.1, canLay_pyL xs h.2, Bool.and_self]
end
mutual
/-- how deep it goes -/
def dep : D → Nat
  | .tup ds => depL ds + 1
  | .lst ds => depL ds + 1
  | _ => 0
def depL : List D → Nat
  | [] => 0
  | d :: ds => max (dep d) (depL ds)
end
mutual
theorem dep_py : ∀ x : D, (py x).depth ≤ dep x
  | .non => by simp [py, PyData.depth]
  | .int i => by simp [py, PyData.depth]
  | .str s => by simp [py, PyData.depth]
  | .tup xs => by simp only [py, PyData.depth, dep]; have := dep_pyL xs; omega
  | .lst xs => by simp only [py, PyData.depth, dep]; have := dep_pyL xs; omega
  | .bl _ => by simp [py, PyData.depth]
  | .ref _ => by simp [py, PyData.depth]
  | .scr _ => by simp [py, PyData.depth]
theorem dep_pyL : ∀ xs : List D, PyData.depthAll (pyL xs) ≤ depL xs
  | [] => by simp [pyL, PyData.depthAll]
  | x :: xs => by simp only [pyL, PyData.depthAll, depL]; have := dep_py x; have := dep_pyL xs; omega
end
theorem shaped_py {x : D} (h : plain x = true) (hd : dep x ≤ 64) : SeqAt.shaped (py x) = true := by
  unfold SeqAt.shaped
  rw [canLay_py x h, Bool.true_and, decide_eq_true_eq]
  exact Nat.le_trans (dep_py x) hd
mutual
theorem dp_py {K : PySem.W.Frag} {W : Wd} {G : G3} {H : Hp} (S : Sim K W G H) : ∀ {x : D} {v : V}, plain x = true → Rl W x v → Dp K H v (py x)
  | .non, _, _, rfl => .non
  | .int i, _, _, rfl => .int i
  | .str s, _, _, rfl => .str s
  | .tup xs, _, h, ⟨a, vs, e, l, r⟩ => by
    subst e
    simp only [py]
    exact .tup (S.ft _ _ l) (dp_pyL S (by simpa [plain] using h) r)
  | .lst xs, _, h, ⟨a, vs, e, l, r⟩ => by
    subst e
    simp only [py]
    exact .lst (S.sql l) (dp_pyL S (by simpa [plain] using h) r)
  | .bl _, _, h, _ => by simp [plain] at h
  | .ref _, _, h, _ => by simp [plain] at h
  | .scr _, _, h, _ => by simp [plain] at h
theorem dp_pyL {K : PySem.W.Frag} {W : Wd} {G : G3} {H : Hp} (S : Sim K W G H) : ∀ {xs : List D} {vs : List V}, plainL xs = true → RlL W xs vs → DpAll K H vs (pyL xs)
  | [], _, _, rfl => .nil
  | x :: xs, _, h, ⟨v, r, e, h1, h2⟩ => by
    subst e
    simp only [plainL, Bool.and_eq_true] at h
    simp only [pyL]
    exact .cons (dp_py S h.1 h1) (dp_pyL S h.2 h2)
end
/-- what a value is to be read as: a list that may change by its items -/
def Rd3 (G : G3) : D → D → Prop
  | .ref a, y => ∃ ds, (a, DO.lst ds) ∈ G ∧ y = .lst ds
  | x, y => y = x
theorem rd3_dp {K : PySem.W.Frag} {W : Wd} {G : G3} {H : Hp} {x y : D} {v : V} (S : Sim K W G H) (h : Rd3 G x y) (p : plain y = true) (r : Rl W x v) : Dp K H v (py y) := by
  cases x with
  | ref a =>
    obtain ⟨ds, hm, rfl⟩ := h
    cases r
    obtain ⟨vs, e, r⟩ := S.ob _ _ hm
    simp only [py]
    exact .lst (SqL.of e) (dp_pyL S (by simpa [plain] using p) r)
  | _ => cases h; exact dp_py S p r
/-- two values told apart by their contents -/
def deq3 (neg : Bool) : R3 := fun x y G Q => ∃ x' y', Rd3 G x x' ∧ Rd3 G y y' ∧ (plain x' = true ∧ plain y' = true ∧ dep x' ≤ 64 ∧ dep y' ≤ 64) ∧ Q (.bl (if neg then !beqD x' y' else beqD x' y')) G
def eq3 : R3 := fun x y G Q => match x, y with
  | .int i, .int j => Q (.bl (decide (i = j))) G
  | .str i, .str j => Q (.bl (decide (i = j))) G
  | .bl i, .bl j => Q (.bl (decide (i = j))) G
  | x, y => deq3 false x y G Q
def ne3 : R3 := fun x y G Q => match x, y with
  | .int i, .int j => Q (.bl (!decide (i = j))) G
  | .str i, .str j => Q (.bl (!decide (i = j))) G
  | .bl i, .bl j => Q (.bl (!decide (i = j))) G
  | x, y => deq3 true x y G Q
theorem deq_eq {K : PySem.W.Frag} {W : Wd} {x y : D} {G : G3} {Q3 : VK3} {x' y' : V} {H : Hp} {Q : VK} (S : Sim K W G H) (rx : Rl W x x') (ry : Rl W y y') (h : deq3 false x y G Q3) (q : OkQ K W Q3 Q) : rEqD K x' y' H Q := by
  obtain ⟨u, w, h1, h2, ⟨p1, p2, d1, d2⟩, h⟩ := h
  refine ⟨py u, py w, rd3_dp S h1 p1 rx, rd3_dp S h2 p2 ry, shaped_py p1 d1, shaped_py p2 d2, ?_⟩
  rw [eqv_py u w p1 p2]
  exact q.run _ (.bl (beqD u w)) _ _ _ (.refl _) S rfl h
theorem deq_ne {K : PySem.W.Frag} {W : Wd} {x y : D} {G : G3} {Q3 : VK3} {x' y' : V} {H : Hp} {Q : VK} (S : Sim K W G H) (rx : Rl W x x') (ry : Rl W y y') (h : deq3 true x y G Q3) (q : OkQ K W Q3 Q) : rNeD K x' y' H Q := by
  obtain ⟨u, w, h1, h2, ⟨p1, p2, d1, d2⟩, h⟩ := h
  refine ⟨py u, py w, rd3_dp S h1 p1 rx, rd3_dp S h2 p2 ry, shaped_py p1 d1, shaped_py p2 d2, ?_⟩
  rw [eqv_py u w p1 p2]
  exact q.run _ (.bl (!beqD u w)) _ _ _ (.refl _) S rfl h
theorem opl_eq {K : PySem.W.Frag} : OpL K eq3 (fun x y H Q => rEq x y H Q ∨ rEqD K x y H Q) := by
  intro W x y G Q3 x' y' H Q S rx ry h q
  have key : ∀ {b : Bool} {v w : V}, scal v w = true → decide (v = w) = b → Q3 (.bl b) G → rEq v w H Q := fun {b v w} hs hb h => ⟨hs, by rw [hb]; exact q.run _ (.bl b) _ _ _ (.refl _) S rfl h⟩
  cases x with
  | int i =>
    cases y with
    | int j => cases rx; cases ry; exact .inl (key rfl (by simp) h)
    | _ => exact .inr (deq_eq S rx ry h q)
  | str i =>
    cases y with
    | str j => cases rx; cases ry; exact .inl (key rfl (by simp) h)
    | _ => exact .inr (deq_eq S rx ry h q)
  | bl i =>
    cases y with
    | bl j => cases rx; cases ry; exact .inl (key rfl (by simp) h)
    | _ => exact .inr (deq_eq S rx ry h q)
  | _ => exact .inr (deq_eq S rx ry h q)
theorem opl_ne {K : PySem.W.Frag} : OpL K ne3 (fun x y H Q => rNe x y H Q ∨ rNeD K x y H Q) := by
  intro W x y G Q3 x' y' H Q S rx ry h q
  have key : ∀ {b : Bool} {v w : V}, scal v w = true → (!decide (v = w)) = b → Q3 (.bl b) G → rNe v w H Q := fun {b v w} hs hb h => ⟨hs, by rw [hb]; exact q.run _ (.bl b) _ _ _ (.refl _) S rfl h⟩
  cases x with
  | int i =>
    cases y with
    | int j => cases rx; cases ry; exact .inl (key rfl (by simp) h)
    | _ => exact .inr (deq_ne S rx ry h q)
  | str i =>
    cases y with
    | str j => cases rx; cases ry; exact .inl (key rfl (by simp) h)
    | _ => exact .inr (deq_ne S rx ry h q)
  | bl i =>
    cases y with
    | bl j => cases rx; cases ry; exact .inl (key rfl (by simp) h)
    | _ => exact .inr (deq_ne S rx ry h q)
  | _ => exact .inr (deq_ne S rx ry h q)
section
variable {a b e : Expr} {ta tb te : TE3} {pos : Pos}
theorem e_eq (hu : X.A.units + 64 < cLine) (ha : PE X a (lowE X.K Wx ta)) (hb : PE X b (lowE X.K Wx tb)) : PE X (.Compare a [.Eq] [b] pos) (lowE X.K Wx (op3 eq3 ta tb)) := e_cmp (op_eq.or (op_eqD hu)) opl_eq (nomark _) ha hb
theorem e_ne (hu : X.A.units + 64 < cLine) (ha : PE X a (lowE X.K Wx ta)) (hb : PE X b (lowE X.K Wx tb)) : PE X (.Compare a [.NotEq] [b] pos) (lowE X.K Wx (op3 ne3 ta tb)) := e_cmp (op_ne.or (op_neD hu)) opl_ne (nomark _) ha hb
theorem t_eq (hu : X.A.units + 64 < cLine) (ha : PE X a (lowE X.K Wx ta)) (hb : PE X b (lowE X.K Wx tb)) : PT X (.Compare a [.Eq] [b] pos) (lowT X.K Wx (t3 (op3 eq3 ta tb))) := t_cmp (op_eq.or (op_eqD hu)) opl_eq (nomark _) ha hb
theorem t_ne (hu : X.A.units + 64 < cLine) (ha : PE X a (lowE X.K Wx ta)) (hb : PE X b (lowE X.K Wx tb)) : PT X (.Compare a [.NotEq] [b] pos) (lowT X.K Wx (t3 (op3 ne3 ta tb))) := t_cmp (op_ne.or (op_neD hu)) opl_ne (nomark _) ha hb
end
/-! ### what beqD says -/
mutual
theorem beqD_eq : ∀ {x y : D}, beqD x y = true → x = y
  | .non, y, h => by cases y <;> simp [beqD] at h ⊢
  | .bl a, y, h => by cases y <;> simp [beqD] at h ⊢ <;> exact h
  | .int a, y, h => by cases y <;> simp [beqD] at h ⊢ <;> exact h
  | .str a, y, h => by cases y <;> simp [beqD] at h ⊢ <;> exact h
  | .tup a, y, h => by
    cases y with
    | tup b => simp only [beqD] at h; rw [beqL_eq h]
    | _ => simp [beqD] at h
  | .lst a, y, h => by
    cases y with
    | lst b => simp only [beqD] at h; rw [beqL_eq h]
    | _ => simp [beqD] at h
  | .ref _, y, h => by cases y <;> simp [beqD] at h
  | .scr _, y, h => by cases y <;> simp [beqD] at h
theorem beqL_eq : ∀ {x y : List D}, beqL x y = true → x = y
  | [], [], _ => rfl
  | [], _ :: _, h => by simp [beqL] at h
  | _ :: _, [], h => by simp [beqL] at h
  | x :: xs, y :: ys, h => by
    simp only [beqL, Bool.and_eq_true] at h
    rw [beqD_eq h.1, beqL_eq h.2]
end
mutual
theorem beqD_refl : ∀ {x : D}, plain x = true → beqD x x = true
  | .non, _ => by simp [beqD]
  | .int a, _ => by simp [beqD]
  | .str a, _ => by simp [beqD]
  | .tup a, h => by simp only [beqD]; exact beqL_refl (by simpa [plain] using h)
  | .lst a, h => by simp only [beqD]; exact beqL_refl (by simpa [plain] using h)
  | .bl _, h => by simp [plain] at h
  | .ref _, h => by simp [plain] at h
  | .scr _, h => by simp [plain] at h
theorem beqL_refl : ∀ {x : List D}, plainL x = true → beqL x x = true
  | [], _ => by simp [beqL]
  | x :: xs, h => by
    simp only [plainL, Bool.and_eq_true] at h
    simp only [beqL, beqD_refl h.1, beqL_refl h.2, Bool.and_self]
end
theorem plainL_ints : ∀ ns : List Int, plainL (ns.map D.int) = true
  | [] => rfl
  | n :: ns => by simp [plainL, plain, plainL_ints ns]
theorem depL_ints : ∀ ns : List Int, depL (ns.map D.int) = 0
  | [] => rfl
  | n :: ns => by simp [depL, dep, depL_ints ns]
theorem beqL_ints : ∀ ns ms : List Int, beqL (ns.map D.int) (ms.map D.int) = decide (ns = ms)
  | [], [] => by simp [beqL]
  | [], _ :: _ => by simp [beqL]
  | _ :: _, [] => by simp [beqL]
  | n :: ns, m :: ms => by simp [beqL, beqD, beqL_ints ns ms]
end
end T3

namespace T3
open PySem L2
section
variable {X : Cx} {Wx : WX}
/-! ### xs[i] -/
theorem RlL.atI {W : Wd} {ds : List D} {vs : List V} {i : Int} {d : D} (h : RlL W ds vs) (e : atI ds i = some d) : ∃ v, L2.atI vs i = some v ∧ Rl W d v := by
  unfold L2.atI at e ⊢
  rw [← h.length]
  cases hx : ixN ds.length i with
  | none => rw [hx] at e; cases e
  | some j =>
    rw [hx] at e
    obtain ⟨v, h1, h2⟩ := h.get (i := j) e
    exact ⟨v, h1, h2⟩
def ix3 : R3 := fun x y G Q => match x, y with
  | .lst ds, .int i => ∃ d, atI ds i = some d ∧ Q d G
  | .tup ds, .int i => ∃ d, atI ds i = some d ∧ Q d G
  | .scr ns, .int i => ∃ n, atI ns i = some n ∧ Q (.int n) G
  | .str z, .int i => z.length ≤ sizeLine ∧ ∃ c, atI z.cps.toList i = some c ∧ Q (.str ⟨#[c]⟩) G
  | .ref a, .int i => ∃ ds d, (a, DO.lst ds) ∈ G ∧ atI ds i = some d ∧ Q d G
  | _, _ => False
theorem atI_map {α β : Type} (f : α → β) (xs : List α) (i : Int) : atI (xs.map f) i = (atI xs i).map f := by
  unfold atI
  rw [List.length_map]
  cases ixN xs.length i with
  | none => rfl
  | some j => show (xs.map f)[j]? = (xs[j]?).map f; simp
theorem opl_ix {K : PySem.W.Frag} : OpL K ix3 (rIx K) := by
  intro W x y G Q3 x' y' H Q S rx ry h q
  cases y with
  | int i =>
    cases ry
    cases x with
    | lst ds =>
      obtain ⟨d, e, h⟩ := h
      obtain ⟨a, vs, rfl, l, r⟩ := rx
      obtain ⟨v, e2, r2⟩ := r.atI e
      exact .inl ⟨a, vs, i, v, rfl, rfl, S.sql l, e2, q.run _ _ _ _ _ (.refl _) S r2 h⟩
    | tup ds =>
      obtain ⟨d, e, h⟩ := h
      obtain ⟨a, vs, rfl, l, r⟩ := rx
      obtain ⟨v, e2, r2⟩ := r.atI e
      exact .inr (.inl ⟨a, vs, i, v, rfl, rfl, S.ft _ _ l, e2, q.run _ _ _ _ _ (.refl _) S r2 h⟩)
    | scr ns =>
      obtain ⟨n, e, h⟩ := h
      obtain ⟨a, rfl, l⟩ := rx
      exact .inl ⟨a, ns.map V.int, i, .int n, rfl, rfl, S.sqs l, by rw [atI_map, e] <;> rfl, q.run _ (.int n) _ _ _ (.refl _) S rfl h⟩
    | str z =>
      obtain ⟨hz, c, e, h⟩ := h
      cases rx
      exact .inr (.inr ⟨z, i, c, rfl, rfl, hz, e, q.run _ (.str ⟨#[c]⟩) _ _ _ (.refl _) S rfl h⟩)
    | ref a =>
      obtain ⟨ds, d, hm, e, h⟩ := h
      cases rx
      obtain ⟨vs, e1, r⟩ := S.ob _ _ hm
      obtain ⟨v, e2, r2⟩ := r.atI e
      exact .inl ⟨a, vs, i, v, rfl, rfl, SqL.of e1, e2, q.run _ _ _ _ _ (.refl _) S r2 h⟩
    | _ => exact h.elim
  | _ => cases x <;> exact h.elim
section
variable {a b e : Expr} {ta tb te : TE3} {pos : Pos}
theorem e_ix (ha : PE X a (lowE X.K Wx ta)) (hb : PE X b (lowE X.K Wx tb)) (hs : PlainIx b := by exact fun _ _ => rfl) : PE X (.Subscript a b pos) (lowE X.K Wx (op3 ix3 ta tb)) := (pe_ix ix_seq ha hb hs).imp3 fun _ _ _ => low_op opl_ix
end
/-! ### xs[i:j] -/
abbrev TO3 := St3 → G3 → (Option Int → G3 → Prop) → EX3 → Prop
structure OkO (K : PySem.W.Frag) (W : Wd) (Q3 : Option Int → G3 → Prop) (Q : Option Int → Hp → Prop) : Prop where
  run : ∀ W' o G H, W.le W' → Sim K W' G H → Q3 o G → Q o H
def lowO (K : PySem.W.Frag) (Wx : WX) (t : TO3) : TO := fun σ H Q => ∃ σ3 W G Q3 E3, RepS W σ3 σ ∧ Sim K W G H ∧ t σ3 G Q3 E3 ∧ OkO K W Q3 Q ∧ OkE K W E3 Wx
theorem PO.imp3 {e : Option Expr} {t t' : TO} (h : PO X e t) (m : ∀ σ H Q, t' σ H Q → t σ H Q) : PO X e t' := ⟨fun pins s σ H Q I q => h.run pins s σ H Q I (m σ H Q q)⟩
def no3 : TO3 := fun _ G Q _ => Q none G
def part3 (t : TE3) : TO3 := fun σ G Q E => t σ G (fun x G1 => match x with
  | .int i => Q (some i) G1
  | _ => False) E
theorem o_none : PO X none (lowO X.K Wx no3) := by
  refine PO.imp3 po_none ?_
  rintro σ H Q ⟨σ3, W, G, Q3, E3, R, S, h, q, e⟩
  exact q.run _ _ _ _ (.refl _) S h
theorem o_some {e : Expr} {te : TE3} (he : PE X e (lowE X.K Wx te)) : PO X (some e) (lowO X.K Wx (part3 te)) := by
  refine PO.imp3 (po_some he) ?_
  rintro σ H Q ⟨σ3, W, G, Q3, E3, R, S, h, q, e⟩
  refine ⟨σ3, W, G, _, E3, R, S, h, ⟨fun W1 x G1 x' H1 l1 S1 r1 h1 => ?_⟩, e⟩
  cases x with
  | int i => cases r1; exact ⟨i, rfl, q.run _ _ _ _ l1 S1 h1⟩
  | _ => exact h1.elim
def cutD {α : Type} (xs : List α) (lo hi : Option Int) : List α := (xs.drop (HT.sIx xs.length 0 lo)).take (HT.sIx xs.length xs.length hi - HT.sIx xs.length 0 lo)
abbrev S3 := D → Option Int → Option Int → G3 → VK3 → Prop
def sl3 : S3 := fun x lo hi G Q => match x with
  | .lst ds => Q (.lst (cutD ds lo hi)) G
  | .scr ns => Q (.lst ((cutD ns lo hi).map D.int)) G
  | .tup ds => ¬ (HT.sIx ds.length 0 lo = 0 ∧ HT.sIx ds.length ds.length hi = ds.length) ∧ Q (.tup (cutD ds lo hi)) G
  | .str z => z.length ≤ sizeLine ∧ Q (.str (cutS z lo hi)) G
  | .ref a => ∃ ds, (a, DO.lst ds) ∈ G ∧ Q (.lst (cutD ds lo hi)) G
  | _ => False
def slc3 (ta : TE3) (tl th : TO3) : TE3 := fun σ G Q E => ta σ G (fun x G1 => tl σ G1 (fun l G2 => th σ G2 (fun u G3 => sl3 x l u G3 Q) E) E) E
theorem RlL.cut {W : Wd} {ds : List D} {vs : List V} (h : RlL W ds vs) (lo hi : Option Int) : RlL W (cutD ds lo hi) (cutV vs lo hi) := by
  unfold cutD cutV
  rw [h.length]
  exact (h.drop _).take _
theorem cut_map {α β : Type} (f : α → β) (xs : List α) (lo hi : Option Int) : cutD (xs.map f) lo hi = (cutD xs lo hi).map f := by
  unfold cutD
  simp
theorem sll_ok {K : PySem.W.Frag} {W : Wd} {x : D} {lo hi : Option Int} {G : G3} {Q3 : VK3} {x' : V} {H : Hp} {Q : VK} (S : Sim K W G H) (rx : Rl W x x') (h : sl3 x lo hi G Q3) (q : OkQ K W Q3 Q) :
    rSlL K x' lo hi H Q ∨ (rSlT K x' lo hi H Q ∨ rSlS x' lo hi H Q) := by
  cases x with
  | lst ds =>
    obtain ⟨a, vs, rfl, l, r⟩ := rx
    refine .inl ⟨a, vs, rfl, S.sql l, fun p hp => ?_⟩
    obtain ⟨W2, l2, S2, r2⟩ := S.newL hp (r.cut lo hi)
    exact q.run _ _ _ _ _ l2 S2 r2 h
  | scr ns =>
    obtain ⟨a, rfl, l⟩ := rx
    refine .inl ⟨a, _, rfl, S.sqs l, fun p hp => ?_⟩
    obtain ⟨W2, l2, S2, r2⟩ := S.newL hp ((RlL.of_ints ns).cut lo hi)
    rw [cut_map] at r2
    exact q.run _ _ _ _ _ l2 S2 r2 h
  | tup ds =>
    obtain ⟨a, vs, rfl, l, r⟩ := rx
    refine .inr (.inl ⟨a, vs, rfl, S.ft _ _ l, by rw [← r.length]; exact h.1, fun p hp => ?_⟩)
    obtain ⟨W2, l2, S2, r2⟩ := S.newT hp (r.cut lo hi)
    exact q.run _ _ _ _ _ l2 S2 r2 h.2
  | str z =>
    cases rx
    exact .inr (.inr ⟨z, rfl, h.1, q.run _ (.str (cutS z lo hi)) _ _ _ (.refl _) S rfl h.2⟩)
  | ref a =>
    obtain ⟨ds, hm, h⟩ := h
    cases rx
    obtain ⟨vs, e1, r⟩ := S.ob _ _ hm
    refine .inl ⟨a, vs, rfl, SqL.of e1, fun p hp => ?_⟩
    obtain ⟨W2, l2, S2, r2⟩ := S.newL hp (r.cut lo hi)
    exact q.run _ _ _ _ _ l2 S2 r2 h
  | _ => exact h.elim
theorem e_slice {e : Expr} {lo hi : Option Expr} {te : TE3} {tl th : TO3} {p2 pos : Pos} (he : PE X e (lowE X.K Wx te)) (hl : PO X lo (lowO X.K Wx tl)) (hu : PO X hi (lowO X.K Wx th)) : PE X (.Subscript e (.Slice lo hi none p2) pos) (lowE X.K Wx (slc3 te tl th)) := by
  refine (pe_slice (sl_list.or (sl_tup.or sl_str)) he hl hu).imp3 ?_
  rintro σ H Q ⟨σ3, W, G, Q3, E3, R, S, h, q, e⟩
  refine ⟨σ3, W, G, _, E3, R, S, h, ⟨fun W1 x G1 x' H1 l1 S1 r1 h1 => ?_⟩, e⟩
  refine ⟨σ3, W1, G1, _, E3, R.mono l1, S1, h1, ⟨fun W2 o G2 H2 l2 S2 h2 => ?_⟩, e.mono l1⟩
  refine ⟨σ3, W2, G2, _, E3, R.mono (l1.trans l2), S2, h2, ⟨fun W3 u G3 H3 l3 S3 h3 => ?_⟩, e.mono (l1.trans l2)⟩
  exact sll_ok S3 (r1.mono (l2.trans l3)) h3 (q.mono (l1.trans (l2.trans l3)))
/-! ### built-ins -/
abbrev C3 := List D → G3 → VK3 → Prop
def call3 (r : C3) (ta : TA3) : TE3 := fun σ G Q E => ta σ G (fun xs G1 => r xs G1 Q) E
def ClL (K : PySem.W.Frag) (r3 : C3) (r : List V → Hp → VK → Prop) : Prop := ∀ W xs G Q3 xs' H (Q : VK), Sim K W G H → RlL W xs xs' → r3 xs G Q3 → OkQ K W Q3 Q → r xs' H Q
theorem low_call {K : PySem.W.Frag} {r3 : C3} {r : List V → Hp → VK → Prop} {ta : TA3} (hl : ClL K r3 r) {σ : St} {H : Hp} {Q : VK} : lowE K Wx (call3 r3 ta) σ H Q → tCB r (lowA K Wx ta) σ H Q := by
  rintro ⟨σ3, W, G, Q3, E3, R, S, h, q, e⟩
  exact ⟨σ3, W, G, _, E3, R, S, h, ⟨fun W1 x G1 x' H1 l1 S1 r1 h1 => hl _ _ _ _ _ _ _ S1 r1 h1 (q.mono l1)⟩, e⟩
/-- one argument, two -/
def on1 (r : U3) : C3 := fun xs G Q => match xs with
  | [x] => r x G Q
  | _ => False
def on2 (r : R3) : C3 := fun xs G Q => match xs with
  | [x, y] => r x y G Q
  | _ => False
theorem cll_1 {K : PySem.W.Frag} {r3 : U3} {r : List V → Hp → VK → Prop} (h : ∀ W x G Q3 x' H (Q : VK), Sim K W G H → Rl W x x' → r3 x G Q3 → OkQ K W Q3 Q → r [x'] H Q) : ClL K (on1 r3) r := by
  intro W xs G Q3 xs' H Q S rx h1 q
  match xs, rx, h1 with
  | [x], ⟨v, _, e1, r1, e2⟩, h1 => cases (show _ = [] from e2); subst e1; exact h _ _ _ _ _ _ _ S r1 h1 q
  | [], _, h1 => exact h1.elim
  | _ :: _ :: _, _, h1 => exact h1.elim
theorem cll_2 {K : PySem.W.Frag} {r3 : R3} {r : List V → Hp → VK → Prop} (h : ∀ W x y G Q3 x' y' H (Q : VK), Sim K W G H → Rl W x x' → Rl W y y' → r3 x y G Q3 → OkQ K W Q3 Q → r [x', y'] H Q) : ClL K (on2 r3) r := by
  intro W xs G Q3 xs' H Q S rx h1 q
  match xs, rx, h1 with
  | [x, y], ⟨v, _, e1, r1, w, _, e2, r2, e3⟩, h1 => cases (show _ = [] from e3); subst e2 e1; exact h _ _ _ _ _ _ _ _ _ S r1 r2 h1 q
  | [], _, h1 => exact h1.elim
  | [_], _, h1 => exact h1.elim
  | _ :: _ :: _ :: _, _, h1 => exact h1.elim
def len3 : U3 := fun x G Q => match x with
  | .lst ds => Q (.int ds.length) G
  | .tup ds => Q (.int ds.length) G
  | .scr ns => Q (.int ns.length) G
  | .str s => s.length ≤ sizeLine ∧ Q (.int s.length) G
  | .ref a => ∃ ds, (a, DO.lst ds) ∈ G ∧ Q (.int (ds.length : Nat)) G
  | _ => False
theorem cl_len {K : PySem.W.Frag} : ClL K (on1 len3) (fun xs H Q => ∃ x n, xs = [x] ∧ LenV K x H n ∧ Q (.int n) H) := cll_1 fun W x G Q3 x' H Q S rx h q => by
  cases x with
  | lst ds =>
    obtain ⟨a, vs, rfl, l, r⟩ := rx
    exact ⟨_, vs.length, rfl, .inl ⟨vs, S.sql l, rfl⟩, q.run _ (.int (vs.length : Nat)) _ _ _ (.refl _) S rfl (by rw [← r.length]; exact h)⟩
  | tup ds =>
    obtain ⟨a, vs, rfl, l, r⟩ := rx
    exact ⟨_, vs.length, rfl, .inr ⟨vs, S.ft _ _ l, rfl⟩, q.run _ (.int (vs.length : Nat)) _ _ _ (.refl _) S rfl (by rw [← r.length]; exact h)⟩
  | scr ns =>
    obtain ⟨a, rfl, l⟩ := rx
    exact ⟨_, ns.length, rfl, .inl ⟨_, S.sqs l, by rw [List.length_map]⟩, q.run _ (.int (ns.length : Nat)) _ _ _ (.refl _) S rfl h⟩
  | str s =>
    cases rx
    exact ⟨_, s.length, rfl, ⟨h.1, rfl⟩, q.run _ (.int (s.length : Nat)) _ _ _ (.refl _) S rfl h.2⟩
  | ref a =>
    obtain ⟨ds, hm, h⟩ := h
    cases rx
    obtain ⟨vs, e1, r⟩ := S.ob _ _ hm
    exact ⟨_, vs.length, rfl, .inl ⟨vs, SqL.of e1, rfl⟩, q.run _ (.int (vs.length : Nat)) _ _ _ (.refl _) S rfl (by rw [← r.length]; exact h)⟩
  | _ => exact h.elim
/-- a list, frozen or not, by its items -/
def Ls (G : G3) : D → List D → Prop
  | .lst ds, es => es = ds
  | .ref a, es => (a, DO.lst es) ∈ G
  | _, _ => False
theorem Ls.sql {K : PySem.W.Frag} {W : Wd} {G : G3} {H : Hp} {x : D} {v : V} {ds : List D} (h : Ls G x ds) (S : Sim K W G H) (r : Rl W x v) : ∃ a vs, v = .ref a ∧ H a = some (.lst vs) ∧ RlL W ds vs := by
  cases x with
  | lst es => cases h; obtain ⟨a, vs, rfl, l, r⟩ := r; exact ⟨a, vs, rfl, (S.fl _ _ l).2, r⟩
  | ref a => cases r; obtain ⟨vs, e, r⟩ := S.ob _ _ h; exact ⟨a, vs, rfl, e, r⟩
  | _ => exact h.elim
def sum3 : U3 := fun x G Q => ∃ ns : List Int, Ls G x (ns.map D.int) ∧ Q (.int ns.sum) G
def any3 : U3 := fun x G Q => ∃ bs : List Bool, Ls G x (bs.map D.bl) ∧ Q (.bl (bs.any id)) G
def all3 : U3 := fun x G Q => ∃ bs : List Bool, Ls G x (bs.map D.bl) ∧ Q (.bl (bs.all id)) G
theorem cl_sum {K : PySem.W.Frag} : ClL K (on1 sum3) (rSum K) := cll_1 fun W x G Q3 x' H Q S rx h q => by
  obtain ⟨ns, l, h⟩ := h
  obtain ⟨a, vs, rfl, e, r⟩ := l.sql S rx
  have := r.ints
  subst this
  exact ⟨a, ns, rfl, SqL.of e, q.run _ (.int ns.sum) _ _ _ (.refl _) S rfl h⟩
theorem cl_any {K : PySem.W.Frag} : ClL K (on1 any3) (rAny K) := cll_1 fun W x G Q3 x' H Q S rx h q => by
  obtain ⟨ns, l, h⟩ := h
  obtain ⟨a, vs, rfl, e, r⟩ := l.sql S rx
  have := r.bls
  subst this
  exact ⟨a, ns, rfl, SqL.of e, q.run _ (.bl (ns.any id)) _ _ _ (.refl _) S rfl h⟩
theorem cl_all {K : PySem.W.Frag} : ClL K (on1 all3) (rAll K) := cll_1 fun W x G Q3 x' H Q S rx h q => by
  obtain ⟨ns, l, h⟩ := h
  obtain ⟨a, vs, rfl, e, r⟩ := l.sql S rx
  have := r.bls
  subst this
  exact ⟨a, ns, rfl, SqL.of e, q.run _ (.bl (ns.all id)) _ _ _ (.refl _) S rfl h⟩
/-- list(x): a copy that stays, one that will change -/
def list3 : U3 := fun x G Q => ∃ ds, Ls G x ds ∧ Q (.lst ds) G
def listO3 : U3 := fun x G Q => ∃ ds, Ls G x ds ∧ ∀ p, Q (.ref p) ((p, .lst ds) :: G)
theorem cl_list {K : PySem.W.Frag} : ClL K (on1 list3) (fun xs H Q => ∃ p ys, xs = [.ref p] ∧ (SqL K H p ys ∨ SqT K H p ys) ∧ ∀ l, H l = none → Q (.ref l) (upd H l (.lst ys))) := cll_1 fun W x G Q3 x' H Q S rx h q => by
  obtain ⟨ns, l, h⟩ := h
  obtain ⟨a, vs, rfl, e, r⟩ := l.sql S rx
  refine ⟨a, vs, rfl, .inl (SqL.of e), fun p hp => ?_⟩
  obtain ⟨W2, l2, S2, r2⟩ := S.newL hp r
  exact q.run _ _ _ _ _ l2 S2 r2 h
theorem cl_listO {K : PySem.W.Frag} : ClL K (on1 listO3) (fun xs H Q => ∃ p ys, xs = [.ref p] ∧ (SqL K H p ys ∨ SqT K H p ys) ∧ ∀ l, H l = none → Q (.ref l) (upd H l (.lst ys))) := cll_1 fun W x G Q3 x' H Q S rx h q => by
  obtain ⟨ns, l, h⟩ := h
  obtain ⟨a, vs, rfl, e, r⟩ := l.sql S rx
  refine ⟨a, vs, rfl, .inl (SqL.of e), fun p hp => ?_⟩
  exact q.run _ (.ref p) _ _ _ (.refl _) (S.newO (o := .lst ns) hp ⟨vs, upd_same, r⟩) rfl (h p)
def min3 : R3 := fun x y G Q => match x, y with
  | .int i, .int j => Q (.int (if j < i then j else i)) G
  | _, _ => False
def max3 : R3 := fun x y G Q => match x, y with
  | .int i, .int j => Q (.int (if j > i then j else i)) G
  | _, _ => False
theorem cl_min {K : PySem.W.Frag} : ClL K (on2 min3) (fun xs H Q => ∃ i j, xs = [.int i, .int j] ∧ Q (.int (if j < i then j else i)) H) := cll_2 fun W x y G Q3 x' y' H Q S rx ry h q => by
  cases x with
  | int i => (cases y with | int j => (cases rx; cases ry; exact ⟨i, j, rfl, q.run _ (.int (if j < i then j else i)) _ _ _ (.refl _) S rfl h⟩) | _ => exact h.elim)
  | _ => exact h.elim
theorem cl_max {K : PySem.W.Frag} : ClL K (on2 max3) (fun xs H Q => ∃ i j, xs = [.int i, .int j] ∧ Q (.int (if j > i then j else i)) H) := cll_2 fun W x y G Q3 x' y' H Q S rx ry h q => by
  cases x with
  | int i => (cases y with | int j => (cases rx; cases ry; exact ⟨i, j, rfl, q.run _ (.int (if j > i then j else i)) _ _ _ (.refl _) S rfl h⟩) | _ => exact h.elim)
  | _ => exact h.elim
def abs3 : U3 := fun x G Q => match x with
  | .int i => Q (.int (if i < 0 then -i else i)) G
  | _ => False
theorem cl_abs {K : PySem.W.Frag} : ClL K (on1 abs3) (fun xs H Q => ∃ i, xs = [.int i] ∧ Q (.int (if i < 0 then -i else i)) H) := cll_1 fun W x G Q3 x' H Q S rx h q => by
  cases x with
  | int i => cases rx; exact ⟨i, rfl, q.run _ (.int (if i < 0 then -i else i)) _ _ _ (.refl _) S rfl h⟩
  | _ => exact h.elim
def int3 : U3 := fun x G Q => match x with
  | .int i => Q (.int i) G
  | .bl b => Q (.int (if b then 1 else 0)) G
  | _ => False
theorem cl_int {K : PySem.W.Frag} : ClL K (on1 int3) (fun xs H Q => (∃ i, xs = [.int i] ∧ Q (.int i) H) ∨ ∃ k, xs = [.bl k] ∧ Q (.int (if k then 1 else 0)) H) := cll_1 fun W x G Q3 x' H Q S rx h q => by
  cases x with
  | int i => cases rx; exact .inl ⟨i, rfl, q.run _ (.int i) _ _ _ (.refl _) S rfl h⟩
  | bl b => cases rx; exact .inr ⟨b, rfl, q.run _ (.int (if b then 1 else 0)) _ _ _ (.refl _) S rfl h⟩
  | _ => exact h.elim
section
variable {e : Expr} {es : List Expr} {x : Str} {p pos : Pos} {tr : TA3}
theorem e_callB {id : String} {r3 : C3} {r : List V → Hp → VK → Prop} (hc : CallR X (.builtin id) r) (hl : ClL X.K r3 r) (hg : Gl X x) (hm : X.mg x = none) (hv : bootBuiltins x = some (.builtin id)) (ha : PA X (e :: es) (lowA X.K Wx tr))
    (hn : x ≠ "__name__" := by decide) (hdb : (x == ("__debug__" : Str)) = false := by decide) (he : starEach (e :: es) X.env = (false, eval e X.env) :: starEach es X.env := by rfl) (hpl : (backTo pos (starEach es X.env)).any (·.1) = false := by rfl) :
    PE X (.Call (.Name x p) (e :: es) [] pos) (lowE X.K Wx (call3 r3 tr)) := (pe_callB hc hg hm hv ha hn hdb he hpl).imp3 fun _ _ _ => low_call hl
theorem e_callTy {T : String} {r3 : C3} {r : List V → Hp → VK → Prop} (hc : CallR X (.type T) r) (hl : ClL X.K r3 r) (hg : Gl X x) (hm : X.mg x = none) (hv : bootBuiltins x = some (.type T)) (ha : PA X (e :: es) (lowA X.K Wx tr))
    (hn : x ≠ "__name__" := by decide) (hdb : (x == ("__debug__" : Str)) = false := by decide) (he : starEach (e :: es) X.env = (false, eval e X.env) :: starEach es X.env := by rfl) (hpl : (backTo pos (starEach es X.env)).any (·.1) = false := by rfl) :
    PE X (.Call (.Name x p) (e :: es) [] pos) (lowE X.K Wx (call3 r3 tr)) := (pe_callTy hc hg hm hv ha hn hdb he hpl).imp3 fun _ _ _ => low_call hl
end
end
end T3

namespace T3
open PySem L2
/-! ### changing what may change -/
inductive Put (a : Addr) (o o' : DO) : G3 → G3 → Prop
  | head {r : G3} : Put a o o' ((a, o) :: r) ((a, o') :: r)
  | tail {e : Addr × DO} {r r' : G3} : Put a o o' r r' → Put a o o' (e :: r) (e :: r')
  | right {l r r' : G3} : Put a o o' r r' → Put a o o' (l ++ r) (l ++ r')
  | left {l l' r : G3} : Put a o o' l l' → Put a o o' (l ++ r) (l' ++ r)
theorem Put.split {a : Addr} {o o' : DO} {G G' : G3} (h : Put a o o' G G') : ∃ l1 l2, G = l1 ++ (a, o) :: l2 ∧ G' = l1 ++ (a, o') :: l2 := by
  induction h with
  | head => exact ⟨[], _, rfl, rfl⟩
  | tail _ ih => obtain ⟨l1, l2, e1, e2⟩ := ih; exact ⟨_ :: l1, l2, by rw [e1]; rfl, by rw [e2]; rfl⟩
  | right _ ih => obtain ⟨l1, l2, e1, e2⟩ := ih; exact ⟨_ ++ l1, l2, by rw [e1, List.append_assoc], by rw [e2, List.append_assoc]⟩
  | left _ ih => obtain ⟨l1, l2, e1, e2⟩ := ih; exact ⟨l1, l2 ++ _, by rw [e1, List.append_assoc]; rfl, by rw [e2, List.append_assoc]; rfl⟩
theorem Sim.put {K : PySem.W.Frag} {W : Wd} {G G' : G3} {H : Hp} {a : Addr} {o o' : DO} {u : HO} (S : Sim K W G H) (p : Put a o o' G G') (h : ObR W (upd H a u) a o') : Sim K W G' (upd H a u) := by
  obtain ⟨l1, l2, rfl, rfl⟩ := p.split
  exact S.write h
theorem Put.mem {a : Addr} {o o' : DO} {G G' : G3} (h : Put a o o' G G') : (a, o) ∈ G := by
  obtain ⟨l1, l2, rfl, rfl⟩ := h.split
  exact List.mem_append_right _ (List.mem_cons_self ..)
/-! ### weakening: the state told less exactly -/
section
variable (K : PySem.W.Frag)
def WkS (σ : St3) (G : G3) (σ' : St3) (G' : G3) : Prop := ∀ W H σ2, RepS W σ σ2 → Sim K W G H → ∃ W', W.le W' ∧ RepS W' σ' σ2 ∧ Sim K W' G' H
def WkV (d : D) (G : G3) (d' : D) (G' : G3) : Prop := ∀ W H v, Rl W d v → Sim K W G H → ∃ W', W.le W' ∧ Rl W' d' v ∧ Sim K W' G' H
def Up (P : St3 → G3 → Prop) (σ : St3) (G : G3) : Prop := ∃ σ' G', WkS K σ G σ' G' ∧ P σ' G'
def UpV (P : D → G3 → Prop) (d : D) (G : G3) : Prop := ∃ d' G', WkV K d G d' G' ∧ P d' G'
end
section
variable {K : PySem.W.Frag} {σ σ1 σ2 : St3} {G G1 G2 : G3} {d d1 d2 : D} {a : Addr} {ds : List D} {e : Addr × DO}
theorem WkS.refl : WkS K σ G σ G := fun W _ _ R S => ⟨W, .refl W, R, S⟩
theorem WkS.trans (x : WkS K σ G σ1 G1) (y : WkS K σ1 G1 σ2 G2) : WkS K σ G σ2 G2 := fun W H s R S => by
  obtain ⟨W1, l1, R1, S1⟩ := x W H s R S
  obtain ⟨W2, l2, R2, S2⟩ := y W1 H s R1 S1
  exact ⟨W2, l1.trans l2, R2, S2⟩
theorem WkS.drop : WkS K σ (e :: G) σ G := fun W _ _ R S => ⟨W, .refl W, R, S.drop⟩
theorem WkS.perm (h : G.Perm G1) : WkS K σ G σ G1 := fun W _ _ R S => ⟨W, .refl W, R, S.perm h⟩
theorem WkS.forget (i : Nat) : WkS K σ G (σ.set i none) G := fun W _ _ R S => ⟨W, .refl W, by
  have := R.forget i none
  refine ⟨by simpa using R.len, fun j d' e => ?_, ⟩
  rw [getS_set] at e
  by_cases hj : i = j ∧ i < σ.length
  · rw [if_pos hj] at e; cases e
  · rw [if_neg hj] at e; exact R.get j d' e, S⟩
/-- slot i's list will not change again -/
theorem WkS.freeze (i : Nat) (h : getS σ i = some (.ref a)) : WkS K σ ((a, .lst ds) :: G) (σ.set i (some (.lst ds))) G := fun W H s R S => by
  obtain ⟨W', l, S', r⟩ := S.freeze
  refine ⟨W', l, ⟨by simpa using R.len, fun j d' e => ?_⟩, S'⟩
  rw [getS_set] at e
  by_cases hj : i = j ∧ i < σ.length
  · rw [if_pos hj] at e
    cases e
    obtain ⟨rfl, _⟩ := hj
    obtain ⟨v, h1, h2⟩ := R.get i _ h
    cases h2
    exact ⟨_, h1, r⟩
  · rw [if_neg hj] at e
    obtain ⟨v, h1, h2⟩ := R.get j d' e
    exact ⟨v, h1, h2.mono l⟩
theorem WkV.refl : WkV K d G d G := fun W _ _ R S => ⟨W, .refl W, R, S⟩
theorem WkV.trans (x : WkV K d G d1 G1) (y : WkV K d1 G1 d2 G2) : WkV K d G d2 G2 := fun W H s R S => by
  obtain ⟨W1, l1, R1, S1⟩ := x W H s R S
  obtain ⟨W2, l2, R2, S2⟩ := y W1 H s R1 S1
  exact ⟨W2, l1.trans l2, R2, S2⟩
theorem WkV.drop : WkV K d (e :: G) d G := fun W _ _ R S => ⟨W, .refl W, R, S.drop⟩
theorem WkV.perm (h : G.Perm G1) : WkV K d G d G1 := fun W _ _ R S => ⟨W, .refl W, R, S.perm h⟩
theorem WkV.freeze : WkV K (.ref a) ((a, .lst ds) :: G) (.lst ds) G := fun W H s R S => by
  obtain ⟨W', l, S', r⟩ := S.freeze
  cases R
  exact ⟨W', l, r, S'⟩
/-- a pair of lists -/
theorem WkV.freeze2 {b : Addr} {es : List D} : WkV K (.tup [.ref a, .ref b]) ((a, .lst ds) :: (b, .lst es) :: G) (.tup [.lst ds, .lst es]) G := fun W H s R S => by
  obtain ⟨W1, l1, S1, r1⟩ := S.freeze
  obtain ⟨W2, l2, S2, r2⟩ := S1.freeze
  obtain ⟨t, vs, e, ht, u, r, e1, q1, u2, r', e2, q2, e3⟩ := R
  cases (show _ = [] from e3)
  cases q1
  cases q2
  subst e2 e1 e
  exact ⟨W2, l1.trans l2, ⟨t, _, rfl, l2.t _ _ (l1.t _ _ ht), _, _, rfl, r1.mono l2, _, _, rfl, r2, rfl⟩, S2⟩
theorem Up.of {P : St3 → G3 → Prop} (h : P σ G) : Up K P σ G := ⟨σ, G, .refl, h⟩
theorem UpV.of {P : D → G3 → Prop} (h : P d G) : UpV K P d G := ⟨d, G, .refl, h⟩
end
section
variable {X : Cx} {Wx : WX}
/-! ### isinstance of a built-in class -/
def isA (T : String) : D → Option Bool
  | .non => kitB "NoneType" T
  | .bl _ => kitB "bool" T
  | .int _ => kitB "int" T
  | .str _ => kitB "str" T
  | .tup _ => kitB "tuple" T
  | .lst _ => kitB "list" T
  | .scr _ => kitB "list" T
  | .ref _ => none
def isInt3 : D → Bool | .int _ => true | .bl _ => true | _ => false
def isBool3 : D → Bool | .bl _ => true | _ => false
def isStr3 : D → Bool | .str _ => true | _ => false
def isTup3 : D → Bool | .tup _ => true | _ => false
def isList3 : D → Bool | .lst _ => true | .scr _ => true | _ => false
/-- p tells of a value whether it is of the class T -/
structure IsT (T : String) (p : D → Bool) : Prop where
  non : kitB "NoneType" T = some (p .non)
  bl : ∀ b, kitB "bool" T = some (p (.bl b))
  int : ∀ b, kitB "int" T = some (p (.int b))
  str : ∀ b, kitB "str" T = some (p (.str b))
  tup : ∀ b, kitB "tuple" T = some (p (.tup b))
  lst : ∀ b, kitB "list" T = some (p (.lst b))
  scr : ∀ b, kitB "list" T = some (p (.scr b))
theorem isT_int : IsT "int" isInt3 := ⟨by decide +kernel, fun _ => (by decide +kernel : kitB "bool" "int" = some true), fun _ => (by decide +kernel : kitB "int" "int" = some true), fun _ => (by decide +kernel : kitB "str" "int" = some false), fun _ => (by decide +kernel : kitB "tuple" "int" = some false), fun _ => (by decide +kernel : kitB "list" "int" = some false), fun _ => (by decide +kernel : kitB "list" "int" = some false)⟩
theorem isT_bool : IsT "bool" isBool3 := ⟨by decide +kernel, fun _ => (by decide +kernel : kitB "bool" "bool" = some true), fun _ => (by decide +kernel : kitB "int" "bool" = some false), fun _ => (by decide +kernel : kitB "str" "bool" = some false), fun _ => (by decide +kernel : kitB "tuple" "bool" = some false), fun _ => (by decide +kernel : kitB "list" "bool" = some false), fun _ => (by decide +kernel : kitB "list" "bool" = some false)⟩
theorem isT_str : IsT "str" isStr3 := ⟨by decide +kernel, fun _ => (by decide +kernel : kitB "bool" "str" = some false), fun _ => (by decide +kernel : kitB "int" "str" = some false), fun _ => (by decide +kernel : kitB "str" "str" = some true), fun _ => (by decide +kernel : kitB "tuple" "str" = some false), fun _ => (by decide +kernel : kitB "list" "str" = some false), fun _ => (by decide +kernel : kitB "list" "str" = some false)⟩
theorem isT_tup : IsT "tuple" isTup3 := ⟨by decide +kernel, fun _ => (by decide +kernel : kitB "bool" "tuple" = some false), fun _ => (by decide +kernel : kitB "int" "tuple" = some false), fun _ => (by decide +kernel : kitB "str" "tuple" = some false), fun _ => (by decide +kernel : kitB "tuple" "tuple" = some true), fun _ => (by decide +kernel : kitB "list" "tuple" = some false), fun _ => (by decide +kernel : kitB "list" "tuple" = some false)⟩
theorem isT_list : IsT "list" isList3 := ⟨by decide +kernel, fun _ => (by decide +kernel : kitB "bool" "list" = some false), fun _ => (by decide +kernel : kitB "int" "list" = some false), fun _ => (by decide +kernel : kitB "str" "list" = some false), fun _ => (by decide +kernel : kitB "tuple" "list" = some false), fun _ => (by decide +kernel : kitB "list" "list" = some true), fun _ => (by decide +kernel : kitB "list" "list" = some true)⟩
def isi3 (p : D → Bool) : U3 := fun x G Q => match x with
  | .ref a => ∃ ds, (a, DO.lst ds) ∈ G ∧ Q (.bl (p (.lst ds))) G
  | x => Q (.bl (p x)) G
theorem isi_ok {K : PySem.W.Frag} {W : Wd} {T : String} {p : D → Bool} (hT : IsT T p) {x : D} {G : G3} {Q3 : VK3} {x' : V} {H : Hp} {Q : VK} (S : Sim K W G H) (rx : Rl W x x') (h : isi3 p x G Q3) (q : OkQ K W Q3 Q) : rIsi K [x', .ty T] H Q := by
  have fin : ∀ {t : String} {b : Bool}, TyX K H x' (.type t) → kitB t T = some b → Q3 (.bl b) G → rIsi K [x', .ty T] H Q := fun {t b} ty hk h => ⟨x', .ty T, .type t, .type T, b, rfl, .ty T, ty, kit_ty hk, q.run _ (.bl b) _ _ _ (.refl _) S rfl h⟩
  cases x with
  | non => cases rx; exact fin (.base .non) hT.non h
  | bl b => cases rx; exact fin (.base (.bl b)) (hT.bl b) h
  | int b => cases rx; exact fin (.base (.int b)) (hT.int b) h
  | str b => cases rx; exact fin (.base (.str b)) (hT.str b) h
  | tup ds =>
    obtain ⟨a, vs, rfl, l, r⟩ := rx
    rcases S.ft _ _ l with (e | ⟨o, e⟩) | ⟨o, its, n, e, c, _⟩
    · exact fin (.base (.tup e)) (hT.tup ds) h
    · exact fin (.fTuple e) (hT.tup ds) h
    · exact fin (.kTuple e c) (hT.tup ds) h
  | lst ds =>
    obtain ⟨a, vs, rfl, l, r⟩ := rx
    exact fin (.base (.lst (S.fl _ _ l).2)) (hT.lst ds) h
  | scr ns =>
    obtain ⟨a, rfl, l⟩ := rx
    rcases S.fs _ _ l with ⟨o, e⟩ | ⟨o, its, n, e, c, _⟩
    · exact fin (.base (.frz e)) (hT.scr ns) h
    · exact fin (.kList e c) (hT.scr ns) h
  | ref a =>
    obtain ⟨ds, hm, h⟩ := h
    cases rx
    obtain ⟨vs, e, r⟩ := S.ob _ _ hm
    exact fin (.base (.lst e)) (hT.lst ds) h
section
variable {e o : Expr} {es : List Expr} {x m f : Str} {p pos apos : Pos} {te ta : TE3} {tr : TA3}
theorem e_isi {T : String} {q : D → Bool} (hT : IsT T q) {p2 : Pos} {y : Str} (hg : Gl X "isinstance") (hm : X.mg "isinstance" = none) (hgy : Gl X y) (hmy : X.mg y = none) (hvy : bootBuiltins y = some (.type T)) (ha : PE X e (lowE X.K Wx te))
    (hny : y ≠ "__name__" := by decide) (hdy : (y == ("__debug__" : Str)) = false := by decide) (hv : bootBuiltins "isinstance" = some (.builtin "isinstance") := by decide +kernel)
    (he : starEach [e, .Name y p2] X.env = (false, eval e X.env) :: starEach [.Name y p2] X.env := by rfl) (he2 : starEach [.Name y p2] X.env = (false, eval (.Name y p2) X.env) :: starEach [] X.env := by rfl) (hpl : (backTo pos (starEach [.Name y p2] X.env)).any (·.1) = false := by rfl) :
    PE X (.Call (.Name "isinstance" p) [e, .Name y p2] [] pos) (lowE X.K Wx (un3 (isi3 q) te)) := by
  refine (pe_callB call_isi hg hm hv (pa_cons ha (pa_cons (pe_bltn (v := .ty T) hgy hmy hvy rfl hny hdy) pa_nil he2) he) (by decide) (by decide) he hpl).imp3 ?_
  rintro σ H Q ⟨σ3, W, G, Q3, E3, R, S, h, q, e⟩
  exact ⟨σ3, W, G, _, E3, R, S, h, ⟨fun W1 x G1 x' H1 l1 S1 r1 h1 => isi_ok hT S1 r1 h1 (q.mono l1)⟩, e⟩
/-! ### own functions -/
abbrev Sp3 := List D → G3 → VK3 → (Addr → G3 → Prop) → Prop
def lowSp (K : PySem.W.Frag) (sp : Sp3) : Sp := fun vs H Q E => ∃ ds W G Q3 E3, RlL W ds vs ∧ Sim K W G H ∧ sp ds G Q3 E3 ∧ OkQ K W Q3 Q ∧ ∀ C W' G' H', W.le W' → Sim K W' G' H' → E3 C G' → E (.ref C) none H'
def fn3 (sp : Sp3) (ta : TA3) : TE3 := fun σ G Q E => ta σ G (fun ds G1 => sp ds G1 Q (fun C G2 => E C σ G2)) E
theorem low_fn {K : PySem.W.Frag} {sp : Sp3} {tr : TA3} {σ : St} {H : Hp} {Q : VK} : lowE K Wx (fn3 sp tr) σ H Q → tCallS (lowSp K sp) (WE Wx) (lowA K Wx tr) σ H Q := by
  rintro ⟨σ3, W, G, Q3, E3, R, S, h, q, e⟩
  refine ⟨σ3, W, G, _, E3, R, S, h, ⟨fun W1 ds G1 vs H1 l1 S1 r1 h1 => ?_⟩, e⟩
  exact ⟨ds, W1, G1, Q3, _, r1, S1, h1, q.mono l1, fun C W' G' H' l' S' e' => e.run C W' σ3 G' σ H' (l1.trans l') (R.mono (l1.trans l')) S' e'⟩
variable {k : Nat} {fa C : Addr} {fd : FuncData} {ps : List Str} {sp : Sp3}
theorem e_fn (F : FnOk X.prog X.w X.K X.mg X.base (L2.CX X.prog X.w) k fa fd ps (lowSp X.K sp)) (hr : Room k X.A) (hg : Gl X x) (hm : X.mg x = some (.ref fa)) (hk : PySem.W.keepIn X.K (.ref fa) = true) (hb : Binds X.K fd ps []) (tk : Takes X Wx)
    (ha : PA X (e :: es) (lowA X.K Wx tr)) (hdb : (x == ("__debug__" : Str)) = false := by decide) (he : starEach (e :: es) X.env = (false, eval e X.env) :: starEach es X.env := by rfl) (hpl : (backTo pos (starEach es X.env)).any (·.1) = false := by rfl) :
    PE X (.Call (.Name x p) (e :: es) [] pos) (lowE X.K Wx (fn3 sp tr)) := (pe_callS F hr hg hm hk hb (fun σ => passAt tk σ) ha hdb he hpl).imp3 fun _ _ _ => low_fn
/-! ### methods, fields of own objects -/
def memI (G : G3) (a C : Addr) (fs : List (Str × D)) : Prop := (a, DO.ins C fs) ∈ G
theorem RlK.lookup {W : Wd} {f : Str} : ∀ {fs : List (Str × D)} {vs : List (Str × V)}, RlK W fs vs → (fs.lookup f = none → vs.lookup f = none) ∧ ∀ d, fs.lookup f = some d → ∃ v, vs.lookup f = some v ∧ Rl W d v
  | _, _, .nil => ⟨fun _ => rfl, fun d h => by simp at h⟩
  | _, _, .cons (a := a) (b := b) r t => by
    obtain ⟨e1, e2⟩ := r
    obtain ⟨h1, h2⟩ := RlK.lookup (f := f) t
    obtain ⟨ka, va⟩ := a
    obtain ⟨kb, vb⟩ := b
    simp only at e1 e2
    subst e1
    simp only [List.lookup]
    cases hf : f == ka with
    | true => exact ⟨fun z => by simp at z, fun d z => ⟨vb, rfl, by cases z; exact e2⟩⟩
    | false => exact ⟨h1, h2⟩
def meth3 (C : Addr) (m : Str) (sp : Sp3) (ta : TE3) (tr : TA3) : TE3 := fun σ G Q E => ta σ G (fun x G1 => match x with
  | .ref a => ∃ fs, (a, DO.ins C fs) ∈ G1 ∧ fs.lookup m = none ∧ tr σ G1 (fun ds G2 => sp (.ref a :: ds) G2 Q (fun C G2 => E C σ G2)) E
  | _ => False) E
def tMethW (C : Addr) (m : Str) (sp : Sp) (E : St → XK) (ta : TE) (t : TA) : TE := fun σ H Q => ta σ H fun x H1 => ∃ a dx fs, x = .ref a ∧ H1 a = some (.ins C dx fs) ∧ fs.lookup m = none ∧ t σ H1 fun vs H2 => sp (x :: vs) H2 Q (E σ)
theorem pe_methW {CX : CXT} {sp : Sp} {E : St → XK} {ta : TE} {t : TA} {pl : Sem Bool} (he : PE X o ta) (c : Cls X.K C) (hm : Meth X.K C m fa) (F : FnOk X.prog X.w X.K X.mg X.base CX k fa fd ps sp) (hr : Room k X.A) (hb : Binds X.K fd ps []) (hx : ∀ σ, PassesAt CX X σ (E σ)) (ha : PA X (e :: es) t)
    (hst : starEach (e :: es) X.env = (false, eval e X.env) :: starEach es X.env := by rfl) (hpl : (backTo pos (starEach es X.env)).any (·.1) = false := by rfl)
    (ht : eval (.Call (.Attribute o m apos) (e :: es) [] pos) X.env = (do
      let ov ← eval o X.env
      standAt apos.atName
      let (f, first) ← holding [ov] (getMethod ov m pl)
      callWith pos f first (backTo pos (starEach (e :: es) X.env)) (backToKw pos (keywordEach [] X.env))) := by rfl) :
    PE X (.Call (.Attribute o m apos) (e :: es) [] pos) (tMethW C m sp E ta t) := by
  refine ⟨fun pins s σ H Q I h => ?_⟩
  refine PySem.W.methodCall_KW (pl := pl) (thn (he.run pins s σ H _ I h) fun u s1 ⟨x, H1, I1, rx, a, dx, fs, ex, ea, l, q⟩ => ?_) ht
  subst ex
  obtain rfl : u = Value.ref a := rx
  refine getmeth_ok I1 ea c hm l ?_
  refine PySem.W.callWith_K (first := [.ref a]) (h₀ := X.base) I.ok.mod.kin hm.kp (thn (ha.run pos pins s1 σ H1 _ I1 q) fun us s2 ⟨vs, H2, I2, r, q2⟩ => ⟨I2.kIn, ?_⟩) hst hpl
  exact run_fnS (E := E) (us := .ref a :: us) (vs := .ref a :: vs) F hr hb (hx σ) I2 (.cons rfl r) q2
theorem pe_methW0 {CX : CXT} {sp : Sp} {E : St → XK} {ta : TE} {pl : Sem Bool} (he : PE X o ta) (c : Cls X.K C) (hm : Meth X.K C m fa) (F : FnOk X.prog X.w X.K X.mg X.base CX k fa fd ps sp) (hr : Room k X.A) (hb : Binds X.K fd ps []) (hx : ∀ σ, PassesAt CX X σ (E σ))
    (ht : eval (.Call (.Attribute o m apos) [] [] pos) X.env = (do
      let ov ← eval o X.env
      standAt apos.atName
      let (f, first) ← holding [ov] (getMethod ov m pl)
      callWith pos f first (backTo pos (starEach [] X.env)) (backToKw pos (keywordEach [] X.env))) := by rfl) :
    PE X (.Call (.Attribute o m apos) [] [] pos) (tMethW C m sp E ta tNil) := by
  refine ⟨fun pins s σ H Q I h => ?_⟩
  refine PySem.W.methodCall_KW (pl := pl) (thn (he.run pins s σ H _ I h) fun u s1 ⟨x, H1, I1, rx, a, dx, fs, ex, ea, l, q⟩ => ?_) ht
  subst ex
  obtain rfl : u = Value.ref a := rx
  refine getmeth_ok I1 ea c hm l ?_
  exact PySem.W.callWith_K0 (first := [.ref a]) I1.kIn hm.kp (run_fnS (E := E) (us := [.ref a]) (vs := [.ref a]) F hr hb (hx σ) I1 (.cons rfl .nil) q)
theorem low_meth {K : PySem.W.Frag} {C : Addr} {m : Str} {sp : Sp3} {ta : TE3} {tr : TA3} {σ : St} {H : Hp} {Q : VK} : lowE K Wx (meth3 C m sp ta tr) σ H Q → tMethW C m (lowSp K sp) (WE Wx) (lowE K Wx ta) (lowA K Wx tr) σ H Q := by
  rintro ⟨σ3, W, G, Q3, E3, R, S, h, q, e⟩
  refine ⟨σ3, W, G, _, E3, R, S, h, ⟨fun W1 x G1 x' H1 l1 S1 r1 h1 => ?_⟩, e⟩
  cases x with
  | ref a =>
    obtain ⟨fs, hm, hl, h1⟩ := h1
    cases r1
    obtain ⟨dx, vs, e1, rk⟩ := S1.ob _ _ hm
    refine ⟨a, dx, vs, rfl, e1, (RlK.lookup rk).1 hl, ?_⟩
    refine ⟨σ3, W1, G1, _, E3, R.mono l1, S1, h1, ⟨fun W2 ds G2 vs H2 l2 S2 r2 h2 => ?_⟩, e.mono l1⟩
    exact ⟨.ref a :: ds, W2, G2, Q3, _, ⟨_, _, rfl, rfl, r2⟩, S2, h2, q.mono (l1.trans l2), fun C W' G' H' l' S' e' => e.run C W' σ3 G' σ H' ((l1.trans l2).trans l') (R.mono ((l1.trans l2).trans l')) S' e'⟩
  | _ => exact h1.elim
theorem e_meth {pl : Sem Bool} (ho : PE X o (lowE X.K Wx ta)) (c : Cls X.K C) (hm : Meth X.K C m fa) (F : FnOk X.prog X.w X.K X.mg X.base (L2.CX X.prog X.w) k fa fd ps (lowSp X.K sp)) (hr : Room k X.A) (hb : Binds X.K fd ps []) (tk : Takes X Wx) (ha : PA X (e :: es) (lowA X.K Wx tr))
    (hst : starEach (e :: es) X.env = (false, eval e X.env) :: starEach es X.env := by rfl) (hpl : (backTo pos (starEach es X.env)).any (·.1) = false := by rfl)
    (ht : eval (.Call (.Attribute o m apos) (e :: es) [] pos) X.env = (do
      let ov ← eval o X.env
      standAt apos.atName
      let (f, first) ← holding [ov] (getMethod ov m pl)
      callWith pos f first (backTo pos (starEach (e :: es) X.env)) (backToKw pos (keywordEach [] X.env))) := by rfl) :
    PE X (.Call (.Attribute o m apos) (e :: es) [] pos) (lowE X.K Wx (meth3 C m sp ta tr)) := (pe_methW ho c hm F hr hb (fun σ => passAt tk σ) ha hst hpl ht).imp3 fun _ _ _ => low_meth
theorem e_meth0 {pl : Sem Bool} (ho : PE X o (lowE X.K Wx ta)) (c : Cls X.K C) (hm : Meth X.K C m fa) (F : FnOk X.prog X.w X.K X.mg X.base (L2.CX X.prog X.w) k fa fd ps (lowSp X.K sp)) (hr : Room k X.A) (hb : Binds X.K fd ps []) (tk : Takes X Wx)
    (ht : eval (.Call (.Attribute o m apos) [] [] pos) X.env = (do
      let ov ← eval o X.env
      standAt apos.atName
      let (f, first) ← holding [ov] (getMethod ov m pl)
      callWith pos f first (backTo pos (starEach [] X.env)) (backToKw pos (keywordEach [] X.env))) := by rfl) :
    PE X (.Call (.Attribute o m apos) [] [] pos) (lowE X.K Wx (meth3 C m sp ta nil3)) := by
  refine (pe_methW0 ho c hm F hr hb (fun σ => passAt tk σ) ht).imp3 fun σ H Q h => ?_
  have h2 := low_meth h
  obtain ⟨σ3, W, G, Q3, E3, R, S, h, q, e⟩ := h2
  refine ⟨σ3, W, G, Q3, E3, R, S, h, ⟨fun W1 x G1 x' H1 l1 S1 r1 h1 => ?_⟩, e⟩
  obtain ⟨a, dx, fs, rfl, e1, e2, σ4, W4, G4, Q4, E4, R4, S4, h4, q4, e4⟩ := q.run _ _ _ _ _ l1 S1 r1 h1
  exact ⟨a, dx, fs, rfl, e1, e2, q4.run _ [] _ _ _ (.refl _) S4 rfl h4⟩
/-- C(): a new object, then __init__ -/
def make3 (C : Addr) (sp : Sp3) : TE3 := fun σ G Q E => ∀ p, sp [.ref p] ((p, .ins C []) :: G) (fun d G1 => d = .non ∧ Q (.ref p) G1) (fun _ _ => False)
theorem e_make0 {f : Addr} (M : Mk X.K C f) (F : FnOk X.prog X.w X.K X.mg X.base (L2.CX X.prog X.w) k f fd ps (lowSp X.K sp)) (hr : Room (k + 1) X.A) (hg : Gl X x) (hm : X.mg x = some (.ref C)) (hb : Binds X.K fd ps [])
    (hdb : (x == ("__debug__" : Str)) = false := by decide) : PE X (.Call (.Name x p) [] [] pos) (lowE X.K Wx (make3 C sp)) := by
  refine (pe_make0 M F hr hg hm hb .nil passL hdb).imp3 ?_
  rintro σ H Q ⟨σ3, W, G, Q3, E3, R, S, h, q, e⟩
  intro x dx hx hdx hne
  have S1 : Sim X.K W G (upd H dx (.own x)) := S.junk hdx
  have hx1 : (upd H dx (.own x)) x = none := by rw [upd_ne (Ne.symm hne)]; exact hx
  have S2 : Sim X.K W ((x, .ins C []) :: G) (upd (upd H dx (.own x)) x (.ins C dx [])) := S1.newO (o := .ins C []) hx1 ⟨dx, [], upd_same, .nil⟩
  refine ⟨[.ref x], W, _, _, _, ⟨_, _, rfl, rfl, rfl⟩, S2, h x, ⟨fun W' d G' v H' l' S' r' h' => ?_⟩, fun _ _ _ _ _ _ h => h.elim⟩
  obtain ⟨rfl, h'⟩ := h'
  cases r'
  exact ⟨rfl, q.run _ (.ref x) _ _ _ l' S' rfl h'⟩
/-- o.f -/
def fld3 (K : PySem.W.Frag) (f : Str) (ta : TE3) : TE3 := fun σ G Q E => ta σ G (fun x G1 => match x with
  | .ref a => ∃ C fs d, (a, DO.ins C fs) ∈ G1 ∧ (Cls K C ∧ NoAttr K C f) ∧ fs.lookup f = some d ∧ Q d G1
  | _ => False) E
theorem e_fld (ho : PE X o (lowE X.K Wx ta)) (hb : attributeBase o f X.env (eval o X.env) = eval o X.env := by rfl) : PE X (.Attribute o f pos) (lowE X.K Wx (fld3 X.K f ta)) := by
  refine (pe_fld ho hb).imp3 ?_
  rintro σ H Q ⟨σ3, W, G, Q3, E3, R, S, h, q, e⟩
  refine ⟨σ3, W, G, _, E3, R, S, h, ⟨fun W1 x G1 x' H1 l1 S1 r1 h1 => ?_⟩, e⟩
  cases x with
  | ref a =>
    obtain ⟨C, fs, d, hm, ⟨hc, hn⟩, hl, h1⟩ := h1
    cases r1
    obtain ⟨dx, vs, e1, rk⟩ := S1.ob _ _ hm
    obtain ⟨v, e2, rv⟩ := (RlK.lookup rk).2 d hl
    exact ⟨a, C, dx, vs, v, rfl, e1, hc, hn, e2, q.run _ _ _ _ _ l1 S1 rv h1⟩
  | _ => exact h1.elim
end
end
end T3

namespace T3
open PySem L2
section
variable {X : Cx} {Wx : WX}
/-! ### targets -/
abbrev TG3 := D → St3 → G3 → (St3 → G3 → Prop) → Prop
def lowG (K : PySem.W.Frag) (g : TG3) : TG := fun v σ H Q => ∃ σ3 W G d Q3, RepS W σ3 σ ∧ Sim K W G H ∧ Rl W d v ∧ g d σ3 G Q3 ∧ OkN K W Q3 Q
theorem _root_.L2.PG.imp3 {X : Cx} {e : Expr} {t t' : TG} (h : PG X e t) (m : ∀ v σ H Q, t' v σ H Q → t v σ H Q) : PG X e t' := ⟨fun pins s σ H v u Q I r q => h.run pins s σ H v u Q I r (m v σ H Q q)⟩
def name3 (i : Nat) : TG3 := fun d σ G Q => Q (σ.set i (some d)) G
theorem g_name {e : Expr} {i : Nat} (h : PG X e (gName i)) : PG X e (lowG X.K (name3 i)) := by
  refine h.imp3 ?_
  rintro v σ H Q ⟨σ3, W, G, d, Q3, R, S, r, h, q⟩
  exact q.run _ _ _ _ _ (.refl _) (R.set i r) S h
/-- a, b = a pair -/
def pair3 (i j : Nat) : TG3 := fun d σ G Q => match d with
  | .tup [x, y] => Q ((σ.set i (some x)).set j (some y)) G
  | _ => False
theorem g_pair {e : Expr} {i j : Nat} (h : PG X e (gTup X.K 2 (gCons (gName i) (gCons (gName j) gNil)))) : PG X e (lowG X.K (pair3 i j)) := by
  refine h.imp3 ?_
  rintro v σ H Q ⟨σ3, W, G, d, Q3, R, S, r, h, q⟩
  match d, r, h with
  | .tup [x, y], ⟨a, vs, e, l, v1, _, e1, r1, v2, _, e2, r2, e3⟩, h =>
    cases (show _ = [] from e3)
    subst e2 e1 e
    exact ⟨a, _, rfl, S.ft _ _ l, rfl, _, _, rfl, _, _, rfl, rfl, q.run _ _ _ _ _ (.refl _) ((R.set i r1).set j r2) S h⟩
  | .non, _, h => exact h.elim
  | .bl _, _, h => exact h.elim
  | .int _, _, h => exact h.elim
  | .str _, _, h => exact h.elim
  | .ref _, _, h => exact h.elim
  | .lst _, _, h => exact h.elim
  | .scr _, _, h => exact h.elim
  | .tup [], _, h => exact h.elim
  | .tup [_], _, h => exact h.elim
  | .tup (_ :: _ :: _ :: _), _, h => exact h.elim
/-! ### statements -/
def asg3 (te : TE3) (g : TG3) : TS3 := fun D σ G => te σ G (fun x G1 => g x σ G1 D.nx) D.ex
theorem s_asg {st : Stmt} {te : TE3} {i : Nat} (h : PS X st (tAsg (lowE X.K Wx te) (gName i))) : PS X st (lowS X.K Wx (asg3 te (name3 i))) := by
  refine h.imp3 ?_
  rintro D σ H ⟨σ3, W, G, D3, R, S, h, k⟩
  refine ⟨σ3, W, G, _, _, R, S, h, ⟨fun W1 x G1 x' H1 l1 S1 r1 h1 => ?_⟩, k.ex⟩
  exact k.nx.run _ _ _ _ _ l1 ((R.mono l1).set i r1) S1 h1
/-- x = [.. for ..] -/
theorem asg_imp {st : Stmt} {t t' : TE} {g : TG} (h : PS X st (tAsg t g)) (m : ∀ σ H Q, t' σ H Q → t σ H Q) : PS X st (tAsg t' g) := h.imp3 fun D σ H q => m _ _ _ q
def drop3 (te : TE3) : TS3 := fun D σ G => te σ G (fun _ G1 => D.nx σ G1) D.ex
theorem s_expr {e : Expr} {te : TE3} {pos : Pos} (he : PE X e (lowE X.K Wx te)) (hs : swapsWith e none pos.line X.env = pure false := by rfl) : PS X (.Expr e pos) (lowS X.K Wx (drop3 te)) := by
  refine (ps_expr he hs).imp3 ?_
  rintro D σ H ⟨σ3, W, G, D3, R, S, h, k⟩
  exact ⟨σ3, W, G, _, _, R, S, h, ⟨fun W1 x G1 x' H1 l1 S1 r1 h1 => k.nx.run _ _ _ _ _ l1 (R.mono l1) S1 h1⟩, k.ex⟩
def ret3 (te : TE3) : TS3 := fun D σ G => te σ G D.rt D.ex
theorem s_ret {e : Expr} {te : TE3} {pos : Pos} (he : PE X e (lowE X.K Wx te)) : PS X (.Return (some e) pos) (lowS X.K Wx (ret3 te)) := by
  refine (ps_ret he).imp3 ?_
  rintro D σ H ⟨σ3, W, G, D3, R, S, h, k⟩
  exact ⟨σ3, W, G, _, _, R, S, h, k.rt, k.ex⟩
def next3 : TS3 := fun D σ G => D.nx σ G
def seq3 (t u : TS3) : TS3 := fun D σ G => t { D with nx := u D } σ G
theorem b_nil : PSs X [] (lowS X.K Wx next3) := by
  refine pss_nil.imp3 ?_
  rintro D σ H ⟨σ3, W, G, D3, R, S, h, k⟩
  exact k.nx.run _ _ _ _ _ (.refl _) R S h
theorem b_cons {st : Stmt} {rest : List Stmt} {t u : TS3} (h1 : PS X st (lowS X.K Wx t)) (h2 : PSs X rest (lowS X.K Wx u)) : PSs X (st :: rest) (lowS X.K Wx (seq3 t u)) := by
  refine (pss_cons h1 h2).imp3 ?_
  rintro D σ H ⟨σ3, W, G, D3, R, S, h, k⟩
  refine ⟨σ3, W, G, { D3 with nx := u D3 }, R, S, h, ⟨⟨fun W1 σ1 G1 σ' H1 l1 R1 S1 h1 => ?_⟩, k.rt, k.bk, k.ct, k.ex⟩⟩
  exact ⟨σ1, W1, G1, D3, R1, S1, h1, k.mono l1⟩
theorem b_one {st : Stmt} {t : TS3} (h1 : PS X st (lowS X.K Wx t)) : PSs X [st] (lowS X.K Wx t) := pss_one h1
/-- the state told anew behind a statement -/
def wk3 (K : PySem.W.Frag) (t : TS3) : TS3 := fun D σ G => t { D with nx := Up K D.nx } σ G
theorem s_wk {st : Stmt} {t : TS3} (h : PS X st (lowS X.K Wx t)) : PS X st (lowS X.K Wx (wk3 X.K t)) := by
  refine h.imp3 ?_
  rintro D σ H ⟨σ3, W, G, D3, R, S, h, k⟩
  refine ⟨σ3, W, G, { D3 with nx := Up X.K D3.nx }, R, S, h, ⟨⟨fun W1 σ1 G1 σ' H1 l1 R1 S1 h1 => ?_⟩, k.rt, k.bk, k.ct, k.ex⟩⟩
  obtain ⟨σ2, G2, w, h2⟩ := h1
  obtain ⟨W2, l2, R2, S2⟩ := w _ _ _ R1 S1
  exact k.nx.run _ _ _ _ _ (l1.trans l2) R2 S2 h2
def if3 (c : TT3) (t u : TS3) : TS3 := fun D σ G => c σ G (fun b G1 => if b = true then t D σ G1 else u D σ G1) D.ex
theorem s_if {c : Expr} {a b : List Stmt} {tc : TT3} {t u : TS3} {pos : Pos} (hc : PT X c (lowT X.K Wx tc)) (ha : PSs X a (lowS X.K Wx t)) (hb : PSs X b (lowS X.K Wx u)) : PS X (.If c a b pos) (lowS X.K Wx (if3 tc t u)) := by
  refine (ps_if hc ha hb).imp3 ?_
  rintro D σ H ⟨σ3, W, G, D3, R, S, h, k⟩
  refine ⟨σ3, W, G, _, _, R, S, h, ⟨fun W1 b G1 H1 l1 S1 h1 => ?_⟩, k.ex⟩
  cases b with
  | true => rw [if_pos rfl] at h1 ⊢; exact ⟨σ3, W1, G1, D3, R.mono l1, S1, h1, k.mono l1⟩
  | false => rw [if_neg Bool.false_ne_true] at h1 ⊢; exact ⟨σ3, W1, G1, D3, R.mono l1, S1, h1, k.mono l1⟩
def never3 : TS3 := fun _ _ _ => False
theorem s_never {st : Stmt} : PS X st (lowS X.K Wx never3) := ps_never.imp3 fun D σ H ⟨_, _, _, _, _, _, h, _⟩ => h.elim
theorem b_never {st : List Stmt} : PSs X st (lowS X.K Wx never3) := pss_never.imp3 fun D σ H ⟨_, _, _, _, _, _, h, _⟩ => h.elim
theorem s_pass {pos : Pos} : PS X (.Pass pos) (lowS X.K Wx next3) := by
  refine ps_pass.imp3 ?_
  rintro D σ H ⟨σ3, W, G, D3, R, S, h, k⟩
  exact k.nx.run _ _ _ _ _ (.refl _) R S h
/-! ### xs.append(e), xs.clear() -/
def app3 (ta te : TE3) : TE3 := fun σ G Q E => ta σ G (fun x G1 => match x with
  | .ref a => (∃ ds, (a, DO.lst ds) ∈ G1) ∧ te σ G1 (fun y G2 => ∃ ds G3, Put a (.lst ds) (.lst (ds ++ [y])) G2 G3 ∧ ds.length < sizeLine ∧ Q .non G3) E
  | _ => False) E
theorem e_append {o : Expr} {ta te : TE3} (hm : PE X o (tBM X.K "list" rAppend (lowE X.K Wx ta) (tCons (lowE X.K Wx te) tNil))) : PE X o (lowE X.K Wx (app3 ta te)) := by
  refine hm.imp3 ?_
  rintro σ H Q ⟨σ3, W, G, Q3, E3, R, S, h, q, e⟩
  refine ⟨σ3, W, G, _, E3, R, S, h, ⟨fun W1 x G1 x' H1 l1 S1 r1 h1 => ?_⟩, e⟩
  cases x with
  | ref a =>
    obtain ⟨⟨ds, hm⟩, h1⟩ := h1
    cases r1
    obtain ⟨vs, e1, _⟩ := S1.ob _ _ hm
    refine ⟨.inl ⟨rfl, _, SqL.of e1⟩, ?_⟩
    refine ⟨σ3, W1, G1, _, E3, R.mono l1, S1, h1, ⟨fun W2 y G2 y' H2 l2 S2 r2 h2 => ?_⟩, e.mono l1⟩
    obtain ⟨es, G3, p, hz, h2⟩ := h2
    obtain ⟨us, e2, ru⟩ := S2.ob _ _ p.mem
    refine ⟨a, us, y', rfl, rfl, e2, by rw [← ru.length]; exact hz, ?_⟩
    exact q.run _ .non _ _ _ (l1.trans l2) (S2.put (o' := .lst (es ++ [y])) p ⟨_, upd_same, ru.append (RlL.one r2)⟩) rfl h2
  | _ => exact h1.elim
/-! ### what is walked -/
abbrev TI3 := St3 → G3 → (List D → (G3 → Prop) → G3 → Prop) → EX3 → Prop
structure WalkOk (K : PySem.W.Frag) (W : Wd) (xs : List D) (Std : G3 → Prop) (J : It) : Prop where
  goes : ∀ i W' G H, W.le W' → Sim K W' G H → Std G → i < xs.length → J.go i H
  stops : ∀ W' G H, W.le W' → Sim K W' G H → Std G → J.stop xs.length H
  yields : ∀ i W' G H x H', W.le W' → Sim K W' G H → Std G → i < xs.length → J.yld i H x H' → ∃ W'' d, W'.le W'' ∧ xs[i]? = some d ∧ Sim K W'' G H' ∧ Rl W'' d x
def lowI (K : PySem.W.Frag) (Wx : WX) (src : TI3) : TI := fun σ H R => ∃ σ3 W G R3 E3, RepS W σ3 σ ∧ Sim K W G H ∧ src σ3 G R3 E3 ∧ OkE K W E3 Wx ∧ ∀ W' xs Std G' J H', W.le W' → Sim K W' G' H' → R3 xs Std G' → WalkOk K W' xs Std J → R J H'
theorem _root_.L2.PI.imp3 {X : Cx} {tg e : Expr} {t t' : TI} (h : PI X tg e t) (m : ∀ σ H Q, t' σ H Q → t σ H Q) : PI X tg e t' := ⟨fun pins s σ H Q I q => h.run pins s σ H Q I (m σ H Q q)⟩
/-- a list that is walked, by its items -/
def Lw (G : G3) : D → List D → Prop
  | .lst ds, es => es = ds
  | .scr ns, es => es = ns.map D.int
  | .ref a, es => (a, DO.lst es) ∈ G
  | _, _ => False
theorem Lw.sql {K : PySem.W.Frag} {W : Wd} {G : G3} {H : Hp} {x : D} {a : Addr} {ds : List D} (h : Lw G x ds) (S : Sim K W G H) (r : Rl W x (.ref a)) : ∃ vs, SqL K H a vs ∧ RlL W ds vs := by
  cases x with
  | lst es => cases h; obtain ⟨b, vs, e, l, r⟩ := r; cases e; exact ⟨vs, S.sql l, r⟩
  | scr ns => cases h; obtain ⟨b, e, l⟩ := r; cases e; exact ⟨_, S.sqs l, RlL.of_ints ns⟩
  | ref b => cases r; obtain ⟨vs, e, r⟩ := S.ob _ _ h; exact ⟨vs, SqL.of e, r⟩
  | _ => exact h.elim
theorem Lw.ref {W : Wd} {G : G3} {x : D} {v : V} {ds : List D} (h : Lw G x ds) (r : Rl W x v) : ∃ a, v = .ref a := by
  cases x with
  | lst es => obtain ⟨b, vs, e, l, r⟩ := r; exact ⟨b, e⟩
  | scr ns => obtain ⟨b, e, l⟩ := r; exact ⟨b, e⟩
  | ref b => exact ⟨b, r⟩
  | _ => exact h.elim
theorem Ls.lw {G : G3} {x : D} {ds : List D} (h : Ls G x ds) : Lw G x ds := by
  cases x <;> first | exact h | exact h.elim
/-- a list -/
def il3 (te : TE3) : TI3 := fun σ G R E => te σ G (fun x G1 => ∃ ds, Lw G1 x ds ∧ R ds (fun G => Lw G x ds) G1) E
theorem i_list {tg e : Expr} {te : TE3} (he : PE X e (lowE X.K Wx te)) : PI X tg e (lowI X.K Wx (il3 te)) := by
  refine (pi_list he).imp3 ?_
  rintro σ H Q ⟨σ3, W, G, R3, E3, R, S, h, e, k⟩
  refine ⟨σ3, W, G, _, E3, R, S, h, ⟨fun W1 x G1 x' H1 l1 S1 r1 h1 => ?_⟩, e⟩
  obtain ⟨ds, hx, h1⟩ := h1
  obtain ⟨a, rfl⟩ := hx.ref r1
  obtain ⟨vs, e1, r⟩ := hx.sql S1 r1
  refine ⟨a, rfl, ⟨vs, e1⟩, k W1 ds _ G1 _ H1 l1 S1 h1 ⟨fun i W' G' H' l' S' hs hi => ?_, fun W' G' H' l' S' hs => ?_, fun i W' G' H' x H'' l' S' hs hi y => ?_⟩⟩
  all_goals obtain ⟨us, e2, r2⟩ := hs.sql S' (r1.mono l')
  · exact (walk_list (K := X.K) (a := a) (xs := us)).goes i H' (by rw [← r2.length]; exact hi) e2
  · rw [r2.length]
    exact (walk_list (K := X.K) (a := a) (xs := us)).stops H' e2
  · obtain ⟨e, h⟩ := (walk_list (K := X.K) (a := a) (xs := us)).yields i H' x H'' (by rw [← r2.length]; exact hi) e2 y
    subst e
    obtain ⟨d, h1, h2⟩ := r2.get' h
    exact ⟨W', d, .refl _, h1, S', h2⟩
/-- range(n), range(a, b) -/
def rangeD (lo : Int) (n : Nat) : List D := (List.range n).map fun (i : Nat) => D.int (lo + (i : Int))
/-- 0, 1, .. below n -/
def natsD (n : Nat) : List D := (List.range n).map fun (i : Nat) => D.int (i : Int)
theorem natsD_eq (n : Nat) : natsD n = rangeD 0 n := by simp [natsD, rangeD]
def ir1 (te : TE3) : TI3 := fun σ G R E => te σ G (fun x G1 => match x with
  | .int n => (-(2 ^ 62) ≤ n ∧ n < 2 ^ 62) ∧ R (natsD n.toNat) (fun _ => True) G1
  | _ => False) E
def ir2 (ta tb : TE3) : TI3 := fun σ G R E => ta σ G (fun x G1 => tb σ G1 (fun y G2 => match x, y with
  | .int a, .int b => (-(2 ^ 62) ≤ a ∧ a < 2 ^ 62 ∧ -(2 ^ 62) ≤ b ∧ b < 2 ^ 62) ∧ R (rangeD a (b - a).toNat) (fun _ => True) G2
  | _, _ => False) E) E
theorem walk_rng {K : PySem.W.Frag} {W : Wd} {lo : Int} {n : Nat} : WalkOk K W (rangeD lo n) (fun _ => True) (Itr lo n) := by
  have wl : Walk (Itr lo n) n (fun _ => True) (YFn fun i => .int (lo + i)) := walk_range
  have hl : (rangeD lo n).length = n := by simp [rangeD]
  refine ⟨fun i W' G H l S hs hi => wl.goes i H (by rw [← hl]; exact hi) trivial, fun W' G H l S hs => by rw [hl]; exact wl.stops H trivial, fun i W' G H x H' l S hs hi y => ?_⟩
  obtain ⟨e, h⟩ := wl.yields i H x H' (by rw [← hl]; exact hi) trivial y
  subst e h
  exact ⟨W', .int (lo + (i : Nat)), .refl _, by rw [hl] at hi; simp [rangeD, hi], S, rfl⟩
theorem i_range1 {tg a : Expr} {ta : TE3} {p pos : Pos} (hg : Gl X "range") (hm : X.mg "range" = none) (ha : PE X a (lowE X.K Wx ta)) (hs : starEach [a] X.env = [(false, eval a X.env)] := by rfl) : PI X tg (.Call (.Name "range" p) [a] [] pos) (lowI X.K Wx (ir1 ta)) := by
  refine (pi_range1 hg hm (pa_cons ha pa_nil hs) hs).imp3 ?_
  rintro σ H Q ⟨σ3, W, G, R3, E3, R, S, h, e, k⟩
  refine ⟨σ3, W, G, _, E3, R, S, h, ⟨fun W1 x G1 x' H1 l1 S1 r1 h1 => ?_⟩, e⟩
  cases x with
  | int n => cases r1; exact ⟨n, rfl, h1.1.1, h1.1.2, k W1 _ _ G1 _ H1 l1 S1 h1.2 (by rw [natsD_eq]; exact walk_rng)⟩
  | _ => exact h1.elim
theorem i_range2 {tg a b : Expr} {ta tb : TE3} {p pos : Pos} (hg : Gl X "range") (hm : X.mg "range" = none) (ha : PE X a (lowE X.K Wx ta)) (hb : PE X b (lowE X.K Wx tb)) (hs : starEach [a, b] X.env = [(false, eval a X.env), (false, eval b X.env)] := by rfl) (hs2 : starEach [b] X.env = [(false, eval b X.env)] := by rfl) :
    PI X tg (.Call (.Name "range" p) [a, b] [] pos) (lowI X.K Wx (ir2 ta tb)) := by
  refine (pi_range2 hg hm (pa_cons ha (pa_cons hb pa_nil hs2) (by rw [hs, hs2])) hs hs2).imp3 ?_
  rintro σ H Q ⟨σ3, W, G, R3, E3, R, S, h, e, k⟩
  refine ⟨σ3, W, G, _, E3, R, S, h, ⟨fun W1 x G1 x' H1 l1 S1 r1 h1 => ?_⟩, e⟩
  refine ⟨σ3, W1, G1, _, E3, R.mono l1, S1, h1, ⟨fun W2 y G2 y' H2 l2 S2 r2 h2 => ?_⟩, e.mono l1⟩
  cases x with
  | int a =>
    cases y with
    | int b => cases r1; cases r2; exact ⟨a, b, rfl, h2.1, k W2 _ _ G2 _ H2 (l1.trans l2) S2 h2.2 walk_rng⟩
    | _ => exact h2.elim
  | _ => exact h2.elim
/-- zip(xs, ys), enumerate(xs) -/
theorem yields_pair {K : PySem.W.Frag} {W : Wd} {G : G3} {H : Hp} {T : Addr} {x y : V} {dx dy : D} (S : Sim K W G H) (hT : H T = none) (rx : Rl W dx x) (ry : Rl W dy y) : ∃ W' , W.le W' ∧ Sim K W' G (upd H T (.tup [x, y])) ∧ Rl W' (.tup [dx, dy]) (.ref T) := by
  obtain ⟨W', l, S', r⟩ := S.newT (vs := [x, y]) (ds := [dx, dy]) hT ⟨x, _, rfl, rx, y, _, rfl, ry, rfl⟩
  exact ⟨W', l, S', r⟩
def iz3 (ta tb : TE3) : TI3 := fun σ G R E => ta σ G (fun x G1 => tb σ G1 (fun y G2 => ∃ xs ys, Ls G2 x xs ∧ Ls G2 y ys ∧ R (List.zipWith (fun a b => .tup [a, b]) xs ys) (fun G => Ls G x xs ∧ Ls G y ys) G2) E) E
def ie3 (ta : TE3) : TI3 := fun σ G R E => ta σ G (fun x G1 => ∃ xs, Ls G1 x xs ∧ R (xs.mapIdx fun i a => .tup [.int (i : Nat), a]) (fun G => Ls G x xs) G1) E
theorem Ls.at {K : PySem.W.Frag} {W : Wd} {G : G3} {H : Hp} {x : D} {a : Addr} {ds : List D} (h : Ls G x ds) (S : Sim K W G H) (r : Rl W x (.ref a)) : ∃ vs, H a = some (.lst vs) ∧ RlL W ds vs := by
  obtain ⟨b, vs, e, h1, h2⟩ := h.sql S r
  cases e
  exact ⟨vs, h1, h2⟩
theorem i_zip {e e2 : Expr} {ta tb : TE3} {p pos tpos : Pos} {elts : List Expr} {kk : Nat} (hg : Gl X "zip") (hm : X.mg "zip" = none) (ha : PE X e (lowE X.K Wx ta)) (hb : PE X e2 (lowE X.K Wx tb))
    (hs : starEach [e, e2] X.env = (false, eval e X.env) :: starEach [e2] X.env := by rfl) (hs2 : starEach [e2] X.env = [(false, eval e2 X.env)] := by rfl) : PI X (.Tuple elts kk tpos) (.Call (.Name "zip" p) [e, e2] [] pos) (lowI X.K Wx (iz3 ta tb)) := by
  refine (pi_zip hg hm (pa_cons ha (pa_cons hb pa_nil hs2) hs) hs (by rw [hs2]; rfl)).imp3 ?_
  rintro σ H Q ⟨σ3, W, G, R3, E3, R, S, h, e, k⟩
  refine ⟨σ3, W, G, _, E3, R, S, h, ⟨fun W1 x G1 x' H1 l1 S1 r1 h1 => ?_⟩, e⟩
  refine ⟨σ3, W1, G1, _, E3, R.mono l1, S1, h1, ⟨fun W2 y G2 y' H2 l2 S2 r2 h2 => ?_⟩, e.mono l1⟩
  obtain ⟨xs, ys, hx, hy, h2⟩ := h2
  have r1' := r1.mono l2
  obtain ⟨a, vs, rfl, ea, ra⟩ := hx.sql S2 r1'
  obtain ⟨b, us, rfl, eb, rb⟩ := hy.sql S2 r2
  refine ⟨a, b, vs, us, rfl, SqL.of ea, SqL.of eb, k W2 _ _ G2 _ H2 (l1.trans l2) S2 h2 ⟨fun i W' G' H' l' S' hs hi => ?_, fun W' G' H' l' S' hs => ?_, fun i W' G' H' x H'' l' S' hs hi y => ?_⟩⟩
  all_goals
    obtain ⟨vs', e1, q1⟩ := hs.1.at S' (r1'.mono l')
    obtain ⟨us', e2, q2⟩ := hs.2.at S' (r2.mono l')
    have wl := walk_zip (K := X.K) (a := a) (b := b) (xs := vs') (ys := us') rfl
  · refine wl.goes i H' ?_ ⟨SqL.of e1, SqL.of e2⟩
    rw [List.length_zipWith, q1.length, q2.length] at hi
    exact hi
  · rw [List.length_zipWith, q1.length, q2.length]
    exact wl.stops H' ⟨SqL.of e1, SqL.of e2⟩
  · obtain ⟨T, u, w, rfl, hT, rfl, h5, h6⟩ := wl.yields i H' x H'' (by rw [List.length_zipWith, q1.length, q2.length] at hi; exact hi) ⟨SqL.of e1, SqL.of e2⟩ y
    obtain ⟨d1, h7, rd1⟩ := q1.get' h5
    obtain ⟨d2, h8, rd2⟩ := q2.get' h6
    obtain ⟨W3, l3, S3, r3⟩ := yields_pair S' hT rd1 rd2
    refine ⟨W3, _, l3, ?_, S3, r3⟩
    rw [List.getElem?_zipWith, h7, h8]
theorem i_enum {e : Expr} {ta : TE3} {p pos tpos : Pos} {elts : List Expr} {kk : Nat} (hg : Gl X "enumerate") (hm : X.mg "enumerate" = none) (ha : PE X e (lowE X.K Wx ta)) (hs : starEach [e] X.env = [(false, eval e X.env)] := by rfl) :
    PI X (.Tuple elts kk tpos) (.Call (.Name "enumerate" p) [e] [] pos) (lowI X.K Wx (ie3 ta)) := by
  refine (pi_enum hg hm (pa_cons ha pa_nil hs) hs).imp3 ?_
  rintro σ H Q ⟨σ3, W, G, R3, E3, R, S, h, e, k⟩
  refine ⟨σ3, W, G, _, E3, R, S, h, ⟨fun W1 x G1 x' H1 l1 S1 r1 h1 => ?_⟩, e⟩
  obtain ⟨xs, hx, h1⟩ := h1
  obtain ⟨a, vs, rfl, ea, ra⟩ := hx.sql S1 r1
  refine ⟨a, vs, rfl, SqL.of ea, k W1 _ _ G1 _ H1 l1 S1 h1 ⟨fun i W' G' H' l' S' hs hi => ?_, fun W' G' H' l' S' hs => ?_, fun i W' G' H' x H'' l' S' hs hi y => ?_⟩⟩
  all_goals
    obtain ⟨vs', e1, q1⟩ := hs.at S' (r1.mono l')
    have wl := walk_enum (K := X.K) (a := a) (xs := vs')
  · refine wl.goes i H' ?_ (SqL.of e1)
    rw [List.length_mapIdx, q1.length] at hi
    exact hi
  · rw [List.length_mapIdx, q1.length]
    exact wl.stops H' (SqL.of e1)
  · obtain ⟨T, u, w, rfl, hT, rfl, h5, h6⟩ := wl.yields i H' x H'' (by rw [List.length_mapIdx, q1.length] at hi; exact hi) (SqL.of e1) y
    obtain ⟨d2, h8, rd2⟩ := q1.get' h6
    cases h5
    obtain ⟨W3, l3, S3, r3⟩ := yields_pair (dx := .int (i : Nat)) S' hT rfl rd2
    refine ⟨W3, _, l3, ?_, S3, r3⟩
    rw [List.getElem?_mapIdx, h8] <;> rfl
/-! ### for -/
def for3 (K : PySem.W.Frag) (src : TI3) (g : TG3) (tb : TS3) : TS3 := fun D σ G => src σ G (fun xs Std G1 => ∃ Pv : Nat → St3 → G3 → Prop, Up K (Pv 0) σ G1 ∧ (∀ i σ' G', i ≤ xs.length → Pv i σ' G' → Std G') ∧
  (∀ i d σ' G', xs[i]? = some d → Pv i σ' G' → g d σ' G' fun σ2 G2 => tb { D with nx := Up K (Pv (i + 1)), ct := Up K (Pv (i + 1)), bk := D.nx } σ2 G2) ∧ (∀ σ' G', Pv xs.length σ' G' → D.nx σ' G')) D.ex
theorem s_for {tg iter : Expr} {body : List Stmt} {src : TI3} {g : TG3} {tb : TS3} {pos : Pos} (hp : PassesOwn (model X.prog X.w) X.A X.env X.xe) (hc : X.calm = true) (hi : PI X tg iter (lowI X.K Wx src)) (hg : PG X tg (lowG X.K g)) (hb : PSs X body (lowS X.K Wx tb))
    (hs : ∀ x, foldedSetIterable iter X.env x = pure x := by intro _; rfl) : PS X (.For tg iter body [] pos) (lowS X.K Wx (for3 X.K src g tb)) := by
  refine (ps_for hp hc hi hg hb hs).imp3 ?_
  rintro D σ H ⟨σ3, W, G, D3, R, S, h, k⟩
  refine ⟨σ3, W, G, _, _, R, S, h, k.ex, fun W1 xs Std G1 J H1 l1 S1 h1 w => ?_⟩
  obtain ⟨Pv, ⟨σ4, G4, wk, p0⟩, hstd, turn, done⟩ := h1
  obtain ⟨W4, l4, R4, S4⟩ := wk _ _ _ (R.mono l1) S1
  refine ⟨fun i m σ' H' => m = xs.length - i ∧ i ≤ xs.length ∧ ∃ σ3' W' G', W1.le W' ∧ RepS W' σ3' σ' ∧ Sim X.K W' G' H' ∧ Pv i σ3' G', ⟨xs.length, by simp, Nat.zero_le _, σ4, W4, G4, l4, R4, S4, p0⟩, ?_⟩
  rintro i m σ' H' ⟨rfl, hi, σ5, W5, G5, l5, R5, S5, p5⟩
  have q := hstd i σ5 G5 hi p5
  by_cases hlt : i < xs.length
  · refine .inr ⟨w.goes i W5 G5 H' l5 S5 q hlt, fun τ H'' => ∃ σ3' W' G', W1.le W' ∧ RepS W' σ3' τ ∧ Sim X.K W' G' H'' ∧ Pv (i + 1) σ3' G', fun τ H'' p' => ⟨xs.length - (i + 1), by omega, rfl, hlt, p'⟩, fun x H'' y => ?_⟩
    obtain ⟨W6, d, l6, hd, S6, r6⟩ := w.yields i W5 G5 H' x H'' l5 S5 q hlt y
    have R6 := R5.mono l6
    refine ⟨σ5, W6, G5, d, _, R6, S6, r6, turn i d σ5 G5 hd p5, ⟨fun W7 σ7 G7 τ H7 l7 R7 S7 h7 => ?_⟩⟩
    have up : ∀ W8 σ8 G8 υ H8, W7.le W8 → RepS W8 σ8 υ → Sim X.K W8 G8 H8 → Up X.K (Pv (i + 1)) σ8 G8 → ∃ σ3' W' G', W1.le W' ∧ RepS W' σ3' υ ∧ Sim X.K W' G' H8 ∧ Pv (i + 1) σ3' G' := fun W8 σ8 G8 υ H8 l8 R8 S8 h8 => by
      obtain ⟨σ9, G9, wk9, p9⟩ := h8
      obtain ⟨W9, l9, R9, S9⟩ := wk9 _ _ _ R8 S8
      exact ⟨σ9, W9, G9, l5.trans (l6.trans (l7.trans (l8.trans l9))), R9, S9, p9⟩
    have lk : W.le W7 := l1.trans (l5.trans (l6.trans l7))
    exact ⟨σ7, W7, G7, _, R7, S7, h7, ⟨⟨up⟩, k.rt.mono lk, k.nx.mono lk, ⟨up⟩, k.ex.mono lk⟩⟩
  · have e : i = xs.length := by omega
    subst e
    exact .inl ⟨w.stops W5 G5 H' l5 S5 q, k.nx.run _ _ _ _ _ (l1.trans l5) R5 S5 (done σ5 G5 p5)⟩
end
end T3

namespace T3
open PySem L2
/-! ### comprehensions -/
theorem wipe_get (σ : St) : ∀ (vs : List Nat) (j : Nat), (wipe σ vs)[j]? = if j ∈ vs ∧ j < σ.length then some none else σ[j]?
  | [], j => by simp [wipe]
  | v :: vs, j => by
    unfold wipe
    by_cases h : v = j
    · subst h
      by_cases hl : v < σ.length
      · rw [List.getElem?_set_self (by rw [wipe_length]; exact hl), if_pos ⟨by simp, hl⟩]
      · rw [if_neg (fun z => hl z.2), List.getElem?_eq_none (by simpa [wipe_length] using hl), List.getElem?_eq_none (by simpa using hl)]
    · rw [List.getElem?_set_ne h, wipe_get σ vs j]
      have : (j ∈ v :: vs) ↔ j ∈ vs := by simp [Ne.symm h]
      simp only [this]
theorem wipe_set {σ : St} {vs : List Nat} {i : Nat} {x : Option V} (hi : i ∈ vs) : wipe (σ.set i x) vs = wipe σ vs := by
  apply List.ext_getElem?
  intro j
  rw [wipe_get, wipe_get, List.length_set]
  by_cases h : j ∈ vs ∧ j < σ.length
  · rw [if_pos h, if_pos h]
  · rw [if_neg h, if_neg h]
    by_cases hj : i = j
    · subst hj
      have hl : ¬ i < σ.length := fun z => h ⟨hi, z⟩
      rw [List.getElem?_eq_none (by simpa using hl), List.getElem?_eq_none (by simpa using hl)]
    · rw [List.getElem?_set_ne hj]
theorem wipe_wipe {σ : St} {vs : List Nat} : wipe (wipe σ vs) vs = wipe σ vs := by
  apply List.ext_getElem?
  intro j
  rw [wipe_get, wipe_get, wipe_length]
  by_cases h : j ∈ vs ∧ j < σ.length
  · rw [if_pos h, if_pos h]
  · rw [if_neg h, if_neg h]
/-- a comprehension's target: what it does to the slots -/
abbrev TL3 := D → St3 → Option St3
def TlOk (K : PySem.W.Frag) (vs : List Nat) (g : TG) (g3 : TL3) : Prop := ∀ W d v σ3 σ G H σ3' (Q : St → Hp → Prop), RepS W σ3 (wipe σ vs) → Sim K W G H → Rl W d v → g3 d σ3 = some σ3' → (∀ σ', RepS W σ3' σ' → wipe σ' vs = wipe σ vs → Q σ' H) → g v (wipe σ vs) H Q
def nameL (i : Nat) : TL3 := fun d σ => some (σ.set i (some d))
def pairL (i j : Nat) : TL3 := fun d σ => match d with
  | .tup [x, y] => some ((σ.set i (some x)).set j (some y))
  | _ => none
theorem tl_name {K : PySem.W.Frag} {vs : List Nat} {i : Nat} (hi : i ∈ vs) : TlOk K vs (gName i) (nameL i) := by
  intro W d v σ3 σ G H σ3' Q R S r h k
  cases h
  exact k _ (R.set i r) (by rw [wipe_set hi, wipe_wipe])
theorem tl_pair {K : PySem.W.Frag} {vs : List Nat} {i j : Nat} (hi : i ∈ vs) (hj : j ∈ vs) : TlOk K vs (gTup K 2 (gCons (gName i) (gCons (gName j) gNil))) (pairL i j) := by
  intro W d v σ3 σ G H σ3' Q R S r h k
  match d, r, h with
  | .tup [x, y], ⟨a, vs, e, l, v1, _, e1, r1, v2, _, e2, r2, e3⟩, h =>
    cases (show _ = [] from e3)
    cases h
    subst e2 e1 e
    exact ⟨a, _, rfl, S.ft _ _ l, rfl, _, _, rfl, _, _, rfl, rfl, k _ ((R.set i r1).set j r2) (by rw [wipe_set hj, wipe_set hi, wipe_wipe])⟩
  | .non, _, h => cases h
  | .bl _, _, h => cases h
  | .int _, _, h => cases h
  | .str _, _, h => cases h
  | .ref _, _, h => cases h
  | .lst _, _, h => cases h
  | .scr _, _, h => cases h
  | .tup [], _, h => cases h
  | .tup [_], _, h => cases h
  | .tup (_ :: _ :: _ :: _), _, h => cases h
abbrev wF : WX := fun _ _ _ _ => False
abbrev eF : EX3 := fun _ _ _ => False
theorem okF {K : PySem.W.Frag} {W : Wd} : OkE K W eF wF := ⟨fun _ _ _ _ _ _ _ _ _ h => h⟩
def yes3 : TT3 := fun _ G Q _ => Q true G
/-- [elt for .. in .. if ..]: ys k is what the k-th turn gives -/
def lc3 (src : TI3) (g : TL3) (tt : TT3) (te : TE3) (vs : List Nat) : TE3 := fun σ G Q E => src σ G (fun xs Std G1 => ∃ ys : Nat → Option D, (∀ p acc, Std ((p, .lst acc) :: G1)) ∧
  (∀ k d p acc, xs[k]? = some d → match g d (wipe3 σ vs) with
    | some σ' => tt σ' ((p, .lst acc) :: G1) (fun b G2 => G2 = (p, .lst acc) :: G1 ∧ if b = true then te σ' G2 (fun y G3 => G3 = (p, .lst acc) :: G1 ∧ ys k = some y) eF else ys k = none) eF
    | none => False) ∧ xs.length ≤ sizeLine ∧ Q (.lst ((List.range xs.length).filterMap ys)) G1) E
theorem low_lc {K : PySem.W.Frag} {Wx : WX} {src : TI3} {g : TG} {g3 : TL3} {tt : TT3} {te : TE3} {vs : List Nat} {σ : St} {H : Hp} {Q : VK} (hg : TlOk K vs g g3) :
    lowE K Wx (lc3 src g3 tt te vs) σ H Q → tLc (lowI K Wx src) g (lowT K wF tt) (lowE K wF te) vs σ H Q := by
  rintro ⟨σ3, W, G, Q3, E3, R, S, h, q, e⟩
  refine ⟨σ3, W, G, _, E3, R, S, h, e, fun W1 xs Std G1 J H1 l1 S1 h1 w => ?_⟩
  intro Dl hD
  obtain ⟨ys, hstd, turn, hz, h1⟩ := h1
  refine ⟨fun k m H' => m = xs.length - k ∧ k ≤ xs.length ∧ ∃ W', W1.le W' ∧ Sim K W' ((Dl, .lst ((List.range k).filterMap ys)) :: G1) H', ⟨xs.length, by simp, Nat.zero_le _, W1, .refl _, S1.newO (o := .lst []) hD ⟨[], upd_same, rfl⟩⟩, ?_⟩
  rintro k m H' ⟨rfl, hk, W', l', S'⟩
  by_cases hlt : k < xs.length
  · refine .inr ⟨w.goes k W' _ H' l' S' (hstd _ _) hlt, fun H'' => ∃ W', W1.le W' ∧ Sim K W' ((Dl, .lst ((List.range (k + 1)).filterMap ys)) :: G1) H'', fun H'' p' => ⟨xs.length - (k + 1), by omega, rfl, hlt, p'⟩, fun x H'' y => ?_⟩
    obtain ⟨W2, d, l2, hd, S2, r2⟩ := w.yields k W' _ H' x H'' l' S' (hstd _ _) hlt y
    have t := turn k d Dl ((List.range k).filterMap ys) hd
    cases hg3 : g3 d (wipe3 σ3 vs) with
    | none => rw [hg3] at t; exact t.elim
    | some σ4 =>
      rw [hg3] at t
      have RW : RepS W2 (wipe3 σ3 vs) (wipe σ vs) := (R.mono (l1.trans (l'.trans l2))).wipe vs
      refine hg W2 d x (wipe3 σ3 vs) σ _ H'' σ4 _ RW S2 r2 hg3 fun σ' R' hw => ⟨hw, ?_⟩
      refine ⟨σ4, W2, _, _, eF, R', S2, t, ⟨fun W3 b G3 H3 l3 S3 h3 => ?_⟩, okF⟩
      obtain ⟨rfl, h3⟩ := h3
      cases b with
      | false =>
        rw [if_neg Bool.false_ne_true] at h3 ⊢
        refine ⟨W3, l'.trans (l2.trans l3), ?_⟩
        rw [List.range_succ, List.filterMap_append]
        simp only [List.filterMap_cons, h3, List.filterMap_nil, List.append_nil]
        exact S3
      | true =>
        rw [if_pos rfl] at h3 ⊢
        refine ⟨σ4, W3, _, _, eF, R'.mono l3, S3, h3, ⟨fun W4 y G4 y' H4 l4 S4 r4 h4 => ?_⟩, okF⟩
        obtain ⟨rfl, hy⟩ := h4
        obtain ⟨us, e4, q4⟩ := S4.ob _ _ (List.mem_cons_self ..)
        refine ⟨us, e4, ?_, W4, l'.trans (l2.trans (l3.trans l4)), ?_⟩
        · have : ((List.range k).filterMap ys).length ≤ k := by
            have := List.length_filterMap_le ys (List.range k)
            simpa using this
          rw [← q4.length]
          omega
        · rw [List.range_succ, List.filterMap_append]
          simp only [List.filterMap_cons, hy, List.filterMap_nil]
          exact S4.put (o' := .lst ((List.range k).filterMap ys ++ [y])) .head ⟨_, upd_same, q4.append (RlL.one r4)⟩
  · have e : k = xs.length := by omega
    subst e
    refine .inl ⟨w.stops W' _ H' l' S' (hstd _ _), ?_⟩
    obtain ⟨W5, l5, S5, r5⟩ := S'.freeze
    exact q.run _ _ _ _ _ (l1.trans (l'.trans l5)) S5 r5 h1
section
variable {X : Cx} {Wx : WX}
theorem e_lc {e : Expr} {src : TI3} {g : TG} {g3 : TL3} {tt : TT3} {te : TE3} {vs : List Nat} (h : PE X e (tLc (lowI X.K Wx src) g (lowT X.K wF tt) (lowE X.K wF te) vs)) (hg : TlOk X.K vs g g3) : PE X e (lowE X.K Wx (lc3 src g3 tt te vs)) := h.imp3 fun _ _ _ => low_lc hg
theorem ts_nil : PTs X [] (lowT X.K Wx yes3) := by
  refine pts_nil.imp3 ?_
  rintro σ H Q ⟨σ3, W, G, Q3, E3, R, S, h, q, e⟩
  exact q.run _ _ _ _ (.refl _) S h
theorem ts_one {c : Expr} {t : TT3} (h : PT X c (lowT X.K Wx t)) : PTs X [c] (lowT X.K Wx t) := pts_one h
/-! ### raise, try -/
def raise3 (C : Addr) : TS3 := fun D σ G => D.ex C σ G
theorem s_raise {e : Expr} {pos : Pos} {C : Addr} (hc : X.calm = true) (tk : Takes X Wx) (hm : PMk X e (fun _ H Q => Q (.ref C) none H)) : PS X (.Raise (some e) none pos) (lowS X.K Wx (raise3 C)) := by
  refine (ps_raise hc tk hm).imp3 ?_
  rintro D σ H ⟨σ3, W, G, D3, R, S, h, k⟩
  exact k.ex.run _ _ _ _ _ _ (.refl _) R S h
/-- what the clauses do with an exception of the class C -/
def hd3 (K : PySem.W.Frag) (D : Ends3) : List (Addr × TS3) → EX3
  | [] => D.ex
  | (c, ts) :: r => fun C σ G => ∃ b, PySem.W.exmOne K (.ref C) (.ref c) = some b ∧ (b = true → ts { D with ex := eF } σ G) ∧ (b = false → hd3 K D r C σ G)
def try3 (K : PySem.W.Frag) (tb : TS3) (l : List (Addr × TS3)) : TS3 := fun D σ G => tb { D with ex := hd3 K D l } σ G
/-- the clauses, at the layer below -/
def lowH (K : PySem.W.Frag) : List (Addr × TS3) → List (Value × (Addr → Value → Option Addr → TS)) := List.map fun p => (.ref p.1, fun _ _ _ => lowS K wF p.2)
theorem OkD.noex {K : PySem.W.Frag} {W : Wd} {Wx : WX} {D3 : Ends3} {D : Ends} (k : OkD K W Wx D3 D) : OkD K W wF { D3 with ex := eF } D := ⟨k.nx, k.rt, k.bk, k.ct, okF⟩
theorem s_try {body : List Stmt} {h₀ : ExceptHandler} {hds : List ExceptHandler} {l : List (Addr × TS3)} {pos : Pos} {tb : TS3} (hs : X.stack = X.env :: X.outer) (hf : X.env.frame = some X.env.locals) (tk : Takes X Wx)
    (hb : ∀ (W : WX) (pn : List (Addr × Obj)) (xe : Value → Shared → Prop), Takes (X.tr pn xe) W → PassesOwn (model X.prog X.w) X.A X.env xe → PSs (X.tr pn xe) body (lowS X.K W tb))
    (hh : HdsOk X (h₀ :: hds) (lowH X.K l)) : PS X (.Try body (h₀ :: hds) [] [] pos) (lowS X.K Wx (try3 X.K tb l)) := by
  refine (ps_try_many (Wout := Wx) (tb := fun W => lowS X.K W tb) hs hf tk hb hh).imp3 ?_
  rintro D σ H ⟨σ3, W, G, D3, R, S, h, k⟩
  refine ⟨σ3, W, G, _, R, S, h, ⟨k.nx, k.rt, k.bk, k.ct, ⟨fun C W' σ4 G' σ' H' l' R' S' h' => ?_⟩⟩⟩
  have go : ∀ l : List (Addr × TS3), hd3 X.K D3 l C σ4 G' → wMany X.K Wx D (lowH X.K l) (.ref C) none σ' H' := by
    intro l
    induction l with
    | nil => intro h; exact k.ex.run _ _ _ _ _ _ l' R' S' h
    | cons p r ih =>
      rintro ⟨b, hb, h1, h2⟩
      exact ⟨b, hb, fun e a ha => ⟨σ4, W', G', _, R', S', h1 e, (k.mono l').noex⟩, fun e => ih (h2 e)⟩
  exact go l h'
theorem hd_nil : HdsOk X [] (lowH X.K []) := .nil
theorem hd_cons {x : Str} {c : Addr} {ts : TS3} {b₀ : Stmt} {suite : List Stmt} {np pos' : Pos} {hds : List ExceptHandler} {l : List (Addr × TS3)} (hc : Names X x (.ref c))
    (hsu : ∀ (a : Addr) (oe : Obj) (pn : List (Addr × Obj)), PSs (X.suite a ((a, oe) :: pn)) (b₀ :: suite) (lowS X.K wF ts)) (r : HdsOk X hds (lowH X.K l)) : HdsOk X (.ExceptHandler (some (.Name x np)) none (b₀ :: suite) pos' :: hds) (lowH X.K ((c, ts) :: l)) :=
  .cons hc (fun a oe cls d pn _ _ => hsu a oe pn) r
/-- try: .. except x as n: .. -/
def tryAs3 (K : PySem.W.Frag) (tb : TS3) (i : Nat) (c : Addr) (ts : Addr → Addr → TS3) : TS3 := fun D σ G => tb { D with ex := fun C σ G => ∃ b, PySem.W.exmOne K (.ref C) (.ref c) = some b ∧
  (b = true → ∀ a, ts a C { nx := fun σ' G' => D.nx (σ'.set i none) G', rt := D.rt, bk := fun σ' G' => D.bk (σ'.set i none) G', ct := fun σ' G' => D.ct (σ'.set i none) G', ex := eF } (σ.set i (some (.ref a))) G) ∧ (b = false → D.ex C σ G) } σ G
def lowAs (K : PySem.W.Frag) (ts : Addr → Addr → TS3) : Addr → Value → Option Addr → TS := fun a cls d D σ H => ∃ C, cls = .ref C ∧ d = none ∧ lowS K wF (ts a C) D σ H
theorem s_tryAs {x n : Str} {c : Addr} {i : Nat} {body suite : List Stmt} {b₀ : Stmt} {np pos pos' : Pos} {tb : TS3} {ts : Addr → Addr → TS3} (hs : X.stack = X.env :: X.outer) (hf : X.env.frame = some X.env.locals) (hN : X.N.Nodup) (hi : X.N[i]? = some n) (hln : X.env.kindOf n = some .local) (hc : Names X x (.ref c)) (tk : Takes X Wx)
    (hb : ∀ (W : WX) (pn : List (Addr × Obj)) (xe : Value → Shared → Prop), Takes (X.tr pn xe) W → PassesOwn (model X.prog X.w) X.A X.env xe → PSs (X.tr pn xe) body (lowS X.K W tb))
    (hsu : ∀ (a : Addr) (oe : Obj) (C : Addr) (pn : List (Addr × Obj)), Zc (.ref C) none oe → (∃ vs, oe.data = .fields vs) → PSs (X.suite a ((a, oe) :: pn)) (b₀ :: suite) (lowS X.K wF (ts a C))) :
    PS X (.Try body [.ExceptHandler (some (.Name x np)) (some n) (b₀ :: suite) pos'] [] [] pos) (lowS X.K Wx (tryAs3 X.K tb i c ts)) := by
  refine (ps_try_as (Wout := Wx) (tb := fun W => lowS X.K W tb) (ts := lowAs X.K ts) hs hf hN hi hln hc tk hb (fun a oe cls d pn hz hv => ⟨fun pins s σ H D I q => ?_⟩)).imp3 ?_
  · obtain ⟨C, rfl, rfl, q⟩ := q
    exact (hsu a oe C pn hz hv).run pins s σ H D I q
  · rintro D σ H ⟨σ3, W, G, D3, R, S, h, k⟩
    refine ⟨σ3, W, G, _, R, S, h, ⟨k.nx, k.rt, k.bk, k.ct, ⟨fun C W' σ4 G' σ' H' l' R' S' h' => ?_⟩⟩⟩
    obtain ⟨b, hb, h1, h2⟩ := h'
    refine ⟨b, hb, fun e a ha => ⟨C, rfl, rfl, σ4.set i (some (.ref a)), W', G', _, R'.set i rfl, S', h1 e a, ?_⟩, fun e => k.ex.run _ _ _ _ _ _ l' R' S' (h2 e)⟩
    have k' := k.mono l'
    exact ⟨⟨fun W'' σ5 G5 σ'' H5 l5 R5 S5 h5 => k'.nx.run _ _ _ _ _ l5 (R5.forget i none) S5 h5⟩, k'.rt, ⟨fun W'' σ5 G5 σ'' H5 l5 R5 S5 h5 => k'.bk.run _ _ _ _ _ l5 (R5.forget i none) S5 h5⟩, ⟨fun W'' σ5 G5 σ'' H5 l5 R5 S5 h5 => k'.ct.run _ _ _ _ _ l5 (R5.forget i none) S5 h5⟩, okF⟩
/-- isinstance(e, T) of the exception that the suite holds -/
def isE3 (K : PySem.W.Frag) (a C : Addr) (cv : Value) (i : Nat) : TE3 := fun σ G Q _ => getS σ i = some (.ref a) ∧ ExcC K C ∧ ∃ b, PySem.W.kitOne K (.ref C) cv = some b ∧ Q (.bl b) G
theorem e_isE {a C : Addr} {oe : Obj} {pn : List (Addr × Obj)} {e ty : Expr} {i : Nat} {c : V} {cv : Value} {p pos : Pos} (hz : Zc (.ref C) none oe) (hf : ∃ vs, oe.data = .fields vs) (he : PE (X.suite a ((a, oe) :: pn)) e (tVar i)) (ht : PE (X.suite a ((a, oe) :: pn)) ty (tC c)) (hcv : ∀ u, RelV c u → u = cv)
    (hg : Gl X "isinstance") (hm : X.mg "isinstance" = none) (hv : bootBuiltins "isinstance" = some (.builtin "isinstance") := by decide +kernel)
    (hs : starEach [e, ty] X.env = (false, eval e X.env) :: starEach [ty] X.env := by rfl) (hs2 : starEach [ty] X.env = (false, eval ty X.env) :: starEach [] X.env := by rfl) (hpl : (backTo pos (starEach [ty] X.env)).any (·.1) = false := by rfl) :
    PE (X.suite a ((a, oe) :: pn)) (.Call (.Name "isinstance" p) [e, ty] [] pos) (lowE X.K wF (isE3 X.K a C cv i)) := by
  refine ⟨fun pins s σ H Q I q => ?_⟩
  obtain ⟨σ3, W, G, Q3, E3, R, S, ⟨h1, hC, b, hb, h⟩, q, e⟩ := q
  obtain ⟨v, e1, r1⟩ := R.get i _ h1
  cases r1
  refine (pe_callB (call_isE hC hz hf) (X := X.suite a ((a, oe) :: pn)) hg hm hv (pa_cons he (pa_cons ht pa_nil hs2) hs) (by decide) (by decide) hs hpl).run pins s σ H Q I ?_
  exact ⟨_, e1, c, cv, b, rfl, hcv, hb, q.run _ (.bl b) _ _ _ (.refl _) S rfl h⟩
end
/-! ### a def keeps its promise -/
section
variable {P : Program} {w : World} {K : PySem.W.Frag} {mg : Str → Option Value} {base : Heap}
abbrev OkFn (P : Program) (w : World) (K : PySem.W.Frag) (mg : Str → Option Value) (base : Heap) (k : Nat) (f : Addr) (fd : FuncData) (ps : List Str) (sp : Sp3) : Prop := FnOk P w K mg base (L2.CX P w) k f fd ps (lowSp K sp)
/-- what is wanted behind a body -/
abbrev endD (K : PySem.W.Frag) (Q3 : VK3) (E3 : Addr → G3 → Prop) : Ends3 := { nx := fun _ G => UpV K Q3 .non G, rt := UpV K Q3, ex := fun C _ G => E3 C G }
theorem _root_.L2.Fun.ok3 {x qual : Str} {st : Stmt} {f : Addr} {fd : FuncData} {N ps : List Str} {k : Nat} {sp : Sp3} (F : Fun K x qual st f fd) (S : FnScope N ps (defScope st)) (len : ∀ ds G Q E, sp ds G Q E → ds.length = ps.length)
    (hbody : ∀ (cdv : Value) (A : Around) (outer : List Env) (s : Shared) (H : Hp) (E : XK), Room k (A.deeper (PyProof.Rows.envOfC qual (defScope st) s.heap.objs.size f cdv)) →
      ∃ t : TS3, PSs (cxOf (L2.CX P w) P w K mg base N qual (defScope st) f cdv A outer s H E) (defBody st) (lowS K (fun cls d _ H' => E cls d H') t) ∧ ∀ ds G Q3 E3, sp ds G Q3 E3 → t (endD K Q3 E3) (start3 N ds) G) :
    OkFn P w K mg base (k + 1) f fd ps sp := by
  refine F.okX S (fun vs H Q E h => ?_) (fun cdv A outer s H vs Q E hr h => ?_)
  · obtain ⟨ds, W, G, Q3, E3, r, S, hsp, _⟩ := h
    rw [← r.length]
    exact len _ _ _ _ hsp
  · obtain ⟨t, ht, hread⟩ := hbody cdv A outer s H E hr
    obtain ⟨ds, W, G, Q3, E3, r, S, hsp, q, e⟩ := h
    refine ⟨_, ht, start3 N ds, W, G, _, RepS.start N r, S, hread ds G Q3 E3 hsp, ⟨⟨fun W' σ3 G' σ' H' l' R' S' h' => ?_⟩, ⟨fun W' d G' v H' l' S' r' h' => ?_⟩, ⟨fun _ _ _ _ _ _ _ _ h => h.elim⟩, ⟨fun _ _ _ _ _ _ _ _ h => h.elim⟩, ⟨fun C W' σ3 G' σ' H' l' R' S' h' => e C W' G' H' l' S' h'⟩⟩⟩
    · obtain ⟨d2, G2, wk, h2⟩ := h'
      obtain ⟨W2, l2, r2, S2⟩ := wk W' H' .non rfl S'
      exact q.run _ _ _ _ _ (l'.trans l2) S2 r2 h2
    · obtain ⟨d2, G2, wk, h2⟩ := h'
      obtain ⟨W2, l2, r2, S2⟩ := wk W' H' v r' S'
      exact q.run _ _ _ _ _ (l'.trans l2) S2 r2 h2
end
end T3

namespace T3
open PySem L2
section
variable {X : Cx} {Wx : WX}
/-- a statement, a word between, the rest -/
def cut3 (K : PySem.W.Frag) (t u : TS3) : TS3 := fun D σ G => ∃ Mid : St3 → G3 → Prop, t { D with nx := Up K Mid } σ G ∧ ∀ σ' G', Mid σ' G' → u D σ' G'
theorem b_cut {st : Stmt} {rest : List Stmt} {t u : TS3} (h1 : PS X st (lowS X.K Wx t)) (h2 : PSs X rest (lowS X.K Wx u)) : PSs X (st :: rest) (lowS X.K Wx (cut3 X.K t u)) := by
  refine (pss_cons h1 h2).imp3 ?_
  rintro D σ H ⟨σ3, W, G, D3, R, S, ⟨Mid, h, hm⟩, k⟩
  refine ⟨σ3, W, G, { D3 with nx := Up X.K Mid }, R, S, h, ⟨⟨fun W1 σ1 G1 σ' H1 l1 R1 S1 h1 => ?_⟩, k.rt, k.bk, k.ct, k.ex⟩⟩
  obtain ⟨σ2, G2, w, h2⟩ := h1
  obtain ⟨W2, l2, R2, S2⟩ := w _ _ _ R1 S1
  exact ⟨σ2, W2, G2, D3, R2, S2, hm _ _ h2, k.mono (l1.trans l2)⟩
end
/-! ### words for readings -/
section
variable {K : PySem.W.Frag} {σ : St3} {G : G3} {a : Addr} {ds : List D} {d : D}
/-- a value handed back as it is -/
theorem UpV.list {P : D → G3 → Prop} (h : P (.lst ds) G) : UpV K P (.ref a) ((a, .lst ds) :: G) := ⟨_, _, WkV.freeze, h⟩
theorem UpV.drop {P : D → G3 → Prop} {e : Addr × DO} (h : UpV K P d G) : UpV K P d (e :: G) := by
  obtain ⟨d', G', w, h⟩ := h
  exact ⟨d', G', WkV.drop.trans w, h⟩
theorem UpV.list2 {P : D → G3 → Prop} {b : Addr} {es : List D} (h : P (.tup [.lst ds, .lst es]) G) : UpV K P (.tup [.ref a, .ref b]) ((a, .lst ds) :: (b, .lst es) :: G) := ⟨_, _, WkV.freeze2, h⟩
theorem Up.freeze {P : St3 → G3 → Prop} (i : Nat) (hi : getS σ i = some (.ref a)) (h : Up K P (σ.set i (some (.lst ds))) G) : Up K P σ ((a, .lst ds) :: G) := by
  obtain ⟨σ', G', w, h⟩ := h
  exact ⟨σ', G', (WkS.freeze i hi).trans w, h⟩
theorem Up.drop {P : St3 → G3 → Prop} {e : Addr × DO} (h : Up K P σ G) : Up K P σ (e :: G) := by
  obtain ⟨σ', G', w, h⟩ := h
  exact ⟨σ', G', WkS.drop.trans w, h⟩
theorem Up.forget {P : St3 → G3 → Prop} (i : Nat) (h : Up K P (σ.set i none) G) : Up K P σ G := by
  obtain ⟨σ', G', w, h⟩ := h
  exact ⟨σ', G', (WkS.forget i).trans w, h⟩
theorem Up.perm {P : St3 → G3 → Prop} {G' : G3} (p : G.Perm G') (h : Up K P σ G') : Up K P σ G := by
  obtain ⟨σ', G2, w, h⟩ := h
  exact ⟨σ', G2, (WkS.perm p).trans w, h⟩
end
theorem div_lt {i j : Int} (h : 0 < j) (h2 : j < 2 ^ 8000) : CDivW i j := by
  refine ⟨h, ?_⟩
  have hj : j.natAbs < 2 ^ 8000 := by omega
  exact Nat.lt_of_lt_of_le (PySem.Flt.log2_lt_of (by decide) hj) (by decide)
theorem get_map {α β : Type} {f : α → β} {l : List α} {i : Nat} {d : β} (h : (l.map f)[i]? = some d) : ∃ x, l[i]? = some x ∧ d = f x := by
  rw [List.getElem?_map] at h
  cases e : l[i]? with
  | none => rw [e] at h; cases h
  | some x => rw [e] at h; exact ⟨x, rfl, (Option.some.inj h).symm⟩
theorem take_snoc {α : Type} {l : List α} {i : Nat} {x : α} (h : l[i]? = some x) : l.take (i + 1) = l.take i ++ [x] := by
  rw [List.take_succ, h]; rfl
theorem get_mem {α : Type} {l : List α} {i : Nat} {x : α} (h : l[i]? = some x) : x ∈ l := List.mem_of_getElem? h
theorem get_lt {α : Type} {l : List α} {i : Nat} {x : α} (h : l[i]? = some x) : i < l.length := (List.getElem?_eq_some_iff.mp h).1
theorem size_lt {n : Nat} (h : n ≤ 100000) : n < sizeLine := Nat.lt_of_le_of_lt h (by decide)
theorem size_le {n : Nat} (h : n ≤ 100000) : n ≤ sizeLine := Nat.le_trans h (by decide)
theorem range_get {lo : Int} {n i : Nat} {d : D} (h : (rangeD lo n)[i]? = some d) : i < n ∧ d = .int (lo + (i : Int)) := by
  obtain ⟨k, h1, rfl⟩ := get_map h
  have hl := get_lt h1
  rw [List.length_range] at hl
  rw [List.getElem?_range hl] at h1
  cases h1
  exact ⟨hl, rfl⟩
theorem nats_get {n i : Nat} {d : D} (h : (natsD n)[i]? = some d) : i < n ∧ d = .int (i : Int) := by
  obtain ⟨k, h1, rfl⟩ := get_map h
  have hl := get_lt h1
  rw [List.length_range] at hl
  rw [List.getElem?_range hl] at h1
  cases h1
  exact ⟨hl, rfl⟩
theorem nats_len (n : Nat) : (natsD n).length = n := by simp [natsD]
theorem range_len (lo : Int) (n : Nat) : (rangeD lo n).length = n := by simp [rangeD]
/-- what a small number is -/
theorem bl_le {x : Int} {n : Nat} (h0 : 0 ≤ x) (h : x < 2 ^ (n + 1)) : bl x ≤ n := by
  refine bl_lt ?_
  have e : ((2 ^ (n + 1) : Nat) : Int) = 2 ^ (n + 1) := by simp
  omega
/-- small factors -/
theorem mul_small {i j : Int} (h1 : 0 ≤ i) (h2 : i < 2 ^ 64) (h3 : 0 ≤ j) (h4 : j < 2 ^ 64) : CMulX i j := mul_ok (bl_le (n := 63) h1 h2) (bl_le (n := 63) h3 h4) (by decide)
theorem kit_type {K : PySem.W.Frag} {C : Addr} {T : String} {b : Bool} (hs : PySem.W.subIn K (.ref C) (.type T) = some b) (hk : PySem.W.kitMeta T = true := by decide +kernel) : PySem.W.kitOne K (.ref C) (.type T) = some b := by
  unfold PySem.W.kitOne PySem.W.kitCls
  rw [if_neg (by simp)]
  show (if PySem.W.kitMeta T = true then PySem.W.subIn K (.ref C) (.type T) else none) = some b
  rw [if_pos hk]
  exact hs
theorem kit_ref {K : PySem.W.Frag} {C E : Addr} {b : Bool} (hd : PySem.W.hasDictIn K E = true) (ht : PySem.W.typeIn K (.ref E) = some (.type "type")) (hs : PySem.W.subIn K (.ref C) (.ref E) = some b) (hr : PySem.W.subIn K (.ref C) (.ref C) = some true) : PySem.W.kitOne K (.ref C) (.ref E) = some b := by
  obtain ⟨cd, hc, _⟩ := PySem.W.any_some hd
  have e2 : ((PySem.W.clsIn K E).isSome && PySem.W.typeIn K (.ref E) == some (.type "type")) = true := by rw [hc, ht] <;> rfl
  unfold PySem.W.kitOne PySem.W.kitCls
  by_cases e : C = E
  · subst e
    rw [if_pos (by simp)]
    rw [hr] at hs
    exact hs
  · rw [if_neg (by simpa using e)]
    show (if ((PySem.W.clsIn K E).isSome && PySem.W.typeIn K (.ref E) == some (.type "type")) = true then PySem.W.subIn K (.ref C) (.ref E) else none) = some b
    rw [if_pos e2]
    exact hs
/-! ### the law's end -/
/-- what is known of a script: at most 63 numbers, of at most 2^20 bits -/
structure ScOk (ns : List Int) : Prop where
  len : ns.length ≤ 63
  bits : ∀ z ∈ ns, bl z ≤ 1048576
theorem bl_of_bits {z : Int} (h : Builtin.Int.intBits z ≤ 1048576) : bl z ≤ 1048576 := by
  unfold Builtin.Int.intBits at h
  unfold bl
  split at h
  · rename_i h0
    simp at h0
    subst h0
    simp
  · omega
theorem law_low {K : PySem.W.Frag} {sp : Sp3} {H : Hp} {a : Addr} {ns : List Int} (hO : Only H) (hS : SqL K H a (ns.map V.int)) (h : sp [.scr ns] [] (fun d _ => d = .bl true) (fun _ _ => False)) : lowSp K sp [.ref a] H (fun v _ => v = .bl true) fun _ _ _ => False := by
  refine ⟨[.scr ns], ⟨fun _ _ => False, fun _ _ => False, fun b ms => b = a ∧ ms = ns⟩, [], _, _, ⟨_, _, rfl, ⟨a, rfl, rfl, rfl⟩, rfl⟩, ⟨by simp, fun _ _ h => by simp at h, fun _ _ h => h.elim, ?_, fun _ _ h => h.elim⟩, h, ⟨fun W' d G v H' _ _ r hd => ?_⟩, fun _ _ _ _ _ _ h => h.elim⟩
  · rintro b ms ⟨rfl, rfl⟩
    rcases hS with (e | ⟨o, e⟩) | e
    · rcases hO b with z | ⟨o, xs, z⟩
      · rw [z] at e; cases e
      · rw [z] at e; cases e
    · exact .inl ⟨o, e⟩
    · exact .inr e
  · have hd' : d = .bl true := hd
    subst hd'
    exact r
theorem walk3 {l : PySem.W.OpenLaw} {k : Nat} {q : Program} {loose : List Str} {XP : (Str → Option Value) → Heap → Prop} {YP : World → Heap → Prop} {d : DefRec} {K : Params → PySem.W.Frag} {sp : PySem.W.Frag → Sp3} {x : Str}
    (hn : l.most = some 63) (hdf : d.params.defaults = []) (hr : Room k callerA)
    (hY : ∀ (w : World) (h : Heap), YP w h → (K w.params).In h)
    (F : ∀ (w : World) (mg : Str → Option Value) (fa : Addr) (h : Heap), (K w.params).In h → h.Ns mainGlobals mg → mg d.name = some (.ref fa) →
      ∃ fd : FuncData, (∀ (s : Shared) (u : Value), BindsTo s fd ⟨[u], []⟩ [(x, u)]) ∧ ∀ base : Heap, (K w.params).In base → base.Ns mainGlobals mg → OkFn l.prog w (K w.params) mg base k fa fd [x] (sp (K w.params)))
    (hsp : ∀ (K : PySem.W.Frag) (ns : List Int), ScOk ns → sp K [.scr ns] [] (fun d _ => d = .bl true) (fun _ _ => False)) :
    PySem.W.WalkO q loose XP YP l.row.toRowW d [] (fun f vs => PySem.call f vs) :=
  L2.walk_ofB (n := 63) (k := k) (x := x) (CX := fun w => L2.CX l.prog w) (sp := fun w => lowSp (K w.params) (sp (K w.params))) hn (by decide) hdf hr hY F
    (fun w H a ns hl hb hO hS => law_low hO hS (hsp _ ns ⟨hl, fun z hz => bl_of_bits (hb z hz)⟩)) fun w H s e s' h => by
      obtain ⟨_, _, _, _, _, _, _, _, _, _, _, _, z⟩ := h
      exact z
end T3

namespace T3
open PySem L2
section
variable {X : Cx} {Wx : WX}
/-! ### a op b op c -/
def chain3 (r r' : R3) (ta tb tc : TE3) : TE3 := fun σ G Q E => ta σ G (fun x G1 => tb σ G1 (fun y G2 => r x y G2 fun z G3 => match z with
  | .bl k => if k = true then tc σ G3 (fun w G4 => r' y w G4 Q) E else Q (.bl false) G3
  | _ => False) E) E
/-- an int comparison's rule and its reading -/
structure ChR (X : Cx) (op : CmpOp) (r3 : R3) : Prop where
  ex : ∃ r : R2, OpR X (compareOp op) r ∧ OpL X.K r3 r
theorem ch_lt : ChR X .Lt lt3 := ⟨_, op_lt, opl_cmp⟩
theorem ch_le : ChR X .LtE le3 := ⟨_, op_le, opl_cmp⟩
theorem ch_gt : ChR X .Gt gt3 := ⟨_, op_gt, opl_cmp⟩
theorem ch_ge : ChR X .GtE ge3 := ⟨_, op_ge, opl_cmp⟩
theorem low_chain {K : PySem.W.Frag} {r3 r3' : R3} {r r' : R2} {ta tb tc : TE3} (h1 : OpL K r3 r) (h2 : OpL K r3' r') {σ : St} {H : Hp} {Q : VK} : lowE K Wx (chain3 r3 r3' ta tb tc) σ H Q → tChain r r' (lowE K Wx ta) (lowE K Wx tb) (lowE K Wx tc) σ H Q := by
  rintro ⟨σ3, W, G, Q3, E3, R, S, h, q, e⟩
  refine ⟨σ3, W, G, _, E3, R, S, h, ⟨fun W1 x G1 x' H1 l1 S1 q1 k1 => ?_⟩, e⟩
  refine ⟨σ3, W1, G1, _, E3, R.mono l1, S1, k1, ⟨fun W2 y G2 y' H2 l2 S2 q2 k2 => ?_⟩, e.mono l1⟩
  refine h1 _ _ _ _ _ _ _ _ _ S2 (q1.mono l2) q2 k2 ⟨fun W3 z G3 z' H3 l3 S3 q3 k3 => ?_⟩
  cases z with
  | bl k =>
    cases q3
    refine ⟨k, rfl, ?_⟩
    have ll := l1.trans (l2.trans l3)
    cases k with
    | true =>
      have k3 : tc σ3 G3 (fun w G4 => r3' y w G4 Q3) E3 := by simpa using k3
      rw [if_pos rfl]
      refine ⟨σ3, W3, G3, _, E3, R.mono ll, S3, k3, ⟨fun W4 w G4 w' H4 l4 S4 q4 k4 => ?_⟩, e.mono ll⟩
      exact h2 _ _ _ _ _ _ _ _ _ S4 (q2.mono (l3.trans l4)) q4 k4 (q.mono (ll.trans l4))
    | false =>
      have k3 : Q3 (.bl false) G3 := by simpa using k3
      rw [if_neg Bool.false_ne_true]
      exact q.run _ (.bl false) _ _ _ ll S3 rfl k3
  | _ => exact k3.elim
section
variable {a b c e : Expr} {ta tb tc te : TE3} {pos : Pos} {op op' : CmpOp} {r3 r3' : R3}
theorem e_chain (h1 : ChR X op r3) (h2 : ChR X op' r3') (ha : PE X a (lowE X.K Wx ta)) (hb : PE X b (lowE X.K Wx tb)) (hc : PE X c (lowE X.K Wx tc)) (hm : lastMarks [op, op'] [b, c] = false := by with_unfolding_all rfl) : PE X (.Compare a [op, op'] [b, c] pos) (lowE X.K Wx (chain3 r3 r3' ta tb tc)) := by
  obtain ⟨r, h1, g1⟩ := h1.ex
  obtain ⟨r', h2, g2⟩ := h2.ex
  exact (pe_chain h1 h2 ha hb hc hm).imp3 fun _ _ _ => low_chain g1 g2
theorem t_chain (h1 : ChR X op r3) (h2 : ChR X op' r3') (ha : PE X a (lowE X.K Wx ta)) (hb : PE X b (lowE X.K Wx tb)) (hc : PE X c (lowE X.K Wx tc)) (hm : lastMarks [op, op'] [b, c] = false := by with_unfolding_all rfl) : PT X (.Compare a [op, op'] [b, c] pos) (lowT X.K Wx (t3 (chain3 r3 r3' ta tb tc))) := by
  obtain ⟨r, h1, g1⟩ := h1.ex
  obtain ⟨r', h2, g2⟩ := h2.ex
  refine (pt_chain h1 h2 ha hb hc hm).imp3 fun σ H Q h => ?_
  obtain ⟨σ3, W, G, Q3, E3, R, S, h, q, e⟩ := low_t h
  exact low_chain g1 g2 ⟨σ3, W, G, Q3, E3, R, S, h, q, e⟩
/-! ### is None -/
def isN3 (neg : Bool) : U3 := fun x G Q => match x with
  | .non => Q (.bl (!neg)) G
  | _ => Q (.bl neg) G
theorem isN_ok {x : D} {x' : V} {W : Wd} (r : Rl W x x') : decide (x' = .non) = (match x with | .non => true | _ => false) := by
  cases x with
  | non => cases r; rfl
  | bl _ => cases r; rfl
  | int _ => cases r; rfl
  | str _ => cases r; rfl
  | ref _ => cases r; rfl
  | tup _ => obtain ⟨a, vs, rfl, _⟩ := r; rfl
  | lst _ => obtain ⟨a, vs, rfl, _⟩ := r; rfl
  | scr _ => obtain ⟨a, rfl, _⟩ := r; rfl
theorem low_isN {K : PySem.W.Frag} {σ : St} {H : Hp} {Q : VK} : lowE K Wx (un3 (isN3 false) ta) σ H Q → tIsN (lowE K Wx ta) σ H Q := by
  rintro ⟨σ3, W, G, Q3, E3, R, S, h, q, e⟩
  refine ⟨σ3, W, G, _, E3, R, S, h, ⟨fun W1 x G1 x' H1 l1 S1 r1 h1 => ?_⟩, e⟩
  show Q (.bl (decide (x' = .non))) H1
  rw [isN_ok r1]
  refine q.run _ (.bl _) _ _ _ l1 S1 rfl ?_
  cases x <;> exact h1
theorem low_isnN {K : PySem.W.Frag} {σ : St} {H : Hp} {Q : VK} : lowE K Wx (un3 (isN3 true) ta) σ H Q → tNotN (lowE K Wx ta) σ H Q := by
  rintro ⟨σ3, W, G, Q3, E3, R, S, h, q, e⟩
  refine ⟨σ3, W, G, _, E3, R, S, h, ⟨fun W1 x G1 x' H1 l1 S1 r1 h1 => ?_⟩, e⟩
  show Q (.bl (!decide (x' = .non))) H1
  rw [isN_ok r1]
  refine q.run _ (.bl _) _ _ _ l1 S1 rfl ?_
  cases x <;> exact h1
theorem e_isNone {j p} (ha : PE X a (lowE X.K Wx ta)) : PE X (.Compare a [.Is] [.Constant .none j p] pos) (lowE X.K Wx (un3 (isN3 false) ta)) := (pe_cmp (pc_isN ha) rfl).imp3 fun _ _ _ => low_isN
theorem e_isnNone {j p} (ha : PE X a (lowE X.K Wx ta)) : PE X (.Compare a [.IsNot] [.Constant .none j p] pos) (lowE X.K Wx (un3 (isN3 true) ta)) := (pe_cmp (pc_notN ha) rfl).imp3 fun _ _ _ => low_isnN
theorem t_isNone {j p} (ha : PE X a (lowE X.K Wx ta)) : PT X (.Compare a [.Is] [.Constant .none j p] pos) (lowT X.K Wx (t3 (un3 (isN3 false) ta))) := by
  refine (pt_cmp (pc_isN ha) rfl).imp3 fun σ H Q h => ?_
  obtain ⟨σ3, W, G, Q3, E3, R, S, h, q, e⟩ := low_t h
  exact low_isN ⟨σ3, W, G, Q3, E3, R, S, h, q, e⟩
theorem t_isnNone {j p} (ha : PE X a (lowE X.K Wx ta)) : PT X (.Compare a [.IsNot] [.Constant .none j p] pos) (lowT X.K Wx (t3 (un3 (isN3 true) ta))) := by
  refine (pt_cmp (pc_notN ha) rfl).imp3 fun σ H Q h => ?_
  obtain ⟨σ3, W, G, Q3, E3, R, S, h, q, e⟩ := low_t h
  exact low_isnN ⟨σ3, W, G, Q3, E3, R, S, h, q, e⟩
/-! ### x in xs, texts and truth values -/
def memB (neg b : Bool) : Bool := if neg then !b else b
def in3 (neg : Bool) : R3 := fun x y G Q => match x with
  | .str s => ∃ ss : List Str, Ls G y (ss.map D.str) ∧ Q (.bl (memB neg (decide (s ∈ ss)))) G
  | .bl b => ∃ bs : List Bool, Ls G y (bs.map D.bl) ∧ Q (.bl (memB neg (decide (b ∈ bs)))) G
  | _ => False
theorem flat_strs (ss : List Str) : (ss.map V.str).all flatV = true := by
  rw [List.all_eq_true]; intro x hx; obtain ⟨s, _, rfl⟩ := List.mem_map.mp hx; rfl
theorem flat_bls (ss : List Bool) : (ss.map V.bl).all flatV = true := by
  rw [List.all_eq_true]; intro x hx; obtain ⟨s, _, rfl⟩ := List.mem_map.mp hx; rfl
theorem inV_strs (s : Str) : ∀ ss : List Str, inV (.str s) (ss.map V.str) = decide (s ∈ ss)
  | [] => rfl
  | t :: r => by
    have := inV_strs s r
    unfold inV at this ⊢
    rw [List.map_cons, List.any_cons, this]
    have e : eqV (.str t) (.str s) = decide (s = t) := by
      show decide (t = s) = decide (s = t)
      by_cases h : s = t <;> simp [h, eq_comm]
    rw [e]
    by_cases h : s = t <;> simp [h]
theorem inV_bls (s : Bool) : ∀ ss : List Bool, inV (.bl s) (ss.map V.bl) = decide (s ∈ ss)
  | [] => rfl
  | t :: r => by
    have := inV_bls s r
    unfold inV at this ⊢
    rw [List.map_cons, List.any_cons, this]
    have e : eqV (.bl t) (.bl s) = decide (s = t) := by cases s <;> cases t <;> rfl
    rw [e]
    by_cases h : s = t <;> simp [h]
theorem opl_in {K : PySem.W.Frag} {neg : Bool} : OpL K (in3 neg) (rIn K neg) := by
  intro W x y G Q3 x' y' H Q S rx ry h q
  cases x with
  | str s =>
    cases rx
    obtain ⟨ss, l, h⟩ := h
    obtain ⟨a, vs, rfl, e, r⟩ := l.sql S ry
    have := r.strs
    subst this
    refine ⟨a, _, rfl, .inl (SqL.of e), rfl, flat_strs ss, ?_⟩
    rw [inV_strs]
    exact q.run _ (.bl (memB neg (decide (s ∈ ss)))) _ _ _ (.refl _) S rfl h
  | bl s =>
    cases rx
    obtain ⟨ss, l, h⟩ := h
    obtain ⟨a, vs, rfl, e, r⟩ := l.sql S ry
    have := r.bls
    subst this
    refine ⟨a, _, rfl, .inl (SqL.of e), rfl, flat_bls ss, ?_⟩
    rw [inV_bls]
    exact q.run _ (.bl (memB neg (decide (s ∈ ss)))) _ _ _ (.refl _) S rfl h
  | _ => exact h.elim
theorem e_in (ha : PE X a (lowE X.K Wx ta)) (hb : PE X b (lowE X.K Wx tb)) (hm : behindInMarks .In b = false := by rfl) : PE X (.Compare a [.In] [b] pos) (lowE X.K Wx (op3 (in3 false) ta tb)) := e_cmp op_in_seq opl_in hm ha hb
theorem e_nin (ha : PE X a (lowE X.K Wx ta)) (hb : PE X b (lowE X.K Wx tb)) (hm : behindInMarks .NotIn b = false := by rfl) : PE X (.Compare a [.NotIn] [b] pos) (lowE X.K Wx (op3 (in3 true) ta tb)) := e_cmp op_notIn_seq opl_in hm ha hb
theorem t_in (ha : PE X a (lowE X.K Wx ta)) (hb : PE X b (lowE X.K Wx tb)) (hm : behindInMarks .In b = false := by rfl) : PT X (.Compare a [.In] [b] pos) (lowT X.K Wx (t3 (op3 (in3 false) ta tb))) := t_cmp op_in_seq opl_in hm ha hb
theorem t_nin (ha : PE X a (lowE X.K Wx ta)) (hb : PE X b (lowE X.K Wx tb)) (hm : behindInMarks .NotIn b = false := by rfl) : PT X (.Compare a [.NotIn] [b] pos) (lowT X.K Wx (t3 (op3 (in3 true) ta tb))) := t_cmp op_notIn_seq opl_in hm ha hb
/-! ### xs[i] = e, xs.clear() -/
def setL3 (te to ti : TE3) : TS3 := fun D σ G => te σ G (fun v G1 => to σ G1 (fun o G2 => ti σ G2 (fun i G3 => match o, i with
  | .ref a, .int k => ∃ ds j G4, Put a (.lst ds) (.lst (ds.set j v)) G3 G4 ∧ ixN ds.length k = some j ∧ D.nx σ G4
  | _, _ => False) D.ex) D.ex) D.ex
theorem s_setL {o i : Expr} {to ti : TE3} {p pos' : Pos} (hv : PE X e (lowE X.K Wx te)) (ho : PE X o (lowE X.K Wx to)) (hi : PE X i (lowE X.K Wx ti))
    (ha : ∀ v, assign (.Subscript o i p) X.env v = (do
      let ov ← holding [v] (eval o X.env)
      let iv ← holding [v, ov] (eval i X.env)
      standAt p
      holding [v, ov, iv] (setItem ov iv v)
      release [v, ov, iv] []) := by intro _; rfl)
    (hs : swapsWithSole [.Subscript o i p] e pos'.line X.env = pure false := by rfl) (hw : swappedStores [.Subscript o i p] e X.env = pure none := by rfl) (h1 : (assignEach [.Subscript o i p] X.env).map (·.2) = [assign (.Subscript o i p) X.env] := by rfl) :
    PS X (.Assign [.Subscript o i p] e pos') (lowS X.K Wx (setL3 te to ti)) := by
  refine (ps_asg hv (pg_sub ho hi set_list ha) hs hw h1).imp3 ?_
  rintro D σ H ⟨σ3, W, G, D3, R, S, h, k⟩
  refine ⟨σ3, W, G, _, _, R, S, h, ⟨fun W1 v G1 v' H1 l1 S1 r1 h1 => ?_⟩, k.ex⟩
  refine ⟨σ3, W1, G1, _, _, R.mono l1, S1, h1, ⟨fun W2 o G2 o' H2 l2 S2 r2 h2 => ?_⟩, k.ex.mono l1⟩
  refine ⟨σ3, W2, G2, _, _, R.mono (l1.trans l2), S2, h2, ⟨fun W3 i G3 i' H3 l3 S3 r3 h3 => ?_⟩, k.ex.mono (l1.trans l2)⟩
  cases o with
  | ref a =>
    cases i with
    | int n =>
      cases r2; cases r3
      obtain ⟨ds, j, G4, p, hj, h3⟩ := h3
      obtain ⟨vs, e1, r⟩ := S3.ob _ _ p.mem
      have ll := l1.trans (l2.trans l3)
      refine ⟨a, vs, n, j, rfl, rfl, e1, by rw [← r.length]; exact hj, ?_⟩
      exact k.nx.run _ _ _ _ _ ll (R.mono ll) (S3.put (o' := .lst (ds.set j v)) p ⟨_, upd_same, r.set (r1.mono (l2.trans l3)) j⟩) h3
    | _ => exact h3.elim
  | _ => cases i <;> exact h3.elim
def clear3 (ta : TE3) : TE3 := fun σ G Q E => ta σ G (fun x G1 => match x with
  | .ref a => ∃ ds G2, Put a (.lst ds) (.lst []) G1 G2 ∧ Q .non G2
  | _ => False) E
theorem e_clear {c : Expr} (h : PE X c (tBM0 X.K "list" rClear (lowE X.K Wx ta))) : PE X c (lowE X.K Wx (clear3 ta)) := by
  refine h.imp3 ?_
  rintro σ H Q ⟨σ3, W, G, Q3, E3, R, S, h, q, e⟩
  refine ⟨σ3, W, G, _, E3, R, S, h, ⟨fun W1 x G1 x' H1 l1 S1 r1 h1 => ?_⟩, e⟩
  cases x with
  | ref a =>
    cases r1
    obtain ⟨ds, G2, p, h1⟩ := h1
    obtain ⟨vs, e1, r⟩ := S1.ob _ _ p.mem
    refine ⟨.inl ⟨rfl, _, SqL.of e1⟩, a, vs, rfl, rfl, e1, ?_⟩
    exact q.run _ .non _ _ _ l1 (S1.put (o' := .lst []) p ⟨[], upd_same, rfl⟩) rfl h1
  | _ => exact h1.elim
end
end
end T3

namespace T3
open PySem L2
section
variable {X : Cx} {Wx : WX}
/-! ### a tuple that is walked -/
def it3 (te : TE3) : TI3 := fun σ G R E => te σ G (fun x G1 => match x with
  | .tup ds => R ds (fun _ => True) G1
  | _ => False) E
theorem i_tup {tg e : Expr} {te : TE3} (he : PE X e (lowE X.K Wx te)) : PI X tg e (lowI X.K Wx (it3 te)) := by
  refine (pi_tup he).imp3 ?_
  rintro σ H Q ⟨σ3, W, G, R3, E3, R, S, h, e, k⟩
  refine ⟨σ3, W, G, _, E3, R, S, h, ⟨fun W1 x G1 x' H1 l1 S1 r1 h1 => ?_⟩, e⟩
  cases x with
  | tup ds =>
    obtain ⟨a, vs, rfl, l, r⟩ := r1
    refine ⟨a, rfl, ⟨vs, S1.ft _ _ l⟩, k W1 ds _ G1 _ H1 l1 S1 h1 ⟨fun i W' G' H' l' S' hs hi => ?_, fun W' G' H' l' S' hs => ?_, fun i W' G' H' x H'' l' S' hs hi y => ?_⟩⟩
    · exact (walk_tup (K := X.K) (a := a) (xs := vs)).goes i H' (by rw [← r.length]; exact hi) (S'.ft _ _ (l'.t _ _ l))
    · rw [r.length]
      exact (walk_tup (K := X.K) (a := a) (xs := vs)).stops H' (S'.ft _ _ (l'.t _ _ l))
    · obtain ⟨e, h⟩ := (walk_tup (K := X.K) (a := a) (xs := vs)).yields i H' x H'' (by rw [← r.length]; exact hi) (S'.ft _ _ (l'.t _ _ l)) y
      subst e
      obtain ⟨d, h1, h2⟩ := (r.mono l').get' h
      exact ⟨W', d, .refl _, h1, S', h2⟩
  | _ => exact h1.elim
/-! ### a comprehension's list that is one's own -/
def lcO3 (src : TI3) (g : TL3) (tt : TT3) (te : TE3) (vs : List Nat) : TE3 := fun σ G Q E => lc3 src g tt te vs σ G (fun x G1 => match x with
  | .lst ds => ∀ p, Q (.ref p) ((p, .lst ds) :: G1)
  | _ => False) E
theorem low_lcO {K : PySem.W.Frag} {src : TI3} {g : TG} {g3 : TL3} {tt : TT3} {te : TE3} {vs : List Nat} {σ : St} {H : Hp} {Q : VK} (hg : TlOk K vs g g3) :
    lowE K Wx (lcO3 src g3 tt te vs) σ H Q → tLc (lowI K Wx src) g (lowT K wF tt) (lowE K wF te) vs σ H Q := by
  rintro ⟨σ3, W, G, Q3, E3, R, S, h, q, e⟩
  refine ⟨σ3, W, G, _, E3, R, S, h, e, fun W1 xs Std G1 J H1 l1 S1 h1 w => ?_⟩
  intro Dl hD
  obtain ⟨ys, hstd, turn, hz, h1⟩ := h1
  refine ⟨fun k m H' => m = xs.length - k ∧ k ≤ xs.length ∧ ∃ W', W1.le W' ∧ Sim K W' ((Dl, .lst ((List.range k).filterMap ys)) :: G1) H', ⟨xs.length, by simp, Nat.zero_le _, W1, .refl _, S1.newO (o := .lst []) hD ⟨[], upd_same, rfl⟩⟩, ?_⟩
  rintro k m H' ⟨rfl, hk, W', l', S'⟩
  by_cases hlt : k < xs.length
  · refine .inr ⟨w.goes k W' _ H' l' S' (hstd _ _) hlt, fun H'' => ∃ W'', W1.le W'' ∧ Sim K W'' ((Dl, .lst ((List.range (k + 1)).filterMap ys)) :: G1) H'', fun H'' p' => ⟨xs.length - (k + 1), by omega, rfl, hlt, p'⟩, fun x H'' y => ?_⟩
    obtain ⟨W2, d, l2, hd, S2, r2⟩ := w.yields k W' _ H' x H'' l' S' (hstd _ _) hlt y
    have t := turn k d Dl ((List.range k).filterMap ys) hd
    cases hg3 : g3 d (wipe3 σ3 vs) with
    | none => rw [hg3] at t; exact t.elim
    | some σ4 =>
      rw [hg3] at t
      have RW : RepS W2 (wipe3 σ3 vs) (wipe σ vs) := (R.mono (l1.trans (l'.trans l2))).wipe vs
      refine hg W2 d x (wipe3 σ3 vs) σ _ H'' σ4 _ RW S2 r2 hg3 fun σ' R' hw => ⟨hw, ?_⟩
      refine ⟨σ4, W2, _, _, eF, R', S2, t, ⟨fun W3 b G3 H3 l3 S3 h3 => ?_⟩, okF⟩
      obtain ⟨rfl, h3⟩ := h3
      cases b with
      | false =>
        rw [if_neg Bool.false_ne_true] at h3 ⊢
        refine ⟨W3, l'.trans (l2.trans l3), ?_⟩
        rw [List.range_succ, List.filterMap_append]
        simp only [List.filterMap_cons, h3, List.filterMap_nil, List.append_nil]
        exact S3
      | true =>
        rw [if_pos rfl] at h3 ⊢
        refine ⟨σ4, W3, _, _, eF, R'.mono l3, S3, h3, ⟨fun W4 y G4 y' H4 l4 S4 r4 h4 => ?_⟩, okF⟩
        obtain ⟨rfl, hy⟩ := h4
        obtain ⟨us, e4, q4⟩ := S4.ob _ _ (List.mem_cons_self ..)
        refine ⟨us, e4, ?_, W4, l'.trans (l2.trans (l3.trans l4)), ?_⟩
        · have : ((List.range k).filterMap ys).length ≤ k := by
            have := List.length_filterMap_le ys (List.range k)
            simpa using this
          rw [← q4.length]
          omega
        · rw [List.range_succ, List.filterMap_append]
          simp only [List.filterMap_cons, hy, List.filterMap_nil]
          exact S4.put (o' := .lst ((List.range k).filterMap ys ++ [y])) .head ⟨_, upd_same, q4.append (RlL.one r4)⟩
  · have e : k = xs.length := by omega
    subst e
    refine .inl ⟨w.stops W' _ H' l' S' (hstd _ _), ?_⟩
    exact q.run _ (.ref Dl) _ _ _ (l1.trans l') S' rfl (h1 Dl)
theorem e_lcO {e : Expr} {src : TI3} {g : TG} {g3 : TL3} {tt : TT3} {te : TE3} {vs : List Nat} (h : PE X e (tLc (lowI X.K Wx src) g (lowT X.K wF tt) (lowE X.K wF te) vs)) (hg : TlOk X.K vs g g3) : PE X e (lowE X.K Wx (lcO3 src g3 tt te vs)) := h.imp3 fun _ _ _ => low_lcO hg
end
theorem UpV.perm {K : PySem.W.Frag} {d : D} {G G' : G3} {P : D → G3 → Prop} (p : G.Perm G') (h : UpV K P d G') : UpV K P d G := by
  obtain ⟨d', G2, w, h⟩ := h
  exact ⟨d', G2, (WkV.perm p).trans w, h⟩
/-! ### lots, as plain Lean -/
structure Lot where
  day : Int
  count : Int
  cost : Int
deriving DecidableEq
abbrev lotI (l : Lot) : List Int := [l.day, l.count, l.cost]
abbrev tupD (t : List Int) : D := .tup (t.map .int)
abbrev lotD (l : Lot) : D := tupD (lotI l)
theorem lotI_inj {a b : Lot} (h : lotI a = lotI b) : a = b := by
  cases a; cases b; simpa [lotI] using h
theorem lots_inj : ∀ {a b : List Lot}, a.map lotI = b.map lotI → a = b
  | [], [], _ => rfl
  | [], _ :: _, h => by simp at h
  | _ :: _, [], h => by simp at h
  | x :: a, y :: b, h => by
    rw [List.map_cons, List.map_cons] at h
    injection h with h1 h2
    rw [lotI_inj h1, lots_inj h2]
theorem map_lotD (ls : List Lot) : ls.map lotD = (ls.map lotI).map tupD := by rw [List.map_map]; rfl
/-- counts of one at least, numbers that are not too great -/
def LotOk (l : Lot) : Prop := 1 ≤ l.count ∧ l.count < 2 ^ 8000 ∧ 0 ≤ l.cost ∧ bl l.cost ≤ 50000000
structure LotsOk (ls : List Lot) : Prop where
  ok : ∀ l ∈ ls, LotOk l
  len : ls.length ≤ 1000
theorem fm_take {α : Type} (l : List α) (h : α → D) : ∀ n, n ≤ l.length → (List.range n).filterMap (fun k => (l[k]?).map h) = (l.take n).map h
  | 0, _ => by simp
  | n + 1, hn => by
    obtain ⟨x, hx⟩ : ∃ x, l[n]? = some x := ⟨l[n], by simp⟩
    rw [List.range_succ, List.filterMap_append, fm_take l h n (by omega), take_snoc hx, List.map_append]
    simp [hx]
theorem fm_map {α : Type} (l : List α) (h : α → D) : (List.range l.length).filterMap (fun k => (l[k]?).map h) = l.map h := by
  rw [fm_take l h _ (Nat.le_refl _), List.take_length]
def wide (m : Int) (l : Lot) : Lot := ⟨l.day, l.count * m, l.cost⟩
def slim (m : Int) (l : Lot) : Lot := ⟨l.day, l.count / m, l.cost⟩
theorem any_map_false {α : Type} {p : α → Bool} : ∀ {ls : List α}, (ls.map p).any id = false → ∀ l ∈ ls, p l = false
  | [], _, l, h => by cases h
  | x :: r, h, l, hl => by
    simp only [List.map_cons, List.any_cons, id, Bool.or_eq_false_iff] at h
    rcases List.mem_cons.mp hl with rfl | hl
    · exact h.1
    · exact any_map_false h.2 l hl
theorem any_map_true {α : Type} {p : α → Bool} : ∀ {ls : List α}, (ls.map p).any id = true → ∃ l ∈ ls, p l = true
  | [], h => by simp at h
  | x :: r, h => by
    simp only [List.map_cons, List.any_cons, id, Bool.or_eq_true] at h
    rcases h with h | h
    · exact ⟨x, List.mem_cons_self .., h⟩
    · obtain ⟨l, h1, h2⟩ := any_map_true h
      exact ⟨l, List.mem_cons_of_mem _ h1, h2⟩
def mixed (c p : Int) : Int := (c + 61 * p) * 1000003 ^ 5
theorem bl_61 {p : Int} (h0 : 0 ≤ p) (hp : p < 2 ^ 60) : bl (61 * p) ≤ 70 := by
  have h1 := bl_le (n := 59) h0 hp
  have h2 : bl 61 = 5 := by decide +kernel
  have h3 := bl_mul 61 p
  omega
theorem mixed_bl {c p : Int} {n : Nat} (hc : bl c ≤ n) (h0 : 0 ≤ p) (hp : p < 2 ^ 60) (hn : 100 ≤ n) : bl (mixed c p) ≤ n + 200 := by
  have h1 := bl_61 h0 hp
  have h2 := bl_add c (61 * p)
  have h3 := bl_mul (c + 61 * p) (1000003 ^ 5)
  have h4 : bl ((1000003 : Int) ^ 5) = 99 := by decide +kernel
  unfold mixed
  omega
theorem om {α β : Type} {l : List α} {f : α → β} {k : Nat} {x : α} (h : l[k]? = some x) : Option.map f (l[k]?) = some (f x) := by rw [h]; rfl
theorem atI_pick {xs : List Int} {i : Int} (h0 : 0 ≤ i) (h : i < xs.length) : atI (xs.map D.int) i = some (.int (xs.getD i.toNat 0)) := by
  obtain ⟨k, rfl⟩ := Int.eq_ofNat_of_zero_le h0
  have hk : k < xs.length := by omega
  exact atI_nat (by simp [hk, List.getD])
theorem getD_mem {xs : List Int} {i : Nat} (h : i < xs.length) : xs.getD i 0 ∈ xs := by
  simp [List.getD, h]
theorem plain_tup (t : List Int) : plain (tupD t) = true := plainL_ints t
theorem dep_tup (t : List Int) : dep (tupD t) ≤ 64 := by show depL _ + 1 ≤ 64; rw [depL_ints]; decide
theorem tupD_inj {a b : List Int} (h : tupD a = tupD b) : a = b := by
  injection h with h
  exact List.map_inj_right (fun x y h => by injection h) |>.mp h
theorem beq_tup (a b : List Int) : beqD (tupD a) (tupD b) = decide (a = b) := by
  by_cases e : a = b
  · subst e; rw [beqD_refl (plain_tup a), decide_eq_true rfl]
  · rw [decide_eq_false e]
    cases h : beqD (tupD a) (tupD b) with
    | false => rfl
    | true => exact absurd (tupD_inj (beqD_eq h)) e
theorem all_true : ∀ (t : List Int), (t.map fun _ => true).all id = true
  | [] => rfl
  | _ :: r => by simpa using all_true r
theorem plain_tups : ∀ (ts : List (List Int)), plain (D.lst (ts.map tupD)) = true
  | [] => rfl
  | t :: r => by
    have := plain_tups r
    show (plain (tupD t) && plainL (r.map tupD)) = true
    rw [plain_tup]; exact this
theorem dep_tups (ts : List (List Int)) : dep (D.lst (ts.map tupD)) ≤ 64 := by
  have h : ∀ ts : List (List Int), depL (ts.map tupD) ≤ 63 := fun ts => by
    induction ts with
    | nil => decide
    | cons t r ih =>
      have := plain_tup t
      show max (dep (tupD t)) (depL (r.map tupD)) ≤ 63
      have : dep (tupD t) ≤ 63 := by show depL _ + 1 ≤ 63; rw [depL_ints]; decide
      omega
  have := h ts
  show depL _ + 1 ≤ 64
  omega
end T3

namespace T3
open PySem L2
/-! ### used, as plain Lean -/
def partOf (c : Int) (l : Lot) : Int := if l.count < c then l.count else c
theorem partOf_eq (c : Int) (l : Lot) : partOf c l = min c l.count := by unfold partOf; split <;> omega
def takeOne (c : Int) (l : Lot) : List Lot := if 0 < partOf c l then [⟨l.day, partOf c l, l.cost * partOf c l / l.count⟩] else []
def leaveOne (c : Int) (l : Lot) : List Lot := if partOf c l < l.count then [⟨l.day, l.count - partOf c l, l.cost - l.cost * partOf c l / l.count⟩] else []
def restL (c : Int) : List Lot → Int
  | [] => c
  | l :: r => restL (c - partOf c l) r
def takenL (c : Int) : List Lot → List Lot
  | [] => []
  | l :: r => takeOne c l ++ takenL (c - partOf c l) r
def leftL (c : Int) : List Lot → List Lot
  | [] => []
  | l :: r => leaveOne c l ++ leftL (c - partOf c l) r
theorem restL_snoc : ∀ (ls : List Lot) (c : Int) (l : Lot), restL c (ls ++ [l]) = restL c ls - partOf (restL c ls) l
  | [], c, l => rfl
  | x :: r, c, l => by simp only [List.cons_append, restL, restL_snoc r (c - partOf c x) l]
theorem takenL_snoc : ∀ (ls : List Lot) (c : Int) (l : Lot), takenL c (ls ++ [l]) = takenL c ls ++ takeOne (restL c ls) l
  | [], c, l => by simp [takenL, restL]
  | x :: r, c, l => by simp only [List.cons_append, takenL, restL, takenL_snoc r (c - partOf c x) l, List.append_assoc]
theorem leftL_snoc : ∀ (ls : List Lot) (c : Int) (l : Lot), leftL c (ls ++ [l]) = leftL c ls ++ leaveOne (restL c ls) l
  | [], c, l => by simp [leftL, restL]
  | x :: r, c, l => by simp only [List.cons_append, leftL, restL, leftL_snoc r (c - partOf c x) l, List.append_assoc]
theorem restL_pos : ∀ {ls : List Lot} {c : Int}, 0 ≤ c → (∀ l ∈ ls, 0 ≤ l.count) → 0 ≤ restL c ls
  | [], c, h, _ => h
  | x :: r, c, h, hl => by
    refine restL_pos (ls := r) ?_ fun l h1 => hl l (List.mem_cons_of_mem _ h1)
    rw [partOf_eq]; omega
theorem takeOne_len (c : Int) (l : Lot) : (takeOne c l).length ≤ 1 := by unfold takeOne; split <;> simp
theorem leaveOne_len (c : Int) (l : Lot) : (leaveOne c l).length ≤ 1 := by unfold leaveOne; split <;> simp
theorem takenL_len : ∀ (ls : List Lot) (c : Int), (takenL c ls).length ≤ ls.length
  | [], c => by simp [takenL]
  | x :: r, c => by
    have := takenL_len r (c - partOf c x)
    have := takeOne_len c x
    simp only [takenL, List.length_append, List.length_cons]; omega
theorem leftL_len : ∀ (ls : List Lot) (c : Int), (leftL c ls).length ≤ ls.length
  | [], c => by simp [leftL]
  | x :: r, c => by
    have := leftL_len r (c - partOf c x)
    have := leaveOne_len c x
    simp only [leftL, List.length_append, List.length_cons]; omega
theorem part_pos {c : Int} {l : Lot} (hc : 0 ≤ c) (hl : LotOk l) : 0 ≤ partOf c l ∧ partOf c l ≤ l.count ∧ partOf c l ≤ c := by
  have := hl.1; rw [partOf_eq]; omega
theorem cost_part {c : Int} {l : Lot} (hc : 0 ≤ c) (hl : LotOk l) : 0 ≤ l.cost * partOf c l / l.count ∧ l.cost * partOf c l / l.count ≤ l.cost := by
  obtain ⟨h1, h2, _⟩ := part_pos hc hl
  have h0 : 0 < l.count := hl.1
  refine ⟨Int.ediv_nonneg (Int.mul_nonneg hl.2.2.1 h1) (by omega), ?_⟩
  refine Int.ediv_le_of_le_mul h0 (Int.mul_le_mul_of_nonneg_left h2 hl.2.2.1)
theorem takeOne_ok {c : Int} {l : Lot} (hc : 0 ≤ c) (hl : LotOk l) : ∀ x ∈ takeOne c l, LotOk x := by
  intro x hx
  obtain ⟨h1, h2, h3⟩ := part_pos hc hl
  obtain ⟨c1, c2⟩ := cost_part hc hl
  unfold takeOne at hx
  split at hx
  · rename_i h
    rw [List.mem_singleton] at hx; subst hx
    exact ⟨h, Int.lt_of_le_of_lt h2 hl.2.1, c1, Nat.le_trans (bl_mono c1 c2) hl.2.2.2⟩
  · cases hx
theorem leaveOne_ok {c : Int} {l : Lot} (hc : 0 ≤ c) (hl : LotOk l) : ∀ x ∈ leaveOne c l, LotOk x := by
  intro x hx
  obtain ⟨h1, h2, h3⟩ := part_pos hc hl
  obtain ⟨c1, c2⟩ := cost_part hc hl
  unfold leaveOne at hx
  split at hx
  · rename_i h
    rw [List.mem_singleton] at hx; subst hx
    exact ⟨by show 1 ≤ l.count - partOf c l; omega, Int.lt_of_le_of_lt (by show l.count - partOf c l ≤ l.count; omega) hl.2.1, by show 0 ≤ l.cost - _; omega, Nat.le_trans (bl_mono (by show 0 ≤ l.cost - _; omega) (by show l.cost - _ ≤ l.cost; omega)) hl.2.2.2⟩
  · cases hx
theorem takenL_ok : ∀ {ls : List Lot} {c : Int}, 0 ≤ c → (∀ l ∈ ls, LotOk l) → ∀ x ∈ takenL c ls, LotOk x
  | [], c, _, _, x, hx => by cases hx
  | l :: r, c, hc, h, x, hx => by
    rcases List.mem_append.mp hx with hx | hx
    · exact takeOne_ok hc (h l (List.mem_cons_self ..)) x hx
    · refine takenL_ok (ls := r) ?_ (fun y hy => h y (List.mem_cons_of_mem _ hy)) x hx
      have := part_pos hc (h l (List.mem_cons_self ..)); omega
theorem leftL_ok : ∀ {ls : List Lot} {c : Int}, 0 ≤ c → (∀ l ∈ ls, LotOk l) → ∀ x ∈ leftL c ls, LotOk x
  | [], c, _, _, x, hx => by cases hx
  | l :: r, c, hc, h, x, hx => by
    rcases List.mem_append.mp hx with hx | hx
    · exact leaveOne_ok hc (h l (List.mem_cons_self ..)) x hx
    · refine leftL_ok (ls := r) ?_ (fun y hy => h y (List.mem_cons_of_mem _ hy)) x hx
      have := part_pos hc (h l (List.mem_cons_self ..)); omega
/-- what is taken comes to what is gone -/
theorem taken_sum : ∀ {ls : List Lot} {c : Int}, 0 ≤ c → (∀ l ∈ ls, LotOk l) → ((takenL c ls).map Lot.count).sum = c - restL c ls
  | [], c, _, _ => by simp [takenL, restL]
  | l :: r, c, hc, h => by
    have hp := part_pos hc (h l (List.mem_cons_self ..))
    have ih := taken_sum (ls := r) (c := c - partOf c l) (by omega) (fun y hy => h y (List.mem_cons_of_mem _ hy))
    have e : ((takeOne c l).map Lot.count).sum = partOf c l := by
      unfold takeOne
      split
      · simp
      · simp; omega
    simp only [takenL, restL, List.map_append, List.sum_append, ih, e]; omega
theorem rest_zero : ∀ {ls : List Lot} {c : Int}, 0 ≤ c → (∀ l ∈ ls, LotOk l) → c ≤ (ls.map Lot.count).sum → restL c ls = 0
  | [], c, h, _, h2 => by simp at h2; simp [restL]; omega
  | l :: r, c, hc, h, h2 => by
    have hp := part_pos hc (h l (List.mem_cons_self ..))
    refine rest_zero (ls := r) (by omega) (fun y hy => h y (List.mem_cons_of_mem _ hy)) ?_
    simp only [List.map_cons, List.sum_cons] at h2
    have h0 : 0 ≤ (r.map Lot.count).sum := by
      have : ∀ {ls : List Lot}, (∀ l ∈ ls, LotOk l) → 0 ≤ (ls.map Lot.count).sum := fun {ls} => by
        induction ls with
        | nil => intro _; simp
        | cons x r ih =>
          intro h
          have := ih fun y hy => h y (List.mem_cons_of_mem _ hy)
          have := (h x (List.mem_cons_self ..)).1
          simp only [List.map_cons, List.sum_cons]; omega
      exact this fun y hy => h y (List.mem_cons_of_mem _ hy)
    rw [partOf_eq]; omega
theorem counts_pos : ∀ {ls : List Lot}, (∀ l ∈ ls, LotOk l) → 0 ≤ (ls.map Lot.count).sum
  | [], _ => by simp
  | x :: r, h => by
    have := counts_pos (ls := r) fun y hy => h y (List.mem_cons_of_mem _ hy)
    have := (h x (List.mem_cons_self ..)).1
    simp only [List.map_cons, List.sum_cons]; omega
theorem cut_len {α : Type} (xs : List α) (lo hi : Option Int) : (cutD xs lo hi).length ≤ xs.length := by
  unfold cutD
  simp only [List.length_take, List.length_drop]; omega
theorem cut_mem {α : Type} {xs : List α} {lo hi : Option Int} {x : α} (h : x ∈ cutD xs lo hi) : x ∈ xs := by
  unfold cutD at h
  exact List.mem_of_mem_drop (List.mem_of_mem_take h)
theorem sum_take_counts : ∀ {ls : List Lot} (n : Nat), (∀ l ∈ ls, LotOk l) → ((ls.take n).map Lot.count).sum ≤ (ls.map Lot.count).sum
  | ls, 0, h => by simpa using counts_pos h
  | [], n + 1, h => by simp
  | v :: r, n + 1, h => by
    have h2 := sum_take_counts (ls := r) n fun w hw => h w (List.mem_cons_of_mem _ hw)
    simp only [List.take_succ_cons, List.map_cons, List.sum_cons]; omega
theorem sum_drop_counts : ∀ {ls : List Lot} (n : Nat), (∀ l ∈ ls, LotOk l) → ((ls.drop n).map Lot.count).sum ≤ (ls.map Lot.count).sum
  | ls, 0, h => by simp
  | [], n + 1, h => by simp
  | v :: r, n + 1, h => by
    have h2 := sum_drop_counts (ls := r) n fun w hw => h w (List.mem_cons_of_mem _ hw)
    have := (h v (List.mem_cons_self ..)).1
    simp only [List.drop_succ_cons, List.map_cons, List.sum_cons]; omega
theorem cut_sum {ls : List Lot} (lo hi : Option Int) (h : ∀ l ∈ ls, LotOk l) : ((cutD ls lo hi).map Lot.count).sum ≤ (ls.map Lot.count).sum := by
  unfold cutD
  exact Int.le_trans (sum_take_counts _ fun l hl => h l (List.mem_of_mem_drop hl)) (sum_drop_counts _ h)
end T3

namespace Lk
open PySem L2 T3
def top (i : Nat) : Stmt := PySem.Challenge.pw_lotbook_k04_whole_lots_used.main.body.getD i (.Pass ⟨0, 0, 0, 0⟩)
abbrev s_many_of : Stmt := top 4
abbrev s_used : Stmt := top 5
abbrev s_law_whole : Stmt := top 7
abbrev s_law_cell_at : Stmt := top 8
abbrev s_law_drawn : Stmt := top 9
abbrev s_law_mixed : Stmt := top 10
abbrev s_law_lots : Stmt := top 11
abbrev s_law_good : Stmt := top 12
abbrev s_law : Stmt := top 13
/-- where things stand -/
structure Ad where
  f_many_of : Addr
  d_many_of : FuncData
  f_used : Addr
  d_used : FuncData
  f_law_whole : Addr
  d_law_whole : FuncData
  f_law_cell_at : Addr
  d_law_cell_at : FuncData
  f_law_drawn : Addr
  d_law_drawn : FuncData
  f_law_mixed : Addr
  d_law_mixed : FuncData
  f_law_lots : Addr
  d_law_lots : FuncData
  f_law_good : Addr
  d_law_good : FuncData
  f_law : Addr
  d_law : FuncData
  c_ShareError : Addr
  c_TooFew : Addr
/-- what the top has written -/
structure Txt (K : PySem.W.Frag) (mg : Str → Option Value) (a : Ad) : Prop where
  F_many_of : Fun K "many_of" "many_of" s_many_of a.f_many_of a.d_many_of
  b_many_of : Binds K a.d_many_of ["lots"] []
  g_many_of : mg "many_of" = some (.ref a.f_many_of)
  F_used : Fun K "used" "used" s_used a.f_used a.d_used
  b_used : Binds K a.d_used ["lots", "count"] []
  g_used : mg "used" = some (.ref a.f_used)
  F_law_whole : Fun K "_law_whole" "_law_whole" s_law_whole a.f_law_whole a.d_law_whole
  b_law_whole : Binds K a.d_law_whole ["_law_found"] []
  g_law_whole : mg "_law_whole" = some (.ref a.f_law_whole)
  F_law_cell_at : Fun K "_law_cell_at" "_law_cell_at" s_law_cell_at a.f_law_cell_at a.d_law_cell_at
  b_law_cell_at : Binds K a.d_law_cell_at ["_law_script", "_law_k"] []
  g_law_cell_at : mg "_law_cell_at" = some (.ref a.f_law_cell_at)
  F_law_drawn : Fun K "_law_drawn" "_law_drawn" s_law_drawn a.f_law_drawn a.d_law_drawn
  b_law_drawn : Binds K a.d_law_drawn ["_law_cell", "_law_sizes"] []
  g_law_drawn : mg "_law_drawn" = some (.ref a.f_law_drawn)
  F_law_mixed : Fun K "_law_mixed" "_law_mixed" s_law_mixed a.f_law_mixed a.d_law_mixed
  b_law_mixed : Binds K a.d_law_mixed ["_law_cell", "_law_place"] []
  g_law_mixed : mg "_law_mixed" = some (.ref a.f_law_mixed)
  F_law_lots : Fun K "_law_lots" "_law_lots" s_law_lots a.f_law_lots a.d_law_lots
  b_law_lots : Binds K a.d_law_lots ["_law_script", "_law_many"] []
  g_law_lots : mg "_law_lots" = some (.ref a.f_law_lots)
  F_law_good : Fun K "_law_good" "_law_good" s_law_good a.f_law_good a.d_law_good
  b_law_good : Binds K a.d_law_good ["_law_lots_here"] []
  g_law_good : mg "_law_good" = some (.ref a.f_law_good)
  F_law : Fun K "law" "law" s_law a.f_law a.d_law
  b_law : Binds K a.d_law ["_law_script"] []
  g_law : mg "law" = some (.ref a.f_law)
  g_ShareError : mg "ShareError" = some (.ref a.c_ShareError)
  x_ShareError : PySem.W.excIn K a.c_ShareError [.type "ValueError", .type "Exception", .type "BaseException", .type "object"] "ValueError.__new__" = true
  k_ShareError : PySem.W.keepIn K (.ref a.c_ShareError) = true
  e_ShareError : PySem.W.subIn K (.ref a.c_ShareError) (.type "BaseException") = some true
  t_ShareError : PySem.W.typeIn K (.ref a.c_ShareError) = some (.type "type")
  g_TooFew : mg "TooFew" = some (.ref a.c_TooFew)
  x_TooFew : PySem.W.excIn K a.c_TooFew [.type "ValueError", .type "Exception", .type "BaseException", .type "object"] "ValueError.__new__" = true
  k_TooFew : PySem.W.keepIn K (.ref a.c_TooFew) = true
  e_TooFew : PySem.W.subIn K (.ref a.c_TooFew) (.type "BaseException") = some true
  t_TooFew : PySem.W.typeIn K (.ref a.c_TooFew) = some (.type "type")
  s_ShareError_ShareError : PySem.W.exmOne K (.ref a.c_ShareError) (.ref a.c_ShareError) = some true
  s_ShareError_TooFew : PySem.W.exmOne K (.ref a.c_ShareError) (.ref a.c_TooFew) = some false
  s_TooFew_ShareError : PySem.W.exmOne K (.ref a.c_TooFew) (.ref a.c_ShareError) = some true
  s_TooFew_TooFew : PySem.W.exmOne K (.ref a.c_TooFew) (.ref a.c_TooFew) = some true
  z_all : mg "all" = none
  z_bool : mg "bool" = none
  z_int : mg "int" = none
  z_isinstance : mg "isinstance" = none
  z_len : mg "len" = none
  z_list : mg "list" = none
  z_min : mg "min" = none
  z_range : mg "range" = none
  z_sum : mg "sum" = none
  z_tuple : mg "tuple" = none
/-! ### many_of -/
def sp_many_of : Sp3 := fun ds G Q _ => ∃ (ls : List Lot) (d : D), ds = [d] ∧ Ls G d (ls.map lotD) ∧ ls.length ≤ 1000 ∧ Q (.int ((ls.map Lot.count).sum)) G
theorem sc_many_of : FnScope ["lots", "lot"] ["lots"] (defScope s_many_of) := ⟨rfl, rfl, rfl, by decide +kernel, rfl, by decide +kernel, by decide +kernel⟩
section
variable {P : Program} {w : World} {K : PySem.W.Frag} {mg : Str → Option Value} {base : Heap} {a : Ad}
theorem ok_many_of (T : Txt K mg a) : OkFn P w K mg base 1 a.f_many_of a.d_many_of ["lots"] sp_many_of := by
  refine T.F_many_of.ok3 sc_many_of (fun ds G Q E h => ?_) (fun cdv A outer s H E hr => ?_)
  · obtain ⟨ls, d, rfl, _⟩ := h
    rfl
  have hu := hr.units
  have hu1 := hu_of hr
  have tk : Takes (cxOf (L2.CX P w) P w K mg base ["lots", "lot"] "many_of" (defScope s_many_of) a.f_many_of cdv A outer s H E) (fun cls d _ H' => E cls d H') := takes_of rfl rfl rfl rfl
  refine ⟨_, (b_one (s_ret (e_callB (cr_sum rfl) cl_sum rfl T.z_sum (by decide +kernel) (a_cons (e_lc (pe_lc (own := [("lot", 1)]) (g := gName 1) rfl sc_many_of.nd (i_list (e_var (pv 0))) (blkOk_by (own := [("lot", 1)]) (N := ["lots", "lot"]) (sc := defScope s_many_of) (by decide +kernel)) (fun _ _ _ _ _ => (pg_name (i := 1) sc_many_of.nd rfl (Or.inl rfl))) (fun _ _ _ _ _ => ts_nil) (fun _ _ _ _ _ => (e_ix (e_var (pv 1)) e_int))) (tl_name (by decide))) a_nil)))), ?_⟩
  intro ds G Q E h
  obtain ⟨ls, d, rfl, hd, hl, k⟩ := h
  have hcons : ∀ p acc, Lw ((p, .lst acc) :: G) d (ls.map lotD) := fun p es => by
    cases d with
    | lst ds => exact hd
    | ref a => exact .tail _ hd
    | _ => exact hd.elim
  refine ⟨_, Ls.lw hd, fun k => (ls[k]?).map fun l => .int l.count, fun p acc => hcons p acc, fun k d p acc hk => ?_, size_le (by simp; omega), ?_⟩
  · obtain ⟨l, h1, rfl⟩ := get_map hk
    exact ⟨rfl, _, rfl, rfl, om h1⟩
  rw [List.length_map, fm_map]
  refine ⟨ls.map Lot.count, by simp [Ls, List.map_map], ?_⟩
  exact UpV.of k
end
/-! ### used -/
def sp_used (a : Ad) : Sp3 := fun ds G Q E => ∃ (ls : List Lot) (c : Int) (d : D), ds = [d, .int c] ∧ Ls G d (ls.map lotD) ∧ (LotsOk ls ∧ 0 ≤ c) ∧ ((ls.map Lot.count).sum < c → E a.c_TooFew G) ∧ (c ≤ (ls.map Lot.count).sum → Q (.tup [.lst ((takenL c ls).map lotD), .lst ((leftL c ls).map lotD)]) G)
theorem sc_used : FnScope ["lots", "count", "taken", "left", "lot", "part", "cost"] ["lots", "count"] (defScope s_used) := ⟨rfl, rfl, rfl, by decide +kernel, rfl, by decide +kernel, by decide +kernel⟩
section
variable {P : Program} {w : World} {K : PySem.W.Frag} {mg : Str → Option Value} {base : Heap} {a : Ad}
theorem ok_used (T : Txt K mg a) : OkFn P w K mg base 2 a.f_used a.d_used ["lots", "count"] (sp_used a) := by
  have G_many_of : OkFn P w K mg base 1 a.f_many_of a.d_many_of ["lots"] sp_many_of := ok_many_of T
  refine T.F_used.ok3 sc_used (fun ds G Q E h => ?_) (fun cdv A outer s H E hr => ?_)
  · obtain ⟨ls, c, d, rfl, _⟩ := h
    rfl
  have hu := hr.units
  have hu1 := hu_of hr
  have tk : Takes (cxOf (L2.CX P w) P w K mg base ["lots", "count", "taken", "left", "lot", "part", "cost"] "used" (defScope s_used) a.f_used cdv A outer s H E) (fun cls d _ H' => E cls d H') := takes_of rfl rfl rfl rfl
  refine ⟨_, (b_cons (s_if (t_lt (e_fn G_many_of (hr.mono (by decide)) rfl T.g_many_of T.F_many_of.kp T.b_many_of tk (a_cons (e_var (pv 0)) a_nil)) (e_var (pv 1))) (b_one (s_raise rfl tk (pmk_own PySem.F.excBase_ValueError T.x_TooFew T.g_TooFew T.k_TooFew (raises_own T.e_TooFew T.t_TooFew) rfl))) b_nil)
    (b_cons (s_asg (ps_set (i := 2) sc_used.nd rfl (.inl rfl) (e_lstO a_nil)))
    (b_cons (s_asg (ps_set (i := 3) sc_used.nd rfl (.inl rfl) (e_lstO a_nil)))
    (b_cons (s_wk (s_for (passes_of rfl) rfl (i_list (e_var (pv 0))) (g_name (pg_name (i := 4) sc_used.nd rfl (.inl rfl))) (b_cons (s_asg (ps_set (i := 5) sc_used.nd rfl (.inl rfl) (e_callB (call_min2 rfl) cl_min rfl T.z_min (by decide +kernel) (a_cons (e_var (pv 1)) (a_cons (e_ix (e_var (pv 4)) e_int) a_nil)))))
    (b_cons (s_asg (ps_set (i := 6) sc_used.nd rfl (.inl rfl) (e_fdiv (e_mul (e_ix (e_var (pv 4)) e_int) (e_var (pv 5))) (e_ix (e_var (pv 4)) e_int))))
    (b_cons (s_asg (ps_set (i := 1) sc_used.nd rfl (.inl rfl) (e_sub (e_var (pv 1)) (e_var (pv 5)))))
    (b_cut (s_if (t_gt (e_var (pv 5)) e_int) (b_one (s_expr (e_append (pe_bm PySem.F.plainAttrs_list PySem.F.slot_list_append PySem.F.type_list_append mt_append (e_var (pv 2)) (pa_cons (e_tup (a_cons (e_ix (e_var (pv 4)) e_int) (a_cons (e_var (pv 5)) (a_cons (e_var (pv 6)) a_nil)))) pa_nil))))) b_nil)
    (b_one (s_if (t_lt (e_var (pv 5)) (e_ix (e_var (pv 4)) e_int)) (b_one (s_expr (e_append (pe_bm PySem.F.plainAttrs_list PySem.F.slot_list_append PySem.F.type_list_append mt_append (e_var (pv 3)) (pa_cons (e_tup (a_cons (e_ix (e_var (pv 4)) e_int) (a_cons (e_sub (e_ix (e_var (pv 4)) e_int) (e_var (pv 5))) (a_cons (e_sub (e_ix (e_var (pv 4)) e_int) (e_var (pv 6))) a_nil)))) pa_nil))))) b_nil))))))))
    (b_one (s_ret (e_tup (a_cons (e_var (pv 2)) (a_cons (e_var (pv 3)) a_nil))))))))), ?_⟩
  intro ds G Q E h
  obtain ⟨ls, c, d, rfl, hd, ⟨hok, hc⟩, kE, kQ⟩ := h
  have hlen := hok.len
  refine ⟨ls, d, rfl, hd, hok.len, ?_⟩
  refine ite2 (fun h0 => ?_) (fun h0 => ?_)
  · exact kE (by simpa using h0)
  have k := kQ (by simpa using h0)
  clear kE kQ h0
  refine ⟨Nat.zero_le _, fun p => ?_⟩
  refine ⟨Nat.zero_le _, fun q => ?_⟩
  have hcons : ∀ o1 o2, Lw ((q, o1) :: (p, o2) :: G) d (ls.map lotD) := fun o1 o2 => by
    cases d with
    | lst ds => exact hd
    | ref a => exact .tail _ (.tail _ hd)
    | _ => exact hd.elim
  refine ⟨_, hcons _ _, ?_⟩
  refine ⟨fun i σ G' => ∃ x1 x2 x3, σ = [some d, some (.int (restL c (ls.take i))), some (.ref p), some (.ref q), x1, x2, x3] ∧ G' = (q, .lst ((leftL c (ls.take i)).map lotD)) :: (p, .lst ((takenL c (ls.take i)).map lotD)) :: G, Up.of ⟨none, none, none, rfl, rfl⟩, fun i σ G' _ h => ?_, ?_, ?_⟩
  · obtain ⟨_, _, _, _, rfl⟩ := h
    exact hcons _ _
  · rintro i d' σ' G' hd' ⟨x1, x2, x3, rfl, rfl⟩
    obtain ⟨l, h1, rfl⟩ := get_map hd'
    have hi := get_lt h1
    obtain ⟨g1, g2, g3, g4⟩ := hok.ok l (get_mem h1)
    have hr := restL_pos (ls := ls.take i) (c := c) hc fun l hl => by have := (hok.ok l (List.mem_of_mem_take hl)).1; omega
    generalize hrr : restL c (ls.take i) = r at *
    have hl := hok.ok l (get_mem h1)
    have hp := part_pos hr hl
    refine ⟨_, rfl, ?_⟩
    refine ⟨_, rfl, mul_ok g4 (Nat.le_trans (bl_mono hp.1 hp.2.1) (bl_le (n := 7999) (by omega) g2)) (by decide), _, rfl, div_lt (by omega) g2, ?_⟩
    -- taken
    let c' := l.cost * partOf r l / l.count
    refine ⟨fun σ' G' => σ' = [some d, some (.int (r - partOf r l)), some (.ref p), some (.ref q), some (lotD l), some (.int (partOf r l)), some (.int c')] ∧ G' = (q, .lst ((leftL c (ls.take i)).map lotD)) :: (p, .lst ((takenL c (ls.take i) ++ takeOne r l).map lotD)) :: G, ?_, ?_⟩
    · refine ite2 (fun h2 => ?_) (fun h2 => ?_)
      · have h2' : 0 < partOf r l := of_decide_eq_true h2
        refine ⟨⟨_, .tail _ (.head _)⟩, _, rfl, by show 3 ≤ sizeLine; decide, _, _, .tail .head, size_lt ?_, ?_⟩
        · have := takenL_len (ls.take i) c
          simp only [List.length_map, List.length_take] at *; omega
        refine Up.of ⟨rfl, ?_⟩
        rw [takeOne, if_pos h2', List.map_append]; rfl
      · have h2' : ¬ 0 < partOf r l := fun e => h2 (decide_eq_true e)
        refine Up.of ⟨rfl, ?_⟩
        rw [takeOne, if_neg h2', List.append_nil]
    rintro σ' G' ⟨rfl, rfl⟩
    refine ⟨_, rfl, ?_⟩
    refine ite2 (fun h2 => ?_) (fun h2 => ?_)
    · have h2' : partOf r l < l.count := of_decide_eq_true h2
      refine ⟨⟨_, .head _⟩, _, rfl, _, rfl, _, rfl, by show 3 ≤ sizeLine; decide, _, _, .head, size_lt ?_, ?_⟩
      · have := leftL_len (ls.take i) c
        simp only [List.length_map, List.length_take] at *; omega
      refine Up.of ⟨some (lotD l), some (.int (partOf r l)), some (.int c'), ?_, ?_⟩
      · rw [take_snoc h1, restL_snoc, hrr]
      · rw [take_snoc h1, takenL_snoc, leftL_snoc, hrr, leaveOne, if_pos h2']; simp only [List.map_append]; rfl
    · have h2' : ¬ partOf r l < l.count := fun e => h2 (decide_eq_true e)
      refine Up.of ⟨some (lotD l), some (.int (partOf r l)), some (.int c'), ?_, ?_⟩
      · rw [take_snoc h1, restL_snoc, hrr]
      · rw [take_snoc h1, takenL_snoc, leftL_snoc, hrr, leaveOne, if_neg h2', List.append_nil]
  · rintro σ' G' ⟨x1, x2, x3, rfl, rfl⟩
    rw [List.length_map, List.take_length]
    exact Up.of ⟨by show 2 ≤ sizeLine; decide, UpV.perm (List.Perm.swap ..) (UpV.list2 k)⟩
end
/-! ### _law_whole -/
/-- a whole number or not -/
def sp_law_whole : Sp3 := fun ds G Q _ => ∃ d, ds = [d] ∧ (∀ a, d ≠ .ref a) ∧ Q (.bl (isInt3 d && !isBool3 d)) G
theorem sc_law_whole : FnScope ["_law_found"] ["_law_found"] (defScope s_law_whole) := ⟨rfl, rfl, rfl, by decide +kernel, rfl, by decide +kernel, by decide +kernel⟩
section
variable {P : Program} {w : World} {K : PySem.W.Frag} {mg : Str → Option Value} {base : Heap} {a : Ad}
theorem ok_law_whole (T : Txt K mg a) : OkFn P w K mg base 1 a.f_law_whole a.d_law_whole ["_law_found"] sp_law_whole := by
  refine T.F_law_whole.ok3 sc_law_whole (fun ds G Q E h => ?_) (fun cdv A outer s H E hr => ?_)
  · obtain ⟨d, rfl, _⟩ := h
    rfl
  have hu := hr.units
  have hu1 := hu_of hr
  have tk : Takes (cxOf (L2.CX P w) P w K mg base ["_law_found"] "_law_whole" (defScope s_law_whole) a.f_law_whole cdv A outer s H E) (fun cls d _ H' => E cls d H') := takes_of rfl rfl rfl rfl
  refine ⟨_, (b_one (s_ret (e_and (e_isi isT_int rfl T.z_isinstance rfl T.z_int (by decide +kernel) (e_var (pv 0))) (e_one (e_not (e_isi isT_bool rfl T.z_isinstance rfl T.z_bool (by decide +kernel) (e_var (pv 0)))))))), ?_⟩
  intro ds G Q E h
  obtain ⟨d, rfl, hd, k⟩ := h
  cases d with
  | ref a => exact absurd rfl (hd a)
  | _ => exact UpV.of k
end
/-! ### _law_cell_at -/
/-- the script's number at a place, nought behind its end -/
def cellAt (ns : List Int) (k : Int) : Int := ns.getD k.toNat 0
theorem cell_bl {ns : List Int} (hs : ScOk ns) (k : Int) : bl (cellAt ns k) ≤ 1048576 := by
  unfold cellAt
  by_cases h : k.toNat < ns.length
  · exact hs.bits _ (by simp [List.getD, h])
  · rw [List.getD, List.getElem?_eq_none (Nat.le_of_not_lt h)]; decide +kernel
def sp_law_cell_at : Sp3 := fun ds G Q _ => ∃ (ns : List Int) (k : Int), ds = [.scr ns, .int k] ∧ 0 ≤ k ∧ Q (.int (cellAt ns k)) G
theorem sc_law_cell_at : FnScope ["_law_script", "_law_k"] ["_law_script", "_law_k"] (defScope s_law_cell_at) := ⟨rfl, rfl, rfl, by decide +kernel, rfl, by decide +kernel, by decide +kernel⟩
section
variable {P : Program} {w : World} {K : PySem.W.Frag} {mg : Str → Option Value} {base : Heap} {a : Ad}
theorem ok_law_cell_at (T : Txt K mg a) : OkFn P w K mg base 1 a.f_law_cell_at a.d_law_cell_at ["_law_script", "_law_k"] sp_law_cell_at := by
  refine T.F_law_cell_at.ok3 sc_law_cell_at (fun ds G Q E h => ?_) (fun cdv A outer s H E hr => ?_)
  · obtain ⟨ns, k, rfl, _⟩ := h
    rfl
  have hu := hr.units
  have hu1 := hu_of hr
  have tk : Takes (cxOf (L2.CX P w) P w K mg base ["_law_script", "_law_k"] "_law_cell_at" (defScope s_law_cell_at) a.f_law_cell_at cdv A outer s H E) (fun cls d _ H' => E cls d H') := takes_of rfl rfl rfl rfl
  refine ⟨_, (b_cons (s_if (t_lt (e_var (pv 1)) (e_callB call_len cl_len rfl T.z_len (by decide +kernel) (a_cons (e_var (pv 0)) a_nil))) (b_one (s_ret (e_ix (e_var (pv 0)) (e_var (pv 1))))) b_nil)
    (b_one (s_ret e_int))), ?_⟩
  intro ds G Q E h
  obtain ⟨ns, k, rfl, h0, q⟩ := h
  obtain ⟨k, rfl⟩ := Int.eq_ofNat_of_zero_le h0
  refine ite2 (fun hlt => ?_) (fun hlt => ?_)
  · have hk : k < ns.length := by simpa using hlt
    refine ⟨ns[k], atI_nat (by simp [hk]), UpV.of ?_⟩
    have e : cellAt ns k = ns[k] := by simp [cellAt, List.getD, hk]
    rw [← e]; exact q
  · have hk : ¬ k < ns.length := by simpa using hlt
    have e : cellAt ns k = 0 := by simp [cellAt, List.getD, List.getElem?_eq_none (Nat.le_of_not_lt hk)]
    refine UpV.of ?_
    rw [e] at q; exact q
end
/-! ### _law_drawn -/
def drawn (c : Int) : List Int → List Int
  | [] => []
  | s :: r => c % s :: drawn (c / s) r
/-- what is left of the cell -/
def rest (c : Int) : List Int → Int
  | [] => c
  | s :: r => rest (c / s) r
theorem drawn_snoc (c : Int) : ∀ (ss : List Int) (s : Int), drawn c (ss ++ [s]) = drawn c ss ++ [rest c ss % s]
  | [], s => rfl
  | t :: r, s => by simp only [List.cons_append, drawn, rest, drawn_snoc (c / t) r s]
theorem rest_snoc (c : Int) : ∀ (ss : List Int) (s : Int), rest c (ss ++ [s]) = rest c ss / s
  | [], s => rfl
  | t :: r, s => by simp only [List.cons_append, rest, rest_snoc (c / t) r s]
theorem drawn_length (c : Int) : ∀ ss : List Int, (drawn c ss).length = ss.length
  | [] => rfl
  | t :: r => by simp [drawn, drawn_length (c / t) r]
def sp_law_drawn : Sp3 := fun ds G Q _ => ∃ (c : Int) (ss : List Int), ds = [.int c, .lst (ss.map .int)] ∧ (ss.length ≤ 1000 ∧ ∀ s ∈ ss, 0 < s ∧ s < 2 ^ 8000) ∧ Q (.lst ((drawn c ss).map .int)) G
theorem sc_law_drawn : FnScope ["_law_cell", "_law_sizes", "_law_found", "_law_size"] ["_law_cell", "_law_sizes"] (defScope s_law_drawn) := ⟨rfl, rfl, rfl, by decide +kernel, rfl, by decide +kernel, by decide +kernel⟩
section
variable {P : Program} {w : World} {K : PySem.W.Frag} {mg : Str → Option Value} {base : Heap} {a : Ad}
theorem ok_law_drawn (T : Txt K mg a) : OkFn P w K mg base 1 a.f_law_drawn a.d_law_drawn ["_law_cell", "_law_sizes"] sp_law_drawn := by
  refine T.F_law_drawn.ok3 sc_law_drawn (fun ds G Q E h => ?_) (fun cdv A outer s H E hr => ?_)
  · obtain ⟨c, ss, rfl, _⟩ := h
    rfl
  have hu := hr.units
  have hu1 := hu_of hr
  have tk : Takes (cxOf (L2.CX P w) P w K mg base ["_law_cell", "_law_sizes", "_law_found", "_law_size"] "_law_drawn" (defScope s_law_drawn) a.f_law_drawn cdv A outer s H E) (fun cls d _ H' => E cls d H') := takes_of rfl rfl rfl rfl
  refine ⟨_, (b_cons (s_asg (ps_set (i := 2) sc_law_drawn.nd rfl (.inl rfl) (e_lstO a_nil)))
    (b_cons (s_wk (s_for (passes_of rfl) rfl (i_list (e_var (pv 1))) (g_name (pg_name (i := 3) sc_law_drawn.nd rfl (.inl rfl))) (b_cons (s_expr (e_append (pe_bm PySem.F.plainAttrs_list PySem.F.slot_list_append PySem.F.type_list_append mt_append (e_var (pv 2)) (pa_cons (e_mod (e_var (pv 0)) (e_var (pv 3))) pa_nil))))
    (b_one (s_asg (ps_set (i := 0) sc_law_drawn.nd rfl (.inl rfl) (e_fdiv (e_var (pv 0)) (e_var (pv 3)))))))))
    (b_one (s_ret (e_var (pv 2)))))), ?_⟩
  intro ds G Q E h
  obtain ⟨c, ss, rfl, ⟨hl, hs⟩, q⟩ := h
  refine ⟨Nat.zero_le _, fun p => ?_⟩
  refine ⟨_, rfl, ?_⟩
  refine ⟨fun i σ G' => ∃ x, σ = [some (.int (rest c (ss.take i))), some (.lst (ss.map .int)), some (.ref p), x] ∧ G' = (p, .lst ((drawn c (ss.take i)).map .int)) :: G, Up.of ⟨_, rfl, rfl⟩, fun _ _ _ _ _ => rfl, ?_, ?_⟩
  · rintro i d σ' G' hd ⟨x, rfl, rfl⟩
    obtain ⟨s, h1, rfl⟩ := get_map hd
    have hi := get_lt h1
    obtain ⟨p1, p2⟩ := hs s (get_mem h1)
    refine ⟨⟨_, .head _⟩, p1, _, _, .head, size_lt ?_, div_lt p1 p2, Up.of ⟨some (.int s), ?_, ?_⟩⟩
    · simp only [List.length_map, drawn_length, List.length_take]; omega
    · rw [take_snoc h1, rest_snoc]; rfl
    · rw [take_snoc h1, drawn_snoc, List.map_append]; rfl
  · rintro σ' G' ⟨x, rfl, rfl⟩
    rw [List.length_map, List.take_length]
    exact Up.of (UpV.list q)
end
/-! ### _law_mixed -/
def sp_law_mixed : Sp3 := fun ds G Q _ => ∃ (c p : Int), ds = [.int c, .int p] ∧ (bl c ≤ 2000000 ∧ 0 ≤ p ∧ p < 2 ^ 60) ∧ Q (.int (mixed c p)) G
theorem sc_law_mixed : FnScope ["_law_cell", "_law_place"] ["_law_cell", "_law_place"] (defScope s_law_mixed) := ⟨rfl, rfl, rfl, by decide +kernel, rfl, by decide +kernel, by decide +kernel⟩
section
variable {P : Program} {w : World} {K : PySem.W.Frag} {mg : Str → Option Value} {base : Heap} {a : Ad}
theorem ok_law_mixed (T : Txt K mg a) : OkFn P w K mg base 1 a.f_law_mixed a.d_law_mixed ["_law_cell", "_law_place"] sp_law_mixed := by
  refine T.F_law_mixed.ok3 sc_law_mixed (fun ds G Q E h => ?_) (fun cdv A outer s H E hr => ?_)
  · obtain ⟨c, p, rfl, _⟩ := h
    rfl
  have hu := hr.units
  have hu1 := hu_of hr
  have tk : Takes (cxOf (L2.CX P w) P w K mg base ["_law_cell", "_law_place"] "_law_mixed" (defScope s_law_mixed) a.f_law_mixed cdv A outer s H E) (fun cls d _ H' => E cls d H') := takes_of rfl rfl rfl rfl
  refine ⟨_, (b_one (s_ret (e_mul (e_add (e_var (pv 0)) (e_mul e_int (e_var (pv 1)))) (e_pow e_int e_int)))), ?_⟩
  intro ds G Q E h
  obtain ⟨c, p, rfl, ⟨hc, h0, hp⟩, k⟩ := h
  refine ⟨mul_small (by decide) (by decide) h0 (Int.lt_trans hp (by decide)), ⟨by decide, by decide, by decide⟩, ?_, UpV.of k⟩
  have h1 := bl_61 h0 hp
  have h2 := bl_add c (61 * p)
  exact mul_ok (a := 2000001) (b := 99) (by omega) (by show bl ((1000003 : Int) ^ 5) ≤ 99; decide +kernel)
end
/-! ### _law_lots -/
/-- the k-th lot's numbers -/
def lotCell (ns : List Int) (k : Nat) : Int := mixed (cellAt ns (2 + (k : Int) % 6)) k
def lotSome (ns : List Int) (k : Nat) : List Int := drawn (lotCell ns k) [4, 4, 10, 4, 12]
def lotCount (ns : List Int) (k : Nat) : Int := 1 + [lotCell ns k / 4 / 4 % 10, 12 * (lotCell ns k / 4 / 4 % 10) + 11, lotCell ns k * 48271 ^ 7 % 10 ^ 12, lotCell ns k * 69621 ^ 7 % (10 ^ 30 - 1)].getD (lotCell ns k / 4 % 4).toNat 0
def lotCost (ns : List Int) (k : Nat) : Int := [0, lotCell ns k / 4 / 4 / 10 / 4 % 12, lotCell ns k * 16807 ^ 8 % 10 ^ 15, lotCell ns k * 40692 ^ 8 % 10 ^ 30].getD (lotCell ns k / 4 / 4 / 10 % 4).toNat 0
def lotDay (ns : List Int) : Nat → Int
  | 0 => 0
  | n + 1 => lotDay ns n + lotCell ns n % 4
def lotAt (ns : List Int) (k : Nat) : Lot := ⟨lotDay ns (k + 1), lotCount ns k, lotCost ns k⟩
def lotsOf (ns : List Int) (n : Nat) : List Lot := (List.range n).map (lotAt ns)
theorem lotsOf_succ (ns : List Int) (n : Nat) : lotsOf ns (n + 1) = lotsOf ns n ++ [lotAt ns n] := by simp [lotsOf, List.range_succ]
theorem lotsOf_length (ns : List Int) (n : Nat) : (lotsOf ns n).length = n := by simp [lotsOf]
theorem lotCount_ok (ns : List Int) (k : Nat) : 1 ≤ lotCount ns k ∧ lotCount ns k < 10 ^ 30 := by
  have hi : (lotCell ns k / 4 % 4).toNat < 4 := by omega
  have hall : ∀ x ∈ [lotCell ns k / 4 / 4 % 10, 12 * (lotCell ns k / 4 / 4 % 10) + 11, lotCell ns k * 48271 ^ 7 % 10 ^ 12, lotCell ns k * 69621 ^ 7 % (10 ^ 30 - 1)], 0 ≤ x ∧ x < 10 ^ 30 - 1 := by
    intro x hx
    have a1 := Int.emod_nonneg (lotCell ns k * 48271 ^ 7) (show (10 ^ 12 : Int) ≠ 0 by decide)
    have a2 := Int.emod_lt_of_pos (lotCell ns k * 48271 ^ 7) (show (0 : Int) < 10 ^ 12 by decide)
    have a3 := Int.emod_nonneg (lotCell ns k * 69621 ^ 7) (show (10 ^ 30 - 1 : Int) ≠ 0 by decide)
    have a4 := Int.emod_lt_of_pos (lotCell ns k * 69621 ^ 7) (show (0 : Int) < 10 ^ 30 - 1 by decide)
    simp only [List.mem_cons, List.not_mem_nil, or_false] at hx
    have b1 : (10 : Int) ^ 12 < 10 ^ 30 - 1 := by decide
    have b2 : (200 : Int) < 10 ^ 30 - 1 := by decide
    rcases hx with rfl | rfl | rfl | rfl
    · exact ⟨by omega, Int.lt_trans (by omega) b2⟩
    · exact ⟨by omega, Int.lt_trans (by omega) b2⟩
    · exact ⟨a1, Int.lt_trans a2 b1⟩
    · exact ⟨a3, a4⟩
  have := hall _ (getD_mem (i := (lotCell ns k / 4 % 4).toNat) (by simpa using hi))
  unfold lotCount
  omega
theorem lotCost_ok (ns : List Int) (k : Nat) : 0 ≤ lotCost ns k ∧ lotCost ns k < 10 ^ 30 := by
  have hi : (lotCell ns k / 4 / 4 / 10 % 4).toNat < 4 := by omega
  have hall : ∀ x ∈ [0, lotCell ns k / 4 / 4 / 10 / 4 % 12, lotCell ns k * 16807 ^ 8 % 10 ^ 15, lotCell ns k * 40692 ^ 8 % 10 ^ 30], 0 ≤ x ∧ x < 10 ^ 30 := by
    intro x hx
    have a1 := Int.emod_nonneg (lotCell ns k * 16807 ^ 8) (show (10 ^ 15 : Int) ≠ 0 by decide)
    have a2 := Int.emod_lt_of_pos (lotCell ns k * 16807 ^ 8) (show (0 : Int) < 10 ^ 15 by decide)
    have a3 := Int.emod_nonneg (lotCell ns k * 40692 ^ 8) (show (10 ^ 30 : Int) ≠ 0 by decide)
    have a4 := Int.emod_lt_of_pos (lotCell ns k * 40692 ^ 8) (show (0 : Int) < 10 ^ 30 by decide)
    simp only [List.mem_cons, List.not_mem_nil, or_false] at hx
    have b1 : (10 : Int) ^ 15 < 10 ^ 30 := by decide
    have b2 : (200 : Int) < 10 ^ 30 := by decide
    rcases hx with rfl | rfl | rfl | rfl
    · exact ⟨by decide, by decide⟩
    · exact ⟨by omega, Int.lt_trans (by omega) b2⟩
    · exact ⟨a1, Int.lt_trans a2 b1⟩
    · exact ⟨a3, a4⟩
  exact hall _ (getD_mem (i := (lotCell ns k / 4 / 4 / 10 % 4).toNat) (by simpa using hi))
theorem lotsOf_ok (ns : List Int) {n : Nat} (hn : n ≤ 1000) : LotsOk (lotsOf ns n) where
  ok l hl := by
    obtain ⟨k, _, rfl⟩ := List.mem_map.mp hl
    have h1 := lotCount_ok ns k
    have h2 := lotCost_ok ns k
    refine ⟨h1.1, Int.lt_trans h1.2 (by decide), h2.1, Nat.le_trans (bl_le (n := 100) h2.1 (Int.lt_trans h2.2 (by decide))) (by decide)⟩
  len := by rw [lotsOf_length]; exact hn
def sp_law_lots : Sp3 := fun ds G Q _ => ∃ (ns : List Int) (many : Int), ds = [.scr ns, .int many] ∧ (ScOk ns ∧ 0 ≤ many ∧ many ≤ 1000) ∧ Q (.lst ((lotsOf ns many.toNat).map lotD)) G
theorem sc_law_lots : FnScope ["_law_script", "_law_many", "_law_lots_here", "_law_day", "_law_k", "_law_cell", "_law_some", "_law_great", "_law_count", "_law_cost"] ["_law_script", "_law_many"] (defScope s_law_lots) := ⟨rfl, rfl, rfl, by decide +kernel, rfl, by decide +kernel, by decide +kernel⟩
section
variable {P : Program} {w : World} {K : PySem.W.Frag} {mg : Str → Option Value} {base : Heap} {a : Ad}
theorem ok_law_lots (T : Txt K mg a) : OkFn P w K mg base 2 a.f_law_lots a.d_law_lots ["_law_script", "_law_many"] sp_law_lots := by
  have G_law_cell_at : OkFn P w K mg base 1 a.f_law_cell_at a.d_law_cell_at ["_law_script", "_law_k"] sp_law_cell_at := ok_law_cell_at T
  have G_law_drawn : OkFn P w K mg base 1 a.f_law_drawn a.d_law_drawn ["_law_cell", "_law_sizes"] sp_law_drawn := ok_law_drawn T
  have G_law_mixed : OkFn P w K mg base 1 a.f_law_mixed a.d_law_mixed ["_law_cell", "_law_place"] sp_law_mixed := ok_law_mixed T
  refine T.F_law_lots.ok3 sc_law_lots (fun ds G Q E h => ?_) (fun cdv A outer s H E hr => ?_)
  · obtain ⟨ns, many, rfl, _⟩ := h
    rfl
  have hu := hr.units
  have hu1 := hu_of hr
  have tk : Takes (cxOf (L2.CX P w) P w K mg base ["_law_script", "_law_many", "_law_lots_here", "_law_day", "_law_k", "_law_cell", "_law_some", "_law_great", "_law_count", "_law_cost"] "_law_lots" (defScope s_law_lots) a.f_law_lots cdv A outer s H E) (fun cls d _ H' => E cls d H') := takes_of rfl rfl rfl rfl
  refine ⟨_, (b_cons (s_asg (ps_set (i := 2) sc_law_lots.nd rfl (.inl rfl) (e_lstO a_nil)))
    (b_cons (s_asg (ps_set (i := 3) sc_law_lots.nd rfl (.inl rfl) e_int))
    (b_cons (s_wk (s_for (passes_of rfl) rfl (i_range1 rfl T.z_range (e_var (pv 1))) (g_name (pg_name (i := 4) sc_law_lots.nd rfl (.inl rfl))) (b_cons (s_asg (ps_set (i := 5) sc_law_lots.nd rfl (.inl rfl) (e_fn G_law_mixed (hr.mono (by decide)) rfl T.g_law_mixed T.F_law_mixed.kp T.b_law_mixed tk (a_cons (e_fn G_law_cell_at (hr.mono (by decide)) rfl T.g_law_cell_at T.F_law_cell_at.kp T.b_law_cell_at tk (a_cons (e_var (pv 0)) (a_cons (e_add e_int (e_mod (e_var (pv 4)) e_int)) a_nil))) (a_cons (e_var (pv 4)) a_nil)))))
    (b_cons (s_asg (ps_set (i := 6) sc_law_lots.nd rfl (.inl rfl) (e_fn G_law_drawn (hr.mono (by decide)) rfl T.g_law_drawn T.F_law_drawn.kp T.b_law_drawn tk (a_cons (e_var (pv 5)) (a_cons (e_lst (a_cons e_int (a_cons e_int (a_cons e_int (a_cons e_int (a_cons e_int a_nil)))))) a_nil)))))
    (b_cons (s_asg (ps_set (i := 3) sc_law_lots.nd rfl (.inl rfl) (e_add (e_var (pv 3)) (e_ix (e_var (pv 6)) e_int))))
    (b_cons (s_asg (ps_set (i := 7) sc_law_lots.nd rfl (.inl rfl) (e_lst (a_cons (e_mod (e_mul (e_var (pv 5)) (e_pow e_int e_int)) (e_pow e_int e_int)) (a_cons (e_mod (e_mul (e_var (pv 5)) (e_pow e_int e_int)) (e_sub (e_pow e_int e_int) e_int)) a_nil)))))
    (b_cons (s_asg (ps_set (i := 8) sc_law_lots.nd rfl (.inl rfl) (e_add e_int (e_ix (e_lst (a_cons (e_ix (e_var (pv 6)) e_int) (a_cons (e_add (e_mul e_int (e_ix (e_var (pv 6)) e_int)) e_int) (a_cons (e_ix (e_var (pv 7)) e_int) (a_cons (e_ix (e_var (pv 7)) e_int) a_nil))))) (e_ix (e_var (pv 6)) e_int)))))
    (b_cons (s_asg (ps_set (i := 9) sc_law_lots.nd rfl (.inl rfl) (e_ix (e_lst (a_cons e_int (a_cons (e_ix (e_var (pv 6)) e_int) (a_cons (e_mod (e_mul (e_var (pv 5)) (e_pow e_int e_int)) (e_pow e_int e_int)) (a_cons (e_mod (e_mul (e_var (pv 5)) (e_pow e_int e_int)) (e_pow e_int e_int)) a_nil))))) (e_ix (e_var (pv 6)) e_int))))
    (b_one (s_expr (e_append (pe_bm PySem.F.plainAttrs_list PySem.F.slot_list_append PySem.F.type_list_append mt_append (e_var (pv 2)) (pa_cons (e_tup (a_cons (e_var (pv 3)) (a_cons (e_var (pv 8)) (a_cons (e_var (pv 9)) a_nil)))) pa_nil)))))))))))))
    (b_one (s_ret (e_var (pv 2))))))), ?_⟩
  intro ds G Q E h
  obtain ⟨ns, many, rfl, ⟨hs, h0, h1⟩, k⟩ := h
  refine ⟨Nat.zero_le _, fun p => ?_⟩
  refine ⟨⟨by omega, by omega⟩, ?_⟩
  refine ⟨fun i σ G' => ∃ x1 x2 x3 x4 x5 x6, σ = [some (.scr ns), some (.int many), some (.ref p), some (.int (lotDay ns i)), x1, x2, x3, x4, x5, x6] ∧ G' = (p, .lst ((lotsOf ns i).map lotD)) :: G, Up.of ⟨none, none, none, none, none, none, rfl, rfl⟩, fun _ _ _ _ _ => trivial, ?_, ?_⟩
  · rintro i d σ' G' hd ⟨x1, x2, x3, x4, x5, x6, rfl, rfl⟩
    obtain ⟨hi, rfl⟩ := nats_get hd
    have hb := mixed_bl (p := (i : Int)) (cell_bl hs (2 + (i : Int) % 6)) (by omega) (by omega) (by decide)
    refine ⟨by decide, ns, _, rfl, by omega, ?_⟩
    refine ⟨_, _, rfl, ⟨Nat.le_trans (cell_bl hs _) (by decide), by omega, by omega⟩, ?_⟩
    rw [show mixed (cellAt ns (2 + (i : Int) % 6)) (i : Int) = lotCell ns i from rfl] at hb ⊢
    refine ⟨by show 5 ≤ sizeLine; decide, ?_⟩
    refine ⟨lotCell ns i, [4, 4, 10, 4, 12], rfl, ⟨by decide, ?_⟩, ?_⟩
    · intro s hs
      simp at hs
      rcases hs with rfl | rfl | rfl | rfl | rfl <;> exact ⟨by decide, by decide⟩
    have m1 : CMulX (lotCell ns i) (48271 ^ 7) := mul_ok hb (show bl ((48271 : Int) ^ 7) ≤ 200 by decide +kernel) (by decide)
    have m2 : CMulX (lotCell ns i) (69621 ^ 7) := mul_ok hb (show bl ((69621 : Int) ^ 7) ≤ 200 by decide +kernel) (by decide)
    have m3 : CMulX (lotCell ns i) (16807 ^ 8) := mul_ok hb (show bl ((16807 : Int) ^ 8) ≤ 200 by decide +kernel) (by decide)
    have m4 : CMulX (lotCell ns i) (40692 ^ 8) := mul_ok hb (show bl ((40692 : Int) ^ 8) ≤ 200 by decide +kernel) (by decide)
    refine ⟨_, rfl, ?_⟩
    refine ⟨⟨by decide, by decide, by decide⟩, m1, ⟨by decide, by decide, by decide⟩, by decide, ⟨by decide, by decide, by decide⟩, m2, ⟨by decide, by decide, by decide⟩, by decide, by show 2 ≤ sizeLine; decide, ?_⟩
    refine ⟨_, rfl, _, rfl, mul_small (by decide) (by decide) (by omega) (by omega), _, rfl, _, rfl, by show 4 ≤ sizeLine; decide, _, rfl, ?_⟩
    have p1 := atI_pick (xs := [lotCell ns i / 4 / 4 % 10, 12 * (lotCell ns i / 4 / 4 % 10) + 11, lotCell ns i * 48271 ^ 7 % 10 ^ 12, lotCell ns i * 69621 ^ 7 % (10 ^ 30 - 1)]) (i := lotCell ns i / 4 % 4) (by omega) (by simp; omega)
    have p2 := atI_pick (xs := [0, lotCell ns i / 4 / 4 / 10 / 4 % 12, lotCell ns i * 16807 ^ 8 % 10 ^ 15, lotCell ns i * 40692 ^ 8 % 10 ^ 30]) (i := lotCell ns i / 4 / 4 / 10 % 4) (by omega) (by simp; omega)
    refine ⟨_, p1, ?_⟩
    refine ⟨_, rfl, ⟨by decide, by decide, by decide⟩, m3, ⟨by decide, by decide, by decide⟩, by decide, ⟨by decide, by decide, by decide⟩, m4, ⟨by decide, by decide, by decide⟩, by decide, by show 4 ≤ sizeLine; decide, _, rfl, ?_⟩
    refine ⟨_, p2, ?_⟩
    refine ⟨⟨_, .head _⟩, by show 3 ≤ sizeLine; decide, _, _, .head, size_lt ?_, ?_⟩
    · simp only [List.length_map, lotsOf_length]; omega
    refine Up.of ⟨_, _, _, _, _, _, rfl, ?_⟩
    rw [lotsOf_succ, List.map_append]; rfl
  · rintro σ' G' ⟨x1, x2, x3, x4, x5, x6, rfl, rfl⟩
    rw [nats_len]
    exact Up.of (UpV.list k)
end
/-! ### _law_good -/
def sp_law_good : Sp3 := fun ds G Q _ => ∃ (ls : List Lot), ds = [.lst (ls.map lotD)] ∧ LotsOk ls ∧ Q (.bl true) G
theorem sc_law_good : FnScope ["_law_lots_here", "_law_lot", "_law_one"] ["_law_lots_here"] (defScope s_law_good) := ⟨rfl, rfl, rfl, by decide +kernel, rfl, by decide +kernel, by decide +kernel⟩
section
variable {P : Program} {w : World} {K : PySem.W.Frag} {mg : Str → Option Value} {base : Heap} {a : Ad}
theorem ok_law_good (T : Txt K mg a) : OkFn P w K mg base 2 a.f_law_good a.d_law_good ["_law_lots_here"] sp_law_good := by
  have G_law_whole : OkFn P w K mg base 1 a.f_law_whole a.d_law_whole ["_law_found"] sp_law_whole := ok_law_whole T
  refine T.F_law_good.ok3 sc_law_good (fun ds G Q E h => ?_) (fun cdv A outer s H E hr => ?_)
  · obtain ⟨ls, rfl, _⟩ := h
    rfl
  have hu := hr.units
  have hu1 := hu_of hr
  have tk : Takes (cxOf (L2.CX P w) P w K mg base ["_law_lots_here", "_law_lot", "_law_one"] "_law_good" (defScope s_law_good) a.f_law_good cdv A outer s H E) (fun cls d _ H' => E cls d H') := takes_of rfl rfl rfl rfl
  refine ⟨_, (b_cons (s_if (t_not (t_val (e_isi isT_list rfl T.z_isinstance rfl T.z_list (by decide +kernel) (e_var (pv 0))))) (b_one (s_ret e_bl)) b_nil)
    (b_cons (s_wk (s_for (passes_of rfl) rfl (i_list (e_var (pv 0))) (g_name (pg_name (i := 1) sc_law_good.nd rfl (.inl rfl))) (b_cons (s_if (PW.pt (w_or (t_not (t_val (e_isi isT_tup rfl T.z_isinstance rfl T.z_tuple (by decide +kernel) (e_var (pv 1))))) (w_or (t_ne hu (e_callB call_len cl_len rfl T.z_len (by decide +kernel) (a_cons (e_var (pv 1)) a_nil)) e_int) (w_one' (t_not (t_val (e_callB (cr_all rfl) cl_all rfl T.z_all (by decide +kernel) (a_cons (e_lc (pe_lc (own := [("_law_one", 2)]) (g := gName 2) rfl sc_law_good.nd (i_tup (e_var (pv 1))) (blkOk_by (own := [("_law_one", 2)]) (N := ["_law_lots_here", "_law_lot", "_law_one"]) (sc := defScope s_law_good) (by decide +kernel)) (fun _ _ _ _ _ => (pg_name (i := 2) sc_law_good.nd rfl (Or.inl rfl))) (fun _ _ _ _ _ => ts_nil) (fun _ _ _ _ _ => (e_fn G_law_whole (hr.mono (by decide)) rfl T.g_law_whole T.F_law_whole.kp T.b_law_whole takes0 (a_cons (e_var (pv 2)) a_nil)))) (tl_name (by decide))) a_nil)))))))) (b_one (s_ret e_bl)) b_nil)
    (b_one (s_if (PW.pt (w_or (t_lt (e_ix (e_var (pv 1)) e_int) e_int) (w_one' (t_lt (e_ix (e_var (pv 1)) e_int) e_int)))) (b_one (s_ret e_bl)) b_nil)))))
    (b_one (s_ret e_bl)))), ?_⟩
  intro ds G Q E h
  obtain ⟨ls, rfl, hok, k⟩ := h
  have last : ∀ b : Bool, b = false → ∀ {P R : Prop}, R → (if b = true then P else R) := fun b h P R r => by rw [h]; exact iteF r
  refine ⟨_, rfl, ?_⟩
  refine ⟨fun i σ G' => ∃ x, σ = [some (.lst (ls.map lotD)), x, none] ∧ G = G', Up.of ⟨none, rfl, rfl⟩, fun _ _ _ _ _ => rfl, ?_, ?_⟩
  · rintro i d σ' G' hd ⟨x, rfl, rfl⟩
    obtain ⟨l, h1, rfl⟩ := get_map hd
    have hl := hok.ok l (get_mem h1)
    refine ⟨fun k => ((lotI l)[k]?).map fun _ => .bl true, fun p acc => trivial, fun k d p acc hk => ?_, by show 3 ≤ sizeLine; decide, ?_⟩
    · obtain ⟨n, h1, rfl⟩ := get_map hk
      exact ⟨rfl, _, rfl, fun a h => (nomatch h), rfl, om h1⟩
    refine ⟨[true, true, true], rfl, ?_⟩
    refine ⟨_, rfl, ?_⟩
    refine last _ (decide_eq_false (by have := hl.1; omega)) ?_
    refine ⟨_, rfl, ?_⟩
    refine last _ (decide_eq_false (by have := hl.2.2.1; omega)) ?_
    exact Up.of ⟨_, rfl, rfl⟩
  · rintro σ' G' ⟨x, rfl, rfl⟩
    exact Up.of (UpV.of k)
end
/-! ### law -/
theorem take_zero : ∀ {ls : List Lot}, (∀ l ∈ ls, LotOk l) → takenL 0 ls = [] ∧ leftL 0 ls = ls
  | [], _ => ⟨rfl, rfl⟩
  | l :: r, h => by
    have hl := (h l (List.mem_cons_self ..)).1
    obtain ⟨e1, e2⟩ := take_zero (ls := r) fun y hy => h y (List.mem_cons_of_mem _ hy)
    have hp : partOf 0 l = 0 := by rw [partOf_eq]; omega
    constructor
    · simp [takenL, takeOne, hp, e1]
    · simp only [leftL, leaveOne, hp, Int.sub_zero, e2, Int.mul_zero, Int.zero_ediv]
      rw [if_pos (by omega)]; rfl
theorem used_split : ∀ {ls : List Lot} {c : Int}, 0 ≤ c → (∀ l ∈ ls, LotOk l) → (ls = takenL c ls ++ leftL c ls) ∨
    (∃ A l B p, ls = A ++ l :: B ∧ takenL c ls = A ++ [⟨l.day, p, l.cost * p / l.count⟩] ∧ leftL c ls = ⟨l.day, l.count - p, l.cost - l.cost * p / l.count⟩ :: B)
  | [], _, _, _ => .inl rfl
  | l :: r, c, hc, h => by
    have hl := (h l (List.mem_cons_self ..)).1
    have hr : ∀ y ∈ r, LotOk y := fun y hy => h y (List.mem_cons_of_mem _ hy)
    by_cases h0 : c = 0
    · subst h0
      obtain ⟨e1, e2⟩ := take_zero h
      exact .inl (by rw [e1, e2]; rfl)
    by_cases h1 : l.count ≤ c
    · have hp : partOf c l = l.count := by rw [partOf_eq]; omega
      have t1 : takeOne c l = [l] := by
        unfold takeOne
        rw [hp, if_pos (by omega), Int.mul_ediv_cancel _ (by omega)]
      have t2 : leaveOne c l = [] := by
        unfold leaveOne
        rw [hp, if_neg (by omega)]
      rcases used_split (c := c - l.count) (by omega) hr with e | ⟨A, m, B, p, e1, e2, e3⟩
      · left
        simp only [takenL, leftL, hp, t1, t2, List.nil_append, List.cons_append]
        rw [← e]
      · right
        refine ⟨l :: A, m, B, p, by rw [e1]; rfl, ?_, ?_⟩
        · simp only [takenL, hp, t1, e2]; rfl
        · simp only [leftL, hp, t2, e3]; rfl
    · have hp : partOf c l = c := by rw [partOf_eq]; omega
      obtain ⟨e1, e2⟩ := take_zero hr
      right
      refine ⟨[], l, r, c, rfl, ?_, ?_⟩
      · simp only [takenL, takeOne, hp, Int.sub_self, e1]; rw [if_pos (by omega)]; rfl
      · simp only [leftL, leaveOne, hp, Int.sub_self, e2]; rw [if_pos (by omega)]; rfl
def k04many (ns : List Int) : Int := if cellAt ns 0 / 7 / 3 / 7 % 8 = 1 then 60 else cellAt ns 0 % 7
theorem k04many_pos (ns : List Int) : 0 ≤ k04many ns ∧ k04many ns ≤ 60 := by unfold k04many; split <;> omega
def sp_law : Sp3 := fun ds G Q _ => ∃ ns : List Int, ds = [.scr ns] ∧ ScOk ns ∧ Q (.bl true) G
theorem law_true (_ : PySem.W.Frag) (ns : List Int) (h : ScOk ns) : sp_law [.scr ns] [] (fun d _ => d = .bl true) (fun _ _ => False) := ⟨ns, rfl, h, rfl⟩
theorem sc_law : FnScope ["_law_script", "_law_first", "_law_many", "_law_lots_here", "_law_there", "_law_lot", "_law_count", "_law_found", "_law_both", "_law_at", "_law_one"] ["_law_script"] (defScope s_law) := ⟨rfl, rfl, rfl, by decide +kernel, rfl, by decide +kernel, by decide +kernel⟩
section
variable {P : Program} {w : World} {K : PySem.W.Frag} {mg : Str → Option Value} {base : Heap} {a : Ad}
theorem ok_law (T : Txt K mg a) : OkFn P w K mg base 3 a.f_law a.d_law ["_law_script"] sp_law := by
  have G_used : OkFn P w K mg base 2 a.f_used a.d_used ["lots", "count"] (sp_used a) := ok_used T
  have G_law_cell_at : OkFn P w K mg base 1 a.f_law_cell_at a.d_law_cell_at ["_law_script", "_law_k"] sp_law_cell_at := ok_law_cell_at T
  have G_law_drawn : OkFn P w K mg base 1 a.f_law_drawn a.d_law_drawn ["_law_cell", "_law_sizes"] sp_law_drawn := ok_law_drawn T
  have G_law_lots : OkFn P w K mg base 2 a.f_law_lots a.d_law_lots ["_law_script", "_law_many"] sp_law_lots := ok_law_lots T
  have G_law_good : OkFn P w K mg base 2 a.f_law_good a.d_law_good ["_law_lots_here"] sp_law_good := ok_law_good T
  refine T.F_law.ok3 sc_law (fun ds G Q E h => ?_) (fun cdv A outer s H E hr => ?_)
  · obtain ⟨ns, rfl, _⟩ := h
    rfl
  have hu := hr.units
  have hu1 := hu_of hr
  have tk : Takes (cxOf (L2.CX P w) P w K mg base ["_law_script", "_law_first", "_law_many", "_law_lots_here", "_law_there", "_law_lot", "_law_count", "_law_found", "_law_both", "_law_at", "_law_one"] "law" (defScope s_law) a.f_law cdv A outer s H E) (fun cls d _ H' => E cls d H') := takes_of rfl rfl rfl rfl
  refine ⟨_, (b_cons (s_asg (ps_set (i := 1) sc_law.nd rfl (.inl rfl) (e_fn G_law_drawn (hr.mono (by decide)) rfl T.g_law_drawn T.F_law_drawn.kp T.b_law_drawn tk (a_cons (e_fn G_law_cell_at (hr.mono (by decide)) rfl T.g_law_cell_at T.F_law_cell_at.kp T.b_law_cell_at tk (a_cons (e_var (pv 0)) (a_cons e_int a_nil))) (a_cons (e_lst (a_cons e_int (a_cons e_int (a_cons e_int (a_cons e_int a_nil))))) a_nil)))))
    (b_cons (s_asg (ps_set (i := 2) sc_law.nd rfl (.inl rfl) (e_ix (e_var (pv 1)) e_int)))
    (b_cut (s_if (t_eq hu (e_ix (e_var (pv 1)) e_int) e_int) (b_one (s_asg (ps_set (i := 2) sc_law.nd rfl (.inl rfl) e_int))) b_nil)
    (b_cons (s_asg (ps_set (i := 3) sc_law.nd rfl (.inl rfl) (e_fn G_law_lots (hr.mono (by decide)) rfl T.g_law_lots T.F_law_lots.kp T.b_law_lots tk (a_cons (e_var (pv 0)) (a_cons (e_var (pv 2)) a_nil)))))
    (b_cons (s_asg (ps_set (i := 4) sc_law.nd rfl (.inl rfl) (e_callB (cr_sum rfl) cl_sum rfl T.z_sum (by decide +kernel) (a_cons (e_lc (pe_lc (own := [("_law_lot", 5)]) (g := gName 5) rfl sc_law.nd (i_list (e_var (pv 3))) (blkOk_by (own := [("_law_lot", 5)]) (N := ["_law_script", "_law_first", "_law_many", "_law_lots_here", "_law_there", "_law_lot", "_law_count", "_law_found", "_law_both", "_law_at", "_law_one"]) (sc := defScope s_law) (by decide +kernel)) (fun _ _ _ _ _ => (pg_name (i := 5) sc_law.nd rfl (Or.inl rfl))) (fun _ _ _ _ _ => ts_nil) (fun _ _ _ _ _ => (e_ix (e_var (pv 5)) e_int))) (tl_name (by decide))) a_nil))))
    (b_cons (s_asg (ps_set (i := 6) sc_law.nd rfl (.inl rfl) (e_mod (e_fn G_law_cell_at (hr.mono (by decide)) rfl T.g_law_cell_at T.F_law_cell_at.kp T.b_law_cell_at tk (a_cons (e_var (pv 0)) (a_cons e_int a_nil))) (e_add (e_var (pv 4)) e_int))))
    (b_cut (s_if (t_eq hu (e_ix (e_var (pv 1)) e_int) e_int) (b_one (s_asg (ps_set (i := 6) sc_law.nd rfl (.inl rfl) (e_callB (cr_sum rfl) cl_sum rfl T.z_sum (by decide +kernel) (a_cons (e_lc (pe_lc (own := [("_law_lot", 5)]) (g := gName 5) rfl sc_law.nd (i_list (e_slice (e_var (pv 3)) o_none (o_some (e_mul (e_ix (e_var (pv 1)) e_int) (e_add e_int (e_fdiv (e_var (pv 2)) e_int)))))) (blkOk_by (own := [("_law_lot", 5)]) (N := ["_law_script", "_law_first", "_law_many", "_law_lots_here", "_law_there", "_law_lot", "_law_count", "_law_found", "_law_both", "_law_at", "_law_one"]) (sc := defScope s_law) (by decide +kernel)) (fun _ _ _ _ _ => (pg_name (i := 5) sc_law.nd rfl (Or.inl rfl))) (fun _ _ _ _ _ => ts_nil) (fun _ _ _ _ _ => (e_ix (e_var (pv 5)) e_int))) (tl_name (by decide))) a_nil))))) b_nil)
    (b_cut (s_asg (ps_set (i := 6) sc_law.nd rfl (.inl rfl) (e_callB (call_min2 rfl) cl_min rfl T.z_min (by decide +kernel) (a_cons (e_var (pv 6)) (a_cons (e_sub (e_pow e_int e_int) e_int) a_nil)))))
    (b_cons (s_asg (ps_set (i := 7) sc_law.nd rfl (.inl rfl) (e_fn G_used (hr.mono (by decide)) rfl T.g_used T.F_used.kp T.b_used tk (a_cons (e_callTy call_list_of cl_list rfl T.z_list (by decide +kernel) (a_cons (e_var (pv 3)) a_nil)) (a_cons (e_var (pv 6)) a_nil)))))
    (b_cons (s_if (PW.pt (w_or (t_not (t_val (e_isi isT_tup rfl T.z_isinstance rfl T.z_tuple (by decide +kernel) (e_var (pv 7))))) (w_one' (t_ne hu (e_callB call_len cl_len rfl T.z_len (by decide +kernel) (a_cons (e_var (pv 7)) a_nil)) e_int)))) (b_one (s_ret e_bl)) b_nil)
    (b_cons (s_if (PW.pt (w_or (t_not (t_val (e_fn G_law_good (hr.mono (by decide)) rfl T.g_law_good T.F_law_good.kp T.b_law_good tk (a_cons (e_ix (e_var (pv 7)) e_int) a_nil)))) (w_one' (t_not (t_val (e_fn G_law_good (hr.mono (by decide)) rfl T.g_law_good T.F_law_good.kp T.b_law_good tk (a_cons (e_ix (e_var (pv 7)) e_int) a_nil))))))) (b_one (s_ret e_bl)) b_nil)
    (b_cons (s_if (t_ne hu (e_callB (cr_sum rfl) cl_sum rfl T.z_sum (by decide +kernel) (a_cons (e_lc (pe_lc (own := [("_law_lot", 5)]) (g := gName 5) rfl sc_law.nd (i_list (e_ix (e_var (pv 7)) e_int)) (blkOk_by (own := [("_law_lot", 5)]) (N := ["_law_script", "_law_first", "_law_many", "_law_lots_here", "_law_there", "_law_lot", "_law_count", "_law_found", "_law_both", "_law_at", "_law_one"]) (sc := defScope s_law) (by decide +kernel)) (fun _ _ _ _ _ => (pg_name (i := 5) sc_law.nd rfl (Or.inl rfl))) (fun _ _ _ _ _ => ts_nil) (fun _ _ _ _ _ => (e_ix (e_var (pv 5)) e_int))) (tl_name (by decide))) a_nil)) (e_var (pv 6))) (b_one (s_ret e_bl)) b_nil)
    (b_cons (s_asg (ps_set (i := 8) sc_law.nd rfl (.inl rfl) (e_add (e_ix (e_var (pv 7)) e_int) (e_ix (e_var (pv 7)) e_int))))
    (b_cut (s_if (t_eq hu (e_callB call_len cl_len rfl T.z_len (by decide +kernel) (a_cons (e_var (pv 8)) a_nil)) (e_add (e_callB call_len cl_len rfl T.z_len (by decide +kernel) (a_cons (e_var (pv 3)) a_nil)) e_int)) (b_cons (s_asg (ps_set (i := 9) sc_law.nd rfl (.inl rfl) (e_sub (e_callB call_len cl_len rfl T.z_len (by decide +kernel) (a_cons (e_ix (e_var (pv 7)) e_int) a_nil)) e_int)))
    (b_cons (s_if (t_ne hu (e_ix (e_ix (e_var (pv 8)) (e_var (pv 9))) e_int) (e_ix (e_ix (e_var (pv 8)) (e_add (e_var (pv 9)) e_int)) e_int)) (b_one (s_ret e_bl)) b_nil)
    (b_cons (s_asg (ps_set (i := 10) sc_law.nd rfl (.inl rfl) (e_tup (a_cons (e_ix (e_ix (e_var (pv 8)) (e_var (pv 9))) e_int) (a_cons (e_add (e_ix (e_ix (e_var (pv 8)) (e_var (pv 9))) e_int) (e_ix (e_ix (e_var (pv 8)) (e_add (e_var (pv 9)) e_int)) e_int)) (a_cons (e_add (e_ix (e_ix (e_var (pv 8)) (e_var (pv 9))) e_int) (e_ix (e_ix (e_var (pv 8)) (e_add (e_var (pv 9)) e_int)) e_int)) a_nil))))))
    (b_one (s_asg (ps_set (i := 8) sc_law.nd rfl (.inl rfl) (e_add (e_add (e_slice (e_var (pv 8)) o_none (o_some (e_var (pv 9)))) (e_lst (a_cons (e_var (pv 10)) a_nil))) (e_slice (e_var (pv 8)) (o_some (e_add (e_var (pv 9)) e_int)) o_none)))))))) b_nil)
    (b_one (s_ret (e_eq hu (e_var (pv 8)) (e_var (pv 3))))))))))))))))))), ?_⟩
  intro ds G Q E h
  obtain ⟨ns, rfl, hsc, k⟩ := h
  refine ⟨ns, 0, rfl, by decide, ?_⟩
  refine ⟨by show 4 ≤ sizeLine; decide, ?_⟩
  refine ⟨cellAt ns 0, [7, 3, 7, 8], rfl, ⟨by decide, ?_⟩, ?_⟩
  · intro s hs
    simp at hs
    rcases hs with rfl | rfl | rfl | rfl <;> exact ⟨by decide, by decide⟩
  refine ⟨_, rfl, ?_⟩
  have hm := k04many_pos ns
  let L : List (Option D) → St3 := fun r => some (.scr ns) :: some (.lst ((drawn (cellAt ns 0) [7, 3, 7, 8]).map .int)) :: r
  refine ⟨fun σ' G' => σ' = L [some (.int (k04many ns)), none, none, none, none, none, none, none, none] ∧ G = G', ?_, ?_⟩
  · refine ⟨_, rfl, ?_⟩
    refine ite2 (fun h1 => ?_) (fun h1 => ?_)
    · have e : k04many ns = 60 := by unfold k04many; rw [if_pos (by simpa using h1)]
      rw [e]
      exact Up.of ⟨rfl, rfl⟩
    · have e : k04many ns = cellAt ns 0 % 7 := by unfold k04many; rw [if_neg (by simpa using h1)]
      rw [e]
      exact Up.of ⟨rfl, rfl⟩
  rintro σ' G' ⟨rfl, rfl⟩
  refine ⟨ns, _, rfl, ⟨hsc, hm.1, by omega⟩, ?_⟩
  generalize hls0 : lotsOf ns (k04many ns).toNat = ls
  have hok : LotsOk ls := by rw [← hls0]; exact lotsOf_ok ns (by omega)
  have hlen := hok.len
  have hs0 := counts_pos hok.ok
  -- there
  refine ⟨_, rfl, fun k => (ls[k]?).map fun l => .int l.count, fun p acc => rfl, fun k d p acc hk => ?_, size_le (by simp; omega), ?_⟩
  · obtain ⟨l, h1, rfl⟩ := get_map hk
    exact ⟨rfl, _, rfl, rfl, om h1⟩
  rw [List.length_map, fm_map]
  refine ⟨ls.map Lot.count, by simp [Ls, List.map_map], ?_⟩
  generalize hth : (ls.map Lot.count).sum = th at *
  refine ⟨ns, 1, rfl, by decide, by show (0 : Int) < th + 1; omega, ?_⟩
  have hc0 := Int.emod_nonneg (cellAt ns 1) (show th + 1 ≠ 0 by omega)
  have hc1 := Int.emod_lt_of_pos (cellAt ns 1) (show 0 < th + 1 by omega)
  refine ⟨fun σ' G' => ∃ c, σ' = L [some (.int (k04many ns)), some (.lst (ls.map lotD)), some (.int th), none, some (.int c), none, none, none, none] ∧ G = G' ∧ 0 ≤ c ∧ c ≤ th, ?_, ?_⟩
  · refine ⟨_, rfl, ?_⟩
    refine ite2 (fun h1 => ?_) (fun h1 => ?_)
    · refine ⟨_, rfl, div_lt (by decide) (by decide), mul_small (by omega) (by omega) (by omega) (by omega), ?_⟩
      have hle := cut_sum none (some (cellAt ns 0 / 7 / 3 % 7 * (1 + k04many ns / 8))) hok.ok
      rw [hth] at hle
      let cut := cutD ls none (some (cellAt ns 0 / 7 / 3 % 7 * (1 + k04many ns / 8)))
      refine ⟨cut.map lotD, (cut_map lotD ls _ _).symm, fun k => (cut[k]?).map fun l => .int l.count, fun p acc => (cut_map lotD ls _ _).symm, fun k d p acc hk => ?_, size_le (by have := cut_len ls none (some (cellAt ns 0 / 7 / 3 % 7 * (1 + k04many ns / 8))); simp [cut]; omega), ?_⟩
      · obtain ⟨l, h1, rfl⟩ := get_map hk
        exact ⟨rfl, _, rfl, rfl, om h1⟩
      rw [List.length_map, fm_map]
      refine ⟨cut.map Lot.count, by simp [Ls, List.map_map], ?_⟩
      exact Up.of ⟨_, rfl, rfl, counts_pos fun l hl => hok.ok l (cut_mem hl), hle⟩
    · exact Up.of ⟨_, rfl, rfl, hc0, by omega⟩
  rintro σ' G' ⟨c0, rfl, rfl, hc0', hc1'⟩
  refine ⟨fun σ' G' => ∃ c, σ' = L [some (.int (k04many ns)), some (.lst (ls.map lotD)), some (.int th), none, some (.int c), none, none, none, none] ∧ G = G' ∧ 0 ≤ c ∧ c ≤ th, ?_, ?_⟩
  · refine ⟨⟨by decide, by decide, by decide⟩, ?_⟩
    refine Up.of ⟨if (10 : Int) ^ 30 - 1 < c0 then (10 : Int) ^ 30 - 1 else c0, rfl, rfl, ?_⟩
    split
    · exact ⟨by decide, by omega⟩
    · exact ⟨hc0', hc1'⟩
  rintro σ' G' ⟨c, rfl, rfl, hc, hct⟩
  clear hc0 hc0' hc1 hc1' c0
  have last : ∀ b : Bool, b = false → ∀ {P R : Prop}, R → (if b = true then P else R) := fun b h P R r => by rw [h]; exact iteF r
  refine ⟨_, rfl, ?_⟩
  refine ⟨ls, c, _, rfl, rfl, ⟨hok, hc⟩, fun h0 => absurd h0 (by omega), fun _ => ?_⟩
  have t1 := takenL_len ls c
  have t2 := leftL_len ls c
  have o1 : LotsOk (takenL c ls) := ⟨takenL_ok hc hok.ok, by omega⟩
  have o2 : LotsOk (leftL c ls) := ⟨leftL_ok hc hok.ok, by omega⟩
  have hsum := taken_sum hc hok.ok
  rw [rest_zero hc hok.ok (by omega)] at hsum
  have hsplit := used_split hc hok.ok
  generalize takenL c ls = tk at *
  generalize leftL c ls = lf at *
  refine ⟨_, rfl, ⟨tk, rfl, o1, ?_⟩⟩
  refine ⟨_, rfl, ⟨lf, rfl, o2, ?_⟩⟩
  refine ⟨_, rfl, ?_⟩
  refine ⟨_, rfl, fun k => (tk[k]?).map fun l => .int l.count, fun p acc => rfl, fun k d p acc hk => ?_, size_le (by simp; omega), ?_⟩
  · obtain ⟨l, h1, rfl⟩ := get_map hk
    exact ⟨rfl, _, rfl, rfl, om h1⟩
  rw [List.length_map, fm_map]
  refine ⟨tk.map Lot.count, by simp [Ls, List.map_map], ?_⟩
  refine last _ (by rw [hsum, Int.sub_zero, decide_eq_true rfl]; rfl) ?_
  -- both
  refine ⟨_, rfl, _, rfl, size_le (by simp; omega), ?_⟩
  refine ⟨fun σ' G' => ∃ x1 x2, σ' = L [some (.int (k04many ns)), some (.lst (ls.map lotD)), some (.int th), none, some (.int c), some (.tup [.lst (tk.map lotD), .lst (lf.map lotD)]), some (.lst (ls.map lotD)), x1, x2] ∧ G = G', ?_, ?_⟩
  · refine ite2 (fun h2 => ?_) (fun h2 => ?_)
    · have h2' : tk.length + lf.length = ls.length + 1 := by
        have := of_decide_eq_true h2
        simp only [List.length_append, List.length_map] at this
        omega
      rcases hsplit with e | ⟨A, l, B, p, e1, e2, e3⟩
      · have := congrArg List.length e
        rw [List.length_append] at this; omega
      · have eat : ((tk.map lotD).length : Int) - 1 = (A.length : Nat) := by rw [e2]; simp
        have ebo : tk.map lotD ++ lf.map lotD = A.map lotD ++ lotD ⟨l.day, p, l.cost * p / l.count⟩ :: lotD ⟨l.day, l.count - p, l.cost - l.cost * p / l.count⟩ :: B.map lotD := by
          rw [e2, e3]; simp
        rw [ebo]
        have g1 : atI (A.map lotD ++ lotD ⟨l.day, p, l.cost * p / l.count⟩ :: lotD ⟨l.day, l.count - p, l.cost - l.cost * p / l.count⟩ :: B.map lotD) (((tk.map lotD).length : Int) - 1) = some (lotD ⟨l.day, p, l.cost * p / l.count⟩) := by
          rw [eat]; exact atI_nat (by simp)
        have g2 : atI (A.map lotD ++ lotD ⟨l.day, p, l.cost * p / l.count⟩ :: lotD ⟨l.day, l.count - p, l.cost - l.cost * p / l.count⟩ :: B.map lotD) (((tk.map lotD).length : Int) - 1 + 1) = some (lotD ⟨l.day, l.count - p, l.cost - l.cost * p / l.count⟩) := by
          rw [eat, show ((A.length : Nat) : Int) + 1 = ((A.length + 1 : Nat) : Int) by omega]
          exact atI_nat (by simp)
        have c1 : cutD (A.map lotD ++ lotD ⟨l.day, p, l.cost * p / l.count⟩ :: lotD ⟨l.day, l.count - p, l.cost - l.cost * p / l.count⟩ :: B.map lotD) none (some (((tk.map lotD).length : Int) - 1)) = A.map lotD := by
          rw [eat]
          unfold cutD
          rw [HT.sIx_none, HT.sIx_nat]
          simp
        have c2 : cutD (A.map lotD ++ lotD ⟨l.day, p, l.cost * p / l.count⟩ :: lotD ⟨l.day, l.count - p, l.cost - l.cost * p / l.count⟩ :: B.map lotD) (some (((tk.map lotD).length : Int) - 1 + 2)) none = B.map lotD := by
          rw [eat, show ((A.length : Nat) : Int) + 2 = ((A.length + 2 : Nat) : Int) by omega]
          unfold cutD
          rw [HT.sIx_none, HT.sIx_nat, Nat.min_eq_left (by simp)]
          rw [show A.map lotD ++ lotD ⟨l.day, p, l.cost * p / l.count⟩ :: lotD ⟨l.day, l.count - p, l.cost - l.cost * p / l.count⟩ :: B.map lotD = (A.map lotD ++ [lotD ⟨l.day, p, l.cost * p / l.count⟩, lotD ⟨l.day, l.count - p, l.cost - l.cost * p / l.count⟩]) ++ B.map lotD by simp]
          rw [List.drop_append_of_le_length (by simp), List.drop_of_length_le (by simp), List.nil_append]
          exact List.take_of_length_le (by simp; omega)
        have hAB : A.length + (B.length + 1) = ls.length := by rw [e1]; simp
        refine ⟨_, rfl, ?_⟩
        refine ⟨_, g1, _, rfl, _, g2, _, rfl, ?_⟩
        refine last _ (by rw [decide_eq_true rfl]; rfl) ?_
        refine ⟨_, g1, _, rfl, _, g1, _, rfl, _, g2, _, rfl, _, g1, _, rfl, _, g2, _, rfl, by show 3 ≤ sizeLine; decide, ?_⟩
        refine ⟨by show 1 ≤ sizeLine; decide, ?_⟩
        refine ⟨size_le (by rw [c1]; simp; omega), size_le (by rw [c1, c2]; simp; omega), ?_⟩
        refine Up.of ⟨some (.int (((tk.map lotD).length : Int) - 1)), some (.tup [.int l.day, .int (p + (l.count - p)), .int (l.cost * p / l.count + (l.cost - l.cost * p / l.count))]), ?_, rfl⟩
        have ee : cutD (A.map lotD ++ lotD ⟨l.day, p, l.cost * p / l.count⟩ :: lotD ⟨l.day, l.count - p, l.cost - l.cost * p / l.count⟩ :: B.map lotD) none (some (((tk.map lotD).length : Int) - 1)) ++ [.tup [.int l.day, .int (p + (l.count - p)), .int (l.cost * p / l.count + (l.cost - l.cost * p / l.count))]] ++ cutD (A.map lotD ++ lotD ⟨l.day, p, l.cost * p / l.count⟩ :: lotD ⟨l.day, l.count - p, l.cost - l.cost * p / l.count⟩ :: B.map lotD) (some (((tk.map lotD).length : Int) - 1 + 2)) none = ls.map lotD := by
          rw [c1, c2, show p + (l.count - p) = l.count by omega, show l.cost * p / l.count + (l.cost - l.cost * p / l.count) = l.cost by omega, e1]
          simp [lotD, lotI, tupD]
        rw [← ee]; rfl
    · rcases hsplit with e | ⟨A, l, B, p, e1, e2, e3⟩
      · rw [← List.map_append, ← e]
        exact Up.of ⟨none, none, rfl, rfl⟩
      · exfalso
        refine h2 (decide_eq_true ?_)
        rw [e1, e2, e3]; simp; omega
  rintro σ' G' ⟨x1, x2, rfl, rfl⟩
  have pll : plain (D.lst (ls.map lotD)) = true := by
    rw [map_lotD]; exact plain_tups _
  have dll : dep (D.lst (ls.map lotD)) ≤ 64 := by
    rw [map_lotD]; exact dep_tups _
  refine ⟨_, _, rfl, rfl, ⟨pll, pll, dll, dll⟩, ?_⟩
  rw [beqD_refl pll]
  exact UpV.of k
end
/-! ### what the top has written -/
theorem all_mk {K : PySem.W.Frag} {h : Heap} {mg : Str → Option Value} (X : K.In h) (G : h.Ns mainGlobals mg) {fa : Addr} (hfa : mg "law" = some (.ref fa)) {c_ShareError c_TooFew f_many_of f_used f_law_whole f_law_cell_at f_law_drawn f_law_mixed f_law_lots f_law_good f_law : Addr}
    {od_many_of an_many_of od_used an_used od_law_whole an_law_whole od_law_cell_at an_law_cell_at od_law_drawn an_law_drawn od_law_mixed an_law_mixed od_law_lots an_law_lots od_law_good an_law_good od_law an_law : Option Addr} {sl_many_of sl_used sl_law_whole sl_law_cell_at sl_law_drawn sl_law_mixed sl_law_lots sl_law_good sl_law : Array (Option Value)} {oc_many_of kV_many_of dc_many_of pm_many_of cd_many_of ct_many_of oc_used kV_used dc_used pm_used cd_used ct_used oc_law_whole kV_law_whole dc_law_whole pm_law_whole cd_law_whole ct_law_whole oc_law_cell_at kV_law_cell_at dc_law_cell_at pm_law_cell_at cd_law_cell_at ct_law_cell_at oc_law_drawn kV_law_drawn dc_law_drawn pm_law_drawn cd_law_drawn ct_law_drawn oc_law_mixed kV_law_mixed dc_law_mixed pm_law_mixed cd_law_mixed ct_law_mixed oc_law_lots kV_law_lots dc_law_lots pm_law_lots cd_law_lots ct_law_lots oc_law_good kV_law_good dc_law_good pm_law_good cd_law_good ct_law_good oc_law kV_law dc_law pm_law cd_law ct_law : Value}
    (nc_ShareError : PySem.W.nsIn K mainGlobals "ShareError" = some (some (.ref c_ShareError)))
    (nc_TooFew : PySem.W.nsIn K mainGlobals "TooFew" = some (some (.ref c_TooFew)))
    (n_many_of : PySem.W.nsIn K mainGlobals "many_of" = some (some (.ref f_many_of)))
    (l_many_of : K.lookup f_many_of = some ⟨oc_many_of, od_many_of, .func (PySem.W.fnOf "many_of" "many_of" (defArgs s_many_of) (defBody s_many_of) (defScope s_many_of) .none kV_many_of dc_many_of pm_many_of an_many_of cd_many_of ct_many_of), sl_many_of⟩)
    (o_many_of : PySem.W.codeIn K cd_many_of "many_of" = true)
    (k_many_of : PySem.W.keepIn K (.ref f_many_of) = true)
    (n_used : PySem.W.nsIn K mainGlobals "used" = some (some (.ref f_used)))
    (l_used : K.lookup f_used = some ⟨oc_used, od_used, .func (PySem.W.fnOf "used" "used" (defArgs s_used) (defBody s_used) (defScope s_used) .none kV_used dc_used pm_used an_used cd_used ct_used), sl_used⟩)
    (o_used : PySem.W.codeIn K cd_used "used" = true)
    (k_used : PySem.W.keepIn K (.ref f_used) = true)
    (n_law_whole : PySem.W.nsIn K mainGlobals "_law_whole" = some (some (.ref f_law_whole)))
    (l_law_whole : K.lookup f_law_whole = some ⟨oc_law_whole, od_law_whole, .func (PySem.W.fnOf "_law_whole" "_law_whole" (defArgs s_law_whole) (defBody s_law_whole) (defScope s_law_whole) .none kV_law_whole dc_law_whole pm_law_whole an_law_whole cd_law_whole ct_law_whole), sl_law_whole⟩)
    (o_law_whole : PySem.W.codeIn K cd_law_whole "_law_whole" = true)
    (k_law_whole : PySem.W.keepIn K (.ref f_law_whole) = true)
    (n_law_cell_at : PySem.W.nsIn K mainGlobals "_law_cell_at" = some (some (.ref f_law_cell_at)))
    (l_law_cell_at : K.lookup f_law_cell_at = some ⟨oc_law_cell_at, od_law_cell_at, .func (PySem.W.fnOf "_law_cell_at" "_law_cell_at" (defArgs s_law_cell_at) (defBody s_law_cell_at) (defScope s_law_cell_at) .none kV_law_cell_at dc_law_cell_at pm_law_cell_at an_law_cell_at cd_law_cell_at ct_law_cell_at), sl_law_cell_at⟩)
    (o_law_cell_at : PySem.W.codeIn K cd_law_cell_at "_law_cell_at" = true)
    (k_law_cell_at : PySem.W.keepIn K (.ref f_law_cell_at) = true)
    (n_law_drawn : PySem.W.nsIn K mainGlobals "_law_drawn" = some (some (.ref f_law_drawn)))
    (l_law_drawn : K.lookup f_law_drawn = some ⟨oc_law_drawn, od_law_drawn, .func (PySem.W.fnOf "_law_drawn" "_law_drawn" (defArgs s_law_drawn) (defBody s_law_drawn) (defScope s_law_drawn) .none kV_law_drawn dc_law_drawn pm_law_drawn an_law_drawn cd_law_drawn ct_law_drawn), sl_law_drawn⟩)
    (o_law_drawn : PySem.W.codeIn K cd_law_drawn "_law_drawn" = true)
    (k_law_drawn : PySem.W.keepIn K (.ref f_law_drawn) = true)
    (n_law_mixed : PySem.W.nsIn K mainGlobals "_law_mixed" = some (some (.ref f_law_mixed)))
    (l_law_mixed : K.lookup f_law_mixed = some ⟨oc_law_mixed, od_law_mixed, .func (PySem.W.fnOf "_law_mixed" "_law_mixed" (defArgs s_law_mixed) (defBody s_law_mixed) (defScope s_law_mixed) .none kV_law_mixed dc_law_mixed pm_law_mixed an_law_mixed cd_law_mixed ct_law_mixed), sl_law_mixed⟩)
    (o_law_mixed : PySem.W.codeIn K cd_law_mixed "_law_mixed" = true)
    (k_law_mixed : PySem.W.keepIn K (.ref f_law_mixed) = true)
    (n_law_lots : PySem.W.nsIn K mainGlobals "_law_lots" = some (some (.ref f_law_lots)))
    (l_law_lots : K.lookup f_law_lots = some ⟨oc_law_lots, od_law_lots, .func (PySem.W.fnOf "_law_lots" "_law_lots" (defArgs s_law_lots) (defBody s_law_lots) (defScope s_law_lots) .none kV_law_lots dc_law_lots pm_law_lots an_law_lots cd_law_lots ct_law_lots), sl_law_lots⟩)
    (o_law_lots : PySem.W.codeIn K cd_law_lots "_law_lots" = true)
    (k_law_lots : PySem.W.keepIn K (.ref f_law_lots) = true)
    (n_law_good : PySem.W.nsIn K mainGlobals "_law_good" = some (some (.ref f_law_good)))
    (l_law_good : K.lookup f_law_good = some ⟨oc_law_good, od_law_good, .func (PySem.W.fnOf "_law_good" "_law_good" (defArgs s_law_good) (defBody s_law_good) (defScope s_law_good) .none kV_law_good dc_law_good pm_law_good an_law_good cd_law_good ct_law_good), sl_law_good⟩)
    (o_law_good : PySem.W.codeIn K cd_law_good "_law_good" = true)
    (k_law_good : PySem.W.keepIn K (.ref f_law_good) = true)
    (n_law : PySem.W.nsIn K mainGlobals "law" = some (some (.ref f_law)))
    (l_law : K.lookup f_law = some ⟨oc_law, od_law, .func (PySem.W.fnOf "law" "law" (defArgs s_law) (defBody s_law) (defScope s_law) .none kV_law dc_law pm_law an_law cd_law ct_law), sl_law⟩)
    (o_law : PySem.W.codeIn K cd_law "law" = true)
    (k_law : PySem.W.keepIn K (.ref f_law) = true)
    (x_ShareError : PySem.W.excIn K c_ShareError [.type "ValueError", .type "Exception", .type "BaseException", .type "object"] "ValueError.__new__" = true)
    (k_ShareError : PySem.W.keepIn K (.ref c_ShareError) = true)
    (e_ShareError : PySem.W.subIn K (.ref c_ShareError) (.type "BaseException") = some true)
    (t_ShareError : PySem.W.typeIn K (.ref c_ShareError) = some (.type "type"))
    (hd_ShareError : PySem.W.hasDictIn K c_ShareError = true)
    (u_ShareError_ShareError : PySem.W.subIn K (.ref c_ShareError) (.ref c_ShareError) = some true)
    (u_ShareError_TooFew : PySem.W.subIn K (.ref c_ShareError) (.ref c_TooFew) = some false)
    (x_TooFew : PySem.W.excIn K c_TooFew [.type "ValueError", .type "Exception", .type "BaseException", .type "object"] "ValueError.__new__" = true)
    (k_TooFew : PySem.W.keepIn K (.ref c_TooFew) = true)
    (e_TooFew : PySem.W.subIn K (.ref c_TooFew) (.type "BaseException") = some true)
    (t_TooFew : PySem.W.typeIn K (.ref c_TooFew) = some (.type "type"))
    (hd_TooFew : PySem.W.hasDictIn K c_TooFew = true)
    (u_TooFew_ShareError : PySem.W.subIn K (.ref c_TooFew) (.ref c_ShareError) = some true)
    (u_TooFew_TooFew : PySem.W.subIn K (.ref c_TooFew) (.ref c_TooFew) = some true)
    (z_all : PySem.W.nsIn K mainGlobals "all" = some none)
    (z_bool : PySem.W.nsIn K mainGlobals "bool" = some none)
    (z_int : PySem.W.nsIn K mainGlobals "int" = some none)
    (z_isinstance : PySem.W.nsIn K mainGlobals "isinstance" = some none)
    (z_len : PySem.W.nsIn K mainGlobals "len" = some none)
    (z_list : PySem.W.nsIn K mainGlobals "list" = some none)
    (z_min : PySem.W.nsIn K mainGlobals "min" = some none)
    (z_range : PySem.W.nsIn K mainGlobals "range" = some none)
    (z_sum : PySem.W.nsIn K mainGlobals "sum" = some none)
    (z_tuple : PySem.W.nsIn K mainGlobals "tuple" = some none) :
    ∃ a : Ad, Txt K mg a ∧ a.f_law = fa ∧ ∀ (s : Shared) (u : Value), BindsTo s a.d_law ⟨[u], []⟩ [("_law_script", u)] := by
  have e := hfa.symm.trans (PySem.W.mg_of X G n_law)
  cases e
  have F_many_of := fun_mk (st := s_many_of) l_many_of o_many_of k_many_of
  have b_many_of := F_many_of.binds (ps := ["lots"]) fun _ _ _ _ _ _ us hl => match us, hl with | [_], _ => rfl
  have F_used := fun_mk (st := s_used) l_used o_used k_used
  have b_used := F_used.binds (ps := ["lots", "count"]) fun _ _ _ _ _ _ us hl => match us, hl with | [_, _], _ => rfl
  have F_law_whole := fun_mk (st := s_law_whole) l_law_whole o_law_whole k_law_whole
  have b_law_whole := F_law_whole.binds (ps := ["_law_found"]) fun _ _ _ _ _ _ us hl => match us, hl with | [_], _ => rfl
  have F_law_cell_at := fun_mk (st := s_law_cell_at) l_law_cell_at o_law_cell_at k_law_cell_at
  have b_law_cell_at := F_law_cell_at.binds (ps := ["_law_script", "_law_k"]) fun _ _ _ _ _ _ us hl => match us, hl with | [_, _], _ => rfl
  have F_law_drawn := fun_mk (st := s_law_drawn) l_law_drawn o_law_drawn k_law_drawn
  have b_law_drawn := F_law_drawn.binds (ps := ["_law_cell", "_law_sizes"]) fun _ _ _ _ _ _ us hl => match us, hl with | [_, _], _ => rfl
  have F_law_mixed := fun_mk (st := s_law_mixed) l_law_mixed o_law_mixed k_law_mixed
  have b_law_mixed := F_law_mixed.binds (ps := ["_law_cell", "_law_place"]) fun _ _ _ _ _ _ us hl => match us, hl with | [_, _], _ => rfl
  have F_law_lots := fun_mk (st := s_law_lots) l_law_lots o_law_lots k_law_lots
  have b_law_lots := F_law_lots.binds (ps := ["_law_script", "_law_many"]) fun _ _ _ _ _ _ us hl => match us, hl with | [_, _], _ => rfl
  have F_law_good := fun_mk (st := s_law_good) l_law_good o_law_good k_law_good
  have b_law_good := F_law_good.binds (ps := ["_law_lots_here"]) fun _ _ _ _ _ _ us hl => match us, hl with | [_], _ => rfl
  have F_law := fun_mk (st := s_law) l_law o_law k_law
  have b_law := F_law.binds (ps := ["_law_script"]) fun _ _ _ _ _ _ us hl => match us, hl with | [_], _ => rfl
  exact ⟨{ f_many_of := f_many_of, d_many_of := PySem.W.fnOf "many_of" "many_of" (defArgs s_many_of) (defBody s_many_of) (defScope s_many_of) .none kV_many_of dc_many_of pm_many_of an_many_of cd_many_of ct_many_of, f_used := f_used, d_used := PySem.W.fnOf "used" "used" (defArgs s_used) (defBody s_used) (defScope s_used) .none kV_used dc_used pm_used an_used cd_used ct_used, f_law_whole := f_law_whole, d_law_whole := PySem.W.fnOf "_law_whole" "_law_whole" (defArgs s_law_whole) (defBody s_law_whole) (defScope s_law_whole) .none kV_law_whole dc_law_whole pm_law_whole an_law_whole cd_law_whole ct_law_whole, f_law_cell_at := f_law_cell_at, d_law_cell_at := PySem.W.fnOf "_law_cell_at" "_law_cell_at" (defArgs s_law_cell_at) (defBody s_law_cell_at) (defScope s_law_cell_at) .none kV_law_cell_at dc_law_cell_at pm_law_cell_at an_law_cell_at cd_law_cell_at ct_law_cell_at, f_law_drawn := f_law_drawn, d_law_drawn := PySem.W.fnOf "_law_drawn" "_law_drawn" (defArgs s_law_drawn) (defBody s_law_drawn) (defScope s_law_drawn) .none kV_law_drawn dc_law_drawn pm_law_drawn an_law_drawn cd_law_drawn ct_law_drawn, f_law_mixed := f_law_mixed, d_law_mixed := PySem.W.fnOf "_law_mixed" "_law_mixed" (defArgs s_law_mixed) (defBody s_law_mixed) (defScope s_law_mixed) .none kV_law_mixed dc_law_mixed pm_law_mixed an_law_mixed cd_law_mixed ct_law_mixed, f_law_lots := f_law_lots, d_law_lots := PySem.W.fnOf "_law_lots" "_law_lots" (defArgs s_law_lots) (defBody s_law_lots) (defScope s_law_lots) .none kV_law_lots dc_law_lots pm_law_lots an_law_lots cd_law_lots ct_law_lots, f_law_good := f_law_good, d_law_good := PySem.W.fnOf "_law_good" "_law_good" (defArgs s_law_good) (defBody s_law_good) (defScope s_law_good) .none kV_law_good dc_law_good pm_law_good an_law_good cd_law_good ct_law_good, f_law := fa, d_law := PySem.W.fnOf "law" "law" (defArgs s_law) (defBody s_law) (defScope s_law) .none kV_law dc_law pm_law an_law cd_law ct_law, c_ShareError := c_ShareError, c_TooFew := c_TooFew }, { F_many_of := F_many_of, b_many_of := b_many_of, g_many_of := PySem.W.mg_of X G n_many_of, F_used := F_used, b_used := b_used, g_used := PySem.W.mg_of X G n_used, F_law_whole := F_law_whole, b_law_whole := b_law_whole, g_law_whole := PySem.W.mg_of X G n_law_whole, F_law_cell_at := F_law_cell_at, b_law_cell_at := b_law_cell_at, g_law_cell_at := PySem.W.mg_of X G n_law_cell_at, F_law_drawn := F_law_drawn, b_law_drawn := b_law_drawn, g_law_drawn := PySem.W.mg_of X G n_law_drawn, F_law_mixed := F_law_mixed, b_law_mixed := b_law_mixed, g_law_mixed := PySem.W.mg_of X G n_law_mixed, F_law_lots := F_law_lots, b_law_lots := b_law_lots, g_law_lots := PySem.W.mg_of X G n_law_lots, F_law_good := F_law_good, b_law_good := b_law_good, g_law_good := PySem.W.mg_of X G n_law_good, F_law := F_law, b_law := b_law, g_law := PySem.W.mg_of X G n_law, g_ShareError := PySem.W.mg_of X G nc_ShareError, x_ShareError := x_ShareError, k_ShareError := k_ShareError, e_ShareError := e_ShareError, t_ShareError := t_ShareError, s_ShareError_ShareError := PySem.W.exm_ref e_ShareError hd_ShareError t_ShareError u_ShareError_ShareError, s_ShareError_TooFew := PySem.W.exm_ref e_TooFew hd_TooFew t_TooFew u_ShareError_TooFew, g_TooFew := PySem.W.mg_of X G nc_TooFew, x_TooFew := x_TooFew, k_TooFew := k_TooFew, e_TooFew := e_TooFew, t_TooFew := t_TooFew, s_TooFew_ShareError := PySem.W.exm_ref e_ShareError hd_ShareError t_ShareError u_TooFew_ShareError, s_TooFew_TooFew := PySem.W.exm_ref e_TooFew hd_TooFew t_TooFew u_TooFew_TooFew, z_all := PySem.W.mg_none_of X G z_all, z_bool := PySem.W.mg_none_of X G z_bool, z_int := PySem.W.mg_none_of X G z_int, z_isinstance := PySem.W.mg_none_of X G z_isinstance, z_len := PySem.W.mg_none_of X G z_len, z_list := PySem.W.mg_none_of X G z_list, z_min := PySem.W.mg_none_of X G z_min, z_range := PySem.W.mg_none_of X G z_range, z_sum := PySem.W.mg_none_of X G z_sum, z_tuple := PySem.W.mg_none_of X G z_tuple }, rfl, fun s u => .of_eq rfl⟩
def kLevel : Nat := 3
theorem fin {P : Program} {w : World} {K : PySem.W.Frag} {mg : Str → Option Value} {fa : Addr} (A : ∃ a : Ad, Txt K mg a ∧ a.f_law = fa ∧ ∀ (s : Shared) (u : Value), BindsTo s a.d_law ⟨[u], []⟩ [("_law_script", u)]) :
    ∃ fd : FuncData, (∀ (s : Shared) (u : Value), BindsTo s fd ⟨[u], []⟩ [("_law_script", u)]) ∧ ∀ base : Heap, K.In base → base.Ns mainGlobals mg → OkFn P w K mg base kLevel fa fd ["_law_script"] sp_law := by
  obtain ⟨a, T, rfl, hb⟩ := A
  exact ⟨a.d_law, hb, fun base _ _ => ok_law T⟩
end Lk
open PySem PySem.W PyProof.Rows
set_option maxRecDepth 100000 in
set_option maxHeartbeats 0 in
theorem PySem.Challenge.cw_lotbook_k04_whole_lots_used_holds : PySem.Challenge.rw_lotbook_k04_whole_lots_used.Holds := by
  w_on; o_law; k_head; (case hw => w_witness2)
  k_fill
  refine T3.walk3 (l := PySem.Challenge.rw_lotbook_k04_whole_lots_used) (k := Lk.kLevel) (x := "_law_script") (sp := fun _ => Lk.sp_law) rfl rfl ⟨rfl, by decide, by decide⟩ (fun w h Y => PySem.W.kIn_of Y) ?F Lk.law_true
  case F =>
    intro w mg fa h KX G hmg
    refine' Lk.fin (Lk.all_mk KX G hmg ?nc_ShareError ?nc_TooFew ?n_many_of ?l_many_of ?o_many_of ?k_many_of ?n_used ?l_used ?o_used ?k_used ?n_law_whole ?l_law_whole ?o_law_whole ?k_law_whole ?n_law_cell_at ?l_law_cell_at ?o_law_cell_at ?k_law_cell_at ?n_law_drawn ?l_law_drawn ?o_law_drawn ?k_law_drawn ?n_law_mixed ?l_law_mixed ?o_law_mixed ?k_law_mixed ?n_law_lots ?l_law_lots ?o_law_lots ?k_law_lots ?n_law_good ?l_law_good ?o_law_good ?k_law_good ?n_law ?l_law ?o_law ?k_law ?x_ShareError ?k_ShareError ?e_ShareError ?t_ShareError ?hd_ShareError ?u_ShareError_ShareError ?u_ShareError_TooFew ?x_TooFew ?k_TooFew ?e_TooFew ?t_TooFew ?hd_TooFew ?u_TooFew_ShareError ?u_TooFew_TooFew ?z_all ?z_bool ?z_int ?z_isinstance ?z_len ?z_list ?z_min ?z_range ?z_sum ?z_tuple)
    (case nc_ShareError => k_is)
    (case nc_TooFew => k_is)
    (case n_many_of => k_is)
    (case l_many_of => k_is)
    (case o_many_of => k_is)
    (case k_many_of => k_is)
    (case n_used => k_is)
    (case l_used => k_is)
    (case o_used => k_is)
    (case k_used => k_is)
    (case n_law_whole => k_is)
    (case l_law_whole => k_is)
    (case o_law_whole => k_is)
    (case k_law_whole => k_is)
    (case n_law_cell_at => k_is)
    (case l_law_cell_at => k_is)
    (case o_law_cell_at => k_is)
    (case k_law_cell_at => k_is)
    (case n_law_drawn => k_is)
    (case l_law_drawn => k_is)
    (case o_law_drawn => k_is)
    (case k_law_drawn => k_is)
    (case n_law_mixed => k_is)
    (case l_law_mixed => k_is)
    (case o_law_mixed => k_is)
    (case k_law_mixed => k_is)
    (case n_law_lots => k_is)
    (case l_law_lots => k_is)
    (case o_law_lots => k_is)
    (case k_law_lots => k_is)
    (case n_law_good => k_is)
    (case l_law_good => k_is)
    (case o_law_good => k_is)
    (case k_law_good => k_is)
    (case n_law => k_is)
    (case l_law => k_is)
    (case o_law => k_is)
    (case k_law => k_is)
    (case x_ShareError => k_exc)
    (case k_ShareError => k_is)
    (case e_ShareError => k_is)
    (case t_ShareError => k_is)
    (case hd_ShareError => k_is)
    (case u_ShareError_ShareError => k_is)
    (case u_ShareError_TooFew => k_is)
    (case x_TooFew => k_exc)
    (case k_TooFew => k_is)
    (case e_TooFew => k_is)
    (case t_TooFew => k_is)
    (case hd_TooFew => k_is)
    (case u_TooFew_ShareError => k_is)
    (case u_TooFew_TooFew => k_is)
    (case z_all => k_is)
    (case z_bool => k_is)
    (case z_int => k_is)
    (case z_isinstance => k_is)
    (case z_len => k_is)
    (case z_list => k_is)
    (case z_min => k_is)
    (case z_range => k_is)
    (case z_sum => k_is)
    (case z_tuple => k_is)
#print axioms PySem.Challenge.cw_lotbook_k04_whole_lots_used_holds
