import PyProof.Rows.All
import Wide.All
import OpenK.AllK
import Wide.FinOn
import HandS.ForMost
import HandS.Walk
import HandS.Wide
import HandS.Exc
import HandS.TryOnly
import HandS.ExcOwn
import HandS.WordsExc
import HandS.TryMany
import HandS.IsInst
import HandS.EndBits
import HandS.ExcIs
import HandS.Conv
import HandS.Sort
import PyProof.SumWalkG
import HandS.TupAny
import PyProof.ZipIter
import HandS.Zip
import HandS.SetFor
import HandS.SetKeys
import HandS.Replace
import HandS.ReplaceLit
import KE.KDictZip
import KE.KItemsList
import HandS.ListItems
import HandS.HotCalls
import HandS.ExcInitHot
import KE.KDictList
import PySem.Challenge.RW_lotbook_k14_split_and_joined_again
set_option Elab.async false
set_option linter.all false
set_option maxRecDepth 100000
set_option maxHeartbeats 4000000
/-! T3: a layer of values over HandS: tuples and lists that stay are values, what changes stands in a list of objects. -/
namespace T3
open PySem L2

/-- a value: tuples by their items, lists that never change again by their items, other objects by their places -/
inductive D where
  | non | bl (b : Bool) | int (i : Int) | str (s : Str) | ref (a : Addr) | tup (ds : List D) | lst (ds : List D) | scr (ns : List Int)
/-- what is known for ever: at a stands a list of vs that stays, a tuple of vs, the script -/
structure Wd where
  L : Addr → List V → Prop
  T : Addr → List V → Prop
  S : Addr → List Int → Prop
structure Wd.le (W W' : Wd) : Prop where
  l : ∀ a vs, W.L a vs → W'.L a vs
  t : ∀ a vs, W.T a vs → W'.T a vs
  s : ∀ a vs, W.S a vs → W'.S a vs
theorem Wd.le.refl (W : Wd) : W.le W := ⟨fun _ _ h => h, fun _ _ h => h, fun _ _ h => h⟩
theorem Wd.le.trans {W W1 W2 : Wd} (a : W.le W1) (b : W1.le W2) : W.le W2 := ⟨fun x y h => b.l x y (a.l x y h), fun x y h => b.t x y (a.t x y h), fun x y h => b.s x y (a.s x y h)⟩
mutual
def Rl (W : Wd) : D → V → Prop
  | .non, v => v = .non
  | .bl b, v => v = .bl b
  | .int i, v => v = .int i
  | .str s, v => v = .str s
  | .ref a, v => v = .ref a
  | .tup ds, v => ∃ a vs, v = .ref a ∧ W.T a vs ∧ RlL W ds vs
  | .lst ds, v => ∃ a vs, v = .ref a ∧ W.L a vs ∧ RlL W ds vs
  | .scr ns, v => ∃ a, v = .ref a ∧ W.S a ns
def RlL (W : Wd) : List D → List V → Prop
  | [], vs => vs = []
  | d :: ds, vs => ∃ v r, vs = v :: r ∧ Rl W d v ∧ RlL W ds r
end
mutual
theorem Rl.mono {W W' : Wd} (h : W.le W') : ∀ {d : D} {v : V}, Rl W d v → Rl W' d v
  | .non, _, r => r
  | .bl _, _, r => r
  | .int _, _, r => r
  | .str _, _, r => r
  | .ref _, _, r => r
  | .tup ds, _, ⟨a, vs, e, t, r⟩ => ⟨a, vs, e, h.t a vs t, RlL.mono h r⟩
  | .lst ds, _, ⟨a, vs, e, t, r⟩ => ⟨a, vs, e, h.l a vs t, RlL.mono h r⟩
  | .scr _, _, ⟨a, e, t⟩ => ⟨a, e, h.s a _ t⟩
theorem RlL.mono {W W' : Wd} (h : W.le W') : ∀ {ds : List D} {vs : List V}, RlL W ds vs → RlL W' ds vs
  | [], _, r => r
  | _ :: _, _, ⟨v, r, e, h1, h2⟩ => ⟨v, r, e, Rl.mono h h1, RlL.mono h h2⟩
end
theorem RlL.length {W : Wd} : ∀ {ds : List D} {vs : List V}, RlL W ds vs → ds.length = vs.length
  | [], _, rfl => rfl
  | _ :: ds, _, ⟨_, r, e, _, h⟩ => by subst e; simp [RlL.length h]
theorem RlL.append {W : Wd} : ∀ {ds es : List D} {vs us : List V}, RlL W ds vs → RlL W es us → RlL W (ds ++ es) (vs ++ us)
  | [], _, _, _, rfl, h => h
  | _ :: _, _, _, _, ⟨v, r, e, h1, h2⟩, h => by subst e; exact ⟨v, _, rfl, h1, RlL.append h2 h⟩
theorem RlL.one {W : Wd} {d : D} {v : V} (h : Rl W d v) : RlL W [d] [v] := ⟨v, [], rfl, h, rfl⟩
theorem RlL.get {W : Wd} : ∀ {ds : List D} {vs : List V} {i : Nat} {d : D}, RlL W ds vs → ds[i]? = some d → ∃ v, vs[i]? = some v ∧ Rl W d v
  | [], _, i, _, _, h => by simp at h
  | _ :: _, _, 0, _, ⟨v, r, e, h1, h2⟩, h => by subst e; simp at h; subst h; exact ⟨v, rfl, h1⟩
  | _ :: _, _, i + 1, _, ⟨v, r, e, h1, h2⟩, h => by
    subst e
    obtain ⟨u, e1, e2⟩ := RlL.get (i := i) h2 (by simpa using h)
    exact ⟨u, by simpa using e1, e2⟩
theorem RlL.get' {W : Wd} : ∀ {ds : List D} {vs : List V} {i : Nat} {v : V}, RlL W ds vs → vs[i]? = some v → ∃ d, ds[i]? = some d ∧ Rl W d v
  | [], _, i, _, e, h => by subst e; simp at h
  | d :: _, _, 0, _, ⟨v, r, e, h1, h2⟩, h => by subst e; simp at h; subst h; exact ⟨d, rfl, h1⟩
  | _ :: _, _, i + 1, _, ⟨v, r, e, h1, h2⟩, h => by
    subst e
    obtain ⟨u, e1, e2⟩ := RlL.get' (i := i) h2 (by simpa using h)
    exact ⟨u, by simpa using e1, e2⟩
theorem RlL.take {W : Wd} : ∀ {ds : List D} {vs : List V} (n : Nat), RlL W ds vs → RlL W (ds.take n) (vs.take n)
  | _, _, 0, _ => by simp [RlL]
  | [], _, n + 1, e => by subst e; rfl
  | _ :: _, _, n + 1, ⟨v, r, e, h1, h2⟩ => by subst e; exact ⟨v, _, rfl, h1, RlL.take n h2⟩
theorem RlL.drop {W : Wd} : ∀ {ds : List D} {vs : List V} (n : Nat), RlL W ds vs → RlL W (ds.drop n) (vs.drop n)
  | _, _, 0, h => h
  | [], _, n + 1, e => by subst e; rfl
  | _ :: _, _, n + 1, ⟨v, r, e, h1, h2⟩ => by subst e; exact RlL.drop n h2
theorem RlL.set {W : Wd} {d : D} {v : V} (h : Rl W d v) : ∀ {ds : List D} {vs : List V} (n : Nat), RlL W ds vs → RlL W (ds.set n d) (vs.set n v)
  | [], _, n, e => by subst e; rfl
  | _ :: _, _, 0, ⟨u, r, e, h1, h2⟩ => by subst e; exact ⟨v, r, rfl, h, h2⟩
  | _ :: _, _, n + 1, ⟨u, r, e, h1, h2⟩ => by subst e; exact ⟨u, _, rfl, h1, RlL.set h n h2⟩
/-- the ints of a list -/
theorem RlL.ints {W : Wd} : ∀ {ns : List Int} {vs : List V}, RlL W (ns.map D.int) vs → vs = ns.map V.int
  | [], _, e => e
  | _ :: ns, _, ⟨v, r, e, h1, h2⟩ => by subst e; have := RlL.ints h2; cases h1; simp [this]
theorem RlL.of_ints {W : Wd} : ∀ (ns : List Int), RlL W (ns.map D.int) (ns.map V.int)
  | [] => rfl
  | n :: ns => ⟨.int n, _, rfl, rfl, RlL.of_ints ns⟩
theorem RlL.bls {W : Wd} : ∀ {ns : List Bool} {vs : List V}, RlL W (ns.map D.bl) vs → vs = ns.map V.bl
  | [], _, e => e
  | _ :: ns, _, ⟨v, r, e, h1, h2⟩ => by subst e; have := RlL.bls h2; cases h1; simp [this]
theorem RlL.strs {W : Wd} : ∀ {ns : List Str} {vs : List V}, RlL W (ns.map D.str) vs → vs = ns.map V.str
  | [], _, e => e
  | _ :: ns, _, ⟨v, r, e, h1, h2⟩ => by subst e; have := RlL.strs h2; cases h1; simp [this]

/-- what stands at a place and may change -/
inductive DO where
  | lst (ds : List D) | dict (kvs : List (Key × D)) | ins (C : Addr) (fs : List (Str × D)) | lck (o : Obj) (kvs : List (Key × D))
abbrev G3 := List (Addr × DO)
abbrev RlK {κ : Type} (W : Wd) : List (κ × D) → List (κ × V) → Prop := Paired fun p q => p.1 = q.1 ∧ Rl W p.2 q.2
theorem RlK.mono {κ : Type} {W W' : Wd} (h : W.le W') {a : List (κ × D)} {b : List (κ × V)} (r : RlK W a b) : RlK W' a b := Paired.mapP r fun _ _ q => ⟨q.1, q.2.mono h⟩
def ObR (W : Wd) (H : Hp) (a : Addr) : DO → Prop
  | .lst ds => ∃ vs, H a = some (.lst vs) ∧ RlL W ds vs
  | .dict kvs => ∃ vs, H a = some (.dK vs) ∧ RlK W kvs vs
  | .ins C fs => ∃ dx vs, H a = some (.ins C dx vs) ∧ RlK W fs vs
  | .lck o kvs => ∃ vs, H a = some (.frz o (.dK vs)) ∧ RlK W kvs vs
theorem ObR.mono {W W' : Wd} {H : Hp} {a : Addr} (h : W.le W') : ∀ {o : DO}, ObR W H a o → ObR W' H a o
  | .lst _, ⟨vs, e, r⟩ => ⟨vs, e, r.mono h⟩
  | .dict _, ⟨vs, e, r⟩ => ⟨vs, e, r.mono h⟩
  | .ins _ _, ⟨dx, vs, e, r⟩ => ⟨dx, vs, e, r.mono h⟩
  | .lck _ _, ⟨vs, e, r⟩ => ⟨vs, e, r.mono h⟩
theorem ObR.at {W : Wd} {H H' : Hp} {a : Addr} (h : H' a = H a) : ∀ {o : DO}, ObR W H a o → ObR W H' a o
  | .lst _, ⟨vs, e, r⟩ => ⟨vs, h.trans e, r⟩
  | .dict _, ⟨vs, e, r⟩ => ⟨vs, h.trans e, r⟩
  | .ins _ _, ⟨dx, vs, e, r⟩ => ⟨dx, vs, h.trans e, r⟩
  | .lck _ _, ⟨vs, e, r⟩ => ⟨vs, h.trans e, r⟩
theorem ObR.some {W : Wd} {H : Hp} {a : Addr} : ∀ {o : DO}, ObR W H a o → ∃ u, H a = .some u
  | .lst _, ⟨vs, e, r⟩ => ⟨_, e⟩
  | .dict _, ⟨vs, e, r⟩ => ⟨_, e⟩
  | .ins _ _, ⟨dx, vs, e, r⟩ => ⟨_, e⟩
  | .lck _ _, ⟨vs, e, r⟩ => ⟨_, e⟩
theorem ObR.notTup {W : Wd} {H : Hp} {a : Addr} {vs : List V} : ∀ {o : DO}, ObR W H a o → ¬ Rd H a (.tup vs)
  | .lst _, ⟨_, e, _⟩, h => by rcases h with h | ⟨_, h⟩ <;> rw [e] at h <;> cases h
  | .dict _, ⟨_, e, _⟩, h => by rcases h with h | ⟨_, h⟩ <;> rw [e] at h <;> cases h
  | .ins _ _, ⟨_, _, e, _⟩, h => by rcases h with h | ⟨_, h⟩ <;> rw [e] at h <;> cases h
  | .lck _ _, ⟨_, e, _⟩, h => by rcases h with h | ⟨_, h⟩ <;> rw [e] at h <;> cases h
theorem ObR.notScr {W : Wd} {H : Hp} {a : Addr} {x : Obj} {vs : List V} : ∀ {o : DO}, ObR W H a o → ¬ H a = Option.some (.frz x (.lst vs))
  | .lst _, ⟨_, e, _⟩, h => by rw [e] at h; cases h
  | .dict _, ⟨_, e, _⟩, h => by rw [e] at h; cases h
  | .ins _ _, ⟨_, _, e, _⟩, h => by rw [e] at h; cases h
  | .lck _ _, ⟨_, e, _⟩, h => by rw [e] at h; cases h
def StL (K : PySem.W.Frag) (a : Addr) (xs : List V) : Prop :=
  ∃ (o : Obj) (its : Array Value) (n : Nat), K.lookup a = some o ∧ o.cls = .type "list" ∧ o.dict = none ∧ o.data = .seq its n ∧ its.size ≤ sizeLine ∧ Vals xs its.toList
structure Sim (K : PySem.W.Frag) (W : Wd) (G : G3) (H : Hp) : Prop where
  nd : (G.map (·.1)).Nodup
  ob : ∀ a o, (a, o) ∈ G → ObR W H a o
  fl : ∀ a vs, W.L a vs → (∀ o, (a, o) ∉ G) ∧ H a = some (.lst vs)
  fs : ∀ a ns, W.S a ns → (∃ o, H a = some (.frz o (.lst (ns.map V.int)))) ∨ StL K a (ns.map V.int)
  ft : ∀ a vs, W.T a vs → SqT K H a vs
section
variable {K : PySem.W.Frag} {W W' : Wd} {G G' : G3} {H H' : Hp} {a p : Addr} {o : DO} {vs : List V} {ds : List D}
theorem Sim.sql (S : Sim K W G H) (h : W.L a vs) : SqL K H a vs := .inl (.inl (S.fl a vs h).2)
theorem Sim.sqs {ns : List Int} (S : Sim K W G H) (h : W.S a ns) : SqL K H a (ns.map V.int) := (S.fs a ns h).elim (fun ⟨o, x⟩ => .inl (.inr ⟨o, x⟩)) .inr
theorem Sim.sqt (S : Sim K W G H) (h : W.T a vs) : SqT K H a vs := S.ft a vs h
theorem Sim.list (S : Sim K W G H) (h : (a, DO.lst ds) ∈ G) : ∃ vs, H a = some (.lst vs) ∧ RlL W ds vs := S.ob _ _ h
theorem rd_keep {u : HO} (h : ∀ v, H a = some v → H' a = some v) (r : Rd H a u) : Rd H' a u := by
  rcases r with r | ⟨x, r⟩
  · exact .inl (h _ r)
  · exact .inr ⟨x, h _ r⟩
theorem sqt_keep {xs : List V} (h : ∀ v, H a = some v → H' a = some v) (r : SqT K H a xs) : SqT K H' a xs := by
  rcases r with r | r
  · exact .inl (rd_keep h r)
  · exact .inr r
/-- a new object that may change -/
theorem Sim.newO (S : Sim K W G H) {u : HO} (hp : H p = none) (h : ObR W (upd H p u) p o) : Sim K W ((p, o) :: G) (upd H p u) := by
  have hne : ∀ a v, H a = some v → upd H p u a = some v := fun a v e => by rw [upd_ne (ne_of_none e hp)]; exact e
  refine ⟨?_, ?_, ?_, ?_, ?_⟩
  · simp only [List.map_cons, List.nodup_cons]
    refine ⟨fun hm => ?_, S.nd⟩
    obtain ⟨⟨a, o'⟩, h1, h2⟩ := List.mem_map.mp hm
    simp at h2
    subst h2
    obtain ⟨v, e⟩ := (S.ob _ _ h1).some
    rw [hp] at e; cases e
  · intro a o' hm
    rcases List.mem_cons.mp hm with e | hm
    · cases e; exact h
    · have ho := S.ob _ _ hm
      obtain ⟨v, e⟩ := ho.some
      exact ho.at (by rw [upd_ne (ne_of_none e hp)])
  · intro a vs hl
    obtain ⟨h1, h2⟩ := S.fl a vs hl
    refine ⟨fun o' hm => ?_, hne a _ h2⟩
    rcases List.mem_cons.mp hm with e | hm
    · cases e
      rw [hp] at h2; cases h2
    · exact h1 o' hm
  · exact fun a ns hs => (S.fs a ns hs).imp (fun ⟨o, x⟩ => ⟨o, hne a _ x⟩) fun x => x
  · exact fun a vs ht => sqt_keep (hne a) (S.ft a vs ht)
/-- an untracked object of no concern -/
theorem Sim.junk (S : Sim K W G H) {u : HO} (hp : H p = none) : Sim K W G (upd H p u) := by
  have hne : ∀ a v, H a = some v → upd H p u a = some v := fun a v e => by rw [upd_ne (ne_of_none e hp)]; exact e
  refine ⟨S.nd, fun a o' hm => ?_, fun a vs hl => ⟨(S.fl a vs hl).1, hne a _ (S.fl a vs hl).2⟩, fun a ns hs => (S.fs a ns hs).imp (fun ⟨o, x⟩ => ⟨o, hne a _ x⟩) fun x => x, fun a vs ht => sqt_keep (hne a) (S.ft a vs ht)⟩
  have ho := S.ob _ _ hm
  obtain ⟨v, e⟩ := ho.some
  exact ho.at (by rw [upd_ne (ne_of_none e hp)])
/-- a new list that stays -/
theorem Sim.newL (S : Sim K W G H) (hp : H p = none) (h : RlL W ds vs) : ∃ W', W.le W' ∧ Sim K W' G (upd H p (.lst vs)) ∧ Rl W' (.lst ds) (.ref p) := by
  have le : W.le ⟨fun a us => W.L a us ∨ (a = p ∧ us = vs), W.T, W.S⟩ := ⟨fun _ _ h => .inl h, fun _ _ h => h, fun _ _ h => h⟩
  have S1 := S.junk (u := .lst vs) hp
  refine ⟨⟨fun a us => W.L a us ∨ (a = p ∧ us = vs), W.T, W.S⟩, le, ⟨S1.nd, fun a o hm => (S1.ob a o hm).mono le, fun a us hl => ?_, S1.fs, S1.ft⟩, p, vs, rfl, .inr ⟨rfl, rfl⟩, h.mono le⟩
  rcases hl with hl | ⟨e1, e2⟩
  · exact S1.fl a us hl
  · subst e1 e2
    refine ⟨fun o hm => ?_, upd_same⟩
    obtain ⟨v, e⟩ := (S.ob _ _ hm).some
    rw [hp] at e; cases e
/-- a new tuple -/
theorem Sim.newT (S : Sim K W G H) (hp : H p = none) (h : RlL W ds vs) : ∃ W', W.le W' ∧ Sim K W' G (upd H p (.tup vs)) ∧ Rl W' (.tup ds) (.ref p) := by
  have le : W.le ⟨W.L, fun a us => W.T a us ∨ (a = p ∧ us = vs), W.S⟩ := ⟨fun _ _ h => h, fun _ _ h => .inl h, fun _ _ h => h⟩
  have S1 := S.junk (u := .tup vs) hp
  refine ⟨⟨W.L, fun a us => W.T a us ∨ (a = p ∧ us = vs), W.S⟩, le, ⟨S1.nd, fun a o hm => (S1.ob a o hm).mono le, S1.fl, S1.fs, fun a us hl => ?_⟩, p, vs, rfl, .inr ⟨rfl, rfl⟩, h.mono le⟩
  rcases hl with hl | ⟨e1, e2⟩
  · exact S1.ft a us hl
  · subst e1 e2
    exact .inl (.inl upd_same)
/-- the order of what may change is of no concern -/
theorem Sim.perm (S : Sim K W G H) (h : G.Perm G') : Sim K W G' H :=
  ⟨(h.map _).nodup_iff.mp S.nd, fun a o hm => S.ob a o (h.mem_iff.mpr hm), fun a vs hl => ⟨fun o hm => (S.fl a vs hl).1 o (h.mem_iff.mpr hm), (S.fl a vs hl).2⟩, S.fs, S.ft⟩
/-- some of it forgotten -/
theorem Sim.drop {e : Addr × DO} (S : Sim K W (e :: G) H) : Sim K W G H := by
  have n := S.nd
  simp only [List.map_cons, List.nodup_cons] at n
  exact ⟨n.2, fun a o hm => S.ob a o (List.mem_cons_of_mem _ hm), fun a vs hl => ⟨fun o hm => (S.fl a vs hl).1 o (List.mem_cons_of_mem _ hm), (S.fl a vs hl).2⟩, S.fs, S.ft⟩
/-- a list that will not change again -/
theorem Sim.freeze (S : Sim K W ((a, .lst ds) :: G) H) : ∃ W', W.le W' ∧ Sim K W' G H ∧ Rl W' (.lst ds) (.ref a) := by
  have S1 := S.drop
  obtain ⟨vs, e, r⟩ := S.ob a _ (List.mem_cons_self ..)
  have le : W.le ⟨fun b us => W.L b us ∨ (b = a ∧ us = vs), W.T, W.S⟩ := ⟨fun _ _ h => .inl h, fun _ _ h => h, fun _ _ h => h⟩
  have n := S.nd
  simp only [List.map_cons, List.nodup_cons] at n
  refine ⟨⟨fun b us => W.L b us ∨ (b = a ∧ us = vs), W.T, W.S⟩, le, ⟨S1.nd, fun b o hm => (S1.ob b o hm).mono le, fun b us hl => ?_, S1.fs, S1.ft⟩, a, vs, rfl, .inr ⟨rfl, rfl⟩, r.mono le⟩
  rcases hl with hl | ⟨e1, e2⟩
  · exact S1.fl b us hl
  · subst e1 e2
    exact ⟨fun o hm => n.1 (List.mem_map.mpr ⟨_, hm, rfl⟩), e⟩
/-- an object changed -/
theorem Sim.write {o' : DO} {u : HO} {l1 l2 : G3} (S : Sim K W (l1 ++ (a, o) :: l2) H) (h : ObR W (upd H a u) a o') : Sim K W (l1 ++ (a, o') :: l2) (upd H a u) := by
  have n := S.nd
  have n2 : ∀ o'', (a, o'') ∉ l1 ∧ (a, o'') ∉ l2 := fun o'' => by
    simp only [List.map_append, List.map_cons] at n
    have n' := List.nodup_append.mp n
    refine ⟨fun hm => ?_, fun hm => ?_⟩
    · exact n'.2.2 _ (List.mem_map.mpr ⟨_, hm, rfl⟩) _ (List.mem_cons_self ..) rfl
    · exact (List.nodup_cons.mp n'.2.1).1 (List.mem_map.mpr ⟨_, hm, rfl⟩)
  have hin : (a, o) ∈ l1 ++ (a, o) :: l2 := List.mem_append_right _ (List.mem_cons_self ..)
  have oa := S.ob _ _ hin
  refine ⟨by simpa using n, fun b ob hm => ?_, fun b vs hl => ?_, fun b ns hs => ?_, fun b vs ht => ?_⟩
  · by_cases hb : b = a
    · subst hb
      rcases List.mem_append.mp hm with hm | hm
      · exact absurd hm (n2 _).1
      · rcases List.mem_cons.mp hm with e | hm
        · cases e; exact h
        · exact absurd hm (n2 _).2
    · refine (S.ob b ob ?_).at (by rw [upd_ne hb])
      rcases List.mem_append.mp hm with hm | hm
      · exact List.mem_append_left _ hm
      · rcases List.mem_cons.mp hm with e | hm
        · cases e; exact absurd rfl hb
        · exact List.mem_append_right _ (List.mem_cons_of_mem _ hm)
  · obtain ⟨h1, h2⟩ := S.fl b vs hl
    have hb : b ≠ a := fun e => by subst e; exact h1 _ hin
    refine ⟨fun ob hm => ?_, by rw [upd_ne hb]; exact h2⟩
    rcases List.mem_append.mp hm with hm | hm
    · exact h1 _ (List.mem_append_left _ hm)
    · rcases List.mem_cons.mp hm with e | hm
      · cases e; exact hb rfl
      · exact h1 _ (List.mem_append_right _ (List.mem_cons_of_mem _ hm))
  · rcases S.fs b ns hs with ⟨x, h2⟩ | h2
    · have hb : b ≠ a := fun e => by subst e; exact oa.notScr h2
      exact .inl ⟨x, by rw [upd_ne hb]; exact h2⟩
    · exact .inr h2
  · rcases S.ft b vs ht with h2 | h2
    · have hb : b ≠ a := fun e => by subst e; exact oa.notTup h2
      exact .inl (rd_keep (fun v e => by rw [upd_ne hb]; exact e) h2)
    · exact .inr h2
theorem Sim.old (S : Sim K W G H) (h : (a, o) ∈ G) : ∃ u, H a = some u := (S.ob _ _ h).some
end
end T3

namespace T3
open PySem L2

/-! ### slots -/
abbrev St3 := List (Option D)
def getS : St3 → Nat → Option D
  | [], _ => none
  | x :: _, 0 => x
  | _ :: r, n + 1 => getS r n
theorem getS_some : ∀ {σ : St3} {i : Nat} {d : D}, getS σ i = some d → i < σ.length
  | [], _, _, h => by cases h
  | _ :: _, 0, _, _ => Nat.succ_pos _
  | _ :: r, i + 1, d, h => Nat.succ_lt_succ (getS_some (σ := r) h)
theorem getS_set : ∀ {σ : St3} {i j : Nat} {x : Option D}, getS (σ.set i x) j = if i = j ∧ i < σ.length then x else getS σ j
  | [], i, j, x => by simp [getS]
  | y :: r, 0, 0, x => by simp [getS]
  | y :: r, 0, j + 1, x => by simp [getS]
  | y :: r, i + 1, 0, x => by simp [getS]
  | y :: r, i + 1, j + 1, x => by
    have := getS_set (σ := r) (i := i) (j := j) (x := x)
    simp only [List.set_cons_succ, getS, List.length_cons, Nat.add_lt_add_iff_right, Nat.add_right_cancel_iff]
    exact this
structure RepS (W : Wd) (σ3 : St3) (σ : St) : Prop where
  len : σ3.length = σ.length
  get : ∀ i d, getS σ3 i = some d → ∃ v, σ[i]? = some (some v) ∧ Rl W d v
section
variable {W W' : Wd} {σ3 : St3} {σ : St} {d : D} {v : V}
theorem RepS.mono (R : RepS W σ3 σ) (h : W.le W') : RepS W' σ3 σ := ⟨R.len, fun i d e => let ⟨v, a, b⟩ := R.get i d e; ⟨v, a, b.mono h⟩⟩
theorem RepS.set (R : RepS W σ3 σ) (i : Nat) (h : Rl W d v) : RepS W (σ3.set i (some d)) (σ.set i (some v)) := by
  refine ⟨by simp [R.len], fun j d' e => ?_⟩
  rw [getS_set] at e
  by_cases hj : i = j ∧ i < σ3.length
  · rw [if_pos hj] at e
    cases e
    obtain ⟨rfl, hl⟩ := hj
    exact ⟨v, by rw [List.getElem?_set_self (by rw [← R.len]; exact hl)], h⟩
  · rw [if_neg hj] at e
    obtain ⟨u, h1, h2⟩ := R.get j d' e
    refine ⟨u, ?_, h2⟩
    by_cases hij : i = j
    · subst hij
      have := getS_some e
      exact absurd ⟨rfl, this⟩ hj
    · rw [List.getElem?_set_ne hij]; exact h1
theorem RepS.forget (R : RepS W σ3 σ) (i : Nat) (x : Option V) : RepS W (σ3.set i none) (σ.set i x) := by
  refine ⟨by simp [R.len], fun j d' e => ?_⟩
  rw [getS_set] at e
  by_cases hj : i = j ∧ i < σ3.length
  · rw [if_pos hj] at e
    cases e
  · rw [if_neg hj] at e
    obtain ⟨u, h1, h2⟩ := R.get j d' e
    refine ⟨u, ?_, h2⟩
    by_cases hij : i = j
    · subst hij
      have := getS_some e
      exact absurd ⟨rfl, this⟩ hj
    · rw [List.getElem?_set_ne hij]; exact h1
end
def wipe3 (σ : St3) : List Nat → St3
  | [] => σ
  | v :: vs => (wipe3 σ vs).set v none
theorem RepS.wipe {W : Wd} {σ3 : St3} {σ : St} (R : RepS W σ3 σ) : ∀ vs : List Nat, RepS W (wipe3 σ3 vs) (wipe σ vs)
  | [] => R
  | v :: vs => (R.wipe vs).forget v none
def start3 (N : List Str) (ds : List D) : St3 := ds.map some ++ List.replicate (N.length - ds.length) none
theorem RepS.start {W : Wd} {ds : List D} {vs : List V} (N : List Str) (r : RlL W ds vs) : RepS W (start3 N ds) (start N vs) := by
  have key : ∀ (ds : List D) (vs : List V) (n : Nat), RlL W ds vs → RepS W (ds.map some ++ List.replicate n none) (vs.map some ++ List.replicate n none) := by
    intro ds
    induction ds with
    | nil =>
      intro vs n e
      cases (show vs = [] from e)
      refine ⟨by simp, fun i d h => ?_⟩
      have : ∀ (n i : Nat), getS (List.replicate n none) i = none := by
        intro n
        induction n with
        | zero => intro i; rfl
        | succ n ih => intro i; cases i with
          | zero => rfl
          | succ i => exact ih i
      simp [this] at h
    | cons d ds ih =>
      intro vs n ⟨v, r, e, h1, h2⟩
      subst e
      have R := ih r n h2
      refine ⟨by simpa using R.len, fun i d' h => ?_⟩
      cases i with
      | zero => cases h; exact ⟨v, rfl, h1⟩
      | succ i => 
        obtain ⟨u, a, b⟩ := R.get i d' h
        exact ⟨u, by simpa using a, b⟩
  have := key ds vs (N.length - ds.length) r
  unfold start3 L2.start
  rw [← r.length]
  exact this

/-! ### readings -/
abbrev EX3 := Addr → St3 → G3 → Prop
abbrev VK3 := D → G3 → Prop
abbrev TE3 := St3 → G3 → VK3 → EX3 → Prop
abbrev TT3 := St3 → G3 → (Bool → G3 → Prop) → EX3 → Prop
abbrev TA3 := St3 → G3 → (List D → G3 → Prop) → EX3 → Prop
structure Ends3 where
  nx : St3 → G3 → Prop
  rt : VK3
  bk : St3 → G3 → Prop := fun _ _ => False
  ct : St3 → G3 → Prop := fun _ _ => False
  ex : EX3 := fun _ _ _ => False
abbrev TS3 := Ends3 → St3 → G3 → Prop
section
variable (K : PySem.W.Frag) (W : Wd)
structure OkQ (Q3 : VK3) (Q : VK) : Prop where
  run : ∀ W' d G v H, W.le W' → Sim K W' G H → Rl W' d v → Q3 d G → Q v H
structure OkB (Q3 : Bool → G3 → Prop) (Q : Bool → Hp → Prop) : Prop where
  run : ∀ W' b G H, W.le W' → Sim K W' G H → Q3 b G → Q b H
structure OkA (Q3 : List D → G3 → Prop) (Q : List V → Hp → Prop) : Prop where
  run : ∀ W' ds G vs H, W.le W' → Sim K W' G H → RlL W' ds vs → Q3 ds G → Q vs H
structure OkN (Q3 : St3 → G3 → Prop) (Q : St → Hp → Prop) : Prop where
  run : ∀ W' σ3 G σ H, W.le W' → RepS W' σ3 σ → Sim K W' G H → Q3 σ3 G → Q σ H
structure OkE (E3 : EX3) (Wx : WX) : Prop where
  run : ∀ C W' σ3 G σ H, W.le W' → RepS W' σ3 σ → Sim K W' G H → E3 C σ3 G → Wx (.ref C) none σ H
structure OkD (Wx : WX) (D3 : Ends3) (D : Ends) : Prop where
  nx : OkN K W D3.nx D.nx
  rt : OkQ K W D3.rt D.rt
  bk : OkN K W D3.bk D.bk
  ct : OkN K W D3.ct D.ct
  ex : OkE K W D3.ex Wx
end
section
variable {K : PySem.W.Frag} {W W' : Wd}
theorem OkQ.mono {Q3 Q} (h : OkQ K W Q3 Q) (l : W.le W') : OkQ K W' Q3 Q := ⟨fun _ _ _ _ _ l' => h.run _ _ _ _ _ (l.trans l')⟩
theorem OkB.mono {Q3 Q} (h : OkB K W Q3 Q) (l : W.le W') : OkB K W' Q3 Q := ⟨fun _ _ _ _ l' => h.run _ _ _ _ (l.trans l')⟩
theorem OkA.mono {Q3 Q} (h : OkA K W Q3 Q) (l : W.le W') : OkA K W' Q3 Q := ⟨fun _ _ _ _ _ l' => h.run _ _ _ _ _ (l.trans l')⟩
theorem OkN.mono {Q3 Q} (h : OkN K W Q3 Q) (l : W.le W') : OkN K W' Q3 Q := ⟨fun _ _ _ _ _ l' => h.run _ _ _ _ _ (l.trans l')⟩
theorem OkE.mono {Q3 Q} (h : OkE K W Q3 Q) (l : W.le W') : OkE K W' Q3 Q := ⟨fun _ _ _ _ _ _ l' => h.run _ _ _ _ _ _ (l.trans l')⟩
theorem OkD.mono {Wx D3 D} (h : OkD K W Wx D3 D) (l : W.le W') : OkD K W' Wx D3 D := ⟨h.nx.mono l, h.rt.mono l, h.bk.mono l, h.ct.mono l, h.ex.mono l⟩
end
section
variable (K : PySem.W.Frag) (Wx : WX)
def lowE (t : TE3) : TE := fun σ H Q => ∃ σ3 W G Q3 E3, RepS W σ3 σ ∧ Sim K W G H ∧ t σ3 G Q3 E3 ∧ OkQ K W Q3 Q ∧ OkE K W E3 Wx
def lowT (t : TT3) : TT := fun σ H Q => ∃ σ3 W G Q3 E3, RepS W σ3 σ ∧ Sim K W G H ∧ t σ3 G Q3 E3 ∧ OkB K W Q3 Q ∧ OkE K W E3 Wx
def lowA (t : TA3) : TA := fun σ H Q => ∃ σ3 W G Q3 E3, RepS W σ3 σ ∧ Sim K W G H ∧ t σ3 G Q3 E3 ∧ OkA K W Q3 Q ∧ OkE K W E3 Wx
def lowS (t : TS3) : TS := fun D σ H => ∃ σ3 W G D3, RepS W σ3 σ ∧ Sim K W G H ∧ t D3 σ3 G ∧ OkD K W Wx D3 D
end
theorem _root_.L2.PE.imp3 {X : Cx} {e : Expr} {t t' : TE} (h : PE X e t) (m : ∀ σ H Q, t' σ H Q → t σ H Q) : PE X e t' := ⟨fun pins s σ H Q I q => h.run pins s σ H Q I (m σ H Q q)⟩
theorem _root_.L2.PT.imp3 {X : Cx} {e : Expr} {t t' : TT} (h : PT X e t) (m : ∀ σ H Q, t' σ H Q → t σ H Q) : PT X e t' := ⟨fun pins s σ H Q I q => h.run pins s σ H Q I (m σ H Q q)⟩
theorem _root_.L2.PW.imp3 {X : Cx} {e : Expr} {t t' : TT} (h : PW X e t) (m : ∀ σ H Q, t' σ H Q → t σ H Q) : PW X e t' := ⟨fun w pins s σ H Q I q => h.run w pins s σ H Q I (m σ H Q q)⟩
theorem _root_.L2.PTs.imp3 {X : Cx} {e : List Expr} {t t' : TT} (h : PTs X e t) (m : ∀ σ H Q, t' σ H Q → t σ H Q) : PTs X e t' := ⟨fun pins s σ H Q I q => h.run pins s σ H Q I (m σ H Q q)⟩
theorem _root_.L2.PA.imp3 {X : Cx} {e : List Expr} {t t' : TA} (h : PA X e t) (m : ∀ σ H Q, t' σ H Q → t σ H Q) : PA X e t' := ⟨fun pos pins s σ H Q I q => h.run pos pins s σ H Q I (m σ H Q q)⟩
theorem _root_.L2.PS.imp3 {X : Cx} {e : Stmt} {t t' : TS} (h : PS X e t) (m : ∀ D σ H, t' D σ H → t D σ H) : PS X e t' := ⟨fun pins s σ H D I q => h.run pins s σ H D I (m D σ H q)⟩
theorem _root_.L2.PSs.imp3 {X : Cx} {e : List Stmt} {t t' : TS} (h : PSs X e t) (m : ∀ D σ H, t' D σ H → t D σ H) : PSs X e t' := ⟨fun pins s σ H D I q => h.run pins s σ H D I (m D σ H q)⟩
theorem _root_.L2.PE.or3 {X : Cx} {e : Expr} {t t' : TE} (h : PE X e t) (h' : PE X e t') : PE X e (fun σ H Q => t σ H Q ∨ t' σ H Q) := ⟨fun pins s σ H Q I q => q.elim (h.run pins s σ H Q I) (h'.run pins s σ H Q I)⟩

section
variable {X : Cx} {Wx : WX}
/-! ### names, constants -/
def v3 (i : Nat) : TE3 := fun σ G Q _ => match getS σ i with
  | some d => Q d G
  | none => False
def c3 (d : D) : TE3 := fun _ G Q _ => Q d G
theorem e_var {e : Expr} {i : Nat} (h : PE X e (tVar i)) : PE X e (lowE X.K Wx (v3 i)) := by
  refine h.imp3 ?_
  rintro σ H Q ⟨σ3, W, G, Q3, E3, R, S, h, q, e⟩
  unfold v3 at h
  cases hd : getS σ3 i with
  | none => rw [hd] at h; exact h.elim
  | some d =>
    rw [hd] at h
    obtain ⟨v, e1, r⟩ := R.get i d hd
    exact ⟨v, e1, q.run _ _ _ _ _ (.refl _) S r h⟩
theorem e_c {e : Expr} {d : D} {v : V} (h : PE X e (tC v)) (r : ∀ W, Rl W d v) : PE X e (lowE X.K Wx (c3 d)) := by
  refine h.imp3 ?_
  rintro σ H Q ⟨σ3, W, G, Q3, E3, R, S, h, q, e⟩
  exact q.run _ _ _ _ _ (.refl _) S (r W) h
theorem e_int {i j pos} : PE X (.Constant (.int i) j pos) (lowE X.K Wx (c3 (.int i))) := e_c pe_int fun _ => rfl
theorem e_bl {i j pos} : PE X (.Constant (.bool i) j pos) (lowE X.K Wx (c3 (.bl i))) := e_c pe_bl fun _ => rfl
theorem e_non {j pos} : PE X (.Constant .none j pos) (lowE X.K Wx (c3 .non)) := e_c pe_non fun _ => rfl
theorem e_str {x j pos} : PE X (.Constant (.str x) j pos) (lowE X.K Wx (c3 (.str x))) := e_c pe_str fun _ => rfl

/-! ### two values -/
abbrev R3 := D → D → G3 → VK3 → Prop
def op3 (r : R3) (ta tb : TE3) : TE3 := fun σ G Q E => ta σ G (fun x G1 => tb σ G1 (fun y G2 => r x y G2 Q) E) E
def OpL (K : PySem.W.Frag) (r3 : R3) (r : R2) : Prop := ∀ W x y G Q3 x' y' H (Q : VK), Sim K W G H → Rl W x x' → Rl W y y' → r3 x y G Q3 → OkQ K W Q3 Q → r x' y' H Q
theorem low_op {K : PySem.W.Frag} {r3 : R3} {r : R2} {ta tb : TE3} (hl : OpL K r3 r) {σ : St} {H : Hp} {Q : VK} : lowE K Wx (op3 r3 ta tb) σ H Q → tOp r (lowE K Wx ta) (lowE K Wx tb) σ H Q := by
  rintro ⟨σ3, W, G, Q3, E3, R, S, h, q, e⟩
  refine ⟨σ3, W, G, _, E3, R, S, h, ⟨fun W1 x G1 x' H1 l1 S1 r1 h1 => ?_⟩, e⟩
  refine ⟨σ3, W1, G1, _, E3, R.mono l1, S1, h1, ⟨fun W2 y G2 y' H2 l2 S2 r2 h2 => ?_⟩, e.mono l1⟩
  exact hl _ _ _ _ _ _ _ _ _ S2 (r1.mono l2) r2 h2 (q.mono (l1.trans l2))
variable {a b e : Expr} {ta tb te : TE3} {pos : Pos}
theorem e_op {op : Operator} {r3 : R3} {r : R2} (ho : OpR X (binaryOp op) r) (hl : OpL X.K r3 r) (ha : PE X a (lowE X.K Wx ta)) (hb : PE X b (lowE X.K Wx tb)) : PE X (.BinOp a op b pos) (lowE X.K Wx (op3 r3 ta tb)) :=
  (pe_op ho ha hb).imp3 fun _ _ _ => low_op hl
theorem e_cmp {op : CmpOp} {r3 : R3} {r : R2} (ho : OpR X (compareOp op) r) (hl : OpL X.K r3 r) (hm : behindInMarks op b = false) (ha : PE X a (lowE X.K Wx ta)) (hb : PE X b (lowE X.K Wx tb)) : PE X (.Compare a [op] [b] pos) (lowE X.K Wx (op3 r3 ta tb)) :=
  (pe_cmpR ho ha hb hm).imp3 fun _ _ _ => low_op hl
/-- a value that is a truth value, as a test -/
def t3 (te : TE3) : TT3 := fun σ G Q E => te σ G (fun x G1 => match x with
  | .bl b => Q b G1
  | _ => False) E
theorem low_t {K : PySem.W.Frag} {te : TE3} {σ : St} {H : Hp} {Q : Bool → Hp → Prop} : lowT K Wx (t3 te) σ H Q → tTest (lowE K Wx te) σ H Q := by
  rintro ⟨σ3, W, G, Q3, E3, R, S, h, q, e⟩
  refine ⟨σ3, W, G, _, E3, R, S, h, ⟨fun W1 x G1 x' H1 l1 S1 r1 h1 => ?_⟩, e⟩
  cases x with
  | bl b => cases r1; exact ⟨b, rfl, q.run _ _ _ _ l1 S1 h1⟩
  | _ => exact h1.elim
theorem t_cmp {op : CmpOp} {r3 : R3} {r : R2} (ho : OpR X (compareOp op) r) (hl : OpL X.K r3 r) (hm : behindInMarks op b = false) (ha : PE X a (lowE X.K Wx ta)) (hb : PE X b (lowE X.K Wx tb)) : PT X (.Compare a [op] [b] pos) (lowT X.K Wx (t3 (op3 r3 ta tb))) := by
  refine (pt_cmpR ho ha hb hm).imp3 fun σ H Q h => ?_
  obtain ⟨σ3, W, G, Q3, E3, R, S, h, q, e⟩ := low_t h
  exact low_op hl ⟨σ3, W, G, Q3, E3, R, S, h, q, e⟩
theorem t_val (h : PE X e (lowE X.K Wx te)) (he : ∀ whole, isTrue e X.env whole = (do let v ← whole; standAt e.pos; holding [v] (truthy v)) := by intro _; rfl) : PT X e (lowT X.K Wx (t3 te)) :=
  (pt_val h he).imp3 fun _ _ _ h => low_t h
/-! ### and, or, not -/
def and3 (t u : TT3) : TT3 := fun σ G Q E => t σ G (fun c G1 => if c = true then u σ G1 Q E else Q false G1) E
def or3 (t u : TT3) : TT3 := fun σ G Q E => t σ G (fun c G1 => if c = true then Q true G1 else u σ G1 Q E) E
def not3 (t : TT3) : TT3 := fun σ G Q E => t σ G (fun c G1 => Q (!c) G1) E
variable {tA tB : TT3} {rest : List Expr}
theorem w_one (ha : PT X a (lowT X.K Wx tA)) : PW X (.BoolOp .And [a] pos) (lowT X.K Wx tA) := pw_and1 ha
theorem w_one' (ha : PT X a (lowT X.K Wx tA)) : PW X (.BoolOp .Or [a] pos) (lowT X.K Wx tA) := pw_or1 ha
theorem w_and (ha : PT X a (lowT X.K Wx tA)) (hb : PW X (.BoolOp .And (b :: rest) pos) (lowT X.K Wx tB)) : PW X (.BoolOp .And (a :: b :: rest) pos) (lowT X.K Wx (and3 tA tB)) := by
  refine (pw_and ha hb).imp3 ?_
  rintro σ H Q ⟨σ3, W, G, Q3, E3, R, S, h, q, e⟩
  refine ⟨σ3, W, G, _, E3, R, S, h, ⟨fun W1 c G1 H1 l1 S1 h1 => ?_⟩, e⟩
  cases c with
  | true => rw [if_pos rfl] at h1 ⊢; exact ⟨σ3, W1, G1, Q3, E3, R.mono l1, S1, h1, q.mono l1, e.mono l1⟩
  | false => rw [if_neg Bool.false_ne_true] at h1 ⊢; exact q.run _ _ _ _ l1 S1 h1
theorem w_or (ha : PT X a (lowT X.K Wx tA)) (hb : PW X (.BoolOp .Or (b :: rest) pos) (lowT X.K Wx tB)) : PW X (.BoolOp .Or (a :: b :: rest) pos) (lowT X.K Wx (or3 tA tB)) := by
  refine (pw_or ha hb).imp3 ?_
  rintro σ H Q ⟨σ3, W, G, Q3, E3, R, S, h, q, e⟩
  refine ⟨σ3, W, G, _, E3, R, S, h, ⟨fun W1 c G1 H1 l1 S1 h1 => ?_⟩, e⟩
  cases c with
  | true => rw [if_pos rfl] at h1 ⊢; exact q.run _ _ _ _ l1 S1 h1
  | false => rw [if_neg Bool.false_ne_true] at h1 ⊢; exact ⟨σ3, W1, G1, Q3, E3, R.mono l1, S1, h1, q.mono l1, e.mono l1⟩
theorem t_not (ha : PT X a (lowT X.K Wx tA)) : PT X (.UnaryOp .Not a pos) (lowT X.K Wx (not3 tA)) := by
  refine (pt_not ha).imp3 ?_
  rintro σ H Q ⟨σ3, W, G, Q3, E3, R, S, h, q, e⟩
  exact ⟨σ3, W, G, _, E3, R, S, h, ⟨fun W1 c G1 H1 l1 S1 h1 => q.run _ _ _ _ l1 S1 h1⟩, e⟩
def andV3 (ta tb : TE3) : TE3 := fun σ G Q E => ta σ G (fun x G1 => match x with
  | .bl c => if c = true then tb σ G1 Q E else Q (.bl false) G1
  | _ => False) E
def orV3 (ta tb : TE3) : TE3 := fun σ G Q E => ta σ G (fun x G1 => match x with
  | .bl c => if c = true then Q (.bl true) G1 else tb σ G1 Q E
  | _ => False) E
def notV3 (ta : TE3) : TE3 := fun σ G Q E => ta σ G (fun x G1 => match x with
  | .bl c => Q (.bl (!c)) G1
  | _ => False) E
theorem e_one {op} (h : PE X a (lowE X.K Wx ta)) : PE X (.BoolOp op [a] pos) (lowE X.K Wx ta) := pe_one h
theorem e_and (ha : PE X a (lowE X.K Wx ta)) (hb : PE X (.BoolOp .And (b :: rest) pos) (lowE X.K Wx tb)) : PE X (.BoolOp .And (a :: b :: rest) pos) (lowE X.K Wx (andV3 ta tb)) := by
  refine (pe_and ha hb).imp3 ?_
  rintro σ H Q ⟨σ3, W, G, Q3, E3, R, S, h, q, e⟩
  refine ⟨σ3, W, G, _, E3, R, S, h, ⟨fun W1 x G1 x' H1 l1 S1 r1 h1 => ?_⟩, e⟩
  cases x with
  | bl c =>
    cases r1
    refine ⟨c, rfl, ?_⟩
    cases c with
    | true => exact ⟨σ3, W1, G1, Q3, E3, R.mono l1, S1, h1, q.mono l1, e.mono l1⟩
    | false => exact q.run _ (.bl false) _ _ _ l1 S1 rfl h1
  | _ => exact h1.elim
theorem e_or (ha : PE X a (lowE X.K Wx ta)) (hb : PE X (.BoolOp .Or (b :: rest) pos) (lowE X.K Wx tb)) : PE X (.BoolOp .Or (a :: b :: rest) pos) (lowE X.K Wx (orV3 ta tb)) := by
  refine (pe_or ha hb).imp3 ?_
  rintro σ H Q ⟨σ3, W, G, Q3, E3, R, S, h, q, e⟩
  refine ⟨σ3, W, G, _, E3, R, S, h, ⟨fun W1 x G1 x' H1 l1 S1 r1 h1 => ?_⟩, e⟩
  cases x with
  | bl c =>
    cases r1
    refine ⟨c, rfl, ?_⟩
    cases c with
    | true => exact q.run _ (.bl true) _ _ _ l1 S1 rfl h1
    | false => exact ⟨σ3, W1, G1, Q3, E3, R.mono l1, S1, h1, q.mono l1, e.mono l1⟩
  | _ => exact h1.elim
theorem e_not (ha : PE X a (lowE X.K Wx ta)) : PE X (.UnaryOp .Not a pos) (lowE X.K Wx (notV3 ta)) := by
  refine (pe_not ha).imp3 ?_
  rintro σ H Q ⟨σ3, W, G, Q3, E3, R, S, h, q, e⟩
  refine ⟨σ3, W, G, _, E3, R, S, h, ⟨fun W1 x G1 x' H1 l1 S1 r1 h1 => ?_⟩, e⟩
  cases x with
  | bl c => cases r1; exact ⟨c, rfl, q.run _ (.bl (!c)) _ _ _ l1 S1 rfl h1⟩
  | _ => exact h1.elim
/-! ### one value -/
abbrev U3 := D → G3 → VK3 → Prop
def un3 (r : U3) (ta : TE3) : TE3 := fun σ G Q E => ta σ G (fun x G1 => r x G1 Q) E
def UnL (K : PySem.W.Frag) (r3 : U3) (r : V → Hp → VK → Prop) : Prop := ∀ W x G Q3 x' H (Q : VK), Sim K W G H → Rl W x x' → r3 x G Q3 → OkQ K W Q3 Q → r x' H Q
theorem e_un {op : UnaryOp} {r3 : U3} {r : V → Hp → VK → Prop} (ho : UnR X (unaryOp op) r) (hl : UnL X.K r3 r) (ha : PE X a (lowE X.K Wx ta)) : PE X (.UnaryOp op a pos) (lowE X.K Wx (un3 r3 ta)) := by
  refine (pe_un ho ha).imp3 ?_
  rintro σ H Q ⟨σ3, W, G, Q3, E3, R, S, h, q, e⟩
  exact ⟨σ3, W, G, _, E3, R, S, h, ⟨fun W1 x G1 x' H1 l1 S1 r1 h1 => hl _ _ _ _ _ _ _ S1 r1 h1 (q.mono l1)⟩, e⟩
/-! ### arguments -/
def nil3 : TA3 := fun _ G Q _ => Q [] G
def cons3 (ta : TE3) (tr : TA3) : TA3 := fun σ G Q E => ta σ G (fun x G1 => tr σ G1 (fun xs G2 => Q (x :: xs) G2) E) E
variable {es : List Expr} {tr : TA3}
theorem a_nil : PA X [] (lowA X.K Wx nil3) := by
  refine pa_nil.imp3 ?_
  rintro σ H Q ⟨σ3, W, G, Q3, E3, R, S, h, q, e⟩
  exact q.run _ [] _ _ _ (.refl _) S rfl h
theorem a_cons (ha : PE X e (lowE X.K Wx te)) (hr : PA X es (lowA X.K Wx tr)) (hs : starEach (e :: es) X.env = (false, eval e X.env) :: starEach es X.env := by rfl) : PA X (e :: es) (lowA X.K Wx (cons3 te tr)) := by
  refine (pa_cons ha hr hs).imp3 ?_
  rintro σ H Q ⟨σ3, W, G, Q3, E3, R, S, h, q, e⟩
  refine ⟨σ3, W, G, _, E3, R, S, h, ⟨fun W1 x G1 x' H1 l1 S1 r1 h1 => ?_⟩, e⟩
  refine ⟨σ3, W1, G1, _, E3, R.mono l1, S1, h1, ⟨fun W2 xs G2 vs H2 l2 S2 r2 h2 => ?_⟩, e.mono l1⟩
  exact q.run _ (x :: xs) _ _ _ (l1.trans l2) S2 ⟨x', vs, rfl, r1.mono l2, r2⟩ h2
/-! ### displays -/
def tup3 (ta : TA3) : TE3 := fun σ G Q E => ta σ G (fun xs G1 => xs.length ≤ sizeLine ∧ Q (.tup xs) G1) E
/-- a list that stays as it is -/
def lst3 (ta : TA3) : TE3 := fun σ G Q E => ta σ G (fun xs G1 => xs.length ≤ sizeLine ∧ Q (.lst xs) G1) E
/-- a list that will change -/
def lstO3 (ta : TA3) : TE3 := fun σ G Q E => ta σ G (fun xs G1 => xs.length ≤ sizeLine ∧ ∀ p, Q (.ref p) ((p, .lst xs) :: G1)) E
theorem e_tup {x1} (h : PA X es (lowA X.K Wx tr)) : PE X (.Tuple es x1 pos) (lowE X.K Wx (tup3 tr)) := by
  refine (pe_tup h).imp3 ?_
  rintro σ H Q ⟨σ3, W, G, Q3, E3, R, S, h, q, e⟩
  refine ⟨σ3, W, G, _, E3, R, S, h, ⟨fun W1 xs G1 vs H1 l1 S1 r1 h1 => ⟨by rw [← r1.length]; exact h1.1, fun p hp => ?_⟩⟩, e⟩
  obtain ⟨W2, l2, S2, r2⟩ := S1.newT hp r1
  exact q.run _ _ _ _ _ (l1.trans l2) S2 r2 h1.2
theorem e_lst (h : PA X es (lowA X.K Wx tr)) : PE X (.List es pos) (lowE X.K Wx (lst3 tr)) := by
  refine (pe_lst h).imp3 ?_
  rintro σ H Q ⟨σ3, W, G, Q3, E3, R, S, h, q, e⟩
  refine ⟨σ3, W, G, _, E3, R, S, h, ⟨fun W1 xs G1 vs H1 l1 S1 r1 h1 => ⟨by rw [← r1.length]; exact h1.1, fun p hp => ?_⟩⟩, e⟩
  obtain ⟨W2, l2, S2, r2⟩ := S1.newL hp r1
  exact q.run _ _ _ _ _ (l1.trans l2) S2 r2 h1.2
theorem e_lstO (h : PA X es (lowA X.K Wx tr)) : PE X (.List es pos) (lowE X.K Wx (lstO3 tr)) := by
  refine (pe_lst h).imp3 ?_
  rintro σ H Q ⟨σ3, W, G, Q3, E3, R, S, h, q, e⟩
  refine ⟨σ3, W, G, _, E3, R, S, h, ⟨fun W1 xs G1 vs H1 l1 S1 r1 h1 => ⟨by rw [← r1.length]; exact h1.1, fun p hp => ?_⟩⟩, e⟩
  exact q.run _ (.ref p) _ _ _ l1 (S1.newO (o := .lst xs) hp ⟨vs, upd_same, r1⟩) rfl (h1.2 p)
end
end T3

namespace T3
open PySem L2
/-- how many bits, less one -/
def bl (x : Int) : Nat := x.natAbs.log2
/-- * of two factors of together less than a hundred million bits -/
def CMulX (i j : Int) : Prop := bl i + bl j < 100000000
theorem CMulX.ok {i j : Int} (h : CMulX i j) : IntMulOk i j := by
  have b : ∀ x : Int, Builtin.Int.intBits x ≤ x.natAbs.log2 + 1 := fun x => by
    unfold Builtin.Int.intBits
    split <;> omega
  have h1 := b i
  have h2 := b j
  have h3 : i.natAbs.log2 + j.natAbs.log2 < 100000000 := h
  have e : bitsLine = 134217728 := by decide
  unfold IntMulOk
  intro z
  rw [Bool.and_eq_true] at z
  have z2 := z.2
  unfold Builtin.Int.intTooBig at z2
  have z3 := of_decide_eq_true z2
  rw [e] at z3
  omega
theorem op_mulX {X : Cx} : OpR X (binaryOp .Mult) (rI CMulX fun i j => .int (i * j)) := opI fun _ _ _ _ _ _ _ hc q => PyProof.Rows.mul_int q hc.ok
theorem bl_lt {x : Int} {n : Nat} (h : x.natAbs < 2 ^ (n + 1)) : bl x ≤ n := by
  unfold bl
  by_cases h0 : x.natAbs = 0
  · rw [h0]; simp
  · exact Nat.le_of_lt_succ ((Nat.log2_lt h0).mpr h)
theorem lt_bl (x : Int) : x.natAbs < 2 ^ (bl x + 1) := Nat.lt_log2_self
theorem bl_mul (x y : Int) : bl (x * y) ≤ bl x + bl y + 1 := by
  refine bl_lt ?_
  rw [Int.natAbs_mul]
  have := Nat.mul_lt_mul'' (lt_bl x) (lt_bl y)
  rw [← Nat.pow_add] at this
  refine Nat.lt_of_lt_of_le this (Nat.pow_le_pow_right (by decide) (by omega))
theorem bl_add (x y : Int) : bl (x + y) ≤ max (bl x) (bl y) + 1 := by
  refine bl_lt ?_
  have h1 := Nat.lt_of_lt_of_le (lt_bl x) (Nat.pow_le_pow_right (n := 2) (by decide) (Nat.succ_le_succ (Nat.le_max_left (bl x) (bl y))))
  have h2 := Nat.lt_of_lt_of_le (lt_bl y) (Nat.pow_le_pow_right (n := 2) (by decide) (Nat.succ_le_succ (Nat.le_max_right (bl x) (bl y))))
  have h3 := Int.natAbs_add_le x y
  have e : 2 ^ (max (bl x) (bl y) + 1 + 1) = 2 * 2 ^ (max (bl x) (bl y) + 1) := by rw [Nat.pow_succ 2 (max (bl x) (bl y) + 1)]; omega
  show (x + y).natAbs < 2 ^ (max (bl x) (bl y) + 1 + 1)
  rw [e]
  omega
theorem bl_neg (x : Int) : bl (-x) = bl x := by unfold bl; rw [Int.natAbs_neg]
theorem bl_sub (x y : Int) : bl (x - y) ≤ max (bl x) (bl y) + 1 := by
  have := bl_add x (-y)
  rw [bl_neg] at this
  rw [Int.sub_eq_add_neg]; exact this
theorem bl_mono {x y : Int} (h0 : 0 ≤ x) (h : x ≤ y) : bl x ≤ bl y := by
  refine bl_lt ?_
  have := lt_bl y
  omega
theorem mul_ok {i j : Int} {a b : Nat} (ha : bl i ≤ a) (hb : bl j ≤ b) (h : a + b < 100000000 := by omega) : CMulX i j := by unfold CMulX; omega
section
variable {X : Cx} {Wx : WX}
/-! ### arithmetic -/
def add3 : R3 := fun x y G Q => match x, y with
  | .int i, .int j => Q (.int (i + j)) G
  | .str s, .str t => s.length + t.length ≤ sizeLine ∧ Q (.str (s ++ t)) G
  | .lst a, .lst b => a.length + b.length ≤ sizeLine ∧ Q (.lst (a ++ b)) G
  | .tup a, .tup b => a ≠ [] ∧ a.length + b.length ≤ sizeLine ∧ Q (.tup (a ++ b)) G
  | _, _ => False
def sub3 : R3 := fun x y G Q => match x, y with
  | .int i, .int j => Q (.int (i - j)) G
  | _, _ => False
def mul3 : R3 := fun x y G Q => match x, y with
  | .int i, .int j => CMulX i j ∧ Q (.int (i * j)) G
  | .lst a, .int k => (0 ≤ k ∧ k < 2 ^ 63 ∧ a.length * k.toNat ≤ sizeLine) ∧ Q (.lst (List.replicate k.toNat a).flatten) G
  | _, _ => False
def fdiv3 : R3 := fun x y G Q => match x, y with
  | .int i, .int j => CDivW i j ∧ Q (.int (i / j)) G
  | _, _ => False
def mod3 : R3 := fun x y G Q => match x, y with
  | .int i, .int j => 0 < j ∧ Q (.int (i % j)) G
  | _, _ => False
def pow3 : R3 := fun x y G Q => match x, y with
  | .int i, .int j => CPow i j ∧ Q (.int (i ^ j.toNat)) G
  | _, _ => False
theorem RlL.nil_iff {W : Wd} {ds : List D} {vs : List V} (h : RlL W ds vs) : ds = [] ↔ vs = [] := by
  have := h.length
  constructor
  · rintro rfl; exact List.length_eq_zero_iff.mp this.symm
  · rintro rfl; exact List.length_eq_zero_iff.mp this
theorem RlL.rep {W : Wd} {ds : List D} {vs : List V} (h : RlL W ds vs) : ∀ n : Nat, RlL W (List.replicate n ds).flatten (List.replicate n vs).flatten
  | 0 => rfl
  | n + 1 => by rw [List.replicate_succ, List.replicate_succ]; exact h.append (h.rep n)
theorem opl_add {K : PySem.W.Frag} : OpL K add3 (fun x y H Q => rI0 (fun i j => .int (i + j)) x y H Q ∨ ((∃ i j, x = .str i ∧ y = .str j ∧ i.length + j.length ≤ sizeLine ∧ Q (.str (i ++ j)) H) ∨ (rCat x y H Q ∨ rCatT K x y H Q))) := by
  intro W x y G Q3 x' y' H Q S rx ry h q
  cases x with
  | int i =>
    cases y with
    | int j => cases rx; cases ry; exact .inl ⟨i, j, rfl, rfl, q.run _ (.int (i + j)) _ _ _ (.refl _) S rfl h⟩
    | _ => exact h.elim
  | str i =>
    cases y with
    | str j => cases rx; cases ry; exact .inr (.inl ⟨i, j, rfl, rfl, h.1, q.run _ (.str (i ++ j)) _ _ _ (.refl _) S rfl h.2⟩)
    | _ => exact h.elim
  | lst a =>
    cases y with
    | lst b =>
      obtain ⟨p1, vs, rfl, l1, r1⟩ := rx
      obtain ⟨p2, us, rfl, l2, r2⟩ := ry
      refine .inr (.inr (.inl ⟨p1, p2, vs, us, rfl, rfl, (S.fl _ _ l1).2, (S.fl _ _ l2).2, by rw [← r1.length, ← r2.length]; exact h.1, fun p hp => ?_⟩))
      obtain ⟨W2, l, S2, r⟩ := S.newL hp (r1.append r2)
      exact q.run _ _ _ _ _ l S2 r h.2
    | _ => exact h.elim
  | tup a =>
    cases y with
    | tup b =>
      obtain ⟨p1, vs, rfl, l1, r1⟩ := rx
      obtain ⟨p2, us, rfl, l2, r2⟩ := ry
      refine .inr (.inr (.inr ⟨p1, p2, vs, us, rfl, rfl, S.ft _ _ l1, S.ft _ _ l2, fun e => h.1 (r1.nil_iff.mpr e), by rw [← r1.length, ← r2.length]; exact h.2.1, fun e => ?_, fun _ p hp => ?_⟩))
      · have e2 := r2.nil_iff.mpr e
        subst e2
        have h2 := h.2.2
        rw [List.append_nil] at h2
        exact q.run _ _ _ _ _ (.refl _) S (show Rl W (.tup a) (.ref p1) from ⟨p1, vs, rfl, l1, r1⟩) h2
      · obtain ⟨W2, l, S2, r⟩ := S.newT hp (r1.append r2)
        exact q.run _ _ _ _ _ l S2 r h.2.2
    | _ => exact h.elim
  | _ => exact h.elim
/-- an operator on ints alone -/
theorem opl_int {K : PySem.W.Frag} {C : Int → Int → Prop} {g : Int → Int → V} {g3 : Int → Int → D} {r3 : R3} (hg : ∀ W i j, Rl W (g3 i j) (g i j)) (h3 : ∀ x y G Q, r3 x y G Q → ∃ i j, x = .int i ∧ y = .int j ∧ C i j ∧ Q (g3 i j) G) : OpL K r3 (rI C g) := by
  intro W x y G Q3 x' y' H Q S rx ry h q
  obtain ⟨i, j, rfl, rfl, c, h'⟩ := h3 _ _ _ _ h
  cases rx; cases ry
  exact ⟨i, j, rfl, rfl, c, q.run _ _ _ _ _ (.refl _) S (hg W i j) h'⟩
theorem opl_int0 {K : PySem.W.Frag} {g : Int → Int → V} {g3 : Int → Int → D} {r3 : R3} (hg : ∀ W i j, Rl W (g3 i j) (g i j)) (h3 : ∀ x y G Q, r3 x y G Q → ∃ i j, x = .int i ∧ y = .int j ∧ Q (g3 i j) G) : OpL K r3 (rI0 g) := by
  intro W x y G Q3 x' y' H Q S rx ry h q
  obtain ⟨i, j, rfl, rfl, h'⟩ := h3 _ _ _ _ h
  cases rx; cases ry
  exact ⟨i, j, rfl, rfl, q.run _ _ _ _ _ (.refl _) S (hg W i j) h'⟩
theorem opl_mul {K : PySem.W.Frag} : OpL K mul3 (fun x y H Q => rI CMulX (fun i j => .int (i * j)) x y H Q ∨ rRep x y H Q) := by
  intro W x y G Q3 x' y' H Q S rx ry h q
  cases x with
  | int i =>
    cases y with
    | int j => cases rx; cases ry; exact .inl ⟨i, j, rfl, rfl, h.1, q.run _ (.int (i * j)) _ _ _ (.refl _) S rfl h.2⟩
    | _ => exact h.elim
  | lst a =>
    cases y with
    | int k =>
      obtain ⟨p1, vs, rfl, l1, r1⟩ := rx
      cases ry
      refine .inr ⟨p1, k, vs, rfl, rfl, (S.fl _ _ l1).2, by have := h.1.1; omega, h.1.2.1, by rw [← r1.length]; exact h.1.2.2, fun p hp => ?_⟩
      obtain ⟨W2, l, S2, r⟩ := S.newL hp (r1.rep k.toNat)
      exact q.run _ _ _ _ _ l S2 r h.2
    | _ => exact h.elim
  | _ => exact h.elim
section
variable {a b e : Expr} {ta tb te : TE3} {pos : Pos}
theorem e_add (ha : PE X a (lowE X.K Wx ta)) (hb : PE X b (lowE X.K Wx tb)) : PE X (.BinOp a .Add b pos) (lowE X.K Wx (op3 add3 ta tb)) := e_op (op_add.or (op_add_str.or (op_cat.or op_catT))) opl_add ha hb
theorem e_sub (ha : PE X a (lowE X.K Wx ta)) (hb : PE X b (lowE X.K Wx tb)) : PE X (.BinOp a .Sub b pos) (lowE X.K Wx (op3 sub3 ta tb)) :=
  e_op op_sub (opl_int0 (g3 := fun i j => .int (i - j)) (fun _ _ _ => rfl) fun x y G Q h => by cases x with | int i => (cases y with | int j => exact ⟨i, j, rfl, rfl, h⟩ | _ => exact h.elim) | _ => exact h.elim) ha hb
theorem e_mul (ha : PE X a (lowE X.K Wx ta)) (hb : PE X b (lowE X.K Wx tb)) : PE X (.BinOp a .Mult b pos) (lowE X.K Wx (op3 mul3 ta tb)) := e_op (op_mulX.or op_rep) opl_mul ha hb
theorem e_fdiv (ha : PE X a (lowE X.K Wx ta)) (hb : PE X b (lowE X.K Wx tb)) : PE X (.BinOp a .FloorDiv b pos) (lowE X.K Wx (op3 fdiv3 ta tb)) :=
  e_op op_fdivW (opl_int (g3 := fun i j => .int (i / j)) (fun _ _ _ => rfl) fun x y G Q h => by cases x with | int i => (cases y with | int j => exact ⟨i, j, rfl, rfl, h.1, h.2⟩ | _ => exact h.elim) | _ => exact h.elim) ha hb
theorem e_mod (ha : PE X a (lowE X.K Wx ta)) (hb : PE X b (lowE X.K Wx tb)) : PE X (.BinOp a .Mod b pos) (lowE X.K Wx (op3 mod3 ta tb)) :=
  e_op op_mod (opl_int (g3 := fun i j => .int (i % j)) (fun _ _ _ => rfl) fun x y G Q h => by cases x with | int i => (cases y with | int j => exact ⟨i, j, rfl, rfl, h.1, h.2⟩ | _ => exact h.elim) | _ => exact h.elim) ha hb
theorem e_pow (ha : PE X a (lowE X.K Wx ta)) (hb : PE X b (lowE X.K Wx tb)) : PE X (.BinOp a .Pow b pos) (lowE X.K Wx (op3 pow3 ta tb)) :=
  e_op op_pow (opl_int (g3 := fun i j => .int (i ^ j.toNat)) (fun _ _ _ => rfl) fun x y G Q h => by cases x with | int i => (cases y with | int j => exact ⟨i, j, rfl, rfl, h.1, h.2⟩ | _ => exact h.elim) | _ => exact h.elim) ha hb
def neg3 : U3 := fun x G Q => match x with
  | .int i => Q (.int (-i)) G
  | _ => False
theorem e_neg (ha : PE X a (lowE X.K Wx ta)) : PE X (.UnaryOp .USub a pos) (lowE X.K Wx (un3 neg3 ta)) := e_un un_neg (fun W x G Q3 x' H Q S rx h q => by
  cases x with
  | int i => cases rx; exact ⟨i, rfl, q.run _ (.int (-i)) _ _ _ (.refl _) S rfl h⟩
  | _ => exact h.elim) ha
/-! ### comparisons of ints -/
def cmp3 (p : Int → Int → Bool) : R3 := fun x y G Q => match x, y with
  | .int i, .int j => Q (.bl (p i j)) G
  | _, _ => False
theorem opl_cmp {K : PySem.W.Frag} {p : Int → Int → Bool} : OpL K (cmp3 p) (rI0 fun i j => .bl (p i j)) :=
  opl_int0 (g3 := fun i j => .bl (p i j)) (fun _ _ _ => rfl) fun x y G Q h => by cases x with | int i => (cases y with | int j => exact ⟨i, j, rfl, rfl, h⟩ | _ => exact h.elim) | _ => exact h.elim
abbrev lt3 : R3 := cmp3 fun i j => decide (i < j)
abbrev le3 : R3 := cmp3 fun i j => decide (i ≤ j)
abbrev gt3 : R3 := cmp3 fun i j => decide (j < i)
abbrev ge3 : R3 := cmp3 fun i j => decide (j ≤ i)
theorem e_lt (ha : PE X a (lowE X.K Wx ta)) (hb : PE X b (lowE X.K Wx tb)) : PE X (.Compare a [.Lt] [b] pos) (lowE X.K Wx (op3 lt3 ta tb)) := e_cmp op_lt opl_cmp (nomark _) ha hb
theorem e_le (ha : PE X a (lowE X.K Wx ta)) (hb : PE X b (lowE X.K Wx tb)) : PE X (.Compare a [.LtE] [b] pos) (lowE X.K Wx (op3 le3 ta tb)) := e_cmp op_le opl_cmp (nomark _) ha hb
theorem e_gt (ha : PE X a (lowE X.K Wx ta)) (hb : PE X b (lowE X.K Wx tb)) : PE X (.Compare a [.Gt] [b] pos) (lowE X.K Wx (op3 gt3 ta tb)) := e_cmp op_gt opl_cmp (nomark _) ha hb
theorem e_ge (ha : PE X a (lowE X.K Wx ta)) (hb : PE X b (lowE X.K Wx tb)) : PE X (.Compare a [.GtE] [b] pos) (lowE X.K Wx (op3 ge3 ta tb)) := e_cmp op_ge opl_cmp (nomark _) ha hb
theorem t_lt (ha : PE X a (lowE X.K Wx ta)) (hb : PE X b (lowE X.K Wx tb)) : PT X (.Compare a [.Lt] [b] pos) (lowT X.K Wx (t3 (op3 lt3 ta tb))) := t_cmp op_lt opl_cmp (nomark _) ha hb
theorem t_le (ha : PE X a (lowE X.K Wx ta)) (hb : PE X b (lowE X.K Wx tb)) : PT X (.Compare a [.LtE] [b] pos) (lowT X.K Wx (t3 (op3 le3 ta tb))) := t_cmp op_le opl_cmp (nomark _) ha hb
theorem t_gt (ha : PE X a (lowE X.K Wx ta)) (hb : PE X b (lowE X.K Wx tb)) : PT X (.Compare a [.Gt] [b] pos) (lowT X.K Wx (t3 (op3 gt3 ta tb))) := t_cmp op_gt opl_cmp (nomark _) ha hb
theorem t_ge (ha : PE X a (lowE X.K Wx ta)) (hb : PE X b (lowE X.K Wx tb)) : PT X (.Compare a [.GtE] [b] pos) (lowT X.K Wx (t3 (op3 ge3 ta tb))) := t_cmp op_ge opl_cmp (nomark _) ha hb
end
/-! ### ==, != -/
mutual
def beqD : D → D → Bool
  | .non, .non => true
  | .bl a, .bl b => a == b
  | .int a, .int b => decide (a = b)
  | .str a, .str b => decide (a = b)
  | .tup a, .tup b => beqL a b
  | .lst a, .lst b => beqL a b
  | _, _ => false
def beqL : List D → List D → Bool
  | [], [] => true
  | x :: xs, y :: ys => beqD x y && beqL xs ys
  | _, _ => false
end
mutual
/-- no bools, no places -/
def plain : D → Bool
  | .non => true
  | .int _ => true
  | .str s => PySem.PyData.strOk s
  | .tup ds => plainL ds
  | .lst ds => plainL ds
  | _ => false
def plainL : List D → Bool
  | [] => true
  | d :: ds => plain d && plainL ds
end
mutual
def py : D → PyData
  | .int i => .int i
  | .str s => .str s
  | .tup ds => .tuple (pyL ds)
  | .lst ds => .list (pyL ds)
  | _ => .none
def pyL : List D → List PyData
  | [] => []
  | d :: ds => py d :: pyL ds
end
mutual
theorem eqv_py : ∀ x y : D, plain x = true → plain y = true → PyData.eqv (py x) (py y) = beqD x y
  | .non, y, hx, hy => by cases y <;> first | rfl | (simp [plain] at hy; done) | (simp [py, PyData.eqv, beqD])
  | .int i, y, hx, hy => by cases y <;> first | rfl | (simp [plain] at hy; done) | (simp only [py, PyData.eqv, beqD]; exact Bool.beq_eq_decide_eq _ _) | (simp [py, PyData.eqv, beqD])
  | .str s, y, hx, hy => by cases y <;> first | rfl | (simp [plain] at hy; done) | (simp only [py, PyData.eqv, beqD]; exact Bool.beq_eq_decide_eq _ _) | (simp [py, PyData.eqv, beqD])
  | .tup xs, y, hx, hy => by
    cases y with
    | tup ys => simp only [py, PyData.eqv, beqD]; exact eqv_pyL xs ys (by simpa [plain] using hx) (by simpa [plain] using hy)
    | _ => first | (simp [plain] at hy; done) | (simp [py, PyData.eqv, beqD])
  | .lst xs, y, hx, hy => by
    cases y with
    | lst ys => simp only [py, PyData.eqv, beqD]; exact eqv_pyL xs ys (by simpa [plain] using hx) (by simpa [plain] using hy)
    | _ => first | (simp [plain] at hy; done) | (simp [py, PyData.eqv, beqD])
  | .bl _, _, hx, _ => by simp [plain] at hx
  | .ref _, _, hx, _ => by simp [plain] at hx
  | .scr _, _, hx, _ => by simp [plain] at hx
theorem eqv_pyL : ∀ xs ys : List D, plainL xs = true → plainL ys = true → PyData.eqvAll (pyL xs) (pyL ys) = beqL xs ys
  | [], [], _, _ => by simp [pyL, PyData.eqvAll, beqL]
  | [], _ :: _, _, _ => by simp [pyL, PyData.eqvAll, beqL]
  | _ :: _, [], _, _ => by simp [pyL, PyData.eqvAll, beqL]
  | x :: xs, y :: ys, hx, hy => by
    simp only [plainL, Bool.and_eq_true] at hx hy
    simp only [pyL, PyData.eqvAll, beqL, eqv_py x y hx.1 hy.1, eqv_pyL xs ys hx.2 hy.2]
end
mutual
theorem canLay_py : ∀ x : D, plain x = true → (py x).canLay0 = true
  | .non, h => by simp [py, PyData.canLay0]
  | .int i, h => by simp [py, PyData.canLay0]
  | .str s, h => by simpa [py, PyData.canLay0, plain] using h
  | .tup xs, h => by simp only [py, PyData.canLay0]; exact canLay_pyL xs (by simpa [plain] using h)
  | .lst xs, h => by simp only [py, PyData.canLay0]; exact canLay_pyL xs (by simpa [plain] using h)
  | .bl _, h => by simp [plain] at h
  | .ref _, h => by simp [plain] at h
  | .scr _, h => by simp [plain] at h
theorem canLay_pyL : ∀ xs : List D, plainL xs = true → PyData.canLayAll0 (pyL xs) = true
  | [], h => by simp [pyL, PyData.canLayAll0]
  | x :: xs, h => by
    simp only [plainL, Bool.and_eq_true] at h
    simp only [pyL, PyData.canLayAll0, canLay_py x h.1, canLay_pyL xs h.2, Bool.and_self]
end
mutual
/-- how deep it goes -/
def dep : D → Nat
  | .tup ds => depL ds + 1
  | .lst ds => depL ds + 1
  | _ => 0
def depL : List D → Nat
  | [] => 0
  | d :: ds => max (dep d) (depL ds)
end
mutual
theorem dep_py : ∀ x : D, (py x).depth ≤ dep x
  | .non => by simp [py, PyData.depth]
  | .int i => by simp [py, PyData.depth]
  | .str s => by simp [py, PyData.depth]
  | .tup xs => by simp only [py, PyData.depth, dep]; have := dep_pyL xs; omega
  | .lst xs => by simp only [py, PyData.depth, dep]; have := dep_pyL xs; omega
  | .bl _ => by simp [py, PyData.depth]
  | .ref _ => by simp [py, PyData.depth]
  | .scr _ => by simp [py, PyData.depth]
theorem dep_pyL : ∀ xs : List D, PyData.depthAll (pyL xs) ≤ depL xs
  | [] => by simp [pyL, PyData.depthAll]
  | x :: xs => by simp only [pyL, PyData.depthAll, depL]; have := dep_py x; have := dep_pyL xs; omega
end
theorem shaped_py {x : D} (h : plain x = true) (hd : dep x ≤ 64) : SeqAt.shaped (py x) = true := by
  unfold SeqAt.shaped
  rw [canLay_py x h, Bool.true_and, decide_eq_true_eq]
  exact Nat.le_trans (dep_py x) hd
mutual
theorem dp_py {K : PySem.W.Frag} {W : Wd} {G : G3} {H : Hp} (S : Sim K W G H) : ∀ {x : D} {v : V}, plain x = true → Rl W x v → Dp K H v (py x)
  | .non, _, _, rfl => .non
  | .int i, _, _, rfl => .int i
  | .str s, _, _, rfl => .str s
  | .tup xs, _, h, ⟨a, vs, e, l, r⟩ => by
    subst e
    simp only [py]
    exact .tup (S.ft _ _ l) (dp_pyL S (by simpa [plain] using h) r)
  | .lst xs, _, h, ⟨a, vs, e, l, r⟩ => by
    subst e
    simp only [py]
    exact .lst (S.sql l) (dp_pyL S (by simpa [plain] using h) r)
  | .bl _, _, h, _ => by simp [plain] at h
  | .ref _, _, h, _ => by simp [plain] at h
  | .scr _, _, h, _ => by simp [plain] at h
theorem dp_pyL {K : PySem.W.Frag} {W : Wd} {G : G3} {H : Hp} (S : Sim K W G H) : ∀ {xs : List D} {vs : List V}, plainL xs = true → RlL W xs vs → DpAll K H vs (pyL xs)
  | [], _, _, rfl => .nil
  | x :: xs, _, h, ⟨v, r, e, h1, h2⟩ => by
    subst e
    simp only [plainL, Bool.and_eq_true] at h
    simp only [pyL]
    exact .cons (dp_py S h.1 h1) (dp_pyL S h.2 h2)
end
/-- what a value is to be read as: a list that may change by its items -/
def Rd3 (G : G3) : D → D → Prop
  | .ref a, y => ∃ ds, (a, DO.lst ds) ∈ G ∧ y = .lst ds
  | x, y => y = x
theorem rd3_dp {K : PySem.W.Frag} {W : Wd} {G : G3} {H : Hp} {x y : D} {v : V} (S : Sim K W G H) (h : Rd3 G x y) (p : plain y = true) (r : Rl W x v) : Dp K H v (py y) := by
  cases x with
  | ref a =>
    obtain ⟨ds, hm, rfl⟩ := h
    cases r
    obtain ⟨vs, e, r⟩ := S.ob _ _ hm
    simp only [py]
    exact .lst (SqL.of e) (dp_pyL S (by simpa [plain] using p) r)
  | _ => cases h; exact dp_py S p r
/-- two values told apart by their contents -/
def deq3 (neg : Bool) : R3 := fun x y G Q => ∃ x' y', Rd3 G x x' ∧ Rd3 G y y' ∧ (plain x' = true ∧ plain y' = true ∧ dep x' ≤ 64 ∧ dep y' ≤ 64) ∧ Q (.bl (if neg then !beqD x' y' else beqD x' y')) G
def eq3 : R3 := fun x y G Q => match x, y with
  | .int i, .int j => Q (.bl (decide (i = j))) G
  | .str i, .str j => Q (.bl (decide (i = j))) G
  | .bl i, .bl j => Q (.bl (decide (i = j))) G
  | x, y => deq3 false x y G Q
def ne3 : R3 := fun x y G Q => match x, y with
  | .int i, .int j => Q (.bl (!decide (i = j))) G
  | .str i, .str j => Q (.bl (!decide (i = j))) G
  | .bl i, .bl j => Q (.bl (!decide (i = j))) G
  | x, y => deq3 true x y G Q
theorem deq_eq {K : PySem.W.Frag} {W : Wd} {x y : D} {G : G3} {Q3 : VK3} {x' y' : V} {H : Hp} {Q : VK} (S : Sim K W G H) (rx : Rl W x x') (ry : Rl W y y') (h : deq3 false x y G Q3) (q : OkQ K W Q3 Q) : rEqD K x' y' H Q := by
  obtain ⟨u, w, h1, h2, ⟨p1, p2, d1, d2⟩, h⟩ := h
  refine ⟨py u, py w, rd3_dp S h1 p1 rx, rd3_dp S h2 p2 ry, shaped_py p1 d1, shaped_py p2 d2, ?_⟩
  rw [eqv_py u w p1 p2]
  exact q.run _ (.bl (beqD u w)) _ _ _ (.refl _) S rfl h
theorem deq_ne {K : PySem.W.Frag} {W : Wd} {x y : D} {G : G3} {Q3 : VK3} {x' y' : V} {H : Hp} {Q : VK} (S : Sim K W G H) (rx : Rl W x x') (ry : Rl W y y') (h : deq3 true x y G Q3) (q : OkQ K W Q3 Q) : rNeD K x' y' H Q := by
  obtain ⟨u, w, h1, h2, ⟨p1, p2, d1, d2⟩, h⟩ := h
  refine ⟨py u, py w, rd3_dp S h1 p1 rx, rd3_dp S h2 p2 ry, shaped_py p1 d1, shaped_py p2 d2, ?_⟩
  rw [eqv_py u w p1 p2]
  exact q.run _ (.bl (!beqD u w)) _ _ _ (.refl _) S rfl h
theorem opl_eq {K : PySem.W.Frag} : OpL K eq3 (fun x y H Q => rEq x y H Q ∨ rEqD K x y H Q) := by
  intro W x y G Q3 x' y' H Q S rx ry h q
  have key : ∀ {b : Bool} {v w : V}, scal v w = true → decide (v = w) = b → Q3 (.bl b) G → rEq v w H Q := fun {b v w} hs hb h => ⟨hs, by rw [hb]; exact q.run _ (.bl b) _ _ _ (.refl _) S rfl h⟩
  cases x with
  | int i =>
    cases y with
    | int j => cases rx; cases ry; exact .inl (key rfl (by simp) h)
    | _ => exact .inr (deq_eq S rx ry h q)
  | str i =>
    cases y with
    | str j => cases rx; cases ry; exact .inl (key rfl (by simp) h)
    | _ => exact .inr (deq_eq S rx ry h q)
  | bl i =>
    cases y with
    | bl j => cases rx; cases ry; exact .inl (key rfl (by simp) h)
    | _ => exact .inr (deq_eq S rx ry h q)
  | _ => exact .inr (deq_eq S rx ry h q)
theorem opl_ne {K : PySem.W.Frag} : OpL K ne3 (fun x y H Q => rNe x y H Q ∨ rNeD K x y H Q) := by
  intro W x y G Q3 x' y' H Q S rx ry h q
  have key : ∀ {b : Bool} {v w : V}, scal v w = true → (!decide (v = w)) = b → Q3 (.bl b) G → rNe v w H Q := fun {b v w} hs hb h => ⟨hs, by rw [hb]; exact q.run _ (.bl b) _ _ _ (.refl _) S rfl h⟩
  cases x with
  | int i =>
    cases y with
    | int j => cases rx; cases ry; exact .inl (key rfl (by simp) h)
    | _ => exact .inr (deq_ne S rx ry h q)
  | str i =>
    cases y with
    | str j => cases rx; cases ry; exact .inl (key rfl (by simp) h)
    | _ => exact .inr (deq_ne S rx ry h q)
  | bl i =>
    cases y with
    | bl j => cases rx; cases ry; exact .inl (key rfl (by simp) h)
    | _ => exact .inr (deq_ne S rx ry h q)
  | _ => exact .inr (deq_ne S rx ry h q)
section
variable {a b e : Expr} {ta tb te : TE3} {pos : Pos}
theorem e_eq (hu : X.A.units + 64 < cLine) (ha : PE X a (lowE X.K Wx ta)) (hb : PE X b (lowE X.K Wx tb)) : PE X (.Compare a [.Eq] [b] pos) (lowE X.K Wx (op3 eq3 ta tb)) := e_cmp (op_eq.or (op_eqD hu)) opl_eq (nomark _) ha hb
theorem e_ne (hu : X.A.units + 64 < cLine) (ha : PE X a (lowE X.K Wx ta)) (hb : PE X b (lowE X.K Wx tb)) : PE X (.Compare a [.NotEq] [b] pos) (lowE X.K Wx (op3 ne3 ta tb)) := e_cmp (op_ne.or (op_neD hu)) opl_ne (nomark _) ha hb
theorem t_eq (hu : X.A.units + 64 < cLine) (ha : PE X a (lowE X.K Wx ta)) (hb : PE X b (lowE X.K Wx tb)) : PT X (.Compare a [.Eq] [b] pos) (lowT X.K Wx (t3 (op3 eq3 ta tb))) := t_cmp (op_eq.or (op_eqD hu)) opl_eq (nomark _) ha hb
theorem t_ne (hu : X.A.units + 64 < cLine) (ha : PE X a (lowE X.K Wx ta)) (hb : PE X b (lowE X.K Wx tb)) : PT X (.Compare a [.NotEq] [b] pos) (lowT X.K Wx (t3 (op3 ne3 ta tb))) := t_cmp (op_ne.or (op_neD hu)) opl_ne (nomark _) ha hb
end
/-! ### what beqD says -/
mutual
theorem beqD_eq : ∀ {x y : D}, beqD x y = true → x = y
  | .non, y, h => by cases y <;> simp [beqD] at h ⊢
  | .bl a, y, h => by cases y <;> simp [beqD] at h ⊢ <;> exact h
  | .int a, y, h => by cases y <;> simp [beqD] at h ⊢ <;> exact h
  | .str a, y, h => by cases y <;> simp [beqD] at h ⊢ <;> exact h
  | .tup a, y, h => by
    cases y with
    | tup b => simp only [beqD] at h; rw [beqL_eq h]
    | _ => simp [beqD] at h
  | .lst a, y, h => by
    cases y with
    | lst b => simp only [beqD] at h; rw [beqL_eq h]
    | _ => simp [beqD] at h
  | .ref _, y, h => by cases y <;> simp [beqD] at h
  | .scr _, y, h => by cases y <;> simp [beqD] at h
theorem beqL_eq : ∀ {x y : List D}, beqL x y = true → x = y
  | [], [], _ => rfl
  | [], _ :: _, h => by simp [beqL] at h
  | _ :: _, [], h => by simp [beqL] at h
  | x :: xs, y :: ys, h => by
    simp only [beqL, Bool.and_eq_true] at h
    rw [beqD_eq h.1, beqL_eq h.2]
end
mutual
theorem beqD_refl : ∀ {x : D}, plain x = true → beqD x x = true
  | .non, _ => by simp [beqD]
  | .int a, _ => by simp [beqD]
  | .str a, _ => by simp [beqD]
  | .tup a, h => by simp only [beqD]; exact beqL_refl (by simpa [plain] using h)
  | .lst a, h => by simp only [beqD]; exact beqL_refl (by simpa [plain] using h)
  | .bl _, h => by simp [plain] at h
  | .ref _, h => by simp [plain] at h
  | .scr _, h => by simp [plain] at h
theorem beqL_refl : ∀ {x : List D}, plainL x = true → beqL x x = true
  | [], _ => by simp [beqL]
  | x :: xs, h => by
    simp only [plainL, Bool.and_eq_true] at h
    simp only [beqL, beqD_refl h.1, beqL_refl h.2, Bool.and_self]
end
theorem plainL_ints : ∀ ns : List Int, plainL (ns.map D.int) = true
  | [] => rfl
  | n :: ns => by simp [plainL, plain, plainL_ints ns]
theorem depL_ints : ∀ ns : List Int, depL (ns.map D.int) = 0
  | [] => rfl
  | n :: ns => by simp [depL, dep, depL_ints ns]
theorem beqL_ints : ∀ ns ms : List Int, beqL (ns.map D.int) (ms.map D.int) = decide (ns = ms)
  | [], [] => by simp [beqL]
  | [], _ :: _ => by simp [beqL]
  | _ :: _, [] => by simp [beqL]
  | n :: ns, m :: ms => by simp [beqL, beqD, beqL_ints ns ms]
end
end T3

namespace T3
open PySem L2
section
variable {X : Cx} {Wx : WX}
/-! ### xs[i] -/
theorem RlL.atI {W : Wd} {ds : List D} {vs : List V} {i : Int} {d : D} (h : RlL W ds vs) (e : atI ds i = some d) : ∃ v, L2.atI vs i = some v ∧ Rl W d v := by
  unfold L2.atI at e ⊢
  rw [← h.length]
  cases hx : ixN ds.length i with
  | none => rw [hx] at e; cases e
  | some j =>
    rw [hx] at e
    obtain ⟨v, h1, h2⟩ := h.get (i := j) e
    exact ⟨v, h1, h2⟩
def ix3 : R3 := fun x y G Q => match x, y with
  | .lst ds, .int i => ∃ d, atI ds i = some d ∧ Q d G
  | .tup ds, .int i => ∃ d, atI ds i = some d ∧ Q d G
  | .scr ns, .int i => ∃ n, atI ns i = some n ∧ Q (.int n) G
  | .str z, .int i => z.length ≤ sizeLine ∧ ∃ c, atI z.cps.toList i = some c ∧ Q (.str ⟨#[c]⟩) G
  | .ref a, .int i => ∃ ds d, (a, DO.lst ds) ∈ G ∧ atI ds i = some d ∧ Q d G
  | _, _ => False
theorem atI_map {α β : Type} (f : α → β) (xs : List α) (i : Int) : atI (xs.map f) i = (atI xs i).map f := by
  unfold atI
  rw [List.length_map]
  cases ixN xs.length i with
  | none => rfl
  | some j => show (xs.map f)[j]? = (xs[j]?).map f; simp
theorem opl_ix {K : PySem.W.Frag} : OpL K ix3 (rIx K) := by
  intro W x y G Q3 x' y' H Q S rx ry h q
  cases y with
  | int i =>
    cases ry
    cases x with
    | lst ds =>
      obtain ⟨d, e, h⟩ := h
      obtain ⟨a, vs, rfl, l, r⟩ := rx
      obtain ⟨v, e2, r2⟩ := r.atI e
      exact .inl ⟨a, vs, i, v, rfl, rfl, S.sql l, e2, q.run _ _ _ _ _ (.refl _) S r2 h⟩
    | tup ds =>
      obtain ⟨d, e, h⟩ := h
      obtain ⟨a, vs, rfl, l, r⟩ := rx
      obtain ⟨v, e2, r2⟩ := r.atI e
      exact .inr (.inl ⟨a, vs, i, v, rfl, rfl, S.ft _ _ l, e2, q.run _ _ _ _ _ (.refl _) S r2 h⟩)
    | scr ns =>
      obtain ⟨n, e, h⟩ := h
      obtain ⟨a, rfl, l⟩ := rx
      exact .inl ⟨a, ns.map V.int, i, .int n, rfl, rfl, S.sqs l, by rw [atI_map, e] <;> rfl, q.run _ (.int n) _ _ _ (.refl _) S rfl h⟩
    | str z =>
      obtain ⟨hz, c, e, h⟩ := h
      cases rx
      exact .inr (.inr ⟨z, i, c, rfl, rfl, hz, e, q.run _ (.str ⟨#[c]⟩) _ _ _ (.refl _) S rfl h⟩)
    | ref a =>
      obtain ⟨ds, d, hm, e, h⟩ := h
      cases rx
      obtain ⟨vs, e1, r⟩ := S.ob _ _ hm
      obtain ⟨v, e2, r2⟩ := r.atI e
      exact .inl ⟨a, vs, i, v, rfl, rfl, SqL.of e1, e2, q.run _ _ _ _ _ (.refl _) S r2 h⟩
    | _ => exact h.elim
  | _ => cases x <;> exact h.elim
section
variable {a b e : Expr} {ta tb te : TE3} {pos : Pos}
theorem e_ix (ha : PE X a (lowE X.K Wx ta)) (hb : PE X b (lowE X.K Wx tb)) (hs : PlainIx b := by exact fun _ _ => rfl) : PE X (.Subscript a b pos) (lowE X.K Wx (op3 ix3 ta tb)) := (pe_ix ix_seq ha hb hs).imp3 fun _ _ _ => low_op opl_ix
end
/-! ### xs[i:j] -/
abbrev TO3 := St3 → G3 → (Option Int → G3 → Prop) → EX3 → Prop
structure OkO (K : PySem.W.Frag) (W : Wd) (Q3 : Option Int → G3 → Prop) (Q : Option Int → Hp → Prop) : Prop where
  run : ∀ W' o G H, W.le W' → Sim K W' G H → Q3 o G → Q o H
def lowO (K : PySem.W.Frag) (Wx : WX) (t : TO3) : TO := fun σ H Q => ∃ σ3 W G Q3 E3, RepS W σ3 σ ∧ Sim K W G H ∧ t σ3 G Q3 E3 ∧ OkO K W Q3 Q ∧ OkE K W E3 Wx
theorem PO.imp3 {e : Option Expr} {t t' : TO} (h : PO X e t) (m : ∀ σ H Q, t' σ H Q → t σ H Q) : PO X e t' := ⟨fun pins s σ H Q I q => h.run pins s σ H Q I (m σ H Q q)⟩
def no3 : TO3 := fun _ G Q _ => Q none G
def part3 (t : TE3) : TO3 := fun σ G Q E => t σ G (fun x G1 => match x with
  | .int i => Q (some i) G1
  | _ => False) E
theorem o_none : PO X none (lowO X.K Wx no3) := by
  refine PO.imp3 po_none ?_
  rintro σ H Q ⟨σ3, W, G, Q3, E3, R, S, h, q, e⟩
  exact q.run _ _ _ _ (.refl _) S h
theorem o_some {e : Expr} {te : TE3} (he : PE X e (lowE X.K Wx te)) : PO X (some e) (lowO X.K Wx (part3 te)) := by
  refine PO.imp3 (po_some he) ?_
  rintro σ H Q ⟨σ3, W, G, Q3, E3, R, S, h, q, e⟩
  refine ⟨σ3, W, G, _, E3, R, S, h, ⟨fun W1 x G1 x' H1 l1 S1 r1 h1 => ?_⟩, e⟩
  cases x with
  | int i => cases r1; exact ⟨i, rfl, q.run _ _ _ _ l1 S1 h1⟩
  | _ => exact h1.elim
def cutD {α : Type} (xs : List α) (lo hi : Option Int) : List α := (xs.drop (HT.sIx xs.length 0 lo)).take (HT.sIx xs.length xs.length hi - HT.sIx xs.length 0 lo)
abbrev S3 := D → Option Int → Option Int → G3 → VK3 → Prop
def sl3 : S3 := fun x lo hi G Q => match x with
  | .lst ds => Q (.lst (cutD ds lo hi)) G
  | .scr ns => Q (.lst ((cutD ns lo hi).map D.int)) G
  | .tup ds => ¬ (HT.sIx ds.length 0 lo = 0 ∧ HT.sIx ds.length ds.length hi = ds.length) ∧ Q (.tup (cutD ds lo hi)) G
  | .str z => z.length ≤ sizeLine ∧ Q (.str (cutS z lo hi)) G
  | .ref a => ∃ ds, (a, DO.lst ds) ∈ G ∧ Q (.lst (cutD ds lo hi)) G
  | _ => False
def slc3 (ta : TE3) (tl th : TO3) : TE3 := fun σ G Q E => ta σ G (fun x G1 => tl σ G1 (fun l G2 => th σ G2 (fun u G3 => sl3 x l u G3 Q) E) E) E
theorem RlL.cut {W : Wd} {ds : List D} {vs : List V} (h : RlL W ds vs) (lo hi : Option Int) : RlL W (cutD ds lo hi) (cutV vs lo hi) := by
  unfold cutD cutV
  rw [h.length]
  exact (h.drop _).take _
theorem cut_map {α β : Type} (f : α → β) (xs : List α) (lo hi : Option Int) : cutD (xs.map f) lo hi = (cutD xs lo hi).map f := by
  unfold cutD
  simp
theorem sll_ok {K : PySem.W.Frag} {W : Wd} {x : D} {lo hi : Option Int} {G : G3} {Q3 : VK3} {x' : V} {H : Hp} {Q : VK} (S : Sim K W G H) (rx : Rl W x x') (h : sl3 x lo hi G Q3) (q : OkQ K W Q3 Q) :
    rSlL K x' lo hi H Q ∨ (rSlT K x' lo hi H Q ∨ rSlS x' lo hi H Q) := by
  cases x with
  | lst ds =>
    obtain ⟨a, vs, rfl, l, r⟩ := rx
    refine .inl ⟨a, vs, rfl, S.sql l, fun p hp => ?_⟩
    obtain ⟨W2, l2, S2, r2⟩ := S.newL hp (r.cut lo hi)
    exact q.run _ _ _ _ _ l2 S2 r2 h
  | scr ns =>
    obtain ⟨a, rfl, l⟩ := rx
    refine .inl ⟨a, _, rfl, S.sqs l, fun p hp => ?_⟩
    obtain ⟨W2, l2, S2, r2⟩ := S.newL hp ((RlL.of_ints ns).cut lo hi)
    rw [cut_map] at r2
    exact q.run _ _ _ _ _ l2 S2 r2 h
  | tup ds =>
    obtain ⟨a, vs, rfl, l, r⟩ := rx
    refine .inr (.inl ⟨a, vs, rfl, S.ft _ _ l, by rw [← r.length]; exact h.1, fun p hp => ?_⟩)
    obtain ⟨W2, l2, S2, r2⟩ := S.newT hp (r.cut lo hi)
    exact q.run _ _ _ _ _ l2 S2 r2 h.2
  | str z =>
    cases rx
    exact .inr (.inr ⟨z, rfl, h.1, q.run _ (.str (cutS z lo hi)) _ _ _ (.refl _) S rfl h.2⟩)
  | ref a =>
    obtain ⟨ds, hm, h⟩ := h
    cases rx
    obtain ⟨vs, e1, r⟩ := S.ob _ _ hm
    refine .inl ⟨a, vs, rfl, SqL.of e1, fun p hp => ?_⟩
    obtain ⟨W2, l2, S2, r2⟩ := S.newL hp (r.cut lo hi)
    exact q.run _ _ _ _ _ l2 S2 r2 h
  | _ => exact h.elim
theorem e_slice {e : Expr} {lo hi : Option Expr} {te : TE3} {tl th : TO3} {p2 pos : Pos} (he : PE X e (lowE X.K Wx te)) (hl : PO X lo (lowO X.K Wx tl)) (hu : PO X hi (lowO X.K Wx th)) : PE X (.Subscript e (.Slice lo hi none p2) pos) (lowE X.K Wx (slc3 te tl th)) := by
  refine (pe_slice (sl_list.or (sl_tup.or sl_str)) he hl hu).imp3 ?_
  rintro σ H Q ⟨σ3, W, G, Q3, E3, R, S, h, q, e⟩
  refine ⟨σ3, W, G, _, E3, R, S, h, ⟨fun W1 x G1 x' H1 l1 S1 r1 h1 => ?_⟩, e⟩
  refine ⟨σ3, W1, G1, _, E3, R.mono l1, S1, h1, ⟨fun W2 o G2 H2 l2 S2 h2 => ?_⟩, e.mono l1⟩
  refine ⟨σ3, W2, G2, _, E3, R.mono (l1.trans l2), S2, h2, ⟨fun W3 u G3 H3 l3 S3 h3 => ?_⟩, e.mono (l1.trans l2)⟩
  exact sll_ok S3 (r1.mono (l2.trans l3)) h3 (q.mono (l1.trans (l2.trans l3)))
/-! ### built-ins -/
abbrev C3 := List D → G3 → VK3 → Prop
def call3 (r : C3) (ta : TA3) : TE3 := fun σ G Q E => ta σ G (fun xs G1 => r xs G1 Q) E
def ClL (K : PySem.W.Frag) (r3 : C3) (r : List V → Hp → VK → Prop) : Prop := ∀ W xs G Q3 xs' H (Q : VK), Sim K W G H → RlL W xs xs' → r3 xs G Q3 → OkQ K W Q3 Q → r xs' H Q
theorem low_call {K : PySem.W.Frag} {r3 : C3} {r : List V → Hp → VK → Prop} {ta : TA3} (hl : ClL K r3 r) {σ : St} {H : Hp} {Q : VK} : lowE K Wx (call3 r3 ta) σ H Q → tCB r (lowA K Wx ta) σ H Q := by
  rintro ⟨σ3, W, G, Q3, E3, R, S, h, q, e⟩
  exact ⟨σ3, W, G, _, E3, R, S, h, ⟨fun W1 x G1 x' H1 l1 S1 r1 h1 => hl _ _ _ _ _ _ _ S1 r1 h1 (q.mono l1)⟩, e⟩
/-- one argument, two -/
def on1 (r : U3) : C3 := fun xs G Q => match xs with
  | [x] => r x G Q
  | _ => False
def on2 (r : R3) : C3 := fun xs G Q => match xs with
  | [x, y] => r x y G Q
  | _ => False
theorem cll_1 {K : PySem.W.Frag} {r3 : U3} {r : List V → Hp → VK → Prop} (h : ∀ W x G Q3 x' H (Q : VK), Sim K W G H → Rl W x x' → r3 x G Q3 → OkQ K W Q3 Q → r [x'] H Q) : ClL K (on1 r3) r := by
  intro W xs G Q3 xs' H Q S rx h1 q
  match xs, rx, h1 with
  | [x], ⟨v, _, e1, r1, e2⟩, h1 => cases (show _ = [] from e2); subst e1; exact h _ _ _ _ _ _ _ S r1 h1 q
  | [], _, h1 => exact h1.elim
  | _ :: _ :: _, _, h1 => exact h1.elim
theorem cll_2 {K : PySem.W.Frag} {r3 : R3} {r : List V → Hp → VK → Prop} (h : ∀ W x y G Q3 x' y' H (Q : VK), Sim K W G H → Rl W x x' → Rl W y y' → r3 x y G Q3 → OkQ K W Q3 Q → r [x', y'] H Q) : ClL K (on2 r3) r := by
  intro W xs G Q3 xs' H Q S rx h1 q
  match xs, rx, h1 with
  | [x, y], ⟨v, _, e1, r1, w, _, e2, r2, e3⟩, h1 => cases (show _ = [] from e3); subst e2 e1; exact h _ _ _ _ _ _ _ _ _ S r1 r2 h1 q
  | [], _, h1 => exact h1.elim
  | [_], _, h1 => exact h1.elim
  | _ :: _ :: _ :: _, _, h1 => exact h1.elim
def len3 : U3 := fun x G Q => match x with
  | .lst ds => Q (.int ds.length) G
  | .tup ds => Q (.int ds.length) G
  | .scr ns => Q (.int ns.length) G
  | .str s => s.length ≤ sizeLine ∧ Q (.int s.length) G
  | .ref a => ∃ ds, (a, DO.lst ds) ∈ G ∧ Q (.int (ds.length : Nat)) G
  | _ => False
theorem cl_len {K : PySem.W.Frag} : ClL K (on1 len3) (fun xs H Q => ∃ x n, xs = [x] ∧ LenV K x H n ∧ Q (.int n) H) := cll_1 fun W x G Q3 x' H Q S rx h q => by
  cases x with
  | lst ds =>
    obtain ⟨a, vs, rfl, l, r⟩ := rx
    exact ⟨_, vs.length, rfl, .inl ⟨vs, S.sql l, rfl⟩, q.run _ (.int (vs.length : Nat)) _ _ _ (.refl _) S rfl (by rw [← r.length]; exact h)⟩
  | tup ds =>
    obtain ⟨a, vs, rfl, l, r⟩ := rx
    exact ⟨_, vs.length, rfl, .inr ⟨vs, S.ft _ _ l, rfl⟩, q.run _ (.int (vs.length : Nat)) _ _ _ (.refl _) S rfl (by rw [← r.length]; exact h)⟩
  | scr ns =>
    obtain ⟨a, rfl, l⟩ := rx
    exact ⟨_, ns.length, rfl, .inl ⟨_, S.sqs l, by rw [List.length_map]⟩, q.run _ (.int (ns.length : Nat)) _ _ _ (.refl _) S rfl h⟩
  | str s =>
    cases rx
    exact ⟨_, s.length, rfl, ⟨h.1, rfl⟩, q.run _ (.int (s.length : Nat)) _ _ _ (.refl _) S rfl h.2⟩
  | ref a =>
    obtain ⟨ds, hm, h⟩ := h
    cases rx
    obtain ⟨vs, e1, r⟩ := S.ob _ _ hm
    exact ⟨_, vs.length, rfl, .inl ⟨vs, SqL.of e1, rfl⟩, q.run _ (.int (vs.length : Nat)) _ _ _ (.refl _) S rfl (by rw [← r.length]; exact h)⟩
  | _ => exact h.elim
/-- a list, frozen or not, by its items -/
def Ls (G : G3) : D → List D → Prop
  | .lst ds, es => es = ds
  | .ref a, es => (a, DO.lst es) ∈ G
  | _, _ => False
theorem Ls.sql {K : PySem.W.Frag} {W : Wd} {G : G3} {H : Hp} {x : D} {v : V} {ds : List D} (h : Ls G x ds) (S : Sim K W G H) (r : Rl W x v) : ∃ a vs, v = .ref a ∧ H a = some (.lst vs) ∧ RlL W ds vs := by
  cases x with
  | lst es => cases h; obtain ⟨a, vs, rfl, l, r⟩ := r; exact ⟨a, vs, rfl, (S.fl _ _ l).2, r⟩
  | ref a => cases r; obtain ⟨vs, e, r⟩ := S.ob _ _ h; exact ⟨a, vs, rfl, e, r⟩
  | _ => exact h.elim
def sum3 : U3 := fun x G Q => ∃ ns : List Int, Ls G x (ns.map D.int) ∧ Q (.int ns.sum) G
def any3 : U3 := fun x G Q => ∃ bs : List Bool, Ls G x (bs.map D.bl) ∧ Q (.bl (bs.any id)) G
def all3 : U3 := fun x G Q => ∃ bs : List Bool, Ls G x (bs.map D.bl) ∧ Q (.bl (bs.all id)) G
theorem cl_sum {K : PySem.W.Frag} : ClL K (on1 sum3) (rSum K) := cll_1 fun W x G Q3 x' H Q S rx h q => by
  obtain ⟨ns, l, h⟩ := h
  obtain ⟨a, vs, rfl, e, r⟩ := l.sql S rx
  have := r.ints
  subst this
  exact ⟨a, ns, rfl, SqL.of e, q.run _ (.int ns.sum) _ _ _ (.refl _) S rfl h⟩
theorem cl_any {K : PySem.W.Frag} : ClL K (on1 any3) (rAny K) := cll_1 fun W x G Q3 x' H Q S rx h q => by
  obtain ⟨ns, l, h⟩ := h
  obtain ⟨a, vs, rfl, e, r⟩ := l.sql S rx
  have := r.bls
  subst this
  exact ⟨a, ns, rfl, SqL.of e, q.run _ (.bl (ns.any id)) _ _ _ (.refl _) S rfl h⟩
theorem cl_all {K : PySem.W.Frag} : ClL K (on1 all3) (rAll K) := cll_1 fun W x G Q3 x' H Q S rx h q => by
  obtain ⟨ns, l, h⟩ := h
  obtain ⟨a, vs, rfl, e, r⟩ := l.sql S rx
  have := r.bls
  subst this
  exact ⟨a, ns, rfl, SqL.of e, q.run _ (.bl (ns.all id)) _ _ _ (.refl _) S rfl h⟩
/-- list(x): a copy that stays, one that will change -/
def list3 : U3 := fun x G Q => ∃ ds, Ls G x ds ∧ Q (.lst ds) G
def listO3 : U3 := fun x G Q => ∃ ds, Ls G x ds ∧ ∀ p, Q (.ref p) ((p, .lst ds) :: G)
theorem cl_list {K : PySem.W.Frag} : ClL K (on1 list3) (fun xs H Q => ∃ p ys, xs = [.ref p] ∧ (SqL K H p ys ∨ SqT K H p ys) ∧ ∀ l, H l = none → Q (.ref l) (upd H l (.lst ys))) := cll_1 fun W x G Q3 x' H Q S rx h q => by
  obtain ⟨ns, l, h⟩ := h
  obtain ⟨a, vs, rfl, e, r⟩ := l.sql S rx
  refine ⟨a, vs, rfl, .inl (SqL.of e), fun p hp => ?_⟩
  obtain ⟨W2, l2, S2, r2⟩ := S.newL hp r
  exact q.run _ _ _ _ _ l2 S2 r2 h
theorem cl_listO {K : PySem.W.Frag} : ClL K (on1 listO3) (fun xs H Q => ∃ p ys, xs = [.ref p] ∧ (SqL K H p ys ∨ SqT K H p ys) ∧ ∀ l, H l = none → Q (.ref l) (upd H l (.lst ys))) := cll_1 fun W x G Q3 x' H Q S rx h q => by
  obtain ⟨ns, l, h⟩ := h
  obtain ⟨a, vs, rfl, e, r⟩ := l.sql S rx
  refine ⟨a, vs, rfl, .inl (SqL.of e), fun p hp => ?_⟩
  exact q.run _ (.ref p) _ _ _ (.refl _) (S.newO (o := .lst ns) hp ⟨vs, upd_same, r⟩) rfl (h p)
def min3 : R3 := fun x y G Q => match x, y with
  | .int i, .int j => Q (.int (if j < i then j else i)) G
  | _, _ => False
def max3 : R3 := fun x y G Q => match x, y with
  | .int i, .int j => Q (.int (if j > i then j else i)) G
  | _, _ => False
theorem cl_min {K : PySem.W.Frag} : ClL K (on2 min3) (fun xs H Q => ∃ i j, xs = [.int i, .int j] ∧ Q (.int (if j < i then j else i)) H) := cll_2 fun W x y G Q3 x' y' H Q S rx ry h q => by
  cases x with
  | int i => (cases y with | int j => (cases rx; cases ry; exact ⟨i, j, rfl, q.run _ (.int (if j < i then j else i)) _ _ _ (.refl _) S rfl h⟩) | _ => exact h.elim)
  | _ => exact h.elim
theorem cl_max {K : PySem.W.Frag} : ClL K (on2 max3) (fun xs H Q => ∃ i j, xs = [.int i, .int j] ∧ Q (.int (if j > i then j else i)) H) := cll_2 fun W x y G Q3 x' y' H Q S rx ry h q => by
  cases x with
  | int i => (cases y with | int j => (cases rx; cases ry; exact ⟨i, j, rfl, q.run _ (.int (if j > i then j else i)) _ _ _ (.refl _) S rfl h⟩) | _ => exact h.elim)
  | _ => exact h.elim
def abs3 : U3 := fun x G Q => match x with
  | .int i => Q (.int (if i < 0 then -i else i)) G
  | _ => False
theorem cl_abs {K : PySem.W.Frag} : ClL K (on1 abs3) (fun xs H Q => ∃ i, xs = [.int i] ∧ Q (.int (if i < 0 then -i else i)) H) := cll_1 fun W x G Q3 x' H Q S rx h q => by
  cases x with
  | int i => cases rx; exact ⟨i, rfl, q.run _ (.int (if i < 0 then -i else i)) _ _ _ (.refl _) S rfl h⟩
  | _ => exact h.elim
def int3 : U3 := fun x G Q => match x with
  | .int i => Q (.int i) G
  | .bl b => Q (.int (if b then 1 else 0)) G
  | _ => False
theorem cl_int {K : PySem.W.Frag} : ClL K (on1 int3) (fun xs H Q => (∃ i, xs = [.int i] ∧ Q (.int i) H) ∨ ∃ k, xs = [.bl k] ∧ Q (.int (if k then 1 else 0)) H) := cll_1 fun W x G Q3 x' H Q S rx h q => by
  cases x with
  | int i => cases rx; exact .inl ⟨i, rfl, q.run _ (.int i) _ _ _ (.refl _) S rfl h⟩
  | bl b => cases rx; exact .inr ⟨b, rfl, q.run _ (.int (if b then 1 else 0)) _ _ _ (.refl _) S rfl h⟩
  | _ => exact h.elim
section
variable {e : Expr} {es : List Expr} {x : Str} {p pos : Pos} {tr : TA3}
theorem e_callB {id : String} {r3 : C3} {r : List V → Hp → VK → Prop} (hc : CallR X (.builtin id) r) (hl : ClL X.K r3 r) (hg : Gl X x) (hm : X.mg x = none) (hv : bootBuiltins x = some (.builtin id)) (ha : PA X (e :: es) (lowA X.K Wx tr))
    (hn : x ≠ "__name__" := by decide) (hdb : (x == ("__debug__" : Str)) = false := by decide) (he : starEach (e :: es) X.env = (false, eval e X.env) :: starEach es X.env := by rfl) (hpl : (backTo pos (starEach es X.env)).any (·.1) = false := by rfl) :
    PE X (.Call (.Name x p) (e :: es) [] pos) (lowE X.K Wx (call3 r3 tr)) := (pe_callB hc hg hm hv ha hn hdb he hpl).imp3 fun _ _ _ => low_call hl
theorem e_callTy {T : String} {r3 : C3} {r : List V → Hp → VK → Prop} (hc : CallR X (.type T) r) (hl : ClL X.K r3 r) (hg : Gl X x) (hm : X.mg x = none) (hv : bootBuiltins x = some (.type T)) (ha : PA X (e :: es) (lowA X.K Wx tr))
    (hn : x ≠ "__name__" := by decide) (hdb : (x == ("__debug__" : Str)) = false := by decide) (he : starEach (e :: es) X.env = (false, eval e X.env) :: starEach es X.env := by rfl) (hpl : (backTo pos (starEach es X.env)).any (·.1) = false := by rfl) :
    PE X (.Call (.Name x p) (e :: es) [] pos) (lowE X.K Wx (call3 r3 tr)) := (pe_callTy hc hg hm hv ha hn hdb he hpl).imp3 fun _ _ _ => low_call hl
end
end
end T3

namespace T3
open PySem L2
/-! ### changing what may change -/
inductive Put (a : Addr) (o o' : DO) : G3 → G3 → Prop
  | head {r : G3} : Put a o o' ((a, o) :: r) ((a, o') :: r)
  | tail {e : Addr × DO} {r r' : G3} : Put a o o' r r' → Put a o o' (e :: r) (e :: r')
  | right {l r r' : G3} : Put a o o' r r' → Put a o o' (l ++ r) (l ++ r')
  | left {l l' r : G3} : Put a o o' l l' → Put a o o' (l ++ r) (l' ++ r)
theorem Put.split {a : Addr} {o o' : DO} {G G' : G3} (h : Put a o o' G G') : ∃ l1 l2, G = l1 ++ (a, o) :: l2 ∧ G' = l1 ++ (a, o') :: l2 := by
  induction h with
  | head => exact ⟨[], _, rfl, rfl⟩
  | tail _ ih => obtain ⟨l1, l2, e1, e2⟩ := ih; exact ⟨_ :: l1, l2, by rw [e1]; rfl, by rw [e2]; rfl⟩
  | right _ ih => obtain ⟨l1, l2, e1, e2⟩ := ih; exact ⟨_ ++ l1, l2, by rw [e1, List.append_assoc], by rw [e2, List.append_assoc]⟩
  | left _ ih => obtain ⟨l1, l2, e1, e2⟩ := ih; exact ⟨l1, l2 ++ _, by rw [e1, List.append_assoc]; rfl, by rw [e2, List.append_assoc]; rfl⟩
theorem Sim.put {K : PySem.W.Frag} {W : Wd} {G G' : G3} {H : Hp} {a : Addr} {o o' : DO} {u : HO} (S : Sim K W G H) (p : Put a o o' G G') (h : ObR W (upd H a u) a o') : Sim K W G' (upd H a u) := by
  obtain ⟨l1, l2, rfl, rfl⟩ := p.split
  exact S.write h
theorem Put.mem {a : Addr} {o o' : DO} {G G' : G3} (h : Put a o o' G G') : (a, o) ∈ G := by
  obtain ⟨l1, l2, rfl, rfl⟩ := h.split
  exact List.mem_append_right _ (List.mem_cons_self ..)
/-! ### weakening: the state told less exactly -/
section
variable (K : PySem.W.Frag)
def WkS (σ : St3) (G : G3) (σ' : St3) (G' : G3) : Prop := ∀ W H σ2, RepS W σ σ2 → Sim K W G H → ∃ W', W.le W' ∧ RepS W' σ' σ2 ∧ Sim K W' G' H
def WkV (d : D) (G : G3) (d' : D) (G' : G3) : Prop := ∀ W H v, Rl W d v → Sim K W G H → ∃ W', W.le W' ∧ Rl W' d' v ∧ Sim K W' G' H
def Up (P : St3 → G3 → Prop) (σ : St3) (G : G3) : Prop := ∃ σ' G', WkS K σ G σ' G' ∧ P σ' G'
def UpV (P : D → G3 → Prop) (d : D) (G : G3) : Prop := ∃ d' G', WkV K d G d' G' ∧ P d' G'
end
section
variable {K : PySem.W.Frag} {σ σ1 σ2 : St3} {G G1 G2 : G3} {d d1 d2 : D} {a : Addr} {ds : List D} {e : Addr × DO}
theorem WkS.refl : WkS K σ G σ G := fun W _ _ R S => ⟨W, .refl W, R, S⟩
theorem WkS.trans (x : WkS K σ G σ1 G1) (y : WkS K σ1 G1 σ2 G2) : WkS K σ G σ2 G2 := fun W H s R S => by
  obtain ⟨W1, l1, R1, S1⟩ := x W H s R S
  obtain ⟨W2, l2, R2, S2⟩ := y W1 H s R1 S1
  exact ⟨W2, l1.trans l2, R2, S2⟩
theorem WkS.drop : WkS K σ (e :: G) σ G := fun W _ _ R S => ⟨W, .refl W, R, S.drop⟩
theorem WkS.perm (h : G.Perm G1) : WkS K σ G σ G1 := fun W _ _ R S => ⟨W, .refl W, R, S.perm h⟩
theorem WkS.forget (i : Nat) : WkS K σ G (σ.set i none) G := fun W _ _ R S => ⟨W, .refl W, by
  have := R.forget i none
  refine ⟨by simpa using R.len, fun j d' e => ?_, ⟩
  rw [getS_set] at e
  by_cases hj : i = j ∧ i < σ.length
  · rw [if_pos hj] at e; cases e
  · rw [if_neg hj] at e; exact R.get j d' e, S⟩
/-- slot i's list will not change again -/
theorem WkS.freeze (i : Nat) (h : getS σ i = some (.ref a)) : WkS K σ ((a, .lst ds) :: G) (σ.set i (some (.lst ds))) G := fun W H s R S => by
  obtain ⟨W', l, S', r⟩ := S.freeze
  refine ⟨W', l, ⟨by simpa using R.len, fun j d' e => ?_⟩, S'⟩
  rw [getS_set] at e
  by_cases hj : i = j ∧ i < σ.length
  · rw [if_pos hj] at e
    cases e
    obtain ⟨rfl, _⟩ := hj
    obtain ⟨v, h1, h2⟩ := R.get i _ h
    cases h2
    exact ⟨_, h1, r⟩
  · rw [if_neg hj] at e
    obtain ⟨v, h1, h2⟩ := R.get j d' e
    exact ⟨v, h1, h2.mono l⟩
theorem WkV.refl : WkV K d G d G := fun W _ _ R S => ⟨W, .refl W, R, S⟩
theorem WkV.trans (x : WkV K d G d1 G1) (y : WkV K d1 G1 d2 G2) : WkV K d G d2 G2 := fun W H s R S => by
  obtain ⟨W1, l1, R1, S1⟩ := x W H s R S
  obtain ⟨W2, l2, R2, S2⟩ := y W1 H s R1 S1
  exact ⟨W2, l1.trans l2, R2, S2⟩
theorem WkV.drop : WkV K d (e :: G) d G := fun W _ _ R S => ⟨W, .refl W, R, S.drop⟩
theorem WkV.perm (h : G.Perm G1) : WkV K d G d G1 := fun W _ _ R S => ⟨W, .refl W, R, S.perm h⟩
theorem WkV.freeze : WkV K (.ref a) ((a, .lst ds) :: G) (.lst ds) G := fun W H s R S => by
  obtain ⟨W', l, S', r⟩ := S.freeze
  cases R
  exact ⟨W', l, r, S'⟩
/-- a pair of lists -/
theorem WkV.freeze2 {b : Addr} {es : List D} : WkV K (.tup [.ref a, .ref b]) ((a, .lst ds) :: (b, .lst es) :: G) (.tup [.lst ds, .lst es]) G := fun W H s R S => by
  obtain ⟨W1, l1, S1, r1⟩ := S.freeze
  obtain ⟨W2, l2, S2, r2⟩ := S1.freeze
  obtain ⟨t, vs, e, ht, u, r, e1, q1, u2, r', e2, q2, e3⟩ := R
  cases (show _ = [] from e3)
  cases q1
  cases q2
  subst e2 e1 e
  exact ⟨W2, l1.trans l2, ⟨t, _, rfl, l2.t _ _ (l1.t _ _ ht), _, _, rfl, r1.mono l2, _, _, rfl, r2, rfl⟩, S2⟩
theorem Up.of {P : St3 → G3 → Prop} (h : P σ G) : Up K P σ G := ⟨σ, G, .refl, h⟩
theorem UpV.of {P : D → G3 → Prop} (h : P d G) : UpV K P d G := ⟨d, G, .refl, h⟩
end
section
variable {X : Cx} {Wx : WX}
/-! ### isinstance of a built-in class -/
def isA (T : String) : D → Option Bool
  | .non => kitB "NoneType" T
  | .bl _ => kitB "bool" T
  | .int _ => kitB "int" T
  | .str _ => kitB "str" T
  | .tup _ => kitB "tuple" T
  | .lst _ => kitB "list" T
  | .scr _ => kitB "list" T
  | .ref _ => none
def isInt3 : D → Bool | .int _ => true | .bl _ => true | _ => false
def isBool3 : D → Bool | .bl _ => true | _ => false
def isStr3 : D → Bool | .str _ => true | _ => false
def isTup3 : D → Bool | .tup _ => true | _ => false
def isList3 : D → Bool | .lst _ => true | .scr _ => true | _ => false
/-- p tells of a value whether it is of the class T -/
structure IsT (T : String) (p : D → Bool) : Prop where
  non : kitB "NoneType" T = some (p .non)
  bl : ∀ b, kitB "bool" T = some (p (.bl b))
  int : ∀ b, kitB "int" T = some (p (.int b))
  str : ∀ b, kitB "str" T = some (p (.str b))
  tup : ∀ b, kitB "tuple" T = some (p (.tup b))
  lst : ∀ b, kitB "list" T = some (p (.lst b))
  scr : ∀ b, kitB "list" T = some (p (.scr b))
theorem isT_int : IsT "int" isInt3 := ⟨by decide +kernel, fun _ => (by decide +kernel : kitB "bool" "int" = some true), fun _ => (by decide +kernel : kitB "int" "int" = some true), fun _ => (by decide +kernel : kitB "str" "int" = some false), fun _ => (by decide +kernel : kitB "tuple" "int" = some false), fun _ => (by decide +kernel : kitB "list" "int" = some false), fun _ => (by decide +kernel : kitB "list" "int" = some false)⟩
theorem isT_bool : IsT "bool" isBool3 := ⟨by decide +kernel, fun _ => (by decide +kernel : kitB "bool" "bool" = some true), fun _ => (by decide +kernel : kitB "int" "bool" = some false), fun _ => (by decide +kernel : kitB "str" "bool" = some false), fun _ => (by decide +kernel : kitB "tuple" "bool" = some false), fun _ => (by decide +kernel : kitB "list" "bool" = some false), fun _ => (by decide +kernel : kitB "list" "bool" = some false)⟩
theorem isT_str : IsT "str" isStr3 := ⟨by decide +kernel, fun _ => (by decide +kernel : kitB "bool" "str" = some false), fun _ => (by decide +kernel : kitB "int" "str" = some false), fun _ => (by decide +kernel : kitB "str" "str" = some true), fun _ => (by decide +kernel : kitB "tuple" "str" = some false), fun _ => (by decide +kernel : kitB "list" "str" = some false), fun _ => (by decide +kernel : kitB "list" "str" = some false)⟩
theorem isT_tup : IsT "tuple" isTup3 := ⟨by decide +kernel, fun _ => (by decide +kernel : kitB "bool" "tuple" = some false), fun _ => (by decide +kernel : kitB "int" "tuple" = some false), fun _ => (by decide +kernel : kitB "str" "tuple" = some false), fun _ => (by decide +kernel : kitB "tuple" "tuple" = some true), fun _ => (by decide +kernel : kitB "list" "tuple" = some false), fun _ => (by decide +kernel : kitB "list" "tuple" = some false)⟩
theorem isT_list : IsT "list" isList3 := ⟨by decide +kernel, fun _ => (by decide +kernel : kitB "bool" "list" = some false), fun _ => (by decide +kernel : kitB "int" "list" = some false), fun _ => (by decide +kernel : kitB "str" "list" = some false), fun _ => (by decide +kernel : kitB "tuple" "list" = some false), fun _ => (by decide +kernel : kitB "list" "list" = some true), fun _ => (by decide +kernel : kitB "list" "list" = some true)⟩
def isi3 (p : D → Bool) : U3 := fun x G Q => match x with
  | .ref a => ∃ ds, (a, DO.lst ds) ∈ G ∧ Q (.bl (p (.lst ds))) G
  | x => Q (.bl (p x)) G
theorem isi_ok {K : PySem.W.Frag} {W : Wd} {T : String} {p : D → Bool} (hT : IsT T p) {x : D} {G : G3} {Q3 : VK3} {x' : V} {H : Hp} {Q : VK} (S : Sim K W G H) (rx : Rl W x x') (h : isi3 p x G Q3) (q : OkQ K W Q3 Q) : rIsi K [x', .ty T] H Q := by
  have fin : ∀ {t : String} {b : Bool}, TyX K H x' (.type t) → kitB t T = some b → Q3 (.bl b) G → rIsi K [x', .ty T] H Q := fun {t b} ty hk h => ⟨x', .ty T, .type t, .type T, b, rfl, .ty T, ty, kit_ty hk, q.run _ (.bl b) _ _ _ (.refl _) S rfl h⟩
  cases x with
  | non => cases rx; exact fin (.base .non) hT.non h
  | bl b => cases rx; exact fin (.base (.bl b)) (hT.bl b) h
  | int b => cases rx; exact fin (.base (.int b)) (hT.int b) h
  | str b => cases rx; exact fin (.base (.str b)) (hT.str b) h
  | tup ds =>
    obtain ⟨a, vs, rfl, l, r⟩ := rx
    rcases S.ft _ _ l with (e | ⟨o, e⟩) | ⟨o, its, n, e, c, _⟩
    · exact fin (.base (.tup e)) (hT.tup ds) h
    · exact fin (.fTuple e) (hT.tup ds) h
    · exact fin (.kTuple e c) (hT.tup ds) h
  | lst ds =>
    obtain ⟨a, vs, rfl, l, r⟩ := rx
    exact fin (.base (.lst (S.fl _ _ l).2)) (hT.lst ds) h
  | scr ns =>
    obtain ⟨a, rfl, l⟩ := rx
    rcases S.fs _ _ l with ⟨o, e⟩ | ⟨o, its, n, e, c, _⟩
    · exact fin (.base (.frz e)) (hT.scr ns) h
    · exact fin (.kList e c) (hT.scr ns) h
  | ref a =>
    obtain ⟨ds, hm, h⟩ := h
    cases rx
    obtain ⟨vs, e, r⟩ := S.ob _ _ hm
    exact fin (.base (.lst e)) (hT.lst ds) h
section
variable {e o : Expr} {es : List Expr} {x m f : Str} {p pos apos : Pos} {te ta : TE3} {tr : TA3}
theorem e_isi {T : String} {q : D → Bool} (hT : IsT T q) {p2 : Pos} {y : Str} (hg : Gl X "isinstance") (hm : X.mg "isinstance" = none) (hgy : Gl X y) (hmy : X.mg y = none) (hvy : bootBuiltins y = some (.type T)) (ha : PE X e (lowE X.K Wx te))
    (hny : y ≠ "__name__" := by decide) (hdy : (y == ("__debug__" : Str)) = false := by decide) (hv : bootBuiltins "isinstance" = some (.builtin "isinstance") := by decide +kernel)
    (he : starEach [e, .Name y p2] X.env = (false, eval e X.env) :: starEach [.Name y p2] X.env := by rfl) (he2 : starEach [.Name y p2] X.env = (false, eval (.Name y p2) X.env) :: starEach [] X.env := by rfl) (hpl : (backTo pos (starEach [.Name y p2] X.env)).any (·.1) = false := by rfl) :
    PE X (.Call (.Name "isinstance" p) [e, .Name y p2] [] pos) (lowE X.K Wx (un3 (isi3 q) te)) := by
  refine (pe_callB call_isi hg hm hv (pa_cons ha (pa_cons (pe_bltn (v := .ty T) hgy hmy hvy rfl hny hdy) pa_nil he2) he) (by decide) (by decide) he hpl).imp3 ?_
  rintro σ H Q ⟨σ3, W, G, Q3, E3, R, S, h, q, e⟩
  exact ⟨σ3, W, G, _, E3, R, S, h, ⟨fun W1 x G1 x' H1 l1 S1 r1 h1 => isi_ok hT S1 r1 h1 (q.mono l1)⟩, e⟩
/-! ### own functions -/
abbrev Sp3 := List D → G3 → VK3 → (Addr → G3 → Prop) → Prop
def lowSp (K : PySem.W.Frag) (sp : Sp3) : Sp := fun vs H Q E => ∃ ds W G Q3 E3, RlL W ds vs ∧ Sim K W G H ∧ sp ds G Q3 E3 ∧ OkQ K W Q3 Q ∧ ∀ C W' G' H', W.le W' → Sim K W' G' H' → E3 C G' → E (.ref C) none H'
def fn3 (sp : Sp3) (ta : TA3) : TE3 := fun σ G Q E => ta σ G (fun ds G1 => sp ds G1 Q (fun C G2 => E C σ G2)) E
theorem low_fn {K : PySem.W.Frag} {sp : Sp3} {tr : TA3} {σ : St} {H : Hp} {Q : VK} : lowE K Wx (fn3 sp tr) σ H Q → tCallS (lowSp K sp) (WE Wx) (lowA K Wx tr) σ H Q := by
  rintro ⟨σ3, W, G, Q3, E3, R, S, h, q, e⟩
  refine ⟨σ3, W, G, _, E3, R, S, h, ⟨fun W1 ds G1 vs H1 l1 S1 r1 h1 => ?_⟩, e⟩
  exact ⟨ds, W1, G1, Q3, _, r1, S1, h1, q.mono l1, fun C W' G' H' l' S' e' => e.run C W' σ3 G' σ H' (l1.trans l') (R.mono (l1.trans l')) S' e'⟩
variable {k : Nat} {fa C : Addr} {fd : FuncData} {ps : List Str} {sp : Sp3}
theorem e_fn (F : FnOk X.prog X.w X.K X.mg X.base (L2.CX X.prog X.w) k fa fd ps (lowSp X.K sp)) (hr : Room k X.A) (hg : Gl X x) (hm : X.mg x = some (.ref fa)) (hk : PySem.W.keepIn X.K (.ref fa) = true) (hb : Binds X.K fd ps []) (tk : Takes X Wx)
    (ha : PA X (e :: es) (lowA X.K Wx tr)) (hdb : (x == ("__debug__" : Str)) = false := by decide) (he : starEach (e :: es) X.env = (false, eval e X.env) :: starEach es X.env := by rfl) (hpl : (backTo pos (starEach es X.env)).any (·.1) = false := by rfl) :
    PE X (.Call (.Name x p) (e :: es) [] pos) (lowE X.K Wx (fn3 sp tr)) := (pe_callS F hr hg hm hk hb (fun σ => passAt tk σ) ha hdb he hpl).imp3 fun _ _ _ => low_fn
/-! ### methods, fields of own objects -/
def memI (G : G3) (a C : Addr) (fs : List (Str × D)) : Prop := (a, DO.ins C fs) ∈ G
theorem RlK.lookup {W : Wd} {f : Str} : ∀ {fs : List (Str × D)} {vs : List (Str × V)}, RlK W fs vs → (fs.lookup f = none → vs.lookup f = none) ∧ ∀ d, fs.lookup f = some d → ∃ v, vs.lookup f = some v ∧ Rl W d v
  | _, _, .nil => ⟨fun _ => rfl, fun d h => by simp at h⟩
  | _, _, .cons (a := a) (b := b) r t => by
    obtain ⟨e1, e2⟩ := r
    obtain ⟨h1, h2⟩ := RlK.lookup (f := f) t
    obtain ⟨ka, va⟩ := a
    obtain ⟨kb, vb⟩ := b
    simp only at e1 e2
    subst e1
    simp only [List.lookup]
    cases hf : f == ka with
    | true => exact ⟨fun z => by simp at z, fun d z => ⟨vb, rfl, by cases z; exact e2⟩⟩
    | false => exact ⟨h1, h2⟩
def meth3 (C : Addr) (m : Str) (sp : Sp3) (ta : TE3) (tr : TA3) : TE3 := fun σ G Q E => ta σ G (fun x G1 => match x with
  | .ref a => ∃ fs, (a, DO.ins C fs) ∈ G1 ∧ fs.lookup m = none ∧ tr σ G1 (fun ds G2 => sp (.ref a :: ds) G2 Q (fun C G2 => E C σ G2)) E
  | _ => False) E
def tMethW (C : Addr) (m : Str) (sp : Sp) (E : St → XK) (ta : TE) (t : TA) : TE := fun σ H Q => ta σ H fun x H1 => ∃ a dx fs, x = .ref a ∧ H1 a = some (.ins C dx fs) ∧ fs.lookup m = none ∧ t σ H1 fun vs H2 => sp (x :: vs) H2 Q (E σ)
theorem pe_methW {CX : CXT} {sp : Sp} {E : St → XK} {ta : TE} {t : TA} {pl : Sem Bool} (he : PE X o ta) (c : Cls X.K C) (hm : Meth X.K C m fa) (F : FnOk X.prog X.w X.K X.mg X.base CX k fa fd ps sp) (hr : Room k X.A) (hb : Binds X.K fd ps []) (hx : ∀ σ, PassesAt CX X σ (E σ)) (ha : PA X (e :: es) t)
    (hst : starEach (e :: es) X.env = (false, eval e X.env) :: starEach es X.env := by rfl) (hpl : (backTo pos (starEach es X.env)).any (·.1) = false := by rfl)
    (ht : eval (.Call (.Attribute o m apos) (e :: es) [] pos) X.env = (do
      let ov ← eval o X.env
      standAt apos.atName
      let (f, first) ← holding [ov] (getMethod ov m pl)
      callWith pos f first (backTo pos (starEach (e :: es) X.env)) (backToKw pos (keywordEach [] X.env))) := by rfl) :
    PE X (.Call (.Attribute o m apos) (e :: es) [] pos) (tMethW C m sp E ta t) := by
  refine ⟨fun pins s σ H Q I h => ?_⟩
  refine PySem.W.methodCall_KW (pl := pl) (thn (he.run pins s σ H _ I h) fun u s1 ⟨x, H1, I1, rx, a, dx, fs, ex, ea, l, q⟩ => ?_) ht
  subst ex
  obtain rfl : u = Value.ref a := rx
  refine getmeth_ok I1 ea c hm l ?_
  refine PySem.W.callWith_K (first := [.ref a]) (h₀ := X.base) I.ok.mod.kin hm.kp (thn (ha.run pos pins s1 σ H1 _ I1 q) fun us s2 ⟨vs, H2, I2, r, q2⟩ => ⟨I2.kIn, ?_⟩) hst hpl
  exact run_fnS (E := E) (us := .ref a :: us) (vs := .ref a :: vs) F hr hb (hx σ) I2 (.cons rfl r) q2
theorem pe_methW0 {CX : CXT} {sp : Sp} {E : St → XK} {ta : TE} {pl : Sem Bool} (he : PE X o ta) (c : Cls X.K C) (hm : Meth X.K C m fa) (F : FnOk X.prog X.w X.K X.mg X.base CX k fa fd ps sp) (hr : Room k X.A) (hb : Binds X.K fd ps []) (hx : ∀ σ, PassesAt CX X σ (E σ))
    (ht : eval (.Call (.Attribute o m apos) [] [] pos) X.env = (do
      let ov ← eval o X.env
      standAt apos.atName
      let (f, first) ← holding [ov] (getMethod ov m pl)
      callWith pos f first (backTo pos (starEach [] X.env)) (backToKw pos (keywordEach [] X.env))) := by rfl) :
    PE X (.Call (.Attribute o m apos) [] [] pos) (tMethW C m sp E ta tNil) := by
  refine ⟨fun pins s σ H Q I h => ?_⟩
  refine PySem.W.methodCall_KW (pl := pl) (thn (he.run pins s σ H _ I h) fun u s1 ⟨x, H1, I1, rx, a, dx, fs, ex, ea, l, q⟩ => ?_) ht
  subst ex
  obtain rfl : u = Value.ref a := rx
  refine getmeth_ok I1 ea c hm l ?_
  exact PySem.W.callWith_K0 (first := [.ref a]) I1.kIn hm.kp (run_fnS (E := E) (us := [.ref a]) (vs := [.ref a]) F hr hb (hx σ) I1 (.cons rfl .nil) q)
theorem low_meth {K : PySem.W.Frag} {C : Addr} {m : Str} {sp : Sp3} {ta : TE3} {tr : TA3} {σ : St} {H : Hp} {Q : VK} : lowE K Wx (meth3 C m sp ta tr) σ H Q → tMethW C m (lowSp K sp) (WE Wx) (lowE K Wx ta) (lowA K Wx tr) σ H Q := by
  rintro ⟨σ3, W, G, Q3, E3, R, S, h, q, e⟩
  refine ⟨σ3, W, G, _, E3, R, S, h, ⟨fun W1 x G1 x' H1 l1 S1 r1 h1 => ?_⟩, e⟩
  cases x with
  | ref a =>
    obtain ⟨fs, hm, hl, h1⟩ := h1
    cases r1
    obtain ⟨dx, vs, e1, rk⟩ := S1.ob _ _ hm
    refine ⟨a, dx, vs, rfl, e1, (RlK.lookup rk).1 hl, ?_⟩
    refine ⟨σ3, W1, G1, _, E3, R.mono l1, S1, h1, ⟨fun W2 ds G2 vs H2 l2 S2 r2 h2 => ?_⟩, e.mono l1⟩
    exact ⟨.ref a :: ds, W2, G2, Q3, _, ⟨_, _, rfl, rfl, r2⟩, S2, h2, q.mono (l1.trans l2), fun C W' G' H' l' S' e' => e.run C W' σ3 G' σ H' ((l1.trans l2).trans l') (R.mono ((l1.trans l2).trans l')) S' e'⟩
  | _ => exact h1.elim
theorem e_meth {pl : Sem Bool} (ho : PE X o (lowE X.K Wx ta)) (c : Cls X.K C) (hm : Meth X.K C m fa) (F : FnOk X.prog X.w X.K X.mg X.base (L2.CX X.prog X.w) k fa fd ps (lowSp X.K sp)) (hr : Room k X.A) (hb : Binds X.K fd ps []) (tk : Takes X Wx) (ha : PA X (e :: es) (lowA X.K Wx tr))
    (hst : starEach (e :: es) X.env = (false, eval e X.env) :: starEach es X.env := by rfl) (hpl : (backTo pos (starEach es X.env)).any (·.1) = false := by rfl)
    (ht : eval (.Call (.Attribute o m apos) (e :: es) [] pos) X.env = (do
      let ov ← eval o X.env
      standAt apos.atName
      let (f, first) ← holding [ov] (getMethod ov m pl)
      callWith pos f first (backTo pos (starEach (e :: es) X.env)) (backToKw pos (keywordEach [] X.env))) := by rfl) :
    PE X (.Call (.Attribute o m apos) (e :: es) [] pos) (lowE X.K Wx (meth3 C m sp ta tr)) := (pe_methW ho c hm F hr hb (fun σ => passAt tk σ) ha hst hpl ht).imp3 fun _ _ _ => low_meth
theorem e_meth0 {pl : Sem Bool} (ho : PE X o (lowE X.K Wx ta)) (c : Cls X.K C) (hm : Meth X.K C m fa) (F : FnOk X.prog X.w X.K X.mg X.base (L2.CX X.prog X.w) k fa fd ps (lowSp X.K sp)) (hr : Room k X.A) (hb : Binds X.K fd ps []) (tk : Takes X Wx)
    (ht : eval (.Call (.Attribute o m apos) [] [] pos) X.env = (do
      let ov ← eval o X.env
      standAt apos.atName
      let (f, first) ← holding [ov] (getMethod ov m pl)
      callWith pos f first (backTo pos (starEach [] X.env)) (backToKw pos (keywordEach [] X.env))) := by rfl) :
    PE X (.Call (.Attribute o m apos) [] [] pos) (lowE X.K Wx (meth3 C m sp ta nil3)) := by
  refine (pe_methW0 ho c hm F hr hb (fun σ => passAt tk σ) ht).imp3 fun σ H Q h => ?_
  have h2 := low_meth h
  obtain ⟨σ3, W, G, Q3, E3, R, S, h, q, e⟩ := h2
  refine ⟨σ3, W, G, Q3, E3, R, S, h, ⟨fun W1 x G1 x' H1 l1 S1 r1 h1 => ?_⟩, e⟩
  obtain ⟨a, dx, fs, rfl, e1, e2, σ4, W4, G4, Q4, E4, R4, S4, h4, q4, e4⟩ := q.run _ _ _ _ _ l1 S1 r1 h1
  exact ⟨a, dx, fs, rfl, e1, e2, q4.run _ [] _ _ _ (.refl _) S4 rfl h4⟩
/-- C(): a new object, then __init__ -/
def make3 (C : Addr) (sp : Sp3) : TE3 := fun σ G Q E => ∀ p, sp [.ref p] ((p, .ins C []) :: G) (fun d G1 => d = .non ∧ Q (.ref p) G1) (fun _ _ => False)
theorem e_make0 {f : Addr} (M : Mk X.K C f) (F : FnOk X.prog X.w X.K X.mg X.base (L2.CX X.prog X.w) k f fd ps (lowSp X.K sp)) (hr : Room (k + 1) X.A) (hg : Gl X x) (hm : X.mg x = some (.ref C)) (hb : Binds X.K fd ps [])
    (hdb : (x == ("__debug__" : Str)) = false := by decide) : PE X (.Call (.Name x p) [] [] pos) (lowE X.K Wx (make3 C sp)) := by
  refine (pe_make0 M F hr hg hm hb .nil passL hdb).imp3 ?_
  rintro σ H Q ⟨σ3, W, G, Q3, E3, R, S, h, q, e⟩
  intro x dx hx hdx hne
  have S1 : Sim X.K W G (upd H dx (.own x)) := S.junk hdx
  have hx1 : (upd H dx (.own x)) x = none := by rw [upd_ne (Ne.symm hne)]; exact hx
  have S2 : Sim X.K W ((x, .ins C []) :: G) (upd (upd H dx (.own x)) x (.ins C dx [])) := S1.newO (o := .ins C []) hx1 ⟨dx, [], upd_same, .nil⟩
  refine ⟨[.ref x], W, _, _, _, ⟨_, _, rfl, rfl, rfl⟩, S2, h x, ⟨fun W' d G' v H' l' S' r' h' => ?_⟩, fun _ _ _ _ _ _ h => h.elim⟩
  obtain ⟨rfl, h'⟩ := h'
  cases r'
  exact ⟨rfl, q.run _ (.ref x) _ _ _ l' S' rfl h'⟩
/-- o.f -/
def fld3 (K : PySem.W.Frag) (f : Str) (ta : TE3) : TE3 := fun σ G Q E => ta σ G (fun x G1 => match x with
  | .ref a => ∃ C fs d, (a, DO.ins C fs) ∈ G1 ∧ (Cls K C ∧ NoAttr K C f) ∧ fs.lookup f = some d ∧ Q d G1
  | _ => False) E
theorem e_fld (ho : PE X o (lowE X.K Wx ta)) (hb : attributeBase o f X.env (eval o X.env) = eval o X.env := by rfl) : PE X (.Attribute o f pos) (lowE X.K Wx (fld3 X.K f ta)) := by
  refine (pe_fld ho hb).imp3 ?_
  rintro σ H Q ⟨σ3, W, G, Q3, E3, R, S, h, q, e⟩
  refine ⟨σ3, W, G, _, E3, R, S, h, ⟨fun W1 x G1 x' H1 l1 S1 r1 h1 => ?_⟩, e⟩
  cases x with
  | ref a =>
    obtain ⟨C, fs, d, hm, ⟨hc, hn⟩, hl, h1⟩ := h1
    cases r1
    obtain ⟨dx, vs, e1, rk⟩ := S1.ob _ _ hm
    obtain ⟨v, e2, rv⟩ := (RlK.lookup rk).2 d hl
    exact ⟨a, C, dx, vs, v, rfl, e1, hc, hn, e2, q.run _ _ _ _ _ l1 S1 rv h1⟩
  | _ => exact h1.elim
end
end
end T3

namespace T3
open PySem L2
section
variable {X : Cx} {Wx : WX}
/-! ### targets -/
abbrev TG3 := D → St3 → G3 → (St3 → G3 → Prop) → Prop
def lowG (K : PySem.W.Frag) (g : TG3) : TG := fun v σ H Q => ∃ σ3 W G d Q3, RepS W σ3 σ ∧ Sim K W G H ∧ Rl W d v ∧ g d σ3 G Q3 ∧ OkN K W Q3 Q
theorem _root_.L2.PG.imp3 {X : Cx} {e : Expr} {t t' : TG} (h : PG X e t) (m : ∀ v σ H Q, t' v σ H Q → t v σ H Q) : PG X e t' := ⟨fun pins s σ H v u Q I r q => h.run pins s σ H v u Q I r (m v σ H Q q)⟩
def name3 (i : Nat) : TG3 := fun d σ G Q => Q (σ.set i (some d)) G
theorem g_name {e : Expr} {i : Nat} (h : PG X e (gName i)) : PG X e (lowG X.K (name3 i)) := by
  refine h.imp3 ?_
  rintro v σ H Q ⟨σ3, W, G, d, Q3, R, S, r, h, q⟩
  exact q.run _ _ _ _ _ (.refl _) (R.set i r) S h
/-- a, b = a pair -/
def pair3 (i j : Nat) : TG3 := fun d σ G Q => match d with
  | .tup [x, y] => Q ((σ.set i (some x)).set j (some y)) G
  | _ => False
theorem g_pair {e : Expr} {i j : Nat} (h : PG X e (gTup X.K 2 (gCons (gName i) (gCons (gName j) gNil)))) : PG X e (lowG X.K (pair3 i j)) := by
  refine h.imp3 ?_
  rintro v σ H Q ⟨σ3, W, G, d, Q3, R, S, r, h, q⟩
  match d, r, h with
  | .tup [x, y], ⟨a, vs, e, l, v1, _, e1, r1, v2, _, e2, r2, e3⟩, h =>
    cases (show _ = [] from e3)
    subst e2 e1 e
    exact ⟨a, _, rfl, S.ft _ _ l, rfl, _, _, rfl, _, _, rfl, rfl, q.run _ _ _ _ _ (.refl _) ((R.set i r1).set j r2) S h⟩
  | .non, _, h => exact h.elim
  | .bl _, _, h => exact h.elim
  | .int _, _, h => exact h.elim
  | .str _, _, h => exact h.elim
  | .ref _, _, h => exact h.elim
  | .lst _, _, h => exact h.elim
  | .scr _, _, h => exact h.elim
  | .tup [], _, h => exact h.elim
  | .tup [_], _, h => exact h.elim
  | .tup (_ :: _ :: _ :: _), _, h => exact h.elim
/-! ### statements -/
def asg3 (te : TE3) (g : TG3) : TS3 := fun D σ G => te σ G (fun x G1 => g x σ G1 D.nx) D.ex
theorem s_asg {st : Stmt} {te : TE3} {i : Nat} (h : PS X st (tAsg (lowE X.K Wx te) (gName i))) : PS X st (lowS X.K Wx (asg3 te (name3 i))) := by
  refine h.imp3 ?_
  rintro D σ H ⟨σ3, W, G, D3, R, S, h, k⟩
  refine ⟨σ3, W, G, _, _, R, S, h, ⟨fun W1 x G1 x' H1 l1 S1 r1 h1 => ?_⟩, k.ex⟩
  exact k.nx.run _ _ _ _ _ l1 ((R.mono l1).set i r1) S1 h1
/-- x = [.. for ..] -/
theorem asg_imp {st : Stmt} {t t' : TE} {g : TG} (h : PS X st (tAsg t g)) (m : ∀ σ H Q, t' σ H Q → t σ H Q) : PS X st (tAsg t' g) := h.imp3 fun D σ H q => m _ _ _ q
def drop3 (te : TE3) : TS3 := fun D σ G => te σ G (fun _ G1 => D.nx σ G1) D.ex
theorem s_expr {e : Expr} {te : TE3} {pos : Pos} (he : PE X e (lowE X.K Wx te)) (hs : swapsWith e none pos.line X.env = pure false := by rfl) : PS X (.Expr e pos) (lowS X.K Wx (drop3 te)) := by
  refine (ps_expr he hs).imp3 ?_
  rintro D σ H ⟨σ3, W, G, D3, R, S, h, k⟩
  exact ⟨σ3, W, G, _, _, R, S, h, ⟨fun W1 x G1 x' H1 l1 S1 r1 h1 => k.nx.run _ _ _ _ _ l1 (R.mono l1) S1 h1⟩, k.ex⟩
def ret3 (te : TE3) : TS3 := fun D σ G => te σ G D.rt D.ex
theorem s_ret {e : Expr} {te : TE3} {pos : Pos} (he : PE X e (lowE X.K Wx te)) : PS X (.Return (some e) pos) (lowS X.K Wx (ret3 te)) := by
  refine (ps_ret he).imp3 ?_
  rintro D σ H ⟨σ3, W, G, D3, R, S, h, k⟩
  exact ⟨σ3, W, G, _, _, R, S, h, k.rt, k.ex⟩
def next3 : TS3 := fun D σ G => D.nx σ G
def seq3 (t u : TS3) : TS3 := fun D σ G => t { D with nx := u D } σ G
theorem b_nil : PSs X [] (lowS X.K Wx next3) := by
  refine pss_nil.imp3 ?_
  rintro D σ H ⟨σ3, W, G, D3, R, S, h, k⟩
  exact k.nx.run _ _ _ _ _ (.refl _) R S h
theorem b_cons {st : Stmt} {rest : List Stmt} {t u : TS3} (h1 : PS X st (lowS X.K Wx t)) (h2 : PSs X rest (lowS X.K Wx u)) : PSs X (st :: rest) (lowS X.K Wx (seq3 t u)) := by
  refine (pss_cons h1 h2).imp3 ?_
  rintro D σ H ⟨σ3, W, G, D3, R, S, h, k⟩
  refine ⟨σ3, W, G, { D3 with nx := u D3 }, R, S, h, ⟨⟨fun W1 σ1 G1 σ' H1 l1 R1 S1 h1 => ?_⟩, k.rt, k.bk, k.ct, k.ex⟩⟩
  exact ⟨σ1, W1, G1, D3, R1, S1, h1, k.mono l1⟩
theorem b_one {st : Stmt} {t : TS3} (h1 : PS X st (lowS X.K Wx t)) : PSs X [st] (lowS X.K Wx t) := pss_one h1
/-- the state told anew behind a statement -/
def wk3 (K : PySem.W.Frag) (t : TS3) : TS3 := fun D σ G => t { D with nx := Up K D.nx } σ G
theorem s_wk {st : Stmt} {t : TS3} (h : PS X st (lowS X.K Wx t)) : PS X st (lowS X.K Wx (wk3 X.K t)) := by
  refine h.imp3 ?_
  rintro D σ H ⟨σ3, W, G, D3, R, S, h, k⟩
  refine ⟨σ3, W, G, { D3 with nx := Up X.K D3.nx }, R, S, h, ⟨⟨fun W1 σ1 G1 σ' H1 l1 R1 S1 h1 => ?_⟩, k.rt, k.bk, k.ct, k.ex⟩⟩
  obtain ⟨σ2, G2, w, h2⟩ := h1
  obtain ⟨W2, l2, R2, S2⟩ := w _ _ _ R1 S1
  exact k.nx.run _ _ _ _ _ (l1.trans l2) R2 S2 h2
def if3 (c : TT3) (t u : TS3) : TS3 := fun D σ G => c σ G (fun b G1 => if b = true then t D σ G1 else u D σ G1) D.ex
theorem s_if {c : Expr} {a b : List Stmt} {tc : TT3} {t u : TS3} {pos : Pos} (hc : PT X c (lowT X.K Wx tc)) (ha : PSs X a (lowS X.K Wx t)) (hb : PSs X b (lowS X.K Wx u)) : PS X (.If c a b pos) (lowS X.K Wx (if3 tc t u)) := by
  refine (ps_if hc ha hb).imp3 ?_
  rintro D σ H ⟨σ3, W, G, D3, R, S, h, k⟩
  refine ⟨σ3, W, G, _, _, R, S, h, ⟨fun W1 b G1 H1 l1 S1 h1 => ?_⟩, k.ex⟩
  cases b with
  | true => rw [if_pos rfl] at h1 ⊢; exact ⟨σ3, W1, G1, D3, R.mono l1, S1, h1, k.mono l1⟩
  | false => rw [if_neg Bool.false_ne_true] at h1 ⊢; exact ⟨σ3, W1, G1, D3, R.mono l1, S1, h1, k.mono l1⟩
def never3 : TS3 := fun _ _ _ => False
theorem s_never {st : Stmt} : PS X st (lowS X.K Wx never3) := ps_never.imp3 fun D σ H ⟨_, _, _, _, _, _, h, _⟩ => h.elim
theorem b_never {st : List Stmt} : PSs X st (lowS X.K Wx never3) := pss_never.imp3 fun D σ H ⟨_, _, _, _, _, _, h, _⟩ => h.elim
theorem s_pass {pos : Pos} : PS X (.Pass pos) (lowS X.K Wx next3) := by
  refine ps_pass.imp3 ?_
  rintro D σ H ⟨σ3, W, G, D3, R, S, h, k⟩
  exact k.nx.run _ _ _ _ _ (.refl _) R S h
/-! ### xs.append(e), xs.clear() -/
def app3 (ta te : TE3) : TE3 := fun σ G Q E => ta σ G (fun x G1 => match x with
  | .ref a => (∃ ds, (a, DO.lst ds) ∈ G1) ∧ te σ G1 (fun y G2 => ∃ ds G3, Put a (.lst ds) (.lst (ds ++ [y])) G2 G3 ∧ ds.length < sizeLine ∧ Q .non G3) E
  | _ => False) E
theorem e_append {o : Expr} {ta te : TE3} (hm : PE X o (tBM X.K "list" rAppend (lowE X.K Wx ta) (tCons (lowE X.K Wx te) tNil))) : PE X o (lowE X.K Wx (app3 ta te)) := by
  refine hm.imp3 ?_
  rintro σ H Q ⟨σ3, W, G, Q3, E3, R, S, h, q, e⟩
  refine ⟨σ3, W, G, _, E3, R, S, h, ⟨fun W1 x G1 x' H1 l1 S1 r1 h1 => ?_⟩, e⟩
  cases x with
  | ref a =>
    obtain ⟨⟨ds, hm⟩, h1⟩ := h1
    cases r1
    obtain ⟨vs, e1, _⟩ := S1.ob _ _ hm
    refine ⟨.inl ⟨rfl, _, SqL.of e1⟩, ?_⟩
    refine ⟨σ3, W1, G1, _, E3, R.mono l1, S1, h1, ⟨fun W2 y G2 y' H2 l2 S2 r2 h2 => ?_⟩, e.mono l1⟩
    obtain ⟨es, G3, p, hz, h2⟩ := h2
    obtain ⟨us, e2, ru⟩ := S2.ob _ _ p.mem
    refine ⟨a, us, y', rfl, rfl, e2, by rw [← ru.length]; exact hz, ?_⟩
    exact q.run _ .non _ _ _ (l1.trans l2) (S2.put (o' := .lst (es ++ [y])) p ⟨_, upd_same, ru.append (RlL.one r2)⟩) rfl h2
  | _ => exact h1.elim
/-! ### what is walked -/
abbrev TI3 := St3 → G3 → (List D → (G3 → Prop) → G3 → Prop) → EX3 → Prop
structure WalkOk (K : PySem.W.Frag) (W : Wd) (xs : List D) (Std : G3 → Prop) (J : It) : Prop where
  goes : ∀ i W' G H, W.le W' → Sim K W' G H → Std G → i < xs.length → J.go i H
  stops : ∀ W' G H, W.le W' → Sim K W' G H → Std G → J.stop xs.length H
  yields : ∀ i W' G H x H', W.le W' → Sim K W' G H → Std G → i < xs.length → J.yld i H x H' → ∃ W'' d, W'.le W'' ∧ xs[i]? = some d ∧ Sim K W'' G H' ∧ Rl W'' d x
def lowI (K : PySem.W.Frag) (Wx : WX) (src : TI3) : TI := fun σ H R => ∃ σ3 W G R3 E3, RepS W σ3 σ ∧ Sim K W G H ∧ src σ3 G R3 E3 ∧ OkE K W E3 Wx ∧ ∀ W' xs Std G' J H', W.le W' → Sim K W' G' H' → R3 xs Std G' → WalkOk K W' xs Std J → R J H'
theorem _root_.L2.PI.imp3 {X : Cx} {tg e : Expr} {t t' : TI} (h : PI X tg e t) (m : ∀ σ H Q, t' σ H Q → t σ H Q) : PI X tg e t' := ⟨fun pins s σ H Q I q => h.run pins s σ H Q I (m σ H Q q)⟩
/-- a list that is walked, by its items -/
def Lw (G : G3) : D → List D → Prop
  | .lst ds, es => es = ds
  | .scr ns, es => es = ns.map D.int
  | .ref a, es => (a, DO.lst es) ∈ G
  | _, _ => False
theorem Lw.sql {K : PySem.W.Frag} {W : Wd} {G : G3} {H : Hp} {x : D} {a : Addr} {ds : List D} (h : Lw G x ds) (S : Sim K W G H) (r : Rl W x (.ref a)) : ∃ vs, SqL K H a vs ∧ RlL W ds vs := by
  cases x with
  | lst es => cases h; obtain ⟨b, vs, e, l, r⟩ := r; cases e; exact ⟨vs, S.sql l, r⟩
  | scr ns => cases h; obtain ⟨b, e, l⟩ := r; cases e; exact ⟨_, S.sqs l, RlL.of_ints ns⟩
  | ref b => cases r; obtain ⟨vs, e, r⟩ := S.ob _ _ h; exact ⟨vs, SqL.of e, r⟩
  | _ => exact h.elim
theorem Lw.ref {W : Wd} {G : G3} {x : D} {v : V} {ds : List D} (h : Lw G x ds) (r : Rl W x v) : ∃ a, v = .ref a := by
  cases x with
  | lst es => obtain ⟨b, vs, e, l, r⟩ := r; exact ⟨b, e⟩
  | scr ns => obtain ⟨b, e, l⟩ := r; exact ⟨b, e⟩
  | ref b => exact ⟨b, r⟩
  | _ => exact h.elim
theorem Ls.lw {G : G3} {x : D} {ds : List D} (h : Ls G x ds) : Lw G x ds := by
  cases x <;> first | exact h | exact h.elim
/-- a list -/
def il3 (te : TE3) : TI3 := fun σ G R E => te σ G (fun x G1 => ∃ ds, Lw G1 x ds ∧ R ds (fun G => Lw G x ds) G1) E
theorem i_list {tg e : Expr} {te : TE3} (he : PE X e (lowE X.K Wx te)) : PI X tg e (lowI X.K Wx (il3 te)) := by
  refine (pi_list he).imp3 ?_
  rintro σ H Q ⟨σ3, W, G, R3, E3, R, S, h, e, k⟩
  refine ⟨σ3, W, G, _, E3, R, S, h, ⟨fun W1 x G1 x' H1 l1 S1 r1 h1 => ?_⟩, e⟩
  obtain ⟨ds, hx, h1⟩ := h1
  obtain ⟨a, rfl⟩ := hx.ref r1
  obtain ⟨vs, e1, r⟩ := hx.sql S1 r1
  refine ⟨a, rfl, ⟨vs, e1⟩, k W1 ds _ G1 _ H1 l1 S1 h1 ⟨fun i W' G' H' l' S' hs hi => ?_, fun W' G' H' l' S' hs => ?_, fun i W' G' H' x H'' l' S' hs hi y => ?_⟩⟩
  all_goals obtain ⟨us, e2, r2⟩ := hs.sql S' (r1.mono l')
  · exact (walk_list (K := X.K) (a := a) (xs := us)).goes i H' (by rw [← r2.length]; exact hi) e2
  · rw [r2.length]
    exact (walk_list (K := X.K) (a := a) (xs := us)).stops H' e2
  · obtain ⟨e, h⟩ := (walk_list (K := X.K) (a := a) (xs := us)).yields i H' x H'' (by rw [← r2.length]; exact hi) e2 y
    subst e
    obtain ⟨d, h1, h2⟩ := r2.get' h
    exact ⟨W', d, .refl _, h1, S', h2⟩
/-- range(n), range(a, b) -/
def rangeD (lo : Int) (n : Nat) : List D := (List.range n).map fun (i : Nat) => D.int (lo + (i : Int))
/-- 0, 1, .. below n -/
def natsD (n : Nat) : List D := (List.range n).map fun (i : Nat) => D.int (i : Int)
theorem natsD_eq (n : Nat) : natsD n = rangeD 0 n := by simp [natsD, rangeD]
def ir1 (te : TE3) : TI3 := fun σ G R E => te σ G (fun x G1 => match x with
  | .int n => (-(2 ^ 62) ≤ n ∧ n < 2 ^ 62) ∧ R (natsD n.toNat) (fun _ => True) G1
  | _ => False) E
def ir2 (ta tb : TE3) : TI3 := fun σ G R E => ta σ G (fun x G1 => tb σ G1 (fun y G2 => match x, y with
  | .int a, .int b => (-(2 ^ 62) ≤ a ∧ a < 2 ^ 62 ∧ -(2 ^ 62) ≤ b ∧ b < 2 ^ 62) ∧ R (rangeD a (b - a).toNat) (fun _ => True) G2
  | _, _ => False) E) E
theorem walk_rng {K : PySem.W.Frag} {W : Wd} {lo : Int} {n : Nat} : WalkOk K W (rangeD lo n) (fun _ => True) (Itr lo n) := by
  have wl : Walk (Itr lo n) n (fun _ => True) (YFn fun i => .int (lo + i)) := walk_range
  have hl : (rangeD lo n).length = n := by simp [rangeD]
  refine ⟨fun i W' G H l S hs hi => wl.goes i H (by rw [← hl]; exact hi) trivial, fun W' G H l S hs => by rw [hl]; exact wl.stops H trivial, fun i W' G H x H' l S hs hi y => ?_⟩
  obtain ⟨e, h⟩ := wl.yields i H x H' (by rw [← hl]; exact hi) trivial y
  subst e h
  exact ⟨W', .int (lo + (i : Nat)), .refl _, by rw [hl] at hi; simp [rangeD, hi], S, rfl⟩
theorem i_range1 {tg a : Expr} {ta : TE3} {p pos : Pos} (hg : Gl X "range") (hm : X.mg "range" = none) (ha : PE X a (lowE X.K Wx ta)) (hs : starEach [a] X.env = [(false, eval a X.env)] := by rfl) : PI X tg (.Call (.Name "range" p) [a] [] pos) (lowI X.K Wx (ir1 ta)) := by
  refine (pi_range1 hg hm (pa_cons ha pa_nil hs) hs).imp3 ?_
  rintro σ H Q ⟨σ3, W, G, R3, E3, R, S, h, e, k⟩
  refine ⟨σ3, W, G, _, E3, R, S, h, ⟨fun W1 x G1 x' H1 l1 S1 r1 h1 => ?_⟩, e⟩
  cases x with
  | int n => cases r1; exact ⟨n, rfl, h1.1.1, h1.1.2, k W1 _ _ G1 _ H1 l1 S1 h1.2 (by rw [natsD_eq]; exact walk_rng)⟩
  | _ => exact h1.elim
theorem i_range2 {tg a b : Expr} {ta tb : TE3} {p pos : Pos} (hg : Gl X "range") (hm : X.mg "range" = none) (ha : PE X a (lowE X.K Wx ta)) (hb : PE X b (lowE X.K Wx tb)) (hs : starEach [a, b] X.env = [(false, eval a X.env), (false, eval b X.env)] := by rfl) (hs2 : starEach [b] X.env = [(false, eval b X.env)] := by rfl) :
    PI X tg (.Call (.Name "range" p) [a, b] [] pos) (lowI X.K Wx (ir2 ta tb)) := by
  refine (pi_range2 hg hm (pa_cons ha (pa_cons hb pa_nil hs2) (by rw [hs, hs2])) hs hs2).imp3 ?_
  rintro σ H Q ⟨σ3, W, G, R3, E3, R, S, h, e, k⟩
  refine ⟨σ3, W, G, _, E3, R, S, h, ⟨fun W1 x G1 x' H1 l1 S1 r1 h1 => ?_⟩, e⟩
  refine ⟨σ3, W1, G1, _, E3, R.mono l1, S1, h1, ⟨fun W2 y G2 y' H2 l2 S2 r2 h2 => ?_⟩, e.mono l1⟩
  cases x with
  | int a =>
    cases y with
    | int b => cases r1; cases r2; exact ⟨a, b, rfl, h2.1, k W2 _ _ G2 _ H2 (l1.trans l2) S2 h2.2 walk_rng⟩
    | _ => exact h2.elim
  | _ => exact h2.elim
/-- zip(xs, ys), enumerate(xs) -/
theorem yields_pair {K : PySem.W.Frag} {W : Wd} {G : G3} {H : Hp} {T : Addr} {x y : V} {dx dy : D} (S : Sim K W G H) (hT : H T = none) (rx : Rl W dx x) (ry : Rl W dy y) : ∃ W' , W.le W' ∧ Sim K W' G (upd H T (.tup [x, y])) ∧ Rl W' (.tup [dx, dy]) (.ref T) := by
  obtain ⟨W', l, S', r⟩ := S.newT (vs := [x, y]) (ds := [dx, dy]) hT ⟨x, _, rfl, rx, y, _, rfl, ry, rfl⟩
  exact ⟨W', l, S', r⟩
def iz3 (ta tb : TE3) : TI3 := fun σ G R E => ta σ G (fun x G1 => tb σ G1 (fun y G2 => ∃ xs ys, Ls G2 x xs ∧ Ls G2 y ys ∧ R (List.zipWith (fun a b => .tup [a, b]) xs ys) (fun G => Ls G x xs ∧ Ls G y ys) G2) E) E
def ie3 (ta : TE3) : TI3 := fun σ G R E => ta σ G (fun x G1 => ∃ xs, Ls G1 x xs ∧ R (xs.mapIdx fun i a => .tup [.int (i : Nat), a]) (fun G => Ls G x xs) G1) E
theorem Ls.at {K : PySem.W.Frag} {W : Wd} {G : G3} {H : Hp} {x : D} {a : Addr} {ds : List D} (h : Ls G x ds) (S : Sim K W G H) (r : Rl W x (.ref a)) : ∃ vs, H a = some (.lst vs) ∧ RlL W ds vs := by
  obtain ⟨b, vs, e, h1, h2⟩ := h.sql S r
  cases e
  exact ⟨vs, h1, h2⟩
theorem i_zip {e e2 : Expr} {ta tb : TE3} {p pos tpos : Pos} {elts : List Expr} {kk : Nat} (hg : Gl X "zip") (hm : X.mg "zip" = none) (ha : PE X e (lowE X.K Wx ta)) (hb : PE X e2 (lowE X.K Wx tb))
    (hs : starEach [e, e2] X.env = (false, eval e X.env) :: starEach [e2] X.env := by rfl) (hs2 : starEach [e2] X.env = [(false, eval e2 X.env)] := by rfl) : PI X (.Tuple elts kk tpos) (.Call (.Name "zip" p) [e, e2] [] pos) (lowI X.K Wx (iz3 ta tb)) := by
  refine (pi_zip hg hm (pa_cons ha (pa_cons hb pa_nil hs2) hs) hs (by rw [hs2]; rfl)).imp3 ?_
  rintro σ H Q ⟨σ3, W, G, R3, E3, R, S, h, e, k⟩
  refine ⟨σ3, W, G, _, E3, R, S, h, ⟨fun W1 x G1 x' H1 l1 S1 r1 h1 => ?_⟩, e⟩
  refine ⟨σ3, W1, G1, _, E3, R.mono l1, S1, h1, ⟨fun W2 y G2 y' H2 l2 S2 r2 h2 => ?_⟩, e.mono l1⟩
  obtain ⟨xs, ys, hx, hy, h2⟩ := h2
  have r1' := r1.mono l2
  obtain ⟨a, vs, rfl, ea, ra⟩ := hx.sql S2 r1'
  obtain ⟨b, us, rfl, eb, rb⟩ := hy.sql S2 r2
  refine ⟨a, b, vs, us, rfl, SqL.of ea, SqL.of eb, k W2 _ _ G2 _ H2 (l1.trans l2) S2 h2 ⟨fun i W' G' H' l' S' hs hi => ?_, fun W' G' H' l' S' hs => ?_, fun i W' G' H' x H'' l' S' hs hi y => ?_⟩⟩
  all_goals
    obtain ⟨vs', e1, q1⟩ := hs.1.at S' (r1'.mono l')
    obtain ⟨us', e2, q2⟩ := hs.2.at S' (r2.mono l')
    have wl := walk_zip (K := X.K) (a := a) (b := b) (xs := vs') (ys := us') rfl
  · refine wl.goes i H' ?_ ⟨SqL.of e1, SqL.of e2⟩
    rw [List.length_zipWith, q1.length, q2.length] at hi
    exact hi
  · rw [List.length_zipWith, q1.length, q2.length]
    exact wl.stops H' ⟨SqL.of e1, SqL.of e2⟩
  · obtain ⟨T, u, w, rfl, hT, rfl, h5, h6⟩ := wl.yields i H' x H'' (by rw [List.length_zipWith, q1.length, q2.length] at hi; exact hi) ⟨SqL.of e1, SqL.of e2⟩ y
    obtain ⟨d1, h7, rd1⟩ := q1.get' h5
    obtain ⟨d2, h8, rd2⟩ := q2.get' h6
    obtain ⟨W3, l3, S3, r3⟩ := yields_pair S' hT rd1 rd2
    refine ⟨W3, _, l3, ?_, S3, r3⟩
    rw [List.getElem?_zipWith, h7, h8]
theorem i_enum {e : Expr} {ta : TE3} {p pos tpos : Pos} {elts : List Expr} {kk : Nat} (hg : Gl X "enumerate") (hm : X.mg "enumerate" = none) (ha : PE X e (lowE X.K Wx ta)) (hs : starEach [e] X.env = [(false, eval e X.env)] := by rfl) :
    PI X (.Tuple elts kk tpos) (.Call (.Name "enumerate" p) [e] [] pos) (lowI X.K Wx (ie3 ta)) := by
  refine (pi_enum hg hm (pa_cons ha pa_nil hs) hs).imp3 ?_
  rintro σ H Q ⟨σ3, W, G, R3, E3, R, S, h, e, k⟩
  refine ⟨σ3, W, G, _, E3, R, S, h, ⟨fun W1 x G1 x' H1 l1 S1 r1 h1 => ?_⟩, e⟩
  obtain ⟨xs, hx, h1⟩ := h1
  obtain ⟨a, vs, rfl, ea, ra⟩ := hx.sql S1 r1
  refine ⟨a, vs, rfl, SqL.of ea, k W1 _ _ G1 _ H1 l1 S1 h1 ⟨fun i W' G' H' l' S' hs hi => ?_, fun W' G' H' l' S' hs => ?_, fun i W' G' H' x H'' l' S' hs hi y => ?_⟩⟩
  all_goals
    obtain ⟨vs', e1, q1⟩ := hs.at S' (r1.mono l')
    have wl := walk_enum (K := X.K) (a := a) (xs := vs')
  · refine wl.goes i H' ?_ (SqL.of e1)
    rw [List.length_mapIdx, q1.length] at hi
    exact hi
  · rw [List.length_mapIdx, q1.length]
    exact wl.stops H' (SqL.of e1)
  · obtain ⟨T, u, w, rfl, hT, rfl, h5, h6⟩ := wl.yields i H' x H'' (by rw [List.length_mapIdx, q1.length] at hi; exact hi) (SqL.of e1) y
    obtain ⟨d2, h8, rd2⟩ := q1.get' h6
    cases h5
    obtain ⟨W3, l3, S3, r3⟩ := yields_pair (dx := .int (i : Nat)) S' hT rfl rd2
    refine ⟨W3, _, l3, ?_, S3, r3⟩
    rw [List.getElem?_mapIdx, h8] <;> rfl
/-! ### for -/
def for3 (K : PySem.W.Frag) (src : TI3) (g : TG3) (tb : TS3) : TS3 := fun D σ G => src σ G (fun xs Std G1 => ∃ Pv : Nat → St3 → G3 → Prop, Up K (Pv 0) σ G1 ∧ (∀ i σ' G', i ≤ xs.length → Pv i σ' G' → Std G') ∧
  (∀ i d σ' G', xs[i]? = some d → Pv i σ' G' → g d σ' G' fun σ2 G2 => tb { D with nx := Up K (Pv (i + 1)), ct := Up K (Pv (i + 1)), bk := D.nx } σ2 G2) ∧ (∀ σ' G', Pv xs.length σ' G' → D.nx σ' G')) D.ex
theorem s_for {tg iter : Expr} {body : List Stmt} {src : TI3} {g : TG3} {tb : TS3} {pos : Pos} (hp : PassesOwn (model X.prog X.w) X.A X.env X.xe) (hc : X.calm = true) (hi : PI X tg iter (lowI X.K Wx src)) (hg : PG X tg (lowG X.K g)) (hb : PSs X body (lowS X.K Wx tb))
    (hs : ∀ x, foldedSetIterable iter X.env x = pure x := by intro _; rfl) : PS X (.For tg iter body [] pos) (lowS X.K Wx (for3 X.K src g tb)) := by
  refine (ps_for hp hc hi hg hb hs).imp3 ?_
  rintro D σ H ⟨σ3, W, G, D3, R, S, h, k⟩
  refine ⟨σ3, W, G, _, _, R, S, h, k.ex, fun W1 xs Std G1 J H1 l1 S1 h1 w => ?_⟩
  obtain ⟨Pv, ⟨σ4, G4, wk, p0⟩, hstd, turn, done⟩ := h1
  obtain ⟨W4, l4, R4, S4⟩ := wk _ _ _ (R.mono l1) S1
  refine ⟨fun i m σ' H' => m = xs.length - i ∧ i ≤ xs.length ∧ ∃ σ3' W' G', W1.le W' ∧ RepS W' σ3' σ' ∧ Sim X.K W' G' H' ∧ Pv i σ3' G', ⟨xs.length, by simp, Nat.zero_le _, σ4, W4, G4, l4, R4, S4, p0⟩, ?_⟩
  rintro i m σ' H' ⟨rfl, hi, σ5, W5, G5, l5, R5, S5, p5⟩
  have q := hstd i σ5 G5 hi p5
  by_cases hlt : i < xs.length
  · refine .inr ⟨w.goes i W5 G5 H' l5 S5 q hlt, fun τ H'' => ∃ σ3' W' G', W1.le W' ∧ RepS W' σ3' τ ∧ Sim X.K W' G' H'' ∧ Pv (i + 1) σ3' G', fun τ H'' p' => ⟨xs.length - (i + 1), by omega, rfl, hlt, p'⟩, fun x H'' y => ?_⟩
    obtain ⟨W6, d, l6, hd, S6, r6⟩ := w.yields i W5 G5 H' x H'' l5 S5 q hlt y
    have R6 := R5.mono l6
    refine ⟨σ5, W6, G5, d, _, R6, S6, r6, turn i d σ5 G5 hd p5, ⟨fun W7 σ7 G7 τ H7 l7 R7 S7 h7 => ?_⟩⟩
    have up : ∀ W8 σ8 G8 υ H8, W7.le W8 → RepS W8 σ8 υ → Sim X.K W8 G8 H8 → Up X.K (Pv (i + 1)) σ8 G8 → ∃ σ3' W' G', W1.le W' ∧ RepS W' σ3' υ ∧ Sim X.K W' G' H8 ∧ Pv (i + 1) σ3' G' := fun W8 σ8 G8 υ H8 l8 R8 S8 h8 => by
      obtain ⟨σ9, G9, wk9, p9⟩ := h8
      obtain ⟨W9, l9, R9, S9⟩ := wk9 _ _ _ R8 S8
      exact ⟨σ9, W9, G9, l5.trans (l6.trans (l7.trans (l8.trans l9))), R9, S9, p9⟩
    have lk : W.le W7 := l1.trans (l5.trans (l6.trans l7))
    exact ⟨σ7, W7, G7, _, R7, S7, h7, ⟨⟨up⟩, k.rt.mono lk, k.nx.mono lk, ⟨up⟩, k.ex.mono lk⟩⟩
  · have e : i = xs.length := by omega
    subst e
    exact .inl ⟨w.stops W5 G5 H' l5 S5 q, k.nx.run _ _ _ _ _ (l1.trans l5) R5 S5 (done σ5 G5 p5)⟩
end
end T3

namespace T3
open PySem L2
/-! ### comprehensions -/
theorem wipe_get (σ : St) : ∀ (vs : List Nat) (j : Nat), (wipe σ vs)[j]? = if j ∈ vs ∧ j < σ.length then some none else σ[j]?
  | [], j => by simp [wipe]
  | v :: vs, j => by
    unfold wipe
    by_cases h : v = j
    · subst h
      by_cases hl : v < σ.length
      · rw [List.getElem?_set_self (by rw [wipe_length]; exact hl), if_pos ⟨by simp, hl⟩]
      · rw [if_neg (fun z => hl z.2), List.getElem?_eq_none (by simpa [wipe_length] using hl), List.getElem?_eq_none (by simpa using hl)]
    · rw [List.getElem?_set_ne h, wipe_get σ vs j]
      have : (j ∈ v :: vs) ↔ j ∈ vs := by simp [Ne.symm h]
      simp only [this]
theorem wipe_set {σ : St} {vs : List Nat} {i : Nat} {x : Option V} (hi : i ∈ vs) : wipe (σ.set i x) vs = wipe σ vs := by
  apply List.ext_getElem?
  intro j
  rw [wipe_get, wipe_get, List.length_set]
  by_cases h : j ∈ vs ∧ j < σ.length
  · rw [if_pos h, if_pos h]
  · rw [if_neg h, if_neg h]
    by_cases hj : i = j
    · subst hj
      have hl : ¬ i < σ.length := fun z => h ⟨hi, z⟩
      rw [List.getElem?_eq_none (by simpa using hl), List.getElem?_eq_none (by simpa using hl)]
    · rw [List.getElem?_set_ne hj]
theorem wipe_wipe {σ : St} {vs : List Nat} : wipe (wipe σ vs) vs = wipe σ vs := by
  apply List.ext_getElem?
  intro j
  rw [wipe_get, wipe_get, wipe_length]
  by_cases h : j ∈ vs ∧ j < σ.length
  · rw [if_pos h, if_pos h]
  · rw [if_neg h, if_neg h]
/-- a comprehension's target: what it does to the slots -/
abbrev TL3 := D → St3 → Option St3
def TlOk (K : PySem.W.Frag) (vs : List Nat) (g : TG) (g3 : TL3) : Prop := ∀ W d v σ3 σ G H σ3' (Q : St → Hp → Prop), RepS W σ3 (wipe σ vs) → Sim K W G H → Rl W d v → g3 d σ3 = some σ3' → (∀ σ', RepS W σ3' σ' → wipe σ' vs = wipe σ vs → Q σ' H) → g v (wipe σ vs) H Q
def nameL (i : Nat) : TL3 := fun d σ => some (σ.set i (some d))
def pairL (i j : Nat) : TL3 := fun d σ => match d with
  | .tup [x, y] => some ((σ.set i (some x)).set j (some y))
  | _ => none
theorem tl_name {K : PySem.W.Frag} {vs : List Nat} {i : Nat} (hi : i ∈ vs) : TlOk K vs (gName i) (nameL i) := by
  intro W d v σ3 σ G H σ3' Q R S r h k
  cases h
  exact k _ (R.set i r) (by rw [wipe_set hi, wipe_wipe])
theorem tl_pair {K : PySem.W.Frag} {vs : List Nat} {i j : Nat} (hi : i ∈ vs) (hj : j ∈ vs) : TlOk K vs (gTup K 2 (gCons (gName i) (gCons (gName j) gNil))) (pairL i j) := by
  intro W d v σ3 σ G H σ3' Q R S r h k
  match d, r, h with
  | .tup [x, y], ⟨a, vs, e, l, v1, _, e1, r1, v2, _, e2, r2, e3⟩, h =>
    cases (show _ = [] from e3)
    cases h
    subst e2 e1 e
    exact ⟨a, _, rfl, S.ft _ _ l, rfl, _, _, rfl, _, _, rfl, rfl, k _ ((R.set i r1).set j r2) (by rw [wipe_set hj, wipe_set hi, wipe_wipe])⟩
  | .non, _, h => cases h
  | .bl _, _, h => cases h
  | .int _, _, h => cases h
  | .str _, _, h => cases h
  | .ref _, _, h => cases h
  | .lst _, _, h => cases h
  | .scr _, _, h => cases h
  | .tup [], _, h => cases h
  | .tup [_], _, h => cases h
  | .tup (_ :: _ :: _ :: _), _, h => cases h
abbrev wF : WX := fun _ _ _ _ => False
abbrev eF : EX3 := fun _ _ _ => False
theorem okF {K : PySem.W.Frag} {W : Wd} : OkE K W eF wF := ⟨fun _ _ _ _ _ _ _ _ _ h => h⟩
def yes3 : TT3 := fun _ G Q _ => Q true G
/-- [elt for .. in .. if ..]: ys k is what the k-th turn gives -/
def lc3 (src : TI3) (g : TL3) (tt : TT3) (te : TE3) (vs : List Nat) : TE3 := fun σ G Q E => src σ G (fun xs Std G1 => ∃ ys : Nat → Option D, (∀ p acc, Std ((p, .lst acc) :: G1)) ∧
  (∀ k d p acc, xs[k]? = some d → match g d (wipe3 σ vs) with
    | some σ' => tt σ' ((p, .lst acc) :: G1) (fun b G2 => G2 = (p, .lst acc) :: G1 ∧ if b = true then te σ' G2 (fun y G3 => G3 = (p, .lst acc) :: G1 ∧ ys k = some y) eF else ys k = none) eF
    | none => False) ∧ xs.length ≤ sizeLine ∧ Q (.lst ((List.range xs.length).filterMap ys)) G1) E
theorem low_lc {K : PySem.W.Frag} {Wx : WX} {src : TI3} {g : TG} {g3 : TL3} {tt : TT3} {te : TE3} {vs : List Nat} {σ : St} {H : Hp} {Q : VK} (hg : TlOk K vs g g3) :
    lowE K Wx (lc3 src g3 tt te vs) σ H Q → tLc (lowI K Wx src) g (lowT K wF tt) (lowE K wF te) vs σ H Q := by
  rintro ⟨σ3, W, G, Q3, E3, R, S, h, q, e⟩
  refine ⟨σ3, W, G, _, E3, R, S, h, e, fun W1 xs Std G1 J H1 l1 S1 h1 w => ?_⟩
  intro Dl hD
  obtain ⟨ys, hstd, turn, hz, h1⟩ := h1
  refine ⟨fun k m H' => m = xs.length - k ∧ k ≤ xs.length ∧ ∃ W', W1.le W' ∧ Sim K W' ((Dl, .lst ((List.range k).filterMap ys)) :: G1) H', ⟨xs.length, by simp, Nat.zero_le _, W1, .refl _, S1.newO (o := .lst []) hD ⟨[], upd_same, rfl⟩⟩, ?_⟩
  rintro k m H' ⟨rfl, hk, W', l', S'⟩
  by_cases hlt : k < xs.length
  · refine .inr ⟨w.goes k W' _ H' l' S' (hstd _ _) hlt, fun H'' => ∃ W', W1.le W' ∧ Sim K W' ((Dl, .lst ((List.range (k + 1)).filterMap ys)) :: G1) H'', fun H'' p' => ⟨xs.length - (k + 1), by omega, rfl, hlt, p'⟩, fun x H'' y => ?_⟩
    obtain ⟨W2, d, l2, hd, S2, r2⟩ := w.yields k W' _ H' x H'' l' S' (hstd _ _) hlt y
    have t := turn k d Dl ((List.range k).filterMap ys) hd
    cases hg3 : g3 d (wipe3 σ3 vs) with
    | none => rw [hg3] at t; exact t.elim
    | some σ4 =>
      rw [hg3] at t
      have RW : RepS W2 (wipe3 σ3 vs) (wipe σ vs) := (R.mono (l1.trans (l'.trans l2))).wipe vs
      refine hg W2 d x (wipe3 σ3 vs) σ _ H'' σ4 _ RW S2 r2 hg3 fun σ' R' hw => ⟨hw, ?_⟩
      refine ⟨σ4, W2, _, _, eF, R', S2, t, ⟨fun W3 b G3 H3 l3 S3 h3 => ?_⟩, okF⟩
      obtain ⟨rfl, h3⟩ := h3
      cases b with
      | false =>
        rw [if_neg Bool.false_ne_true] at h3 ⊢
        refine ⟨W3, l'.trans (l2.trans l3), ?_⟩
        rw [List.range_succ, List.filterMap_append]
        simp only [List.filterMap_cons, h3, List.filterMap_nil, List.append_nil]
        exact S3
      | true =>
        rw [if_pos rfl] at h3 ⊢
        refine ⟨σ4, W3, _, _, eF, R'.mono l3, S3, h3, ⟨fun W4 y G4 y' H4 l4 S4 r4 h4 => ?_⟩, okF⟩
        obtain ⟨rfl, hy⟩ := h4
        obtain ⟨us, e4, q4⟩ := S4.ob _ _ (List.mem_cons_self ..)
        refine ⟨us, e4, ?_, W4, l'.trans (l2.trans (l3.trans l4)), ?_⟩
        · have : ((List.range k).filterMap ys).length ≤ k := by
            have := List.length_filterMap_le ys (List.range k)
            simpa using this
          rw [← q4.length]
          omega
        · rw [List.range_succ, List.filterMap_append]
          simp only [List.filterMap_cons, hy, List.filterMap_nil]
          exact S4.put (o' := .lst ((List.range k).filterMap ys ++ [y])) .head ⟨_, upd_same, q4.append (RlL.one r4)⟩
  · have e : k = xs.length := by omega
    subst e
    refine .inl ⟨w.stops W' _ H' l' S' (hstd _ _), ?_⟩
    obtain ⟨W5, l5, S5, r5⟩ := S'.freeze
    exact q.run _ _ _ _ _ (l1.trans (l'.trans l5)) S5 r5 h1
section
variable {X : Cx} {Wx : WX}
theorem e_lc {e : Expr} {src : TI3} {g : TG} {g3 : TL3} {tt : TT3} {te : TE3} {vs : List Nat} (h : PE X e (tLc (lowI X.K Wx src) g (lowT X.K wF tt) (lowE X.K wF te) vs)) (hg : TlOk X.K vs g g3) : PE X e (lowE X.K Wx (lc3 src g3 tt te vs)) := h.imp3 fun _ _ _ => low_lc hg
theorem ts_nil : PTs X [] (lowT X.K Wx yes3) := by
  refine pts_nil.imp3 ?_
  rintro σ H Q ⟨σ3, W, G, Q3, E3, R, S, h, q, e⟩
  exact q.run _ _ _ _ (.refl _) S h
theorem ts_one {c : Expr} {t : TT3} (h : PT X c (lowT X.K Wx t)) : PTs X [c] (lowT X.K Wx t) := pts_one h
/-! ### raise, try -/
def raise3 (C : Addr) : TS3 := fun D σ G => D.ex C σ G
theorem s_raise {e : Expr} {pos : Pos} {C : Addr} (hc : X.calm = true) (tk : Takes X Wx) (hm : PMk X e (fun _ H Q => Q (.ref C) none H)) : PS X (.Raise (some e) none pos) (lowS X.K Wx (raise3 C)) := by
  refine (ps_raise hc tk hm).imp3 ?_
  rintro D σ H ⟨σ3, W, G, D3, R, S, h, k⟩
  exact k.ex.run _ _ _ _ _ _ (.refl _) R S h
/-- what the clauses do with an exception of the class C -/
def hd3 (K : PySem.W.Frag) (D : Ends3) : List (Addr × TS3) → EX3
  | [] => D.ex
  | (c, ts) :: r => fun C σ G => ∃ b, PySem.W.exmOne K (.ref C) (.ref c) = some b ∧ (b = true → ts { D with ex := eF } σ G) ∧ (b = false → hd3 K D r C σ G)
def try3 (K : PySem.W.Frag) (tb : TS3) (l : List (Addr × TS3)) : TS3 := fun D σ G => tb { D with ex := hd3 K D l } σ G
/-- the clauses, at the layer below -/
def lowH (K : PySem.W.Frag) : List (Addr × TS3) → List (Value × (Addr → Value → Option Addr → TS)) := List.map fun p => (.ref p.1, fun _ _ _ => lowS K wF p.2)
theorem OkD.noex {K : PySem.W.Frag} {W : Wd} {Wx : WX} {D3 : Ends3} {D : Ends} (k : OkD K W Wx D3 D) : OkD K W wF { D3 with ex := eF } D := ⟨k.nx, k.rt, k.bk, k.ct, okF⟩
theorem s_try {body : List Stmt} {h₀ : ExceptHandler} {hds : List ExceptHandler} {l : List (Addr × TS3)} {pos : Pos} {tb : TS3} (hs : X.stack = X.env :: X.outer) (hf : X.env.frame = some X.env.locals) (tk : Takes X Wx)
    (hb : ∀ (W : WX) (pn : List (Addr × Obj)) (xe : Value → Shared → Prop), Takes (X.tr pn xe) W → PassesOwn (model X.prog X.w) X.A X.env xe → PSs (X.tr pn xe) body (lowS X.K W tb))
    (hh : HdsOk X (h₀ :: hds) (lowH X.K l)) : PS X (.Try body (h₀ :: hds) [] [] pos) (lowS X.K Wx (try3 X.K tb l)) := by
  refine (ps_try_many (Wout := Wx) (tb := fun W => lowS X.K W tb) hs hf tk hb hh).imp3 ?_
  rintro D σ H ⟨σ3, W, G, D3, R, S, h, k⟩
  refine ⟨σ3, W, G, _, R, S, h, ⟨k.nx, k.rt, k.bk, k.ct, ⟨fun C W' σ4 G' σ' H' l' R' S' h' => ?_⟩⟩⟩
  have go : ∀ l : List (Addr × TS3), hd3 X.K D3 l C σ4 G' → wMany X.K Wx D (lowH X.K l) (.ref C) none σ' H' := by
    intro l
    induction l with
    | nil => intro h; exact k.ex.run _ _ _ _ _ _ l' R' S' h
    | cons p r ih =>
      rintro ⟨b, hb, h1, h2⟩
      exact ⟨b, hb, fun e a ha => ⟨σ4, W', G', _, R', S', h1 e, (k.mono l').noex⟩, fun e => ih (h2 e)⟩
  exact go l h'
theorem hd_nil : HdsOk X [] (lowH X.K []) := .nil
theorem hd_cons {x : Str} {c : Addr} {ts : TS3} {b₀ : Stmt} {suite : List Stmt} {np pos' : Pos} {hds : List ExceptHandler} {l : List (Addr × TS3)} (hc : Names X x (.ref c))
    (hsu : ∀ (a : Addr) (oe : Obj) (pn : List (Addr × Obj)), PSs (X.suite a ((a, oe) :: pn)) (b₀ :: suite) (lowS X.K wF ts)) (r : HdsOk X hds (lowH X.K l)) : HdsOk X (.ExceptHandler (some (.Name x np)) none (b₀ :: suite) pos' :: hds) (lowH X.K ((c, ts) :: l)) :=
  .cons hc (fun a oe cls d pn _ _ => hsu a oe pn) r
/-- try: .. except x as n: .. -/
def tryAs3 (K : PySem.W.Frag) (tb : TS3) (i : Nat) (c : Addr) (ts : Addr → Addr → TS3) : TS3 := fun D σ G => tb { D with ex := fun C σ G => ∃ b, PySem.W.exmOne K (.ref C) (.ref c) = some b ∧
  (b = true → ∀ a, ts a C { nx := fun σ' G' => D.nx (σ'.set i none) G', rt := D.rt, bk := fun σ' G' => D.bk (σ'.set i none) G', ct := fun σ' G' => D.ct (σ'.set i none) G', ex := eF } (σ.set i (some (.ref a))) G) ∧ (b = false → D.ex C σ G) } σ G
def lowAs (K : PySem.W.Frag) (ts : Addr → Addr → TS3) : Addr → Value → Option Addr → TS := fun a cls d D σ H => ∃ C, cls = .ref C ∧ d = none ∧ lowS K wF (ts a C) D σ H
theorem s_tryAs {x n : Str} {c : Addr} {i : Nat} {body suite : List Stmt} {b₀ : Stmt} {np pos pos' : Pos} {tb : TS3} {ts : Addr → Addr → TS3} (hs : X.stack = X.env :: X.outer) (hf : X.env.frame = some X.env.locals) (hN : X.N.Nodup) (hi : X.N[i]? = some n) (hln : X.env.kindOf n = some .local) (hc : Names X x (.ref c)) (tk : Takes X Wx)
    (hb : ∀ (W : WX) (pn : List (Addr × Obj)) (xe : Value → Shared → Prop), Takes (X.tr pn xe) W → PassesOwn (model X.prog X.w) X.A X.env xe → PSs (X.tr pn xe) body (lowS X.K W tb))
    (hsu : ∀ (a : Addr) (oe : Obj) (C : Addr) (pn : List (Addr × Obj)), Zc (.ref C) none oe → (∃ vs, oe.data = .fields vs) → PSs (X.suite a ((a, oe) :: pn)) (b₀ :: suite) (lowS X.K wF (ts a C))) :
    PS X (.Try body [.ExceptHandler (some (.Name x np)) (some n) (b₀ :: suite) pos'] [] [] pos) (lowS X.K Wx (tryAs3 X.K tb i c ts)) := by
  refine (ps_try_as (Wout := Wx) (tb := fun W => lowS X.K W tb) (ts := lowAs X.K ts) hs hf hN hi hln hc tk hb (fun a oe cls d pn hz hv => ⟨fun pins s σ H D I q => ?_⟩)).imp3 ?_
  · obtain ⟨C, rfl, rfl, q⟩ := q
    exact (hsu a oe C pn hz hv).run pins s σ H D I q
  · rintro D σ H ⟨σ3, W, G, D3, R, S, h, k⟩
    refine ⟨σ3, W, G, _, R, S, h, ⟨k.nx, k.rt, k.bk, k.ct, ⟨fun C W' σ4 G' σ' H' l' R' S' h' => ?_⟩⟩⟩
    obtain ⟨b, hb, h1, h2⟩ := h'
    refine ⟨b, hb, fun e a ha => ⟨C, rfl, rfl, σ4.set i (some (.ref a)), W', G', _, R'.set i rfl, S', h1 e a, ?_⟩, fun e => k.ex.run _ _ _ _ _ _ l' R' S' (h2 e)⟩
    have k' := k.mono l'
    exact ⟨⟨fun W'' σ5 G5 σ'' H5 l5 R5 S5 h5 => k'.nx.run _ _ _ _ _ l5 (R5.forget i none) S5 h5⟩, k'.rt, ⟨fun W'' σ5 G5 σ'' H5 l5 R5 S5 h5 => k'.bk.run _ _ _ _ _ l5 (R5.forget i none) S5 h5⟩, ⟨fun W'' σ5 G5 σ'' H5 l5 R5 S5 h5 => k'.ct.run _ _ _ _ _ l5 (R5.forget i none) S5 h5⟩, okF⟩
/-- isinstance(e, T) of the exception that the suite holds -/
def isE3 (K : PySem.W.Frag) (a C : Addr) (cv : Value) (i : Nat) : TE3 := fun σ G Q _ => getS σ i = some (.ref a) ∧ ExcC K C ∧ ∃ b, PySem.W.kitOne K (.ref C) cv = some b ∧ Q (.bl b) G
theorem e_isE {a C : Addr} {oe : Obj} {pn : List (Addr × Obj)} {e ty : Expr} {i : Nat} {c : V} {cv : Value} {p pos : Pos} (hz : Zc (.ref C) none oe) (hf : ∃ vs, oe.data = .fields vs) (he : PE (X.suite a ((a, oe) :: pn)) e (tVar i)) (ht : PE (X.suite a ((a, oe) :: pn)) ty (tC c)) (hcv : ∀ u, RelV c u → u = cv)
    (hg : Gl X "isinstance") (hm : X.mg "isinstance" = none) (hv : bootBuiltins "isinstance" = some (.builtin "isinstance") := by decide +kernel)
    (hs : starEach [e, ty] X.env = (false, eval e X.env) :: starEach [ty] X.env := by rfl) (hs2 : starEach [ty] X.env = (false, eval ty X.env) :: starEach [] X.env := by rfl) (hpl : (backTo pos (starEach [ty] X.env)).any (·.1) = false := by rfl) :
    PE (X.suite a ((a, oe) :: pn)) (.Call (.Name "isinstance" p) [e, ty] [] pos) (lowE X.K wF (isE3 X.K a C cv i)) := by
  refine ⟨fun pins s σ H Q I q => ?_⟩
  obtain ⟨σ3, W, G, Q3, E3, R, S, ⟨h1, hC, b, hb, h⟩, q, e⟩ := q
  obtain ⟨v, e1, r1⟩ := R.get i _ h1
  cases r1
  refine (pe_callB (call_isE hC hz hf) (X := X.suite a ((a, oe) :: pn)) hg hm hv (pa_cons he (pa_cons ht pa_nil hs2) hs) (by decide) (by decide) hs hpl).run pins s σ H Q I ?_
  exact ⟨_, e1, c, cv, b, rfl, hcv, hb, q.run _ (.bl b) _ _ _ (.refl _) S rfl h⟩
end
/-! ### a def keeps its promise -/
section
variable {P : Program} {w : World} {K : PySem.W.Frag} {mg : Str → Option Value} {base : Heap}
abbrev OkFn (P : Program) (w : World) (K : PySem.W.Frag) (mg : Str → Option Value) (base : Heap) (k : Nat) (f : Addr) (fd : FuncData) (ps : List Str) (sp : Sp3) : Prop := FnOk P w K mg base (L2.CX P w) k f fd ps (lowSp K sp)
/-- what is wanted behind a body -/
abbrev endD (K : PySem.W.Frag) (Q3 : VK3) (E3 : Addr → G3 → Prop) : Ends3 := { nx := fun _ G => UpV K Q3 .non G, rt := UpV K Q3, ex := fun C _ G => E3 C G }
theorem _root_.L2.Fun.ok3 {x qual : Str} {st : Stmt} {f : Addr} {fd : FuncData} {N ps : List Str} {k : Nat} {sp : Sp3} (F : Fun K x qual st f fd) (S : FnScope N ps (defScope st)) (len : ∀ ds G Q E, sp ds G Q E → ds.length = ps.length)
    (hbody : ∀ (cdv : Value) (A : Around) (outer : List Env) (s : Shared) (H : Hp) (E : XK), Room k (A.deeper (PyProof.Rows.envOfC qual (defScope st) s.heap.objs.size f cdv)) →
      ∃ t : TS3, PSs (cxOf (L2.CX P w) P w K mg base N qual (defScope st) f cdv A outer s H E) (defBody st) (lowS K (fun cls d _ H' => E cls d H') t) ∧ ∀ ds G Q3 E3, sp ds G Q3 E3 → t (endD K Q3 E3) (start3 N ds) G) :
    OkFn P w K mg base (k + 1) f fd ps sp := by
  refine F.okX S (fun vs H Q E h => ?_) (fun cdv A outer s H vs Q E hr h => ?_)
  · obtain ⟨ds, W, G, Q3, E3, r, S, hsp, _⟩ := h
    rw [← r.length]
    exact len _ _ _ _ hsp
  · obtain ⟨t, ht, hread⟩ := hbody cdv A outer s H E hr
    obtain ⟨ds, W, G, Q3, E3, r, S, hsp, q, e⟩ := h
    refine ⟨_, ht, start3 N ds, W, G, _, RepS.start N r, S, hread ds G Q3 E3 hsp, ⟨⟨fun W' σ3 G' σ' H' l' R' S' h' => ?_⟩, ⟨fun W' d G' v H' l' S' r' h' => ?_⟩, ⟨fun _ _ _ _ _ _ _ _ h => h.elim⟩, ⟨fun _ _ _ _ _ _ _ _ h => h.elim⟩, ⟨fun C W' σ3 G' σ' H' l' R' S' h' => e C W' G' H' l' S' h'⟩⟩⟩
    · obtain ⟨d2, G2, wk, h2⟩ := h'
      obtain ⟨W2, l2, r2, S2⟩ := wk W' H' .non rfl S'
      exact q.run _ _ _ _ _ (l'.trans l2) S2 r2 h2
    · obtain ⟨d2, G2, wk, h2⟩ := h'
      obtain ⟨W2, l2, r2, S2⟩ := wk W' H' v r' S'
      exact q.run _ _ _ _ _ (l'.trans l2) S2 r2 h2
end
end T3

namespace T3
open PySem L2
section
variable {X : Cx} {Wx : WX}
/-- a statement, a word between, the rest -/
def cut3 (K : PySem.W.Frag) (t u : TS3) : TS3 := fun D σ G => ∃ Mid : St3 → G3 → Prop, t { D with nx := Up K Mid } σ G ∧ ∀ σ' G', Mid σ' G' → u D σ' G'
theorem b_cut {st : Stmt} {rest : List Stmt} {t u : TS3} (h1 : PS X st (lowS X.K Wx t)) (h2 : PSs X rest (lowS X.K Wx u)) : PSs X (st :: rest) (lowS X.K Wx (cut3 X.K t u)) := by
  refine (pss_cons h1 h2).imp3 ?_
  rintro D σ H ⟨σ3, W, G, D3, R, S, ⟨Mid, h, hm⟩, k⟩
  refine ⟨σ3, W, G, { D3 with nx := Up X.K Mid }, R, S, h, ⟨⟨fun W1 σ1 G1 σ' H1 l1 R1 S1 h1 => ?_⟩, k.rt, k.bk, k.ct, k.ex⟩⟩
  obtain ⟨σ2, G2, w, h2⟩ := h1
  obtain ⟨W2, l2, R2, S2⟩ := w _ _ _ R1 S1
  exact ⟨σ2, W2, G2, D3, R2, S2, hm _ _ h2, k.mono (l1.trans l2)⟩
end
/-! ### words for readings -/
section
variable {K : PySem.W.Frag} {σ : St3} {G : G3} {a : Addr} {ds : List D} {d : D}
/-- a value handed back as it is -/
theorem UpV.list {P : D → G3 → Prop} (h : P (.lst ds) G) : UpV K P (.ref a) ((a, .lst ds) :: G) := ⟨_, _, WkV.freeze, h⟩
theorem UpV.drop {P : D → G3 → Prop} {e : Addr × DO} (h : UpV K P d G) : UpV K P d (e :: G) := by
  obtain ⟨d', G', w, h⟩ := h
  exact ⟨d', G', WkV.drop.trans w, h⟩
theorem UpV.list2 {P : D → G3 → Prop} {b : Addr} {es : List D} (h : P (.tup [.lst ds, .lst es]) G) : UpV K P (.tup [.ref a, .ref b]) ((a, .lst ds) :: (b, .lst es) :: G) := ⟨_, _, WkV.freeze2, h⟩
theorem Up.freeze {P : St3 → G3 → Prop} (i : Nat) (hi : getS σ i = some (.ref a)) (h : Up K P (σ.set i (some (.lst ds))) G) : Up K P σ ((a, .lst ds) :: G) := by
  obtain ⟨σ', G', w, h⟩ := h
  exact ⟨σ', G', (WkS.freeze i hi).trans w, h⟩
theorem Up.drop {P : St3 → G3 → Prop} {e : Addr × DO} (h : Up K P σ G) : Up K P σ (e :: G) := by
  obtain ⟨σ', G', w, h⟩ := h
  exact ⟨σ', G', WkS.drop.trans w, h⟩
theorem Up.forget {P : St3 → G3 → Prop} (i : Nat) (h : Up K P (σ.set i none) G) : Up K P σ G := by
  obtain ⟨σ', G', w, h⟩ := h
  exact ⟨σ', G', (WkS.forget i).trans w, h⟩
theorem Up.perm {P : St3 → G3 → Prop} {G' : G3} (p : G.Perm G') (h : Up K P σ G') : Up K P σ G := by
  obtain ⟨σ', G2, w, h⟩ := h
  exact ⟨σ', G2, (WkS.perm p).trans w, h⟩
end
theorem div_lt {i j : Int} (h : 0 < j) (h2 : j < 2 ^ 8000) : CDivW i j := by
  refine ⟨h, ?_⟩
  have hj : j.natAbs < 2 ^ 8000 := by omega
  exact Nat.lt_of_lt_of_le (PySem.Flt.log2_lt_of (by decide) hj) (by decide)
theorem get_map {α β : Type} {f : α → β} {l : List α} {i : Nat} {d : β} (h : (l.map f)[i]? = some d) : ∃ x, l[i]? = some x ∧ d = f x := by
  rw [List.getElem?_map] at h
  cases e : l[i]? with
  | none => rw [e] at h; cases h
  | some x => rw [e] at h; exact ⟨x, rfl, (Option.some.inj h).symm⟩
theorem take_snoc {α : Type} {l : List α} {i : Nat} {x : α} (h : l[i]? = some x) : l.take (i + 1) = l.take i ++ [x] := by
  rw [List.take_succ, h]; rfl
theorem get_mem {α : Type} {l : List α} {i : Nat} {x : α} (h : l[i]? = some x) : x ∈ l := List.mem_of_getElem? h
theorem get_lt {α : Type} {l : List α} {i : Nat} {x : α} (h : l[i]? = some x) : i < l.length := (List.getElem?_eq_some_iff.mp h).1
theorem size_lt {n : Nat} (h : n ≤ 100000) : n < sizeLine := Nat.lt_of_le_of_lt h (by decide)
theorem size_le {n : Nat} (h : n ≤ 100000) : n ≤ sizeLine := Nat.le_trans h (by decide)
theorem range_get {lo : Int} {n i : Nat} {d : D} (h : (rangeD lo n)[i]? = some d) : i < n ∧ d = .int (lo + (i : Int)) := by
  obtain ⟨k, h1, rfl⟩ := get_map h
  have hl := get_lt h1
  rw [List.length_range] at hl
  rw [List.getElem?_range hl] at h1
  cases h1
  exact ⟨hl, rfl⟩
theorem nats_get {n i : Nat} {d : D} (h : (natsD n)[i]? = some d) : i < n ∧ d = .int (i : Int) := by
  obtain ⟨k, h1, rfl⟩ := get_map h
  have hl := get_lt h1
  rw [List.length_range] at hl
  rw [List.getElem?_range hl] at h1
  cases h1
  exact ⟨hl, rfl⟩
theorem nats_len (n : Nat) : (natsD n).length = n := by simp [natsD]
theorem range_len (lo : Int) (n : Nat) : (rangeD lo n).length = n := by simp [rangeD]
/-- what a small number is -/
theorem bl_le {x : Int} {n : Nat} (h0 : 0 ≤ x) (h : x < 2 ^ (n + 1)) : bl x ≤ n := by
  refine bl_lt ?_
  have e : ((2 ^ (n + 1) : Nat) : Int) = 2 ^ (n + 1) := by simp
  omega
/-- small factors -/
theorem mul_small {i j : Int} (h1 : 0 ≤ i) (h2 : i < 2 ^ 64) (h3 : 0 ≤ j) (h4 : j < 2 ^ 64) : CMulX i j := mul_ok (bl_le (n := 63) h1 h2) (bl_le (n := 63) h3 h4) (by decide)
theorem kit_type {K : PySem.W.Frag} {C : Addr} {T : String} {b : Bool} (hs : PySem.W.subIn K (.ref C) (.type T) = some b) (hk : PySem.W.kitMeta T = true := by decide +kernel) : PySem.W.kitOne K (.ref C) (.type T) = some b := by
  unfold PySem.W.kitOne PySem.W.kitCls
  rw [if_neg (by simp)]
  show (if PySem.W.kitMeta T = true then PySem.W.subIn K (.ref C) (.type T) else none) = some b
  rw [if_pos hk]
  exact hs
theorem kit_ref {K : PySem.W.Frag} {C E : Addr} {b : Bool} (hd : PySem.W.hasDictIn K E = true) (ht : PySem.W.typeIn K (.ref E) = some (.type "type")) (hs : PySem.W.subIn K (.ref C) (.ref E) = some b) (hr : PySem.W.subIn K (.ref C) (.ref C) = some true) : PySem.W.kitOne K (.ref C) (.ref E) = some b := by
  obtain ⟨cd, hc, _⟩ := PySem.W.any_some hd
  have e2 : ((PySem.W.clsIn K E).isSome && PySem.W.typeIn K (.ref E) == some (.type "type")) = true := by rw [hc, ht] <;> rfl
  unfold PySem.W.kitOne PySem.W.kitCls
  by_cases e : C = E
  · subst e
    rw [if_pos (by simp)]
    rw [hr] at hs
    exact hs
  · rw [if_neg (by simpa using e)]
    show (if ((PySem.W.clsIn K E).isSome && PySem.W.typeIn K (.ref E) == some (.type "type")) = true then PySem.W.subIn K (.ref C) (.ref E) else none) = some b
    rw [if_pos e2]
    exact hs
/-! ### the law's end -/
/-- what is known of a script: at most 63 numbers, of at most 2^20 bits -/
structure ScOk (ns : List Int) : Prop where
  len : ns.length ≤ 63
  bits : ∀ z ∈ ns, bl z ≤ 1048576
theorem bl_of_bits {z : Int} (h : Builtin.Int.intBits z ≤ 1048576) : bl z ≤ 1048576 := by
  unfold Builtin.Int.intBits at h
  unfold bl
  split at h
  · rename_i h0
    simp at h0
    subst h0
    simp
  · omega
theorem law_low {K : PySem.W.Frag} {sp : Sp3} {H : Hp} {a : Addr} {ns : List Int} (hO : Only H) (hS : SqL K H a (ns.map V.int)) (h : sp [.scr ns] [] (fun d _ => d = .bl true) (fun _ _ => False)) : lowSp K sp [.ref a] H (fun v _ => v = .bl true) fun _ _ _ => False := by
  refine ⟨[.scr ns], ⟨fun _ _ => False, fun _ _ => False, fun b ms => b = a ∧ ms = ns⟩, [], _, _, ⟨_, _, rfl, ⟨a, rfl, rfl, rfl⟩, rfl⟩, ⟨by simp, fun _ _ h => by simp at h, fun _ _ h => h.elim, ?_, fun _ _ h => h.elim⟩, h, ⟨fun W' d G v H' _ _ r hd => ?_⟩, fun _ _ _ _ _ _ h => h.elim⟩
  · rintro b ms ⟨rfl, rfl⟩
    rcases hS with (e | ⟨o, e⟩) | e
    · rcases hO b with z | ⟨o, xs, z⟩
      · rw [z] at e; cases e
      · rw [z] at e; cases e
    · exact .inl ⟨o, e⟩
    · exact .inr e
  · have hd' : d = .bl true := hd
    subst hd'
    exact r
theorem walk3 {l : PySem.W.OpenLaw} {k : Nat} {q : Program} {loose : List Str} {XP : (Str → Option Value) → Heap → Prop} {YP : World → Heap → Prop} {d : DefRec} {K : Params → PySem.W.Frag} {sp : PySem.W.Frag → Sp3} {x : Str}
    (hn : l.most = some 63) (hdf : d.params.defaults = []) (hr : Room k callerA)
    (hY : ∀ (w : World) (h : Heap), YP w h → (K w.params).In h)
    (F : ∀ (w : World) (mg : Str → Option Value) (fa : Addr) (h : Heap), (K w.params).In h → h.Ns mainGlobals mg → mg d.name = some (.ref fa) →
      ∃ fd : FuncData, (∀ (s : Shared) (u : Value), BindsTo s fd ⟨[u], []⟩ [(x, u)]) ∧ ∀ base : Heap, (K w.params).In base → base.Ns mainGlobals mg → OkFn l.prog w (K w.params) mg base k fa fd [x] (sp (K w.params)))
    (hsp : ∀ (K : PySem.W.Frag) (ns : List Int), ScOk ns → sp K [.scr ns] [] (fun d _ => d = .bl true) (fun _ _ => False)) :
    PySem.W.WalkO q loose XP YP l.row.toRowW d [] (fun f vs => PySem.call f vs) :=
  L2.walk_ofB (n := 63) (k := k) (x := x) (CX := fun w => L2.CX l.prog w) (sp := fun w => lowSp (K w.params) (sp (K w.params))) hn (by decide) hdf hr hY F
    (fun w H a ns hl hb hO hS => law_low hO hS (hsp _ ns ⟨hl, fun z hz => bl_of_bits (hb z hz)⟩)) fun w H s e s' h => by
      obtain ⟨_, _, _, _, _, _, _, _, _, _, _, _, z⟩ := h
      exact z
end T3

namespace T3
open PySem L2
section
variable {X : Cx} {Wx : WX}
/-! ### a op b op c -/
def chain3 (r r' : R3) (ta tb tc : TE3) : TE3 := fun σ G Q E => ta σ G (fun x G1 => tb σ G1 (fun y G2 => r x y G2 fun z G3 => match z with
  | .bl k => if k = true then tc σ G3 (fun w G4 => r' y w G4 Q) E else Q (.bl false) G3
  | _ => False) E) E
/-- an int comparison's rule and its reading -/
structure ChR (X : Cx) (op : CmpOp) (r3 : R3) : Prop where
  ex : ∃ r : R2, OpR X (compareOp op) r ∧ OpL X.K r3 r
theorem ch_lt : ChR X .Lt lt3 := ⟨_, op_lt, opl_cmp⟩
theorem ch_le : ChR X .LtE le3 := ⟨_, op_le, opl_cmp⟩
theorem ch_gt : ChR X .Gt gt3 := ⟨_, op_gt, opl_cmp⟩
theorem ch_ge : ChR X .GtE ge3 := ⟨_, op_ge, opl_cmp⟩
theorem low_chain {K : PySem.W.Frag} {r3 r3' : R3} {r r' : R2} {ta tb tc : TE3} (h1 : OpL K r3 r) (h2 : OpL K r3' r') {σ : St} {H : Hp} {Q : VK} : lowE K Wx (chain3 r3 r3' ta tb tc) σ H Q → tChain r r' (lowE K Wx ta) (lowE K Wx tb) (lowE K Wx tc) σ H Q := by
  rintro ⟨σ3, W, G, Q3, E3, R, S, h, q, e⟩
  refine ⟨σ3, W, G, _, E3, R, S, h, ⟨fun W1 x G1 x' H1 l1 S1 q1 k1 => ?_⟩, e⟩
  refine ⟨σ3, W1, G1, _, E3, R.mono l1, S1, k1, ⟨fun W2 y G2 y' H2 l2 S2 q2 k2 => ?_⟩, e.mono l1⟩
  refine h1 _ _ _ _ _ _ _ _ _ S2 (q1.mono l2) q2 k2 ⟨fun W3 z G3 z' H3 l3 S3 q3 k3 => ?_⟩
  cases z with
  | bl k =>
    cases q3
    refine ⟨k, rfl, ?_⟩
    have ll := l1.trans (l2.trans l3)
    cases k with
    | true =>
      have k3 : tc σ3 G3 (fun w G4 => r3' y w G4 Q3) E3 := by simpa using k3
      rw [if_pos rfl]
      refine ⟨σ3, W3, G3, _, E3, R.mono ll, S3, k3, ⟨fun W4 w G4 w' H4 l4 S4 q4 k4 => ?_⟩, e.mono ll⟩
      exact h2 _ _ _ _ _ _ _ _ _ S4 (q2.mono (l3.trans l4)) q4 k4 (q.mono (ll.trans l4))
    | false =>
      have k3 : Q3 (.bl false) G3 := by simpa using k3
      rw [if_neg Bool.false_ne_true]
      exact q.run _ (.bl false) _ _ _ ll S3 rfl k3
  | _ => exact k3.elim
section
variable {a b c e : Expr} {ta tb tc te : TE3} {pos : Pos} {op op' : CmpOp} {r3 r3' : R3}
theorem e_chain (h1 : ChR X op r3) (h2 : ChR X op' r3') (ha : PE X a (lowE X.K Wx ta)) (hb : PE X b (lowE X.K Wx tb)) (hc : PE X c (lowE X.K Wx tc)) (hm : lastMarks [op, op'] [b, c] = false := by with_unfolding_all rfl) : PE X (.Compare a [op, op'] [b, c] pos) (lowE X.K Wx (chain3 r3 r3' ta tb tc)) := by
  obtain ⟨r, h1, g1⟩ := h1.ex
  obtain ⟨r', h2, g2⟩ := h2.ex
  exact (pe_chain h1 h2 ha hb hc hm).imp3 fun _ _ _ => low_chain g1 g2
theorem t_chain (h1 : ChR X op r3) (h2 : ChR X op' r3') (ha : PE X a (lowE X.K Wx ta)) (hb : PE X b (lowE X.K Wx tb)) (hc : PE X c (lowE X.K Wx tc)) (hm : lastMarks [op, op'] [b, c] = false := by with_unfolding_all rfl) : PT X (.Compare a [op, op'] [b, c] pos) (lowT X.K Wx (t3 (chain3 r3 r3' ta tb tc))) := by
  obtain ⟨r, h1, g1⟩ := h1.ex
  obtain ⟨r', h2, g2⟩ := h2.ex
  refine (pt_chain h1 h2 ha hb hc hm).imp3 fun σ H Q h => ?_
  obtain ⟨σ3, W, G, Q3, E3, R, S, h, q, e⟩ := low_t h
  exact low_chain g1 g2 ⟨σ3, W, G, Q3, E3, R, S, h, q, e⟩
/-! ### is None -/
def isN3 (neg : Bool) : U3 := fun x G Q => match x with
  | .non => Q (.bl (!neg)) G
  | _ => Q (.bl neg) G
theorem isN_ok {x : D} {x' : V} {W : Wd} (r : Rl W x x') : decide (x' = .non) = (match x with | .non => true | _ => false) := by
  cases x with
  | non => cases r; rfl
  | bl _ => cases r; rfl
  | int _ => cases r; rfl
  | str _ => cases r; rfl
  | ref _ => cases r; rfl
  | tup _ => obtain ⟨a, vs, rfl, _⟩ := r; rfl
  | lst _ => obtain ⟨a, vs, rfl, _⟩ := r; rfl
  | scr _ => obtain ⟨a, rfl, _⟩ := r; rfl
theorem low_isN {K : PySem.W.Frag} {σ : St} {H : Hp} {Q : VK} : lowE K Wx (un3 (isN3 false) ta) σ H Q → tIsN (lowE K Wx ta) σ H Q := by
  rintro ⟨σ3, W, G, Q3, E3, R, S, h, q, e⟩
  refine ⟨σ3, W, G, _, E3, R, S, h, ⟨fun W1 x G1 x' H1 l1 S1 r1 h1 => ?_⟩, e⟩
  show Q (.bl (decide (x' = .non))) H1
  rw [isN_ok r1]
  refine q.run _ (.bl _) _ _ _ l1 S1 rfl ?_
  cases x <;> exact h1
theorem low_isnN {K : PySem.W.Frag} {σ : St} {H : Hp} {Q : VK} : lowE K Wx (un3 (isN3 true) ta) σ H Q → tNotN (lowE K Wx ta) σ H Q := by
  rintro ⟨σ3, W, G, Q3, E3, R, S, h, q, e⟩
  refine ⟨σ3, W, G, _, E3, R, S, h, ⟨fun W1 x G1 x' H1 l1 S1 r1 h1 => ?_⟩, e⟩
  show Q (.bl (!decide (x' = .non))) H1
  rw [isN_ok r1]
  refine q.run _ (.bl _) _ _ _ l1 S1 rfl ?_
  cases x <;> exact h1
theorem e_isNone {j p} (ha : PE X a (lowE X.K Wx ta)) : PE X (.Compare a [.Is] [.Constant .none j p] pos) (lowE X.K Wx (un3 (isN3 false) ta)) := (pe_cmp (pc_isN ha) rfl).imp3 fun _ _ _ => low_isN
theorem e_isnNone {j p} (ha : PE X a (lowE X.K Wx ta)) : PE X (.Compare a [.IsNot] [.Constant .none j p] pos) (lowE X.K Wx (un3 (isN3 true) ta)) := (pe_cmp (pc_notN ha) rfl).imp3 fun _ _ _ => low_isnN
theorem t_isNone {j p} (ha : PE X a (lowE X.K Wx ta)) : PT X (.Compare a [.Is] [.Constant .none j p] pos) (lowT X.K Wx (t3 (un3 (isN3 false) ta))) := by
  refine (pt_cmp (pc_isN ha) rfl).imp3 fun σ H Q h => ?_
  obtain ⟨σ3, W, G, Q3, E3, R, S, h, q, e⟩ := low_t h
  exact low_isN ⟨σ3, W, G, Q3, E3, R, S, h, q, e⟩
theorem t_isnNone {j p} (ha : PE X a (lowE X.K Wx ta)) : PT X (.Compare a [.IsNot] [.Constant .none j p] pos) (lowT X.K Wx (t3 (un3 (isN3 true) ta))) := by
  refine (pt_cmp (pc_notN ha) rfl).imp3 fun σ H Q h => ?_
  obtain ⟨σ3, W, G, Q3, E3, R, S, h, q, e⟩ := low_t h
  exact low_isnN ⟨σ3, W, G, Q3, E3, R, S, h, q, e⟩
/-! ### x in xs, texts and truth values -/
def memB (neg b : Bool) : Bool := if neg then !b else b
def in3 (neg : Bool) : R3 := fun x y G Q => match x with
  | .str s => ∃ ss : List Str, Ls G y (ss.map D.str) ∧ Q (.bl (memB neg (decide (s ∈ ss)))) G
  | .bl b => ∃ bs : List Bool, Ls G y (bs.map D.bl) ∧ Q (.bl (memB neg (decide (b ∈ bs)))) G
  | _ => False
theorem flat_strs (ss : List Str) : (ss.map V.str).all flatV = true := by
  rw [List.all_eq_true]; intro x hx; obtain ⟨s, _, rfl⟩ := List.mem_map.mp hx; rfl
theorem flat_bls (ss : List Bool) : (ss.map V.bl).all flatV = true := by
  rw [List.all_eq_true]; intro x hx; obtain ⟨s, _, rfl⟩ := List.mem_map.mp hx; rfl
theorem inV_strs (s : Str) : ∀ ss : List Str, inV (.str s) (ss.map V.str) = decide (s ∈ ss)
  | [] => rfl
  | t :: r => by
    have := inV_strs s r
    unfold inV at this ⊢
    rw [List.map_cons, List.any_cons, this]
    have e : eqV (.str t) (.str s) = decide (s = t) := by
      show decide (t = s) = decide (s = t)
      by_cases h : s = t <;> simp [h, eq_comm]
    rw [e]
    by_cases h : s = t <;> simp [h]
theorem inV_bls (s : Bool) : ∀ ss : List Bool, inV (.bl s) (ss.map V.bl) = decide (s ∈ ss)
  | [] => rfl
  | t :: r => by
    have := inV_bls s r
    unfold inV at this ⊢
    rw [List.map_cons, List.any_cons, this]
    have e : eqV (.bl t) (.bl s) = decide (s = t) := by cases s <;> cases t <;> rfl
    rw [e]
    by_cases h : s = t <;> simp [h]
theorem opl_in {K : PySem.W.Frag} {neg : Bool} : OpL K (in3 neg) (rIn K neg) := by
  intro W x y G Q3 x' y' H Q S rx ry h q
  cases x with
  | str s =>
    cases rx
    obtain ⟨ss, l, h⟩ := h
    obtain ⟨a, vs, rfl, e, r⟩ := l.sql S ry
    have := r.strs
    subst this
    refine ⟨a, _, rfl, .inl (SqL.of e), rfl, flat_strs ss, ?_⟩
    rw [inV_strs]
    exact q.run _ (.bl (memB neg (decide (s ∈ ss)))) _ _ _ (.refl _) S rfl h
  | bl s =>
    cases rx
    obtain ⟨ss, l, h⟩ := h
    obtain ⟨a, vs, rfl, e, r⟩ := l.sql S ry
    have := r.bls
    subst this
    refine ⟨a, _, rfl, .inl (SqL.of e), rfl, flat_bls ss, ?_⟩
    rw [inV_bls]
    exact q.run _ (.bl (memB neg (decide (s ∈ ss)))) _ _ _ (.refl _) S rfl h
  | _ => exact h.elim
theorem e_in (ha : PE X a (lowE X.K Wx ta)) (hb : PE X b (lowE X.K Wx tb)) (hm : behindInMarks .In b = false := by rfl) : PE X (.Compare a [.In] [b] pos) (lowE X.K Wx (op3 (in3 false) ta tb)) := e_cmp op_in_seq opl_in hm ha hb
theorem e_nin (ha : PE X a (lowE X.K Wx ta)) (hb : PE X b (lowE X.K Wx tb)) (hm : behindInMarks .NotIn b = false := by rfl) : PE X (.Compare a [.NotIn] [b] pos) (lowE X.K Wx (op3 (in3 true) ta tb)) := e_cmp op_notIn_seq opl_in hm ha hb
theorem t_in (ha : PE X a (lowE X.K Wx ta)) (hb : PE X b (lowE X.K Wx tb)) (hm : behindInMarks .In b = false := by rfl) : PT X (.Compare a [.In] [b] pos) (lowT X.K Wx (t3 (op3 (in3 false) ta tb))) := t_cmp op_in_seq opl_in hm ha hb
theorem t_nin (ha : PE X a (lowE X.K Wx ta)) (hb : PE X b (lowE X.K Wx tb)) (hm : behindInMarks .NotIn b = false := by rfl) : PT X (.Compare a [.NotIn] [b] pos) (lowT X.K Wx (t3 (op3 (in3 true) ta tb))) := t_cmp op_notIn_seq opl_in hm ha hb
/-! ### xs[i] = e, xs.clear() -/
def setL3 (te to ti : TE3) : TS3 := fun D σ G => te σ G (fun v G1 => to σ G1 (fun o G2 => ti σ G2 (fun i G3 => match o, i with
  | .ref a, .int k => ∃ ds j G4, Put a (.lst ds) (.lst (ds.set j v)) G3 G4 ∧ ixN ds.length k = some j ∧ D.nx σ G4
  | _, _ => False) D.ex) D.ex) D.ex
theorem s_setL {o i : Expr} {to ti : TE3} {p pos' : Pos} (hv : PE X e (lowE X.K Wx te)) (ho : PE X o (lowE X.K Wx to)) (hi : PE X i (lowE X.K Wx ti))
    (ha : ∀ v, assign (.Subscript o i p) X.env v = (do
      let ov ← holding [v] (eval o X.env)
      let iv ← holding [v, ov] (eval i X.env)
      standAt p
      holding [v, ov, iv] (setItem ov iv v)
      release [v, ov, iv] []) := by intro _; rfl)
    (hs : swapsWithSole [.Subscript o i p] e pos'.line X.env = pure false := by rfl) (hw : swappedStores [.Subscript o i p] e X.env = pure none := by rfl) (h1 : (assignEach [.Subscript o i p] X.env).map (·.2) = [assign (.Subscript o i p) X.env] := by rfl) :
    PS X (.Assign [.Subscript o i p] e pos') (lowS X.K Wx (setL3 te to ti)) := by
  refine (ps_asg hv (pg_sub ho hi set_list ha) hs hw h1).imp3 ?_
  rintro D σ H ⟨σ3, W, G, D3, R, S, h, k⟩
  refine ⟨σ3, W, G, _, _, R, S, h, ⟨fun W1 v G1 v' H1 l1 S1 r1 h1 => ?_⟩, k.ex⟩
  refine ⟨σ3, W1, G1, _, _, R.mono l1, S1, h1, ⟨fun W2 o G2 o' H2 l2 S2 r2 h2 => ?_⟩, k.ex.mono l1⟩
  refine ⟨σ3, W2, G2, _, _, R.mono (l1.trans l2), S2, h2, ⟨fun W3 i G3 i' H3 l3 S3 r3 h3 => ?_⟩, k.ex.mono (l1.trans l2)⟩
  cases o with
  | ref a =>
    cases i with
    | int n =>
      cases r2; cases r3
      obtain ⟨ds, j, G4, p, hj, h3⟩ := h3
      obtain ⟨vs, e1, r⟩ := S3.ob _ _ p.mem
      have ll := l1.trans (l2.trans l3)
      refine ⟨a, vs, n, j, rfl, rfl, e1, by rw [← r.length]; exact hj, ?_⟩
      exact k.nx.run _ _ _ _ _ ll (R.mono ll) (S3.put (o' := .lst (ds.set j v)) p ⟨_, upd_same, r.set (r1.mono (l2.trans l3)) j⟩) h3
    | _ => exact h3.elim
  | _ => cases i <;> exact h3.elim
def clear3 (ta : TE3) : TE3 := fun σ G Q E => ta σ G (fun x G1 => match x with
  | .ref a => ∃ ds G2, Put a (.lst ds) (.lst []) G1 G2 ∧ Q .non G2
  | _ => False) E
theorem e_clear {c : Expr} (h : PE X c (tBM0 X.K "list" rClear (lowE X.K Wx ta))) : PE X c (lowE X.K Wx (clear3 ta)) := by
  refine h.imp3 ?_
  rintro σ H Q ⟨σ3, W, G, Q3, E3, R, S, h, q, e⟩
  refine ⟨σ3, W, G, _, E3, R, S, h, ⟨fun W1 x G1 x' H1 l1 S1 r1 h1 => ?_⟩, e⟩
  cases x with
  | ref a =>
    cases r1
    obtain ⟨ds, G2, p, h1⟩ := h1
    obtain ⟨vs, e1, r⟩ := S1.ob _ _ p.mem
    refine ⟨.inl ⟨rfl, _, SqL.of e1⟩, a, vs, rfl, rfl, e1, ?_⟩
    exact q.run _ .non _ _ _ l1 (S1.put (o' := .lst []) p ⟨[], upd_same, rfl⟩) rfl h1
  | _ => exact h1.elim
end
end
end T3

namespace T3
open PySem L2
section
variable {X : Cx} {Wx : WX}
/-! ### a tuple that is walked -/
def it3 (te : TE3) : TI3 := fun σ G R E => te σ G (fun x G1 => match x with
  | .tup ds => R ds (fun _ => True) G1
  | _ => False) E
theorem i_tup {tg e : Expr} {te : TE3} (he : PE X e (lowE X.K Wx te)) : PI X tg e (lowI X.K Wx (it3 te)) := by
  refine (pi_tup he).imp3 ?_
  rintro σ H Q ⟨σ3, W, G, R3, E3, R, S, h, e, k⟩
  refine ⟨σ3, W, G, _, E3, R, S, h, ⟨fun W1 x G1 x' H1 l1 S1 r1 h1 => ?_⟩, e⟩
  cases x with
  | tup ds =>
    obtain ⟨a, vs, rfl, l, r⟩ := r1
    refine ⟨a, rfl, ⟨vs, S1.ft _ _ l⟩, k W1 ds _ G1 _ H1 l1 S1 h1 ⟨fun i W' G' H' l' S' hs hi => ?_, fun W' G' H' l' S' hs => ?_, fun i W' G' H' x H'' l' S' hs hi y => ?_⟩⟩
    · exact (walk_tup (K := X.K) (a := a) (xs := vs)).goes i H' (by rw [← r.length]; exact hi) (S'.ft _ _ (l'.t _ _ l))
    · rw [r.length]
      exact (walk_tup (K := X.K) (a := a) (xs := vs)).stops H' (S'.ft _ _ (l'.t _ _ l))
    · obtain ⟨e, h⟩ := (walk_tup (K := X.K) (a := a) (xs := vs)).yields i H' x H'' (by rw [← r.length]; exact hi) (S'.ft _ _ (l'.t _ _ l)) y
      subst e
      obtain ⟨d, h1, h2⟩ := (r.mono l').get' h
      exact ⟨W', d, .refl _, h1, S', h2⟩
  | _ => exact h1.elim
/-! ### a comprehension's list that is one's own -/
def lcO3 (src : TI3) (g : TL3) (tt : TT3) (te : TE3) (vs : List Nat) : TE3 := fun σ G Q E => lc3 src g tt te vs σ G (fun x G1 => match x with
  | .lst ds => ∀ p, Q (.ref p) ((p, .lst ds) :: G1)
  | _ => False) E
theorem low_lcO {K : PySem.W.Frag} {src : TI3} {g : TG} {g3 : TL3} {tt : TT3} {te : TE3} {vs : List Nat} {σ : St} {H : Hp} {Q : VK} (hg : TlOk K vs g g3) :
    lowE K Wx (lcO3 src g3 tt te vs) σ H Q → tLc (lowI K Wx src) g (lowT K wF tt) (lowE K wF te) vs σ H Q := by
  rintro ⟨σ3, W, G, Q3, E3, R, S, h, q, e⟩
  refine ⟨σ3, W, G, _, E3, R, S, h, e, fun W1 xs Std G1 J H1 l1 S1 h1 w => ?_⟩
  intro Dl hD
  obtain ⟨ys, hstd, turn, hz, h1⟩ := h1
  refine ⟨fun k m H' => m = xs.length - k ∧ k ≤ xs.length ∧ ∃ W', W1.le W' ∧ Sim K W' ((Dl, .lst ((List.range k).filterMap ys)) :: G1) H', ⟨xs.length, by simp, Nat.zero_le _, W1, .refl _, S1.newO (o := .lst []) hD ⟨[], upd_same, rfl⟩⟩, ?_⟩
  rintro k m H' ⟨rfl, hk, W', l', S'⟩
  by_cases hlt : k < xs.length
  · refine .inr ⟨w.goes k W' _ H' l' S' (hstd _ _) hlt, fun H'' => ∃ W'', W1.le W'' ∧ Sim K W'' ((Dl, .lst ((List.range (k + 1)).filterMap ys)) :: G1) H'', fun H'' p' => ⟨xs.length - (k + 1), by omega, rfl, hlt, p'⟩, fun x H'' y => ?_⟩
    obtain ⟨W2, d, l2, hd, S2, r2⟩ := w.yields k W' _ H' x H'' l' S' (hstd _ _) hlt y
    have t := turn k d Dl ((List.range k).filterMap ys) hd
    cases hg3 : g3 d (wipe3 σ3 vs) with
    | none => rw [hg3] at t; exact t.elim
    | some σ4 =>
      rw [hg3] at t
      have RW : RepS W2 (wipe3 σ3 vs) (wipe σ vs) := (R.mono (l1.trans (l'.trans l2))).wipe vs
      refine hg W2 d x (wipe3 σ3 vs) σ _ H'' σ4 _ RW S2 r2 hg3 fun σ' R' hw => ⟨hw, ?_⟩
      refine ⟨σ4, W2, _, _, eF, R', S2, t, ⟨fun W3 b G3 H3 l3 S3 h3 => ?_⟩, okF⟩
      obtain ⟨rfl, h3⟩ := h3
      cases b with
      | false =>
        rw [if_neg Bool.false_ne_true] at h3 ⊢
        refine ⟨W3, l'.trans (l2.trans l3), ?_⟩
        rw [List.range_succ, List.filterMap_append]
        simp only [List.filterMap_cons, h3, List.filterMap_nil, List.append_nil]
        exact S3
      | true =>
        rw [if_pos rfl] at h3 ⊢
        refine ⟨σ4, W3, _, _, eF, R'.mono l3, S3, h3, ⟨fun W4 y G4 y' H4 l4 S4 r4 h4 => ?_⟩, okF⟩
        obtain ⟨rfl, hy⟩ := h4
        obtain ⟨us, e4, q4⟩ := S4.ob _ _ (List.mem_cons_self ..)
        refine ⟨us, e4, ?_, W4, l'.trans (l2.trans (l3.trans l4)), ?_⟩
        · have : ((List.range k).filterMap ys).length ≤ k := by
            have := List.length_filterMap_le ys (List.range k)
            simpa using this
          rw [← q4.length]
          omega
        · rw [List.range_succ, List.filterMap_append]
          simp only [List.filterMap_cons, hy, List.filterMap_nil]
          exact S4.put (o' := .lst ((List.range k).filterMap ys ++ [y])) .head ⟨_, upd_same, q4.append (RlL.one r4)⟩
  · have e : k = xs.length := by omega
    subst e
    refine .inl ⟨w.stops W' _ H' l' S' (hstd _ _), ?_⟩
    exact q.run _ (.ref Dl) _ _ _ (l1.trans l') S' rfl (h1 Dl)
theorem e_lcO {e : Expr} {src : TI3} {g : TG} {g3 : TL3} {tt : TT3} {te : TE3} {vs : List Nat} (h : PE X e (tLc (lowI X.K Wx src) g (lowT X.K wF tt) (lowE X.K wF te) vs)) (hg : TlOk X.K vs g g3) : PE X e (lowE X.K Wx (lcO3 src g3 tt te vs)) := h.imp3 fun _ _ _ => low_lcO hg
end
theorem UpV.perm {K : PySem.W.Frag} {d : D} {G G' : G3} {P : D → G3 → Prop} (p : G.Perm G') (h : UpV K P d G') : UpV K P d G := by
  obtain ⟨d', G2, w, h⟩ := h
  exact ⟨d', G2, (WkV.perm p).trans w, h⟩
/-! ### lots, as plain Lean -/
structure Lot where
  day : Int
  count : Int
  cost : Int
deriving DecidableEq
abbrev lotI (l : Lot) : List Int := [l.day, l.count, l.cost]
abbrev tupD (t : List Int) : D := .tup (t.map .int)
abbrev lotD (l : Lot) : D := tupD (lotI l)
theorem lotI_inj {a b : Lot} (h : lotI a = lotI b) : a = b := by
  cases a; cases b; simpa [lotI] using h
theorem lots_inj : ∀ {a b : List Lot}, a.map lotI = b.map lotI → a = b
  | [], [], _ => rfl
  | [], _ :: _, h => by simp at h
  | _ :: _, [], h => by simp at h
  | x :: a, y :: b, h => by
    rw [List.map_cons, List.map_cons] at h
    injection h with h1 h2
    rw [lotI_inj h1, lots_inj h2]
theorem map_lotD (ls : List Lot) : ls.map lotD = (ls.map lotI).map tupD := by rw [List.map_map]; rfl
/-- counts of one at least, numbers that are not too great -/
def LotOk (l : Lot) : Prop := 1 ≤ l.count ∧ l.count < 2 ^ 8000 ∧ 0 ≤ l.cost ∧ bl l.cost ≤ 50000000
structure LotsOk (ls : List Lot) : Prop where
  ok : ∀ l ∈ ls, LotOk l
  len : ls.length ≤ 1000
theorem fm_take {α : Type} (l : List α) (h : α → D) : ∀ n, n ≤ l.length → (List.range n).filterMap (fun k => (l[k]?).map h) = (l.take n).map h
  | 0, _ => by simp
  | n + 1, hn => by
    obtain ⟨x, hx⟩ : ∃ x, l[n]? = some x := ⟨l[n], by simp⟩
    rw [List.range_succ, List.filterMap_append, fm_take l h n (by omega), take_snoc hx, List.map_append]
    simp [hx]
theorem fm_map {α : Type} (l : List α) (h : α → D) : (List.range l.length).filterMap (fun k => (l[k]?).map h) = l.map h := by
  rw [fm_take l h _ (Nat.le_refl _), List.take_length]
def wide (m : Int) (l : Lot) : Lot := ⟨l.day, l.count * m, l.cost⟩
def slim (m : Int) (l : Lot) : Lot := ⟨l.day, l.count / m, l.cost⟩
theorem any_map_false {α : Type} {p : α → Bool} : ∀ {ls : List α}, (ls.map p).any id = false → ∀ l ∈ ls, p l = false
  | [], _, l, h => by cases h
  | x :: r, h, l, hl => by
    simp only [List.map_cons, List.any_cons, id, Bool.or_eq_false_iff] at h
    rcases List.mem_cons.mp hl with rfl | hl
    · exact h.1
    · exact any_map_false h.2 l hl
theorem any_map_true {α : Type} {p : α → Bool} : ∀ {ls : List α}, (ls.map p).any id = true → ∃ l ∈ ls, p l = true
  | [], h => by simp at h
  | x :: r, h => by
    simp only [List.map_cons, List.any_cons, id, Bool.or_eq_true] at h
    rcases h with h | h
    · exact ⟨x, List.mem_cons_self .., h⟩
    · obtain ⟨l, h1, h2⟩ := any_map_true h
      exact ⟨l, List.mem_cons_of_mem _ h1, h2⟩
def mixed (c p : Int) : Int := (c + 61 * p) * 1000003 ^ 5
theorem bl_61 {p : Int} (h0 : 0 ≤ p) (hp : p < 2 ^ 60) : bl (61 * p) ≤ 70 := by
  have h1 := bl_le (n := 59) h0 hp
  have h2 : bl 61 = 5 := by decide +kernel
  have h3 := bl_mul 61 p
  omega
theorem mixed_bl {c p : Int} {n : Nat} (hc : bl c ≤ n) (h0 : 0 ≤ p) (hp : p < 2 ^ 60) (hn : 100 ≤ n) : bl (mixed c p) ≤ n + 200 := by
  have h1 := bl_61 h0 hp
  have h2 := bl_add c (61 * p)
  have h3 := bl_mul (c + 61 * p) (1000003 ^ 5)
  have h4 : bl ((1000003 : Int) ^ 5) = 99 := by decide +kernel
  unfold mixed
  omega
theorem om {α β : Type} {l : List α} {f : α → β} {k : Nat} {x : α} (h : l[k]? = some x) : Option.map f (l[k]?) = some (f x) := by rw [h]; rfl
theorem atI_pick {xs : List Int} {i : Int} (h0 : 0 ≤ i) (h : i < xs.length) : atI (xs.map D.int) i = some (.int (xs.getD i.toNat 0)) := by
  obtain ⟨k, rfl⟩ := Int.eq_ofNat_of_zero_le h0
  have hk : k < xs.length := by omega
  exact atI_nat (by simp [hk, List.getD])
theorem getD_mem {xs : List Int} {i : Nat} (h : i < xs.length) : xs.getD i 0 ∈ xs := by
  simp [List.getD, h]
theorem plain_tup (t : List Int) : plain (tupD t) = true := plainL_ints t
theorem dep_tup (t : List Int) : dep (tupD t) ≤ 64 := by show depL _ + 1 ≤ 64; rw [depL_ints]; decide
theorem tupD_inj {a b : List Int} (h : tupD a = tupD b) : a = b := by
  injection h with h
  exact List.map_inj_right (fun x y h => by injection h) |>.mp h
theorem beq_tup (a b : List Int) : beqD (tupD a) (tupD b) = decide (a = b) := by
  by_cases e : a = b
  · subst e; rw [beqD_refl (plain_tup a), decide_eq_true rfl]
  · rw [decide_eq_false e]
    cases h : beqD (tupD a) (tupD b) with
    | false => rfl
    | true => exact absurd (tupD_inj (beqD_eq h)) e
theorem all_true : ∀ (t : List Int), (t.map fun _ => true).all id = true
  | [] => rfl
  | _ :: r => by simpa using all_true r
theorem plain_tups : ∀ (ts : List (List Int)), plain (D.lst (ts.map tupD)) = true
  | [] => rfl
  | t :: r => by
    have := plain_tups r
    show (plain (tupD t) && plainL (r.map tupD)) = true
    rw [plain_tup]; exact this
theorem dep_tups (ts : List (List Int)) : dep (D.lst (ts.map tupD)) ≤ 64 := by
  have h : ∀ ts : List (List Int), depL (ts.map tupD) ≤ 63 := fun ts => by
    induction ts with
    | nil => decide
    | cons t r ih =>
      have := plain_tup t
      show max (dep (tupD t)) (depL (r.map tupD)) ≤ 63
      have : dep (tupD t) ≤ 63 := by show depL _ + 1 ≤ 63; rw [depL_ints]; decide
      omega
  have := h ts
  show depL _ + 1 ≤ 64
  omega
end T3

namespace T3
open PySem L2
/-! ### used, as plain Lean -/
def partOf (c : Int) (l : Lot) : Int := if l.count < c then l.count else c
theorem partOf_eq (c : Int) (l : Lot) : partOf c l = min c l.count := by unfold partOf; split <;> omega
def takeOne (c : Int) (l : Lot) : List Lot := if 0 < partOf c l then [⟨l.day, partOf c l, l.cost * partOf c l / l.count⟩] else []
def leaveOne (c : Int) (l : Lot) : List Lot := if partOf c l < l.count then [⟨l.day, l.count - partOf c l, l.cost - l.cost * partOf c l / l.count⟩] else []
def restL (c : Int) : List Lot → Int
  | [] => c
  | l :: r => restL (c - partOf c l) r
def takenL (c : Int) : List Lot → List Lot
  | [] => []
  | l :: r => takeOne c l ++ takenL (c - partOf c l) r
def leftL (c : Int) : List Lot → List Lot
  | [] => []
  | l :: r => leaveOne c l ++ leftL (c - partOf c l) r
theorem restL_snoc : ∀ (ls : List Lot) (c : Int) (l : Lot), restL c (ls ++ [l]) = restL c ls - partOf (restL c ls) l
  | [], c, l => rfl
  | x :: r, c, l => by simp only [List.cons_append, restL, restL_snoc r (c - partOf c x) l]
theorem takenL_snoc : ∀ (ls : List Lot) (c : Int) (l : Lot), takenL c (ls ++ [l]) = takenL c ls ++ takeOne (restL c ls) l
  | [], c, l => by simp [takenL, restL]
  | x :: r, c, l => by simp only [List.cons_append, takenL, restL, takenL_snoc r (c - partOf c x) l, List.append_assoc]
theorem leftL_snoc : ∀ (ls : List Lot) (c : Int) (l : Lot), leftL c (ls ++ [l]) = leftL c ls ++ leaveOne (restL c ls) l
  | [], c, l => by simp [leftL, restL]
  | x :: r, c, l => by simp only [List.cons_append, leftL, restL, leftL_snoc r (c - partOf c x) l, List.append_assoc]
theorem restL_pos : ∀ {ls : List Lot} {c : Int}, 0 ≤ c → (∀ l ∈ ls, 0 ≤ l.count) → 0 ≤ restL c ls
  | [], c, h, _ => h
  | x :: r, c, h, hl => by
    refine restL_pos (ls := r) ?_ fun l h1 => hl l (List.mem_cons_of_mem _ h1)
    rw [partOf_eq]; omega
theorem takeOne_len (c : Int) (l : Lot) : (takeOne c l).length ≤ 1 := by unfold takeOne; split <;> simp
theorem leaveOne_len (c : Int) (l : Lot) : (leaveOne c l).length ≤ 1 := by unfold leaveOne; split <;> simp
theorem takenL_len : ∀ (ls : List Lot) (c : Int), (takenL c ls).length ≤ ls.length
  | [], c => by simp [takenL]
  | x :: r, c => by
    have := takenL_len r (c - partOf c x)
    have := takeOne_len c x
    simp only [takenL, List.length_append, List.length_cons]; omega
theorem leftL_len : ∀ (ls : List Lot) (c : Int), (leftL c ls).length ≤ ls.length
  | [], c => by simp [leftL]
  | x :: r, c => by
    have := leftL_len r (c - partOf c x)
    have := leaveOne_len c x
    simp only [leftL, List.length_append, List.length_cons]; omega
theorem part_pos {c : Int} {l : Lot} (hc : 0 ≤ c) (hl : LotOk l) : 0 ≤ partOf c l ∧ partOf c l ≤ l.count ∧ partOf c l ≤ c := by
  have := hl.1; rw [partOf_eq]; omega
theorem cost_part {c : Int} {l : Lot} (hc : 0 ≤ c) (hl : LotOk l) : 0 ≤ l.cost * partOf c l / l.count ∧ l.cost * partOf c l / l.count ≤ l.cost := by
  obtain ⟨h1, h2, _⟩ := part_pos hc hl
  have h0 : 0 < l.count := hl.1
  refine ⟨Int.ediv_nonneg (Int.mul_nonneg hl.2.2.1 h1) (by omega), ?_⟩
  refine Int.ediv_le_of_le_mul h0 (Int.mul_le_mul_of_nonneg_left h2 hl.2.2.1)
theorem takeOne_ok {c : Int} {l : Lot} (hc : 0 ≤ c) (hl : LotOk l) : ∀ x ∈ takeOne c l, LotOk x := by
  intro x hx
  obtain ⟨h1, h2, h3⟩ := part_pos hc hl
  obtain ⟨c1, c2⟩ := cost_part hc hl
  unfold takeOne at hx
  split at hx
  · rename_i h
    rw [List.mem_singleton] at hx; subst hx
    exact ⟨h, Int.lt_of_le_of_lt h2 hl.2.1, c1, Nat.le_trans (bl_mono c1 c2) hl.2.2.2⟩
  · cases hx
theorem leaveOne_ok {c : Int} {l : Lot} (hc : 0 ≤ c) (hl : LotOk l) : ∀ x ∈ leaveOne c l, LotOk x := by
  intro x hx
  obtain ⟨h1, h2, h3⟩ := part_pos hc hl
  obtain ⟨c1, c2⟩ := cost_part hc hl
  unfold leaveOne at hx
  split at hx
  · rename_i h
    rw [List.mem_singleton] at hx; subst hx
    exact ⟨by show 1 ≤ l.count - partOf c l; omega, Int.lt_of_le_of_lt (by show l.count - partOf c l ≤ l.count; omega) hl.2.1, by show 0 ≤ l.cost - _; omega, Nat.le_trans (bl_mono (by show 0 ≤ l.cost - _; omega) (by show l.cost - _ ≤ l.cost; omega)) hl.2.2.2⟩
  · cases hx
theorem takenL_ok : ∀ {ls : List Lot} {c : Int}, 0 ≤ c → (∀ l ∈ ls, LotOk l) → ∀ x ∈ takenL c ls, LotOk x
  | [], c, _, _, x, hx => by cases hx
  | l :: r, c, hc, h, x, hx => by
    rcases List.mem_append.mp hx with hx | hx
    · exact takeOne_ok hc (h l (List.mem_cons_self ..)) x hx
    · refine takenL_ok (ls := r) ?_ (fun y hy => h y (List.mem_cons_of_mem _ hy)) x hx
      have := part_pos hc (h l (List.mem_cons_self ..)); omega
theorem leftL_ok : ∀ {ls : List Lot} {c : Int}, 0 ≤ c → (∀ l ∈ ls, LotOk l) → ∀ x ∈ leftL c ls, LotOk x
  | [], c, _, _, x, hx => by cases hx
  | l :: r, c, hc, h, x, hx => by
    rcases List.mem_append.mp hx with hx | hx
    · exact leaveOne_ok hc (h l (List.mem_cons_self ..)) x hx
    · refine leftL_ok (ls := r) ?_ (fun y hy => h y (List.mem_cons_of_mem _ hy)) x hx
      have := part_pos hc (h l (List.mem_cons_self ..)); omega
/-- what is taken comes to what is gone -/
theorem taken_sum : ∀ {ls : List Lot} {c : Int}, 0 ≤ c → (∀ l ∈ ls, LotOk l) → ((takenL c ls).map Lot.count).sum = c - restL c ls
  | [], c, _, _ => by simp [takenL, restL]
  | l :: r, c, hc, h => by
    have hp := part_pos hc (h l (List.mem_cons_self ..))
    have ih := taken_sum (ls := r) (c := c - partOf c l) (by omega) (fun y hy => h y (List.mem_cons_of_mem _ hy))
    have e : ((takeOne c l).map Lot.count).sum = partOf c l := by
      unfold takeOne
      split
      · simp
      · simp; omega
    simp only [takenL, restL, List.map_append, List.sum_append, ih, e]; omega
theorem rest_zero : ∀ {ls : List Lot} {c : Int}, 0 ≤ c → (∀ l ∈ ls, LotOk l) → c ≤ (ls.map Lot.count).sum → restL c ls = 0
  | [], c, h, _, h2 => by simp at h2; simp [restL]; omega
  | l :: r, c, hc, h, h2 => by
    have hp := part_pos hc (h l (List.mem_cons_self ..))
    refine rest_zero (ls := r) (by omega) (fun y hy => h y (List.mem_cons_of_mem _ hy)) ?_
    simp only [List.map_cons, List.sum_cons] at h2
    have h0 : 0 ≤ (r.map Lot.count).sum := by
      have : ∀ {ls : List Lot}, (∀ l ∈ ls, LotOk l) → 0 ≤ (ls.map Lot.count).sum := fun {ls} => by
        induction ls with
        | nil => intro _; simp
        | cons x r ih =>
          intro h
          have := ih fun y hy => h y (List.mem_cons_of_mem _ hy)
          have := (h x (List.mem_cons_self ..)).1
          simp only [List.map_cons, List.sum_cons]; omega
      exact this fun y hy => h y (List.mem_cons_of_mem _ hy)
    rw [partOf_eq]; omega
theorem counts_pos : ∀ {ls : List Lot}, (∀ l ∈ ls, LotOk l) → 0 ≤ (ls.map Lot.count).sum
  | [], _ => by simp
  | x :: r, h => by
    have := counts_pos (ls := r) fun y hy => h y (List.mem_cons_of_mem _ hy)
    have := (h x (List.mem_cons_self ..)).1
    simp only [List.map_cons, List.sum_cons]; omega
theorem cut_len {α : Type} (xs : List α) (lo hi : Option Int) : (cutD xs lo hi).length ≤ xs.length := by
  unfold cutD
  simp only [List.length_take, List.length_drop]; omega
theorem cut_mem {α : Type} {xs : List α} {lo hi : Option Int} {x : α} (h : x ∈ cutD xs lo hi) : x ∈ xs := by
  unfold cutD at h
  exact List.mem_of_mem_drop (List.mem_of_mem_take h)
theorem sum_take_counts : ∀ {ls : List Lot} (n : Nat), (∀ l ∈ ls, LotOk l) → ((ls.take n).map Lot.count).sum ≤ (ls.map Lot.count).sum
  | ls, 0, h => by simpa using counts_pos h
  | [], n + 1, h => by simp
  | v :: r, n + 1, h => by
    have h2 := sum_take_counts (ls := r) n fun w hw => h w (List.mem_cons_of_mem _ hw)
    simp only [List.take_succ_cons, List.map_cons, List.sum_cons]; omega
theorem sum_drop_counts : ∀ {ls : List Lot} (n : Nat), (∀ l ∈ ls, LotOk l) → ((ls.drop n).map Lot.count).sum ≤ (ls.map Lot.count).sum
  | ls, 0, h => by simp
  | [], n + 1, h => by simp
  | v :: r, n + 1, h => by
    have h2 := sum_drop_counts (ls := r) n fun w hw => h w (List.mem_cons_of_mem _ hw)
    have := (h v (List.mem_cons_self ..)).1
    simp only [List.drop_succ_cons, List.map_cons, List.sum_cons]; omega
theorem cut_sum {ls : List Lot} (lo hi : Option Int) (h : ∀ l ∈ ls, LotOk l) : ((cutD ls lo hi).map Lot.count).sum ≤ (ls.map Lot.count).sum := by
  unfold cutD
  exact Int.le_trans (sum_take_counts _ fun l hl => h l (List.mem_of_mem_drop hl)) (sum_drop_counts _ h)
end T3

namespace T3
open PySem L2
/-! ### attribute stores, dicts -/
def putD {κ : Type} [DecidableEq κ] (kvs : List (κ × D)) (k : κ) (v : D) : List (κ × D) :=
  if (kvs.any fun kv => decide (kv.1 = k)) = true then kvs.map (fun kv => if kv.1 = k then (kv.1, v) else kv) else kvs ++ [(k, v)]
def valD {κ : Type} [DecidableEq κ] (kvs : List (κ × D)) (k : κ) : Option D := (kvs.find? fun kv => decide (kv.1 = k)).map (·.2)
def putF3 (f : Str) (v : D) : List (Str × D) → List (Str × D)
  | [] => [(f, v)]
  | (g, x) :: r => if g = f then (g, v) :: r else (g, x) :: putF3 f v r
theorem RlK.length {κ : Type} {W : Wd} : ∀ {a : List (κ × D)} {b : List (κ × V)}, RlK W a b → a.length = b.length
  | _, _, .nil => rfl
  | _, _, .cons _ t => by simp [RlK.length t]
theorem RlK.putF {W : Wd} {f : Str} {d : D} {v : V} (rv : Rl W d v) : ∀ {fs : List (Str × D)} {vs : List (Str × V)}, RlK W fs vs → RlK W (putF3 f d fs) (putF f v vs)
  | _, _, .nil => .cons ⟨rfl, rv⟩ .nil
  | _, _, .cons (a := a) (b := b) r t => by
    obtain ⟨e1, e2⟩ := r
    obtain ⟨ka, va⟩ := a
    obtain ⟨kb, vb⟩ := b
    simp only at e1 e2
    subst e1
    unfold putF3 L2.putF
    by_cases h : ka = f
    · rw [if_pos h, if_pos h]; exact .cons ⟨rfl, rv⟩ t
    · rw [if_neg h, if_neg h]; exact .cons ⟨rfl, e2⟩ (RlK.putF rv t)
theorem RlK.any {κ : Type} [DecidableEq κ] {W : Wd} {k : κ} : ∀ {a : List (κ × D)} {b : List (κ × V)}, RlK W a b → (a.any fun kv => decide (kv.1 = k)) = (b.any fun kv => decide (kv.1 = k))
  | _, _, .nil => rfl
  | _, _, .cons r t => by simp only [List.any_cons, RlK.any t, r.1]
theorem RlK.val {κ : Type} [DecidableEq κ] {W : Wd} {k : κ} : ∀ {a : List (κ × D)} {b : List (κ × V)}, RlK W a b → (valD a k = none → valV b k = none) ∧ ∀ d, valD a k = some d → ∃ v, valV b k = some v ∧ Rl W d v
  | _, _, .nil => ⟨fun _ => rfl, fun d h => by simp [valD] at h⟩
  | _, _, .cons (a := a) (b := b) r t => by
    obtain ⟨h1, h2⟩ := RlK.val (k := k) t
    obtain ⟨e1, e2⟩ := r
    by_cases h : a.1 = k
    · have hb : b.1 = k := e1 ▸ h
      refine ⟨fun z => by simp [valD, List.find?_cons, h] at z, fun d z => ⟨b.2, valV_pos hb, ?_⟩⟩
      simp [valD, List.find?_cons, h] at z
      rw [← z]; exact e2
    · have hb : ¬ b.1 = k := e1 ▸ h
      have ea : ∀ l, valD (a :: l) k = valD l k := fun l => by simp [valD, List.find?_cons, h]
      rw [ea, valV_neg hb]
      exact ⟨h1, h2⟩
theorem RlK.put {κ : Type} [DecidableEq κ] {W : Wd} {k : κ} {d : D} {v : V} {a : List (κ × D)} {b : List (κ × V)} (r : RlK W a b) (rv : Rl W d v) : RlK W (putD a k d) (putK b k v) := by
  unfold putD putK
  rw [← RlK.any (k := k) r]
  by_cases h : (a.any fun kv => decide (kv.1 = k)) = true
  · rw [if_pos h, if_pos h]
    clear h
    induction r with
    | nil => exact .nil
    | cons r t ih =>
      rename_i x y xs ys
      refine .cons ?_ ih
      by_cases h : x.1 = k
      · have hb : y.1 = k := r.1 ▸ h
        show (if x.1 = k then (x.1, d) else x).1 = (if y.1 = k then (y.1, v) else y).1 ∧ Rl W (if x.1 = k then (x.1, d) else x).2 (if y.1 = k then (y.1, v) else y).2
        rw [if_pos h, if_pos hb]; exact ⟨r.1, rv⟩
      · have hb : ¬ y.1 = k := r.1 ▸ h
        show (if x.1 = k then (x.1, d) else x).1 = (if y.1 = k then (y.1, v) else y).1 ∧ Rl W (if x.1 = k then (x.1, d) else x).2 (if y.1 = k then (y.1, v) else y).2
        rw [if_neg h, if_neg hb]; exact r
  · rw [if_neg h, if_neg h]
    clear h
    induction r with
    | nil => exact .cons ⟨rfl, rv⟩ .nil
    | cons r t ih => exact .cons r ih
/-- a key out of a value -/
def keyD : D → Option Key
  | .int i => some (.inl i)
  | .str s => some (.inr s)
  | _ => none
def dKey : Key → D
  | .inl i => .int i
  | .inr s => .str s
theorem key_kV {W : Wd} {d : D} {v : V} {k : Key} (r : Rl W d v) (h : keyD d = some k) : v = kV k := by
  cases d with
  | int i => cases h; exact r
  | str s => cases h; exact r
  | _ => cases h
theorem dKey_rl {W : Wd} : ∀ k : Key, Rl W (dKey k) (kV k)
  | .inl _ => rfl
  | .inr _ => rfl
/-- values of which there is one only -/
def det : D → Bool
  | .non => true
  | .bl _ => true
  | .int _ => true
  | .str _ => true
  | .ref _ => true
  | _ => false
theorem det_eq {W W' : Wd} {d : D} {v v' : V} (h : det d = true) (r : Rl W d v) (r' : Rl W' d v') : v = v' := by
  cases d with
  | non => exact r.trans r'.symm
  | bl _ => exact r.trans r'.symm
  | int _ => exact r.trans r'.symm
  | str _ => exact r.trans r'.symm
  | ref _ => exact r.trans r'.symm
  | _ => cases h
abbrev detK (kvs : List (Key × D)) : Prop := ∀ kv ∈ kvs, det kv.2 = true
theorem detK_eq {W W' : Wd} {kvs : List (Key × D)} {a b : List (Key × V)} (h : detK kvs) (r : RlK W kvs a) (r' : RlK W' kvs b) : a = b := by
  induction r generalizing b with
  | nil => cases r'; rfl
  | cons r t ih =>
    cases r' with
    | cons r2 t2 =>
      have e := ih (fun kv hk => h kv (List.mem_cons_of_mem _ hk)) t2
      have e2 := det_eq (h _ (List.mem_cons_self ..)) r.2 r2.2
      rw [e]
      congr 1
      exact Prod.ext (r.1.symm.trans r2.1) e2
section
variable {X : Cx} {Wx : WX} {ta tb ty tx td : TE3} {o e i f value : Expr} {pos pos' apos cpos : Pos}
/-- o.f = e -/
def sfld3 (K : PySem.W.Frag) (f : Str) (ta tv : TE3) : TS3 := fun D σ G => tv σ G (fun y G1 => ta σ G1 (fun x G2 => match x with
  | .ref a => ∃ C fs G3, Put a (.ins C fs) (.ins C (putF3 f y fs)) G2 G3 ∧ (Cls K C ∧ NoAttr K C f) ∧ fs.length < 1000 ∧ D.nx σ G3
  | _ => False) D.ex) D.ex
theorem s_fld {f : Str} {tv : TE3} (ha : PE X o (lowE X.K Wx ta)) (hv : PE X value (lowE X.K Wx tv)) (hs : swapsWith value (some (.Attribute o f pos')) pos.line X.env = pure false := by rfl) : PS X (.Assign [.Attribute o f pos'] value pos) (lowS X.K Wx (sfld3 X.K f ta tv)) := by
  refine (ps_fld ha hv hs).imp3 ?_
  rintro D σ H ⟨σ3, W, G, D3, R, S, h, k⟩
  refine ⟨σ3, W, G, _, _, R, S, h, ⟨fun W1 y G1 y' H1 l1 S1 r1 h1 => ?_⟩, k.ex⟩
  refine ⟨σ3, W1, G1, _, _, R.mono l1, S1, h1, ⟨fun W2 x G2 x' H2 l2 S2 r2 h2 => ?_⟩, k.ex.mono l1⟩
  cases x with
  | ref a =>
    obtain ⟨C, fs, G3, p, ⟨hc, hn⟩, hl, h2⟩ := h2
    cases r2
    obtain ⟨dx, vs, e1, rk⟩ := S2.ob _ _ p.mem
    refine ⟨a, C, dx, vs, rfl, e1, hc, hn, by rw [← rk.length]; exact hl, ?_⟩
    exact k.nx.run _ _ _ _ _ (l1.trans l2) (R.mono (l1.trans l2)) (S2.put (o' := .ins C (putF3 f y fs)) p ⟨dx, _, upd_same, rk.putF (r1.mono l2)⟩) h2
  | _ => exact h2.elim
def dnew3 : TE3 := fun _ G Q _ => ∀ p, Q (.ref p) ((p, .dict []) :: G)
theorem e_dnew : PE X (.Dict [] [] pos) (lowE X.K Wx dnew3) := by
  refine pe_dnewK.imp3 ?_
  rintro σ H Q ⟨σ3, W, G, Q3, E3, R, S, h, q, e⟩
  intro p hp
  exact q.run _ (.ref p) _ _ _ (.refl _) (S.newO (o := .dict []) hp ⟨[], upd_same, .nil⟩) rfl (h p)
/-- d[k] -/
def dget3 : R3 := fun x y G Q => match x with
  | .ref a => ∃ kvs k v, (a, DO.dict kvs) ∈ G ∧ keyD y = some k ∧ valD kvs k = some v ∧ Q v G
  | _ => False
theorem e_dget (hu : X.A.units + 1 < cLine) (ho : PE X o (lowE X.K Wx ta)) (hi : PE X i (lowE X.K Wx tb)) (hs : NoSl i := by intro _ _; rfl) : PE X (.Subscript o i pos) (lowE X.K Wx (op3 dget3 ta tb)) := by
  refine (pe_dget hu ho hi hs).imp3 ?_
  rintro σ H Q ⟨σ3, W, G, Q3, E3, R, S, h, q, e⟩
  refine ⟨σ3, W, G, _, E3, R, S, h, ⟨fun W1 x G1 x' H1 l1 S1 r1 h1 => ?_⟩, e⟩
  refine ⟨σ3, W1, G1, _, E3, R.mono l1, S1, h1, ⟨fun W2 y G2 y' H2 l2 S2 r2 h2 => ?_⟩, e.mono l1⟩
  cases x with
  | ref a =>
    obtain ⟨kvs, k, v, hm, hk, hv, h2⟩ := h2
    cases r1
    obtain ⟨vs, e1, rk⟩ := S2.ob _ _ hm
    obtain ⟨u, e2, ru⟩ := (RlK.val rk).2 v hv
    rw [key_kV r2 hk]
    refine ⟨a, u, rfl, ?_, q.run _ _ _ _ _ (l1.trans l2) S2 ru h2⟩
    rw [← e2]
    exact DGet.k e1
  | _ => exact h2.elim
def din3 (neg : Bool) : R3 := fun y x G Q => match x with
  | .ref a => ∃ kvs k, (a, DO.dict kvs) ∈ G ∧ keyD y = some k ∧ Q (.bl (if neg then !(valD kvs k).isSome else (valD kvs k).isSome)) G
  | _ => False
theorem val_some {W : Wd} {kvs : List (Key × D)} {vs : List (Key × V)} {k : Key} (rk : RlK W kvs vs) : (valV vs k).isSome = (valD kvs k).isSome := by
  cases h : valD kvs k with
  | none => rw [(RlK.val rk).1 h]; rfl
  | some d => obtain ⟨v, e, _⟩ := (RlK.val rk).2 d h; rw [e]; rfl
theorem low_din {K : PySem.W.Frag} {σ : St} {H : Hp} {Q : VK} : lowE K Wx (op3 (din3 false) ta tb) σ H Q → tDIn (lowE K Wx ta) (lowE K Wx tb) σ H Q := by
  rintro ⟨σ3, W, G, Q3, E3, R, S, h, q, e⟩
  refine ⟨σ3, W, G, _, E3, R, S, h, ⟨fun W1 y G1 y' H1 l1 S1 r1 h1 => ?_⟩, e⟩
  refine ⟨σ3, W1, G1, _, E3, R.mono l1, S1, h1, ⟨fun W2 x G2 x' H2 l2 S2 r2 h2 => ?_⟩, e.mono l1⟩
  cases x with
  | ref a =>
    obtain ⟨kvs, k, hm, hk, h2⟩ := h2
    cases r2
    obtain ⟨vs, e1, rk⟩ := S2.ob _ _ hm
    rw [key_kV r1 hk]
    refine ⟨a, _, rfl, DGet.k e1, ?_⟩
    rw [val_some rk]
    exact q.run _ (.bl _) _ _ _ (l1.trans l2) S2 rfl h2
  | _ => exact h2.elim
theorem low_dnin {K : PySem.W.Frag} {σ : St} {H : Hp} {Q : VK} : lowE K Wx (op3 (din3 true) ta tb) σ H Q → tDNotIn (lowE K Wx ta) (lowE K Wx tb) σ H Q := by
  rintro ⟨σ3, W, G, Q3, E3, R, S, h, q, e⟩
  refine ⟨σ3, W, G, _, E3, R, S, h, ⟨fun W1 y G1 y' H1 l1 S1 r1 h1 => ?_⟩, e⟩
  refine ⟨σ3, W1, G1, _, E3, R.mono l1, S1, h1, ⟨fun W2 x G2 x' H2 l2 S2 r2 h2 => ?_⟩, e.mono l1⟩
  cases x with
  | ref a =>
    obtain ⟨kvs, k, hm, hk, h2⟩ := h2
    cases r2
    obtain ⟨vs, e1, rk⟩ := S2.ob _ _ hm
    rw [key_kV r1 hk]
    refine ⟨a, _, rfl, DGet.k e1, ?_⟩
    rw [val_some rk]
    exact q.run _ (.bl _) _ _ _ (l1.trans l2) S2 rfl h2
  | _ => exact h2.elim
theorem t_inD (hu : X.A.units + 1 < cLine) (ha : PE X i (lowE X.K Wx ta)) (hb : PE X o (lowE X.K Wx tb)) (hm : behindInMarks .In o = false := by rfl) : PT X (.Compare i [.In] [o] pos) (lowT X.K Wx (t3 (op3 (din3 false) ta tb))) := by
  refine (pt_cmp (pc_din hu ha hb) hm).imp3 fun σ H Q h => ?_
  obtain ⟨σ3, W, G, Q3, E3, R, S, h, q, e⟩ := low_t h
  exact low_din ⟨σ3, W, G, Q3, E3, R, S, h, q, e⟩
theorem t_ninD (hu : X.A.units + 1 < cLine) (ha : PE X i (lowE X.K Wx ta)) (hb : PE X o (lowE X.K Wx tb)) (hm : behindInMarks .NotIn o = false := by rfl) : PT X (.Compare i [.NotIn] [o] pos) (lowT X.K Wx (t3 (op3 (din3 true) ta tb))) := by
  refine (pt_cmp (pc_dnotin hu ha hb) hm).imp3 fun σ H Q h => ?_
  obtain ⟨σ3, W, G, Q3, E3, R, S, h, q, e⟩ := low_t h
  exact low_dnin ⟨σ3, W, G, Q3, E3, R, S, h, q, e⟩
/-- d.get(k, x) -/
def dgetD3 (td ty tx : TE3) : TE3 := fun σ G Q E => td σ G (fun x G1 => match x with
  | .ref a => (∃ kvs, (a, DO.dict kvs) ∈ G1) ∧ ty σ G1 (fun y G2 => tx σ G2 (fun z G3 => ∃ kvs k, (a, DO.dict kvs) ∈ G3 ∧ keyD y = some k ∧ Q ((valD kvs k).getD z) G3) E) E
  | _ => False) E
theorem e_dgetD (hu : X.A.units + 1 < cLine) (ho : PE X o (lowE X.K Wx td)) (he : PE X e (lowE X.K Wx ty)) (hf : PE X f (lowE X.K Wx tx)) (m : M2 X o "get" apos e f cpos := by exact ⟨rfl, rfl, rfl, rfl⟩) : PE X (.Call (.Attribute o "get" apos) [e, f] [] cpos) (lowE X.K Wx (dgetD3 td ty tx)) := by
  refine (pe_dget2 hu ho he hf m).imp3 ?_
  rintro σ H Q ⟨σ3, W, G, Q3, E3, R, S, h, q, e⟩
  refine ⟨σ3, W, G, _, E3, R, S, h, ⟨fun W1 x G1 x' H1 l1 S1 r1 h1 => ?_⟩, e⟩
  cases x with
  | ref a =>
    obtain ⟨⟨kvs, hm⟩, h1⟩ := h1
    cases r1
    obtain ⟨vs, e1, _⟩ := S1.ob _ _ hm
    refine ⟨a, rfl, .inl ⟨vs, .inl e1⟩, ?_⟩
    refine ⟨σ3, W1, G1, _, E3, R.mono l1, S1, h1, ⟨fun W2 y G2 y' H2 l2 S2 r2 h2 => ?_⟩, e.mono l1⟩
    refine ⟨σ3, W2, G2, _, E3, R.mono (l1.trans l2), S2, h2, ⟨fun W3 z G3 z' H3 l3 S3 r3 h3 => ?_⟩, e.mono (l1.trans l2)⟩
    obtain ⟨kvs, k, hm, hk, h3⟩ := h3
    obtain ⟨vs, e1, rk⟩ := S3.ob _ _ hm
    rw [key_kV (r2.mono l3) hk]
    refine ⟨_, DGet.k e1, ?_⟩
    have ll := l1.trans (l2.trans l3)
    cases hv : valD kvs k with
    | none => rw [hv] at h3; rw [(RlK.val rk).1 hv]; exact q.run _ _ _ _ _ ll S3 r3 h3
    | some d => rw [hv] at h3; obtain ⟨v, e, rv⟩ := (RlK.val rk).2 d hv; rw [e]; exact q.run _ _ _ _ _ ll S3 rv h3
  | _ => exact h1.elim
/-- d[k] = v -/
def dput3 (td ty tv : TE3) : TS3 := fun D σ G => tv σ G (fun v G1 => td σ G1 (fun x G2 => ty σ G2 (fun y G3 => match x with
  | .ref a => ∃ kvs k G4, Put a (.dict kvs) (.dict (putD kvs k v)) G3 G4 ∧ keyD y = some k ∧ kvs.length < sizeLine ∧ D.nx σ G4
  | _ => False) D.ex) D.ex) D.ex
theorem s_dput {tv : TE3} (hu : X.A.units + 1 < cLine) (ho : PE X o (lowE X.K Wx td)) (hi : PE X i (lowE X.K Wx ty)) (hv : PE X value (lowE X.K Wx tv)) (hs : swapsWith value (some (.Subscript o i pos')) pos.line X.env = pure false := by rfl) :
    PS X (.Assign [.Subscript o i pos'] value pos) (lowS X.K Wx (dput3 td ty tv)) := by
  refine (ps_dput hu ho hi hv hs).imp3 ?_
  rintro D σ H ⟨σ3, W, G, D3, R, S, h, k⟩
  refine ⟨σ3, W, G, _, _, R, S, h, ⟨fun W1 v G1 v' H1 l1 S1 r1 h1 => ?_⟩, k.ex⟩
  refine ⟨σ3, W1, G1, _, _, R.mono l1, S1, h1, ⟨fun W2 x G2 x' H2 l2 S2 r2 h2 => ?_⟩, k.ex.mono l1⟩
  refine ⟨σ3, W2, G2, _, _, R.mono (l1.trans l2), S2, h2, ⟨fun W3 y G3 y' H3 l3 S3 r3 h3 => ?_⟩, k.ex.mono (l1.trans l2)⟩
  cases x with
  | ref a =>
    obtain ⟨kvs, key, G4, p, hk, hl, h3⟩ := h3
    cases r2
    obtain ⟨vs, e1, rk⟩ := S3.ob _ _ p.mem
    rw [key_kV r3 hk]
    refine ⟨a, _, rfl, DPut.k e1 (by rw [← rk.length]; exact hl), ?_⟩
    have ll := l1.trans (l2.trans l3)
    exact k.nx.run _ _ _ _ _ ll (R.mono ll) (S3.put (o' := .dict (putD kvs key v)) p ⟨_, upd_same, rk.put (r1.mono (l2.trans l3))⟩) h3
  | _ => exact h3.elim
/-- list(d) -/
def listD3 : U3 := fun x G Q => match x with
  | .ref a => ∃ kvs, (a, DO.dict kvs) ∈ G ∧ Q (.lst (kvs.map fun kv => dKey kv.1)) G
  | _ => False
def listDO3 : U3 := fun x G Q => match x with
  | .ref a => ∃ kvs, (a, DO.dict kvs) ∈ G ∧ ∀ p, Q (.ref p) ((p, .lst (kvs.map fun kv => dKey kv.1)) :: G)
  | _ => False
theorem RlK.keys {W : Wd} : ∀ {a : List (Key × D)} {b : List (Key × V)}, RlK W a b → RlL W (a.map fun kv => dKey kv.1) (b.map fun kv => kV kv.1)
  | _, _, .nil => rfl
  | _, _, .cons r t => ⟨_, _, rfl, by show Rl W (dKey _) (kV _); rw [r.1]; exact dKey_rl _, RlK.keys t⟩
theorem cl_listD {K : PySem.W.Frag} : ClL K (on1 listD3) rListD := cll_1 fun W x G Q3 x' H Q S rx h q => by
  cases x with
  | ref a =>
    obtain ⟨kvs, hm, h⟩ := h
    cases rx
    obtain ⟨vs, e1, rk⟩ := S.ob _ _ hm
    refine ⟨a, vs, rfl, e1, fun p hp => ?_⟩
    obtain ⟨W', l', S', r'⟩ := S.newL hp rk.keys
    exact q.run _ _ _ _ _ l' S' r' h
  | _ => exact h.elim
theorem cl_listDO {K : PySem.W.Frag} : ClL K (on1 listDO3) rListD := cll_1 fun W x G Q3 x' H Q S rx h q => by
  cases x with
  | ref a =>
    obtain ⟨kvs, hm, h⟩ := h
    cases rx
    obtain ⟨vs, e1, rk⟩ := S.ob _ _ hm
    refine ⟨a, vs, rfl, e1, fun p hp => ?_⟩
    exact q.run _ (.ref p) _ _ _ (.refl _) (S.newO (o := .lst _) hp ⟨_, upd_same, rk.keys⟩) rfl (h p)
  | _ => exact h.elim
/-! ### locked dicts -/
def lock3 (t : TS3) : TS3 := fun D σ G => ∃ d kvs l r, G = l ++ (d, .dict kvs) :: r ∧ detK kvs ∧ ∀ od, t
  { nx := fun σ' G' => ∃ G2, Put d (.lck od kvs) (.dict kvs) G' G2 ∧ D.nx σ' G2, rt := fun v G' => ∃ G2, Put d (.lck od kvs) (.dict kvs) G' G2 ∧ D.rt v G2,
    bk := fun σ' G' => ∃ G2, Put d (.lck od kvs) (.dict kvs) G' G2 ∧ D.bk σ' G2, ct := fun σ' G' => ∃ G2, Put d (.lck od kvs) (.dict kvs) G' G2 ∧ D.ct σ' G2, ex := fun _ _ _ => False } σ (l ++ (d, .lck od kvs) :: r)
theorem put_mid {a : Addr} {o o' : DO} {l r : G3} : Put a o o' (l ++ (a, o) :: r) (l ++ (a, o') :: r) := .right .head
theorem unlock {K : PySem.W.Frag} {W W' : Wd} {G G2 : G3} {H : Hp} {d : Addr} {od : Obj} {kvs : List (Key × D)} {vs : List (Key × V)} (hk : detK kvs) (rk : RlK W kvs vs) (S : Sim K W' G H) (p : Put d (.lck od kvs) (.dict kvs) G G2) :
    H d = some (.frz od (.dK vs)) ∧ Sim K W' G2 (upd H d (.dK vs)) := by
  obtain ⟨us, e1, ru⟩ := S.ob _ _ p.mem
  have e := detK_eq hk rk ru
  subst e
  exact ⟨e1, S.put (o' := .dict kvs) p ⟨_, upd_same, ru⟩⟩
theorem s_lock {st : Stmt} {t : TS3} (h : PS X st (lowS X.K Wx t)) : PS X st (lowS X.K Wx (lock3 t)) := by
  refine (ps_lock h).imp3 ?_
  rintro D σ H ⟨σ3, W, G, D3, R, S, ⟨d, kvs, l, r, rfl, hk, h⟩, k⟩
  obtain ⟨vs, e1, rk⟩ := S.ob d _ (put_mid (o' := .dict kvs)).mem
  refine ⟨d, .dK vs, e1, trivial, fun od => ?_⟩
  refine ⟨σ3, W, _, _, R, S.put (o' := .lck od kvs) put_mid ⟨vs, upd_same, rk⟩, h od, ?_⟩
  refine ⟨⟨fun W1 σ1 G1 σ' H1 l1 R1 S1 h1 => ?_⟩, ⟨fun W1 v G1 v' H1 l1 S1 r1 h1 => ?_⟩, ⟨fun W1 σ1 G1 σ' H1 l1 R1 S1 h1 => ?_⟩, ⟨fun W1 σ1 G1 σ' H1 l1 R1 S1 h1 => ?_⟩, ⟨fun _ _ _ _ _ _ _ _ _ h => h.elim⟩⟩
  all_goals
    obtain ⟨G2, p, h2⟩ := h1
    obtain ⟨e2, S2⟩ := unlock hk rk S1 p
    refine ⟨e2, ?_⟩
  · exact k.nx.run _ _ _ _ _ l1 R1 S2 h2
  · exact k.rt.run _ _ _ _ _ l1 S2 r1 h2
  · exact k.bk.run _ _ _ _ _ l1 R1 S2 h2
  · exact k.ct.run _ _ _ _ _ l1 R1 S2 h2
def lockE3 (t : TE3) : TE3 := fun σ G Q _ => ∃ d kvs l r, G = l ++ (d, .dict kvs) :: r ∧ detK kvs ∧ ∀ od, t σ (l ++ (d, .lck od kvs) :: r) (fun v G' => ∃ G2, Put d (.lck od kvs) (.dict kvs) G' G2 ∧ Q v G2) (fun _ _ _ => False)
theorem e_lcD {src : TI3} {g : TG} {g3 : TL3} {tt : TT3} {te : TE3} {vs : List Nat} (h : PE X e (tLockE (tLc (lowI X.K Wx src) g (lowT X.K wF tt) (lowE X.K wF te) vs))) (hg : TlOk X.K vs g g3) : PE X e (lowE X.K Wx (lockE3 (lc3 src g3 tt te vs))) := by
  refine h.imp3 ?_
  rintro σ H Q ⟨σ3, W, G, Q3, E3, R, S, ⟨d, kvs, l, r, rfl, hk, h⟩, q, e⟩
  obtain ⟨us, e1, rk⟩ := S.ob d _ (put_mid (o' := .dict kvs)).mem
  refine ⟨d, .dK us, e1, trivial, fun od => ?_⟩
  refine low_lc hg ⟨σ3, W, _, _, _, R, S.put (o' := .lck od kvs) put_mid ⟨us, upd_same, rk⟩, h od, ⟨fun W1 v G1 v' H1 l1 S1 r1 h1 => ?_⟩, ⟨fun _ _ _ _ _ _ _ _ _ h => h.elim⟩⟩
  obtain ⟨G2, p, h2⟩ := h1
  obtain ⟨e2, S2⟩ := unlock hk rk S1 p
  exact ⟨e2, q.run _ _ _ _ _ l1 S2 r1 h2⟩
/-- d.values(), d locked -/
def iv3 (te : TE3) : TI3 := fun σ G R E => te σ G (fun x G1 => match x with
  | .ref d => ∃ o kvs, (d, DO.lck o kvs) ∈ G1 ∧ detK kvs ∧ R (kvs.map (·.2)) (fun G => (d, DO.lck o kvs) ∈ G) G1
  | _ => False) E
theorem RlK.get' {κ : Type} {W : Wd} : ∀ {a : List (κ × D)} {b : List (κ × V)} {i : Nat} {k : κ} {v : V}, RlK W a b → b[i]? = some (k, v) → ∃ d, (a.map (·.2))[i]? = some d ∧ Rl W d v
  | _, _, _, _, _, .nil, h => by simp at h
  | _, _, 0, _, _, .cons r t, h => by simp at h; subst h; exact ⟨_, rfl, r.2⟩
  | _, _, i + 1, _, _, .cons r t, h => RlK.get' (i := i) t (by simpa using h)
theorem i_vals {tg : Expr} {te : TE3} (he : PE X e (lowE X.K Wx te)) (hbase : attributeBase e "values" X.env (eval e X.env) = eval e X.env := by rfl) (hline : (apos.endLine == cpos.line) = true := by rfl) : PI X tg (.Call (.Attribute e "values" apos) [] [] cpos) (lowI X.K Wx (iv3 te)) := by
  refine (pi_values he hbase hline).imp3 ?_
  rintro σ H Q ⟨σ3, W, G, R3, E3, R, S, h, e, k⟩
  refine ⟨σ3, W, G, _, E3, R, S, h, ⟨fun W1 x G1 x' H1 l1 S1 r1 h1 => ?_⟩, e⟩
  cases x with
  | ref d =>
    obtain ⟨o, kvs, hm, hk, h1⟩ := h1
    cases r1
    obtain ⟨vs, e1, rk⟩ := S1.ob _ _ hm
    have at' : ∀ {W' G' H'}, Sim X.K W' G' H' → (d, DO.lck o kvs) ∈ G' → H' d = some (.frz o (.dK vs)) := fun S' hm' => by
      obtain ⟨us, e2, ru⟩ := S'.ob _ _ hm'
      rw [detK_eq hk rk ru]; exact e2
    refine ⟨d, o, vs, rfl, e1, k W1 _ _ G1 _ H1 l1 S1 h1 ⟨fun i W' G' H' l' S' hs hi => ?_, fun W' G' H' l' S' hs => ?_, fun i W' G' H' x H'' l' S' hs hi y => ?_⟩⟩
    · exact ⟨at' S' hs, by rw [← rk.length]; simpa using hi⟩
    · exact ⟨at' S' hs, by rw [← rk.length]; simp⟩
    · obtain ⟨e, ky, hg⟩ := y
      subst e
      obtain ⟨dd, g1, g2⟩ := RlK.get' (rk.mono l') hg
      exact ⟨W', dd, .refl _, g1, S', g2⟩
  | _ => exact h1.elim
end
end T3

namespace T3
open PySem L2
/-! ### a promise at any order of the things -/
def pm (sp : Sp3) : Sp3 := fun ds G Q E => ∃ G1, G.Perm G1 ∧ sp ds G1 Q E
theorem OkFn.pm {P : Program} {w : World} {K : PySem.W.Frag} {mg : Str → Option Value} {base : Heap} {k : Nat} {f : Addr} {d : FuncData} {ps : List Str} {sp : Sp3} (h : OkFn P w K mg base k f d ps sp) : OkFn P w K mg base k f d ps (pm sp) := by
  refine FnOk.imp h fun vs H Q E h => ?_
  obtain ⟨ds, W, G, Q3, E3, r, S, ⟨G1, p, h⟩, q, e⟩ := h
  exact ⟨ds, W, G1, Q3, E3, r, S.perm p, h, q, e⟩
/-! ### the book -/
structure Hol where
  h : Addr
  l : Addr
  name : Str
  lots : List Lot
  days : Int
  gain : Int
  got : Int
def holF (x : Hol) : List (Str × D) := [("lots", .ref x.l), ("days", .int x.days), ("gain", .int x.gain), ("got", .int x.got)]
def holG (cH : Addr) (x : Hol) : G3 := [(x.h, .ins cH (holF x)), (x.l, .lst (x.lots.map lotD))]
def pplG (cH : Addr) (xs : List Hol) : G3 := xs.flatMap (holG cH)
def pplK (xs : List Hol) : List (Key × D) := xs.map fun x => (.inr x.name, .ref x.h)
structure Bk where
  b : Addr
  pd : Addr
  day : Int
  ppl : List Hol
def bkG (cB cH : Addr) (B : Bk) : G3 := (B.b, .ins cB [("day", .int B.day), ("people", .ref B.pd)]) :: (B.pd, .dict (pplK B.ppl)) :: pplG cH B.ppl
def Hol.many (x : Hol) : Int := (x.lots.map Lot.count).sum
def Hol.behind (x : Hol) (p : Int) : Int := x.days + x.many * p
abbrev names (xs : List Hol) : List Str := xs.map Hol.name
theorem pplG_append (cH : Addr) (A B : List Hol) : pplG cH (A ++ B) = pplG cH A ++ pplG cH B := by simp [pplG]
theorem pplG_cons (cH : Addr) (x : Hol) (B : List Hol) : pplG cH (x :: B) = holG cH x ++ pplG cH B := by simp [pplG]
theorem pplG_mem {cH : Addr} {xs : List Hol} {x : Hol} (h : x ∈ xs) : ∀ e ∈ holG cH x, e ∈ pplG cH xs := fun e he => List.mem_flatMap.mpr ⟨x, h, he⟩
theorem pplG_h {cH : Addr} {xs : List Hol} {x : Hol} (h : x ∈ xs) : (x.h, DO.ins cH (holF x)) ∈ pplG cH xs := pplG_mem h _ (List.mem_cons_self ..)
theorem pplG_l {cH : Addr} {xs : List Hol} {x : Hol} (h : x ∈ xs) : (x.l, DO.lst (x.lots.map lotD)) ∈ pplG cH xs := pplG_mem h _ (List.mem_cons_of_mem _ (List.mem_cons_self ..))
theorem put_h {cH : Addr} {A B : List Hol} {x : Hol} {o : DO} : Put x.h (.ins cH (holF x)) o (pplG cH (A ++ x :: B)) (pplG cH A ++ ((x.h, o) :: (x.l, .lst (x.lots.map lotD)) :: pplG cH B)) := by
  rw [pplG_append, pplG_cons]; exact .right .head
theorem put_l {cH : Addr} {A B : List Hol} {x : Hol} {o : DO} : Put x.l (.lst (x.lots.map lotD)) o (pplG cH (A ++ x :: B)) (pplG cH A ++ ((x.h, .ins cH (holF x)) :: (x.l, o) :: pplG cH B)) := by
  rw [pplG_append, pplG_cons]; exact .right (.tail .head)
theorem detK_ppl (xs : List Hol) : detK (pplK xs) := by
  intro kv h
  obtain ⟨x, _, rfl⟩ := List.mem_map.mp h
  rfl
theorem valD_none {xs : List Hol} {who : Str} (h : who ∉ names xs) : valD (pplK xs) (.inr who) = none := by
  unfold valD
  rw [List.find?_eq_none.mpr]; rfl
  intro kv hkv
  obtain ⟨x, hx, rfl⟩ := List.mem_map.mp hkv
  simp only [decide_eq_true_eq]
  intro e
  injection e with e
  exact h (e ▸ List.mem_map_of_mem hx)
theorem valD_at {A B : List Hol} {x : Hol} (h : x.name ∉ names A) : valD (pplK (A ++ x :: B)) (.inr x.name) = some (.ref x.h) := by
  have h1 : (pplK A).find? (fun kv => decide (kv.1 = (.inr x.name : Key))) = none := by
    rw [List.find?_eq_none]
    intro kv hkv
    obtain ⟨y, hy, rfl⟩ := List.mem_map.mp hkv
    simp only [decide_eq_true_eq]
    intro e
    injection e with e
    exact h (e ▸ List.mem_map_of_mem hy)
  unfold valD
  rw [pplK, List.map_append, List.find?_append]
  rw [show (List.map (fun x : Hol => ((.inr x.name : Key), D.ref x.h)) A) = pplK A from rfl, h1]
  simp
theorem putD_new {xs : List Hol} {who : Str} {d : D} (h : who ∉ names xs) : putD (pplK xs) (.inr who) d = pplK xs ++ [(.inr who, d)] := by
  unfold putD
  rw [if_neg]
  intro e
  obtain ⟨kv, hkv, e⟩ := List.any_eq_true.mp e
  obtain ⟨x, hx, rfl⟩ := List.mem_map.mp hkv
  simp only [decide_eq_true_eq] at e
  injection e with e
  exact h (e ▸ List.mem_map_of_mem hx)
theorem find_hol (who : Str) : ∀ xs : List Hol, who ∉ names xs ∨ ∃ A x B, xs = A ++ x :: B ∧ x.name = who ∧ who ∉ names A
  | [] => .inl (by simp)
  | y :: r => by
    by_cases e : y.name = who
    · exact .inr ⟨[], y, r, rfl, e, by simp⟩
    rcases find_hol who r with h | ⟨A, x, B, e1, e2, e3⟩
    · left
      simp only [names, List.map_cons, List.mem_cons, not_or]
      exact ⟨fun z => e z.symm, h⟩
    · right
      refine ⟨y :: A, x, B, by rw [e1]; rfl, e2, ?_⟩
      simp only [names, List.map_cons, List.mem_cons, not_or]
      exact ⟨fun z => e z.symm, e3⟩
/-- the one of a name, done something to -/
def updH (who : Str) (f : Hol → Hol) : List Hol → List Hol
  | [] => []
  | x :: r => if x.name = who then f x :: r else x :: updH who f r
theorem updH_at {who : Str} {f : Hol → Hol} {x : Hol} {B : List Hol} : ∀ {A : List Hol}, who ∉ names A → x.name = who → updH who f (A ++ x :: B) = A ++ f x :: B
  | [], _, h2 => by simp only [List.nil_append, updH]; rw [if_pos h2]
  | y :: A, h1, h2 => by
    simp only [names, List.map_cons, List.mem_cons, not_or] at h1
    simp only [List.cons_append, updH]
    rw [if_neg (fun e => h1.1 e.symm), updH_at h1.2 h2]
/-- a lot more for one; h and l: where a new one stands -/
def addLot (xs : List Hol) (who : Str) (l : Lot) (h al : Addr) : List Hol := if who ∈ names xs then updH who (fun x => { x with lots := x.lots ++ [l] }) xs else xs ++ [⟨h, al, who, [l], 0, 0, 0⟩]
theorem perm_new {α : Type} {x y u v : α} {P G0 : List α} : (x :: y :: u :: v :: (P ++ G0)).Perm (u :: v :: ((P ++ [y, x]) ++ G0)) := by
  have h1 : (x :: y :: u :: v :: (P ++ G0)).Perm (u :: v :: x :: y :: (P ++ G0)) := by
    have := (List.perm_append_comm (l₁ := [x, y]) (l₂ := [u, v])).append_right (P ++ G0)
    simpa using this
  refine h1.trans (.cons _ (.cons _ ?_))
  have h2 : (x :: y :: P).Perm (P ++ [y, x]) := by
    have := (List.perm_append_comm (l₁ := [x, y]) (l₂ := P))
    exact this.trans (List.Perm.append_left P (List.Perm.swap ..))
  exact h2.append_right G0
theorem perm_two {α : Type} {x y : α} {P G0 : List α} : (x :: y :: (P ++ G0)).Perm (P ++ (x :: y :: G0)) := by
  have h := (List.perm_append_comm (l₁ := [x, y]) (l₂ := P)).append_right G0
  simpa using h
theorem perm_one {α : Type} {x : α} {P G0 : List α} : (x :: (P ++ G0)).Perm (P ++ (x :: G0)) := List.perm_middle.symm
theorem perm_swap {α : Type} {a u v w : α} {P R G0 : List α} : ((P ++ (a :: u :: R)) ++ (v :: w :: G0)).Perm ((P ++ (a :: v :: R)) ++ (u :: w :: G0)) := by
  have h : (u :: (R ++ v :: w :: G0)).Perm (v :: (R ++ u :: w :: G0)) :=
    ((List.Perm.cons u List.perm_middle).trans (List.Perm.swap ..)).trans (List.Perm.cons v List.perm_middle.symm)
  have h2 := (h.cons a).append_left P
  simpa using h2
theorem perm_take {α : Type} {a b c p u : α} {P R Z : List α} : (p :: a :: b :: ((P ++ (c :: u :: R)) ++ Z)).Perm (a :: b :: ((P ++ (c :: p :: R)) ++ (u :: Z))) := by
  have h0 : (p :: a :: b :: ((P ++ (c :: u :: R)) ++ Z)).Perm (a :: b :: p :: ((P ++ (c :: u :: R)) ++ Z)) :=
    (List.Perm.swap a p _).trans (.cons _ (List.Perm.swap b p _))
  refine h0.trans (.cons _ (.cons _ ?_))
  have h1 : (p :: (P ++ (c :: u :: R))).Perm (P ++ (c :: p :: u :: R)) := by
    have h := (List.perm_middle (a := p) (l₁ := P ++ [c]) (l₂ := u :: R)).symm
    simpa using h
  have h2 : (P ++ (c :: p :: u :: R)).Perm (u :: (P ++ (c :: p :: R))) := by
    have h := List.perm_middle (a := u) (l₁ := P ++ [c, p]) (l₂ := R)
    simpa using h
  have h3 := (h1.trans h2).append_right Z
  refine h3.trans ?_
  exact List.perm_middle.symm
def rowsD (ls : List Lot) (ps : List Int) : List (List Int) := (ls.zip ps).map fun z => [z.1.day, z.1.count, z.1.cost, z.2]
/-- all share-days up to p days more -/
def passH (p : Int) (xs : List Hol) : List Hol := xs.map fun x => { x with days := x.behind p }
theorem passH_K (p : Int) (xs : List Hol) : pplK (passH p xs) = pplK xs := by simp [pplK, passH, List.map_map, Function.comp_def]
theorem passH_names (p : Int) (xs : List Hol) : names (passH p xs) = names xs := by simp [names, passH, List.map_map, Function.comp_def]
theorem passH_mid (p : Int) (A R : List Hol) (x : Hol) : passH p (A ++ x :: R) = passH p A ++ { x with days := x.behind p } :: passH p R := by simp [passH]
/-- the numbers of the book are not too great -/
structure BkOk (B : Bk) : Prop where
  len : B.ppl.length ≤ 1000
  lots : ∀ x ∈ B.ppl, x.lots.length ≤ 1000
  nd : (names B.ppl).Nodup
/-! ### the book without its addresses -/
structure Ho where
  name : Str
  lots : List Lot
  days : Int
  gain : Int
  got : Int
deriving DecidableEq
def Hol.ab (x : Hol) : Ho := ⟨x.name, x.lots, x.days, x.gain, x.got⟩
def Ho.many (x : Ho) : Int := (x.lots.map Lot.count).sum
def Ho.behind (x : Ho) (p : Int) : Int := x.days + x.many * p
abbrev absH (xs : List Hol) : List Ho := xs.map Hol.ab
abbrev nmH (xs : List Ho) : List Str := xs.map Ho.name
theorem absH_names (xs : List Hol) : nmH (absH xs) = names xs := by simp [nmH, absH, names, List.map_map, Function.comp_def, Hol.ab]
def aUpd (who : Str) (f : Ho → Ho) : List Ho → List Ho
  | [] => []
  | x :: r => if x.name = who then f x :: r else x :: aUpd who f r
theorem aUpd_at {who : Str} {f : Ho → Ho} {x : Ho} {B : List Ho} : ∀ {A : List Ho}, who ∉ nmH A → x.name = who → aUpd who f (A ++ x :: B) = A ++ f x :: B
  | [], _, h2 => by simp only [List.nil_append, aUpd]; rw [if_pos h2]
  | y :: A, h1, h2 => by
    simp only [nmH, List.map_cons, List.mem_cons, not_or] at h1
    simp only [List.cons_append, aUpd]
    rw [if_neg (fun e => h1.1 e.symm), aUpd_at h1.2 h2]
def aAdd (xs : List Ho) (who : Str) (l : Lot) : List Ho := if who ∈ nmH xs then aUpd who (fun x => { x with lots := x.lots ++ [l] }) xs else xs ++ [⟨who, [l], 0, 0, 0⟩]
def aPass (p : Int) (xs : List Ho) : List Ho := xs.map fun x => { x with days := x.behind p }
theorem aUpd_abs {who : Str} {f : Hol → Hol} {g : Ho → Ho} (h : ∀ x, (f x).ab = g x.ab) : ∀ xs : List Hol, absH (updH who f xs) = aUpd who g (absH xs)
  | [] => rfl
  | x :: r => by
    simp only [updH, absH, List.map_cons, aUpd]
    by_cases e : x.name = who
    · rw [if_pos e, if_pos (show x.ab.name = who from e), List.map_cons, h]
    · rw [if_neg e, if_neg (show ¬ x.ab.name = who from e), List.map_cons]
      congr 1
      exact aUpd_abs h r
theorem aAdd_abs (xs : List Hol) (who : Str) (l : Lot) (h al : Addr) : absH (addLot xs who l h al) = aAdd (absH xs) who l := by
  unfold addLot aAdd
  rw [absH_names]
  split
  · exact aUpd_abs (fun _ => rfl) xs
  · simp [absH, Hol.ab]
theorem aPass_abs (p : Int) (xs : List Hol) : absH (passH p xs) = aPass p (absH xs) := by simp [absH, passH, aPass, List.map_map, Function.comp_def, Hol.ab, Hol.behind, Ho.behind, Hol.many, Ho.many]
/-- a holder sells so many -/
def aSold (c price : Int) (x : Ho) : Ho := { x with lots := leftL c x.lots, gain := x.gain + price - ((takenL c x.lots).map Lot.cost).sum }
def aSplit (m : Int) (xs : List Ho) : List Ho := xs.map fun x => { x with lots := x.lots.map (wide m), days := x.days * m }
/-- what is wanted behind a deed: any addresses, anything besides -/
def After (cB cH : Addr) (B : Bk) (G0 : G3) (Q : VK3) (d : D) (day : Int) (xs : List Ho) : Prop := ∀ B' J, B'.b = B.b → B'.day = day → absH B'.ppl = xs → Q d (bkG cB cH B' ++ (J ++ G0))
/-- the book's numbers fit, up to a day -/
structure Fit (B : Bk) (day : Int) : Prop where
  len : B.ppl.length ≤ 900
  ok : ∀ x ∈ absH B.ppl, x.lots.length ≤ 900 ∧ CMulX x.many (day - B.day)
theorem Fit.hol {B : Bk} {day : Int} (h : Fit B day) : ∀ x ∈ B.ppl, x.lots.length ≤ 900 ∧ CMulX x.many (day - B.day) := fun x hx => h.ok x.ab (List.mem_map_of_mem hx)
/-- the book stands among the things -/
def Has (cB cH : Addr) (B : Bk) (G : G3) : Prop := ∀ e ∈ bkG cB cH B, e ∈ G
theorem Has.b {cB cH : Addr} {B : Bk} {G : G3} (h : Has cB cH B G) : (B.b, DO.ins cB [("day", .int B.day), ("people", .ref B.pd)]) ∈ G := h _ (.head _)
theorem Has.p {cB cH : Addr} {B : Bk} {G : G3} (h : Has cB cH B G) : (B.pd, DO.dict (pplK B.ppl)) ∈ G := h _ (.tail _ (.head _))
theorem Has.h {cB cH : Addr} {B : Bk} {G : G3} (h : Has cB cH B G) {x : Hol} (hx : x ∈ B.ppl) : (x.h, DO.ins cH (holF x)) ∈ G := h _ (.tail _ (.tail _ (pplG_h hx)))
theorem Has.l {cB cH : Addr} {B : Bk} {G : G3} (h : Has cB cH B G) {x : Hol} (hx : x ∈ B.ppl) : (x.l, DO.lst (x.lots.map lotD)) ∈ G := h _ (.tail _ (.tail _ (pplG_l hx)))
theorem Has.app {cB cH : Addr} {B : Bk} {G0 : G3} : Has cB cH B (bkG cB cH B ++ G0) := fun e he => List.mem_append_left _ he
theorem Has.cons {cB cH : Addr} {B : Bk} {G : G3} {e : Addr × DO} (h : Has cB cH B G) : Has cB cH B (e :: G) := fun x hx => .tail _ (h x hx)
/-- a holder by his name -/
def aFind (who : Str) (xs : List Ho) : Option Ho := xs.find? fun x => decide (x.name = who)
theorem aFind_none {who : Str} {xs : List Ho} (h : who ∉ nmH xs) : aFind who xs = none := by
  unfold aFind
  rw [List.find?_eq_none]
  intro x hx
  simp only [decide_eq_true_eq]
  exact fun e => h (e ▸ List.mem_map_of_mem hx)
theorem aFind_at {who : Str} {A B : List Ho} {x : Ho} (h : who ∉ nmH A) (e : x.name = who) : aFind who (A ++ x :: B) = some x := by
  have := aFind_none h
  unfold aFind at *
  rw [List.find?_append, this]
  simp [e]
end T3

namespace T3
open PySem L2
section
variable {X : Cx} {Wx : WX} {ta tb : TE3} {o e : Expr} {pos apos : Pos}
theorem tl_length (x : Str) : (TL.tl x).length = x.length := Array.length_toList
theorem str_app (x y : Str) : (x ++ y).length = x.length + y.length := by
  rw [← tl_length, TL.tl_append, List.length_append, tl_length, tl_length]
theorem join_len {n : Nat} {a : Str} (ha : a.length = 0) : ∀ ys : List Str, (∀ y ∈ ys, y.length ≤ n) → (Txt.join a ys).length ≤ ys.length * n := by
  intro ys h
  rw [TL.join_eq]
  induction ys with
  | nil => show (0 : Nat) ≤ _; omega
  | cons x r ih =>
    have h1 := h x (List.mem_cons_self ..)
    have h2 := ih fun y hy => h y (List.mem_cons_of_mem _ hy)
    cases r with
    | nil => show x.length ≤ _; simpa using h1
    | cons z r =>
      show (x ++ a ++ Str.join a (z :: r)).length ≤ _
      rw [str_app, str_app, ha, List.length_cons, Nat.add_mul]
      omega
def join3 : TE3 → TE3 → TE3 := fun ta tb σ G Q E => ta σ G (fun x G1 => match x with
  | .str a => tb σ G1 (fun y G2 => ∃ ys : List Str, Ls G2 y (ys.map D.str) ∧ (ys.map (·.length)).sum + ys.length * a.length ≤ 16777216 ∧ Q (.str (Txt.join a ys)) G2) E
  | _ => False) E
theorem e_join (ho : PE X o (lowE X.K Wx ta)) (he : PE X e (lowE X.K Wx tb)) (hs : starEach [e] X.env = [(false, eval e X.env)] := by rfl) (hbase : attributeBase o "join" X.env (eval o X.env) = eval o X.env := by rfl) (hline : (apos.endLine == pos.line) = true := by rfl) :
    PE X (.Call (.Attribute o "join" apos) [e] [] pos) (lowE X.K Wx (join3 ta tb)) := by
  refine (pe_join ho he hs hbase hline).imp3 ?_
  rintro σ H Q ⟨σ3, W, G, Q3, E3, R, S, h, q, k⟩
  refine ⟨σ3, W, G, _, E3, R, S, h, ⟨fun W1 x G1 x' H1 l1 S1 r1 h1 => ?_⟩, k⟩
  cases x with
  | str a =>
    cases r1
    refine ⟨⟨a, rfl⟩, ?_⟩
    refine ⟨σ3, W1, G1, _, E3, R.mono l1, S1, h1, ⟨fun W2 y G2 y' H2 l2 S2 r2 h2 => ?_⟩, k.mono l1⟩
    obtain ⟨ys, hl, hz, h2⟩ := h2
    obtain ⟨p, vs, rfl, e1, rv⟩ := hl.sql S2 r2
    rw [RlL.strs rv] at e1
    exact ⟨a, p, ys, rfl, rfl, .inl (SqL.of e1), hz, q.run _ (.str _) _ _ _ (l1.trans l2) S2 rfl h2⟩
  | _ => exact h1.elim
end
theorem atI_pickN {xs : List Nat} {i : Int} (h0 : 0 ≤ i) (h : i < xs.length) : atI xs i = some (xs.getD i.toNat 0) := by
  obtain ⟨k, rfl⟩ := Int.eq_ofNat_of_zero_le h0
  have hk : k < xs.length := by omega
  exact atI_nat (by simp [hk, List.getD])
theorem sum_ones {α : Type} {f : α → Nat} : ∀ {l : List α}, (∀ x ∈ l, f x = 1) → (l.map f).sum = l.length
  | [], _ => rfl
  | x :: r, h => by
    have := sum_ones (l := r) fun y hy => h y (List.mem_cons_of_mem _ hy)
    rw [List.map_cons, List.sum_cons, this, h x (List.mem_cons_self ..), List.length_cons]; omega
theorem natsD_map (n : Nat) : natsD n = (List.range n).map fun (i : Nat) => D.int (i : Int) := rfl
theorem UpV.dropL {K : PySem.W.Frag} {P : D → G3 → Prop} {d : D} {G : G3} (h : UpV K P d G) : ∀ l : G3, UpV K P d (l ++ G)
  | [] => h
  | _ :: r => UpV.drop (UpV.dropL h r)
theorem perm_rev3 {α : Type} {x y z : α} {G : List α} : (x :: y :: z :: G).Perm (z :: y :: x :: G) := by
  have h : [x, y, z].Perm [z, y, x] := (List.reverse_perm [z, y, x])
  exact h.append_right G
theorem perm_back {α : Type} {x : α} {P J G : List α} : (P ++ (J ++ (x :: G))).Perm (x :: (P ++ (J ++ G))) := by
  have h := List.perm_middle (a := x) (l₁ := P ++ J) (l₂ := G)
  simpa using h
end T3

namespace T3
open PySem L2
theorem natAbs_div (x : Int) {d : Int} (hd : 0 < d) : (x / d).natAbs ≤ x.natAbs := by
  have h1 := Int.mul_ediv_add_emod x d
  have h2 := Int.emod_nonneg x (Int.ne_of_gt hd)
  have h3 := Int.emod_lt_of_pos x hd
  by_cases hx : 0 ≤ x
  · have h4 : 0 ≤ x / d := Int.ediv_nonneg hx (by omega)
    have h5 : x / d ≤ x := Int.ediv_le_self d hx
    omega
  · have h4 : x / d ≤ 0 := by
      apply Int.not_lt.mp
      intro h
      have : 0 < d * (x / d) := Int.mul_pos hd h
      omega
    have h5 : x ≤ x / d := by
      apply Int.not_lt.mp
      intro h
      have h6 : d * (x / d) ≤ 1 * (x / d) := Int.mul_le_mul_of_nonpos_right (by omega) h4
      by_cases e : d * (x / d) = x
      · omega
      · have h8 : d * (x / d + 1) ≤ d * x := Int.mul_le_mul_of_nonneg_left (by omega) (by omega)
        rw [Int.mul_add, Int.mul_one] at h8
        have h9 : d * x ≤ 1 * x := Int.mul_le_mul_of_nonpos_right (by omega) (by omega)
        omega
    omega
theorem bl_div (x : Int) {d : Int} (hd : 0 < d) : bl (x / d) ≤ bl x := bl_lt (Nat.lt_of_le_of_lt (natAbs_div x hd) (lt_bl x))
theorem cut_two (z : Str) {a : Int} (ha : 0 ≤ a) : (cutS z none (some a)).length + (cutS z (some (1 + a)) none).length ≤ z.length := by
  obtain ⟨k, rfl⟩ := Int.eq_ofNat_of_zero_le ha
  rw [show (1 : Int) + (k : Int) = ((1 + k : Nat) : Int) by omega]
  unfold cutS
  rw [HT.sIx_none, HT.sIx_nat, HT.sIx_nat, HT.sIx_none]
  have hz : z.cps.toList.length = z.length := Array.length_toList
  show ((z.cps.toList.drop 0).take (min k z.length - 0)).toArray.size + ((z.cps.toList.drop (min (1 + k) z.length)).take (z.length - min (1 + k) z.length)).toArray.size ≤ z.length
  simp only [List.size_toArray, List.length_take, List.length_drop, hz]
  omega
abbrev sOk (x : Str) : Prop := PySem.PyData.strOk x = true
theorem sOk_iff (x : Str) : sOk x ↔ ∀ c ∈ TL.tl x, c < 0x110000 := by
  show (x.cps.all fun c => decide (c < 0x110000)) = true ↔ _
  rw [← Array.all_toList, List.all_eq_true]
  exact ⟨fun h c hc => of_decide_eq_true (h c hc), fun h c hc => decide_eq_true (h c hc)⟩
theorem sOk_app {x y : Str} (hx : sOk x) (hy : sOk y) : sOk (x ++ y) := by
  rw [sOk_iff] at *
  intro c hc
  rw [TL.tl_append] at hc
  rcases List.mem_append.mp hc with h | h
  · exact hx c h
  · exact hy c h
theorem sOk_cut {x : Str} (hx : sOk x) (lo hi : Option Int) : sOk (cutS x lo hi) := by
  rw [sOk_iff] at *
  intro c hc
  refine hx c ?_
  unfold cutS TL.tl at hc
  exact List.mem_of_mem_drop (List.mem_of_mem_take hc)
theorem sOk_join {a : Str} (ha : sOk a) : ∀ ys : List Str, (∀ y ∈ ys, sOk y) → sOk (Txt.join a ys) := by
  intro ys h
  rw [TL.join_eq]
  induction ys with
  | nil =>
    rw [sOk_iff, TL.tl_join]
    intro c hc
    cases hc
  | cons x r ih =>
    have h1 := h x (List.mem_cons_self ..)
    have h2 := ih fun y hy => h y (List.mem_cons_of_mem _ hy)
    cases r with
    | nil => exact h1
    | cons z r => exact sOk_app (sOk_app h1 ha) h2
/-! ### pay -/
def payH (xs : List Ho) (ps : List Int) : List Ho := (xs.zip ps).map fun z => { z.1 with days := 0, got := z.1.got + z.2 }
def payD (xs : List Ho) (ps : List Int) : List D := (xs.zip ps).map fun z => .tup [.str z.1.name, .int z.2]
end T3

namespace T3
open PySem L2
/-! ### parts -/
/-- the parts of coins by weights, so much being ahead -/
def partsL (coins whole ahead : Int) : List Int → List Int
  | [] => []
  | w :: r => (coins * (ahead + w) / whole - coins * ahead / whole) :: partsL coins whole (ahead + w) r
theorem partsL_snoc (c h : Int) : ∀ (ws : List Int) (a w : Int), partsL c h a (ws ++ [w]) = partsL c h a ws ++ [c * (a + ws.sum + w) / h - c * (a + ws.sum) / h]
  | [], a, w => by simp [partsL]
  | v :: r, a, w => by simp only [List.cons_append, partsL, partsL_snoc c h r (a + v) w, List.sum_cons, Int.add_assoc]
theorem partsL_length (c h : Int) : ∀ (ws : List Int) (a : Int), (partsL c h a ws).length = ws.length
  | [], _ => rfl
  | v :: r, a => by simp [partsL, partsL_length c h r]
theorem sum_nonneg : ∀ {ws : List Int}, (∀ w ∈ ws, 0 ≤ w) → 0 ≤ ws.sum
  | [], _ => by simp
  | v :: r, h => by
    have h1 := h v (List.mem_cons_self ..)
    have h2 := sum_nonneg (ws := r) fun w hw => h w (List.mem_cons_of_mem _ hw)
    rw [List.sum_cons]; omega
theorem sum_take_le : ∀ {ws : List Int} (n : Nat), (∀ w ∈ ws, 0 ≤ w) → (ws.take n).sum ≤ ws.sum
  | ws, 0, h => by simpa using sum_nonneg h
  | [], n + 1, h => by simp
  | v :: r, n + 1, h => by
    have h2 := sum_take_le (ws := r) n fun w hw => h w (List.mem_cons_of_mem _ hw)
    simp only [List.take_succ_cons, List.sum_cons]; omega
/-- what parts asks: weights from nought on, numbers that are not too great -/
structure PartsOk (coins : Int) (ws : List Int) : Prop where
  pos : ∀ w ∈ ws, 0 ≤ w
  sum : ws.sum < 2 ^ 8000
  coins : bl coins ≤ 50000000
  len : ws.length ≤ 1000
theorem mem_le_sum : ∀ {ws : List Int}, (∀ w ∈ ws, 0 ≤ w) → ∀ w ∈ ws, w ≤ ws.sum
  | [], _, w, h => by cases h
  | v :: r, hp, w, h => by
    have h1 := hp v (List.mem_cons_self ..)
    have h2 := sum_nonneg (ws := r) fun w hw => hp w (List.mem_cons_of_mem _ hw)
    rw [List.sum_cons]
    rcases List.mem_cons.mp h with rfl | h
    · omega
    · have := mem_le_sum (ws := r) (fun w hw => hp w (List.mem_cons_of_mem _ hw)) w h; omega
/-! ### deeds, as plain Lean -/
inductive Deed where
  | issue (day : Int) (who : Str) (count paid : Int)
  | sell (day : Int) (giver taker : Str) (count price : Int)
  | retire (day : Int) (who : Str) (count price : Int)
  | split (day m : Int)
  | join (day m : Int)
  | pay (day coins : Int)
def Deed.day : Deed → Int
  | .issue d _ _ _ => d
  | .sell d _ _ _ _ => d
  | .retire d _ _ _ => d
  | .split d _ => d
  | .join d _ => d
  | .pay d _ => d
/-- a number that cannot be -/
def Deed.low : Deed → Bool
  | .issue _ _ c p => decide (c < 1) || decide (p < 0)
  | .sell _ _ _ c p => decide (c < 1) || decide (p < 0)
  | .retire _ _ c p => decide (c < 1) || decide (p < 0)
  | .split _ m => decide (m < 2)
  | .join _ m => decide (m < 2)
  | .pay _ c => decide (c < 0)
inductive Why where | day | number | hands | few | uneven | nodays
deriving DecidableEq
inductive Res where | non | rows (rs : List (List Int)) | pays (ps : List (Str × Int))
inductive Out where | no (w : Why) | yes (xs : List Ho) (r : Res)
def behinds (p : Int) (xs : List Ho) : List Int := xs.map fun x => x.behind p
def aRows (x : Ho) (c price : Int) : List (List Int) := rowsD (takenL c x.lots) (partsL price c 0 ((takenL c x.lots).map Lot.count))
def aGo (p : Int) (xs : List Ho) (who : Str) (c price : Int) : Out := match aFind who xs with
  | none => .no .few
  | some x => if x.many < c then .no .few else .yes (aUpd who (aSold c price) (aPass p xs)) (.rows (aRows x c price))
def aJoin (m : Int) (xs : List Ho) : List Ho := xs.map fun x => { x with lots := x.lots.map (slim m), days := x.days / m }
def evenH (m : Int) (x : Ho) : Bool := decide (x.days % m = 0) && x.lots.all fun l => decide (l.count % m = 0)
/-- a sale's second half -/
def aTaken (t : Str) (l : Lot) : Out → Out
  | .no w => .no w
  | .yes ys r => .yes (aAdd ys t l) r
/-- a deed done to a book at a day -/
def aDo (day : Int) (xs : List Ho) (d : Deed) : Out :=
  if d.day < day then .no .day else if d.low = true then .no .number else match d with
  | .issue dy w c p => .yes (aAdd (aPass (dy - day) xs) w ⟨dy, c, p⟩) .non
  | .sell dy g t c p => if g = t then .no .hands else aTaken t ⟨dy, c, p⟩ (aGo (dy - day) xs g c p)
  | .retire dy g c p => aGo (dy - day) xs g c p
  | .split dy m => .yes (aSplit m (aPass (dy - day) xs)) .non
  | .join dy m => if (aPass (dy - day) xs).all (evenH m) = true then .yes (aJoin m (aPass (dy - day) xs)) .non else .no .uneven
  | .pay dy c => if (behinds (dy - day) xs).sum = 0 then .no .nodays else
    .yes (payH (aPass (dy - day) xs) (partsL c (behinds (dy - day) xs).sum 0 (behinds (dy - day) xs))) (.pays ((nmH xs).zip (partsL c (behinds (dy - day) xs).sum 0 (behinds (dy - day) xs))))
/-! ### holders, looked at -/
theorem find_ho (who : Str) : ∀ xs : List Ho, who ∉ nmH xs ∨ ∃ A x B, xs = A ++ x :: B ∧ x.name = who ∧ who ∉ nmH A
  | [] => .inl (by simp)
  | y :: r => by
    by_cases e : y.name = who
    · exact .inr ⟨[], y, r, rfl, e, by simp⟩
    rcases find_ho who r with h | ⟨A, x, B, e1, e2, e3⟩
    · left
      simp only [nmH, List.map_cons, List.mem_cons, not_or]
      exact ⟨fun z => e z.symm, h⟩
    · right
      refine ⟨y :: A, x, B, by rw [e1]; rfl, e2, ?_⟩
      simp only [nmH, List.map_cons, List.mem_cons, not_or]
      exact ⟨fun z => e z.symm, e3⟩
theorem aFind_split {who : Str} {xs : List Ho} {x : Ho} (h : aFind who xs = some x) : ∃ A B, xs = A ++ x :: B ∧ x.name = who ∧ who ∉ nmH A := by
  rcases find_ho who xs with h1 | ⟨A, y, B, e1, e2, e3⟩
  · rw [aFind_none h1] at h; cases h
  · rw [e1, aFind_at e3 e2] at h
    injection h with h
    subst h
    exact ⟨A, B, e1, e2, e3⟩
theorem aFind_mem {who : Str} {xs : List Ho} {x : Ho} (h : aFind who xs = some x) : x ∈ xs ∧ x.name = who := by
  obtain ⟨A, B, e1, e2, _⟩ := aFind_split h
  exact ⟨by rw [e1]; simp, e2⟩
theorem aFind_in {who : Str} {xs : List Ho} (h : who ∈ nmH xs) : ∃ x, aFind who xs = some x := by
  rcases find_ho who xs with h1 | ⟨A, y, B, e1, e2, e3⟩
  · exact absurd h h1
  · exact ⟨y, by rw [e1, aFind_at e3 e2]⟩
theorem aFind_nil {who : Str} {xs : List Ho} (h : aFind who xs = none) : who ∉ nmH xs := fun hm => by
  obtain ⟨x, e⟩ := aFind_in hm
  rw [h] at e; cases e
theorem aFind_map {who : Str} (f : Ho → Ho) (hf : ∀ x, (f x).name = x.name) (xs : List Ho) : aFind who (xs.map f) = (aFind who xs).map f := by
  induction xs with
  | nil => rfl
  | cons x r ih =>
    simp only [aFind, List.map_cons, List.find?_cons] at ih ⊢
    rw [hf]
    cases decide (x.name = who) with
    | true => rfl
    | false => exact ih
theorem aUpd_nil {who : Str} {f : Ho → Ho} : ∀ {xs : List Ho}, who ∉ nmH xs → aUpd who f xs = xs
  | [], _ => rfl
  | x :: r, h => by
    simp only [nmH, List.map_cons, List.mem_cons, not_or] at h
    simp only [aUpd]
    rw [if_neg (fun e => h.1 e.symm), aUpd_nil h.2]
theorem aUpd_mem {who : Str} {f : Ho → Ho} : ∀ {xs : List Ho} {y : Ho}, y ∈ aUpd who f xs → y ∈ xs ∨ ∃ x ∈ xs, x.name = who ∧ y = f x
  | [], _, h => by cases h
  | x :: r, y, h => by
    simp only [aUpd] at h
    split at h
    · rename_i e
      rcases List.mem_cons.mp h with rfl | h
      · exact .inr ⟨x, List.mem_cons_self .., e, rfl⟩
      · exact .inl (List.mem_cons_of_mem _ h)
    · rcases List.mem_cons.mp h with rfl | h
      · exact .inl (List.mem_cons_self ..)
      · rcases aUpd_mem h with h | ⟨z, h1, h2⟩
        · exact .inl (List.mem_cons_of_mem _ h)
        · exact .inr ⟨z, List.mem_cons_of_mem _ h1, h2⟩
theorem aUpd_names {who : Str} {f : Ho → Ho} (hf : ∀ x, (f x).name = x.name) : ∀ xs : List Ho, nmH (aUpd who f xs) = nmH xs
  | [] => rfl
  | x :: r => by
    simp only [aUpd]
    split
    · simp [nmH, hf]
    · have := aUpd_names (who := who) hf r
      simp only [nmH, List.map_cons] at this ⊢; rw [this]
theorem aUpd_len {who : Str} {f : Ho → Ho} : ∀ xs : List Ho, (aUpd who f xs).length = xs.length
  | [] => rfl
  | x :: r => by
    simp only [aUpd]
    split
    · simp
    · simp [aUpd_len r]
theorem aUpd_map {who : Str} {f g : Ho → Ho} (hg : ∀ x, (g x).name = x.name) (h : ∀ x, f (g x) = g (f x)) : ∀ xs : List Ho, aUpd who f (xs.map g) = (aUpd who f xs).map g
  | [] => rfl
  | x :: r => by
    simp only [List.map_cons, aUpd, hg]
    split
    · simp [h]
    · simp [aUpd_map hg h r]
/-- a sum when one is changed -/
theorem aUpd_sum {who : Str} {f : Ho → Ho} (g : Ho → Int) : ∀ {xs : List Ho} {x : Ho}, aFind who xs = some x → ((aUpd who f xs).map g).sum = (xs.map g).sum + (g (f x) - g x)
  | [], x, h => by cases h
  | y :: r, x, h => by
    simp only [aFind, List.find?_cons] at h
    simp only [aUpd]
    by_cases e : y.name = who
    · rw [if_pos e]
      rw [decide_eq_true e] at h
      injection h with h
      subst h
      simp only [List.map_cons, List.sum_cons]; omega
    · rw [if_neg e]
      rw [decide_eq_false e] at h
      have := aUpd_sum (f := f) g (xs := r) h
      simp only [List.map_cons, List.sum_cons, this]; omega
theorem aPass_names (p : Int) (xs : List Ho) : nmH (aPass p xs) = nmH xs := by simp [nmH, aPass, List.map_map, Function.comp_def]
theorem aSplit_names (m : Int) (xs : List Ho) : nmH (aSplit m xs) = nmH xs := by simp [nmH, aSplit, List.map_map, Function.comp_def]
theorem aJoin_names (m : Int) (xs : List Ho) : nmH (aJoin m xs) = nmH xs := by simp [nmH, aJoin, List.map_map, Function.comp_def]
theorem zip_fst {α β : Type} : ∀ {a : List α} {b : List β}, a.length = b.length → (a.zip b).map (·.1) = a
  | [], [], _ => rfl
  | x :: a, y :: b, h => by simp [zip_fst (a := a) (b := b) (by simpa using h)]
theorem zip_snd {α β : Type} : ∀ {a : List α} {b : List β}, a.length = b.length → (a.zip b).map (·.2) = b
  | [], [], _ => rfl
  | x :: a, y :: b, h => by simp [zip_snd (a := a) (b := b) (by simpa using h)]
theorem payH_names {xs : List Ho} {ps : List Int} (h : xs.length = ps.length) : nmH (payH xs ps) = nmH xs := by
  have := congrArg (List.map Ho.name) (zip_fst h)
  simp only [List.map_map] at this
  simp only [nmH, payH, List.map_map]
  exact this
theorem aPass_mem' {p : Int} {xs : List Ho} {y : Ho} (h : y ∈ aPass p xs) : ∃ x ∈ xs, y = { x with days := x.behind p } := by
  obtain ⟨x, h1, h2⟩ := List.mem_map.mp h
  exact ⟨x, h1, h2.symm⟩
theorem aSplit_mem {m : Int} {xs : List Ho} {y : Ho} (h : y ∈ aSplit m xs) : ∃ x ∈ xs, y = { x with lots := x.lots.map (wide m), days := x.days * m } := by
  obtain ⟨x, h1, h2⟩ := List.mem_map.mp h
  exact ⟨x, h1, h2.symm⟩
theorem aJoin_mem {m : Int} {xs : List Ho} {y : Ho} (h : y ∈ aJoin m xs) : ∃ x ∈ xs, y = { x with lots := x.lots.map (slim m), days := x.days / m } := by
  obtain ⟨x, h1, h2⟩ := List.mem_map.mp h
  exact ⟨x, h1, h2.symm⟩
theorem aAdd_mem {xs : List Ho} {who : Str} {l : Lot} {y : Ho} (h : y ∈ aAdd xs who l) : y ∈ xs ∨ (∃ x ∈ xs, y = { x with lots := x.lots ++ [l] }) ∨ y = ⟨who, [l], 0, 0, 0⟩ := by
  unfold aAdd at h
  split at h
  · rcases aUpd_mem h with h | ⟨x, h1, _, h2⟩
    · exact .inl h
    · exact .inr (.inl ⟨x, h1, h2⟩)
  · rcases List.mem_append.mp h with h | h
    · exact .inl h
    · rw [List.mem_singleton] at h; exact .inr (.inr h)
theorem aAdd_len (xs : List Ho) (who : Str) (l : Lot) : (aAdd xs who l).length ≤ xs.length + 1 := by
  unfold aAdd; split
  · rw [aUpd_len]; omega
  · simp
theorem aAdd_nd {xs : List Ho} {who : Str} {l : Lot} (h : (nmH xs).Nodup) : (nmH (aAdd xs who l)).Nodup := by
  unfold aAdd; split
  · rw [aUpd_names (f := fun x => { x with lots := x.lots ++ [l] }) (fun _ => rfl)]; exact h
  · rename_i hn
    simp only [nmH, List.map_append, List.map_cons, List.map_nil]
    rw [List.nodup_append]
    refine ⟨h, by simp, fun a ha b hb => ?_⟩
    rw [List.mem_singleton] at hb
    subst hb
    exact fun e => hn (e ▸ ha)
theorem many_snoc (x : Ho) (l : Lot) : Ho.many { x with lots := x.lots ++ [l] } = x.many + l.count := by simp [Ho.many]
theorem aAdd_many (xs : List Ho) (who : Str) (l : Lot) : ((aAdd xs who l).map Ho.many).sum = (xs.map Ho.many).sum + l.count := by
  unfold aAdd; split
  · rename_i h
    obtain ⟨x, hx⟩ := aFind_in h
    rw [aUpd_sum Ho.many hx, many_snoc]; omega
  · simp [Ho.many]
theorem aAdd_days (xs : List Ho) (who : Str) (l : Lot) : ((aAdd xs who l).map Ho.days).sum = (xs.map Ho.days).sum := by
  unfold aAdd; split
  · rename_i h
    obtain ⟨x, hx⟩ := aFind_in h
    rw [aUpd_sum Ho.days hx]
    show _ + (x.days - x.days) = _
    omega
  · simp
theorem behinds_sum (p : Int) : ∀ xs : List Ho, (behinds p xs).sum = (xs.map Ho.days).sum + (xs.map Ho.many).sum * p
  | [] => by simp [behinds]
  | x :: r => by
    have := behinds_sum p r
    simp only [behinds, List.map_cons, List.sum_cons, Int.add_mul] at this ⊢
    rw [this]
    simp only [Ho.behind]; omega
theorem aPass_many (p : Int) (xs : List Ho) : (aPass p xs).map Ho.many = xs.map Ho.many := by simp [aPass, List.map_map, Function.comp_def, Ho.many]
theorem aPass_days (p : Int) (xs : List Ho) : (aPass p xs).map Ho.days = behinds p xs := by simp [aPass, behinds, List.map_map, Function.comp_def]
theorem wide_sum (m : Int) : ∀ ls : List Lot, ((ls.map (wide m)).map Lot.count).sum = (ls.map Lot.count).sum * m
  | [] => by simp
  | l :: r => by
    have := wide_sum m r
    simp only [List.map_cons, List.sum_cons, Int.add_mul, this]; rfl
theorem sum_mul (m : Int) : ∀ ws : List Int, (ws.map fun w => w * m).sum = ws.sum * m
  | [] => by simp
  | w :: r => by simp only [List.map_cons, List.sum_cons, Int.add_mul, sum_mul m r]
theorem aSplit_many (m : Int) (xs : List Ho) : ((aSplit m xs).map Ho.many) = (xs.map Ho.many).map fun w => w * m := by
  simp only [aSplit, List.map_map]
  apply List.map_congr_left
  intro x _
  simp only [Function.comp, Ho.many, wide_sum]
theorem aSplit_days (m : Int) (xs : List Ho) : ((aSplit m xs).map Ho.days) = (xs.map Ho.days).map fun w => w * m := by simp [aSplit, List.map_map, Function.comp_def]
theorem slim_sum {m : Int} (hm : 0 < m) : ∀ ls : List Lot, (∀ l ∈ ls, l.count % m = 0) → ((ls.map (slim m)).map Lot.count).sum * m = (ls.map Lot.count).sum
  | [], _ => by simp
  | l :: r, h => by
    have ih := slim_sum hm r fun x hx => h x (List.mem_cons_of_mem _ hx)
    have e := h l (List.mem_cons_self ..)
    have h2 := Int.mul_ediv_add_emod l.count m
    simp only [List.map_cons, List.sum_cons, Int.add_mul, ih]
    show l.count / m * m + _ = _
    rw [Int.mul_comm]; omega
/-! ### what is taken and what is left -/
theorem left_count : ∀ (ls : List Lot) (c : Int), ((leftL c ls).map Lot.count).sum = (ls.map Lot.count).sum - (c - restL c ls)
  | [], c => by simp [leftL, restL]
  | l :: r, c => by
    have ih := left_count r (c - partOf c l)
    simp only [leftL, restL, List.map_append, List.sum_append, List.map_cons, List.sum_cons, ih]
    have : ((leaveOne c l).map Lot.count).sum = l.count - partOf c l := by
      unfold leaveOne
      split
      · simp
      · rename_i h
        have : partOf c l ≤ l.count := by unfold partOf; split <;> omega
        simp; omega
    omega
theorem used_cost : ∀ {ls : List Lot} {c : Int}, 0 ≤ c → (∀ l ∈ ls, LotOk l) → ((takenL c ls).map Lot.cost).sum + ((leftL c ls).map Lot.cost).sum = (ls.map Lot.cost).sum
  | [], c, _, _ => by simp [takenL, leftL]
  | l :: r, c, hc, h => by
    have hl := h l (List.mem_cons_self ..)
    have hp := part_pos hc hl
    have ih := used_cost (ls := r) (c := c - partOf c l) (by omega) fun x hx => h x (List.mem_cons_of_mem _ hx)
    simp only [takenL, leftL, List.map_append, List.sum_append, List.map_cons, List.sum_cons]
    have : ((takeOne c l).map Lot.cost).sum + ((leaveOne c l).map Lot.cost).sum = l.cost := by
      unfold takeOne leaveOne
      by_cases h1 : 0 < partOf c l
      · rw [if_pos h1]
        by_cases h2 : partOf c l < l.count
        · rw [if_pos h2]; simp; omega
        · rw [if_neg h2, show partOf c l = l.count by omega, Int.mul_ediv_cancel _ (show l.count ≠ 0 by have := hl.1; omega)]; simp
      · rw [if_neg h1, show partOf c l = 0 by omega, if_pos (by have := hl.1; omega)]; simp
    omega
theorem left_many {x : Ho} {c : Int} (price : Int) (hc : 0 ≤ c) (h : ∀ l ∈ x.lots, LotOk l) (hle : c ≤ x.many) : (aSold c price x).many = x.many - c := by
  show ((leftL c x.lots).map Lot.count).sum = (x.lots.map Lot.count).sum - c
  rw [left_count, rest_zero hc h hle]; omega
end T3
namespace T3
open PySem L2
/-! ### numbers that are not too great -/
/-- a deed's price, coins or number -/
def Deed.num : Deed → Int
  | .issue _ _ _ p => p
  | .sell _ _ _ _ p => p
  | .retire _ _ _ p => p
  | .split _ m => m
  | .join _ m => m
  | .pay _ c => c
structure DeedOk (day : Int) (d : Deed) : Prop where
  day : d.day - day ≤ 2 ^ 200
  num : d.num < 2 ^ 200
  cnt : match d with
    | .issue _ _ c _ => c ≤ 2 ^ 100
    | .split _ m => m ≤ 2 ^ 100
    | _ => True
structure Gr (n : Nat) (S T : Int) (xs : List Ho) : Prop where
  nd : (nmH xs).Nodup
  len : xs.length ≤ n
  lots : ∀ x ∈ xs, x.lots.length ≤ n ∧ (∀ l ∈ x.lots, 1 ≤ l.count ∧ 0 ≤ l.cost ∧ l.cost < 2 ^ 200) ∧ 0 ≤ x.days
  cnt : (xs.map Ho.many).sum ≤ S
  days : (xs.map Ho.days).sum ≤ T
theorem lots_many {ls : List Lot} (h : ∀ l ∈ ls, 1 ≤ l.count ∧ 0 ≤ l.cost ∧ l.cost < 2 ^ 200) : 0 ≤ (ls.map Lot.count).sum ∧ ∀ l ∈ ls, l.count ≤ (ls.map Lot.count).sum := by
  have hp : ∀ w ∈ ls.map Lot.count, 0 ≤ w := fun w hw => by
    obtain ⟨l, hl, rfl⟩ := List.mem_map.mp hw
    have := (h l hl).1; omega
  exact ⟨sum_nonneg hp, fun l hl => mem_le_sum hp _ (List.mem_map_of_mem hl)⟩
namespace Gr
variable {n : Nat} {S T : Int} {xs : List Ho}
theorem many_pos (g : Gr n S T xs) : ∀ x ∈ xs, 0 ≤ x.many := fun x hx => (lots_many (g.lots x hx).2.1).1
theorem many_le (g : Gr n S T xs) : ∀ x ∈ xs, x.many ≤ S := fun x hx => by
  have hp : ∀ w ∈ xs.map Ho.many, 0 ≤ w := fun w hw => by
    obtain ⟨y, hy, rfl⟩ := List.mem_map.mp hw
    exact g.many_pos y hy
  exact Int.le_trans (mem_le_sum hp _ (List.mem_map_of_mem hx)) g.cnt
theorem S0 (g : Gr n S T xs) : 0 ≤ S := by
  have : 0 ≤ (xs.map Ho.many).sum := sum_nonneg fun w hw => by
    obtain ⟨y, hy, rfl⟩ := List.mem_map.mp hw
    exact g.many_pos y hy
  have := g.cnt; omega
theorem mono {n' : Nat} {S' T' : Int} (g : Gr n S T xs) (hn : n ≤ n') (hS : S ≤ S') (hT : T ≤ T') : Gr n' S' T' xs :=
  ⟨g.nd, by have := g.len; omega, fun x hx => by obtain ⟨a, b, c⟩ := g.lots x hx; exact ⟨by omega, b, c⟩, by have := g.cnt; omega, by have := g.days; omega⟩
theorem behind_pos {p : Int} (g : Gr n S T xs) (hp : 0 ≤ p) : ∀ x ∈ xs, 0 ≤ x.behind p := fun x hx => by
  have := Int.mul_nonneg (g.many_pos x hx) hp
  have := (g.lots x hx).2.2
  show 0 ≤ x.days + x.many * p; omega
theorem behind_sum {p : Int} (g : Gr n S T xs) (hp : 0 ≤ p) : (behinds p xs).sum ≤ T + S * p := by
  rw [behinds_sum]
  have := Int.mul_le_mul_of_nonneg_right g.cnt hp
  have := g.days; omega
theorem pass {p : Int} (g : Gr n S T xs) (hp : 0 ≤ p) : Gr n S (T + S * p) (aPass p xs) := by
  refine ⟨by rw [aPass_names]; exact g.nd, by simp [aPass]; exact g.len, fun y hy => ?_, by rw [aPass_many]; exact g.cnt, by rw [aPass_days]; exact g.behind_sum hp⟩
  obtain ⟨x, hx, rfl⟩ := aPass_mem' hy
  obtain ⟨a, b, c⟩ := g.lots x hx
  exact ⟨a, b, g.behind_pos hp x hx⟩
theorem add (g : Gr n S T xs) (who : Str) {l : Lot} (hl : 1 ≤ l.count ∧ 0 ≤ l.cost ∧ l.cost < 2 ^ 200) : Gr (n + 1) (S + l.count) T (aAdd xs who l) := by
  refine ⟨aAdd_nd g.nd, by have := aAdd_len xs who l; have := g.len; omega, fun y hy => ?_, by rw [aAdd_many]; have := g.cnt; omega, by rw [aAdd_days]; exact g.days⟩
  rcases aAdd_mem hy with hy | ⟨x, hx, rfl⟩ | rfl
  · obtain ⟨a, b, c⟩ := g.lots y hy; exact ⟨by omega, b, c⟩
  · obtain ⟨a, b, c⟩ := g.lots x hx
    refine ⟨by simp; omega, fun z hz => ?_, c⟩
    rcases List.mem_append.mp hz with hz | hz
    · exact b z hz
    · rw [List.mem_singleton] at hz; subst hz; exact hl
  · exact ⟨by simp, fun z hz => by rw [List.mem_singleton] at hz; subst hz; exact hl, Int.le_refl _⟩
theorem lotOk (g : Gr n S T xs) (hS : S < 2 ^ 8000) : ∀ x ∈ xs, ∀ l ∈ x.lots, LotOk l := fun x hx l hl => by
  obtain ⟨h1, h2, h3⟩ := (g.lots x hx).2.1 l hl
  have h4 := (lots_many (g.lots x hx).2.1).2 l hl
  have h5 : (x.lots.map Lot.count).sum ≤ S := g.many_le x hx
  exact ⟨h1, by omega, h2, Nat.le_trans (bl_le (n := 199) h2 h3) (by decide)⟩
theorem sold {who : Str} {c price : Int} {x : Ho} (g : Gr n S T xs) (hS : S < 2 ^ 8000) (hx : aFind who xs = some x) (hc : 0 ≤ c) (hle : c ≤ x.many) : Gr n (S - c) T (aUpd who (aSold c price) xs) := by
  have hxm := (aFind_mem hx).1
  have hok := g.lotOk hS
  refine ⟨by rw [aUpd_names (f := aSold c price) (fun _ => rfl)]; exact g.nd, by rw [aUpd_len]; exact g.len, fun y hy => ?_, ?_, ?_⟩
  · rcases aUpd_mem hy with hy | ⟨z, hz, _, rfl⟩
    · exact g.lots y hy
    · obtain ⟨a, b, c'⟩ := g.lots z hz
      refine ⟨by have := leftL_len z.lots c; show (leftL c z.lots).length ≤ n; omega, fun l hl => ?_, c'⟩
      have hl' : l ∈ leftL c z.lots := hl
      have := leftL_ok hc (hok z hz) l hl'
      refine ⟨this.1, this.2.2.1, ?_⟩
      -- a cost is at most the lot's own
      have key : ∀ (ls : List Lot) (c : Int), 0 ≤ c → (∀ l ∈ ls, LotOk l ∧ l.cost < 2 ^ 200) → ∀ l ∈ leftL c ls, l.cost < 2 ^ 200 := by
        intro ls
        induction ls with
        | nil => intro c _ _ l hl; cases hl
        | cons v r ih =>
          intro c hc h l hl
          simp only [leftL] at hl
          have hv := h v (List.mem_cons_self ..)
          have hp := part_pos hc hv.1
          rcases List.mem_append.mp hl with hl | hl
          · unfold leaveOne at hl
            split at hl
            · rw [List.mem_singleton] at hl
              subst hl
              have := cost_part hc hv.1
              show v.cost - _ < _
              omega
            · cases hl
          · exact ih _ (by omega) (fun z hz => h z (List.mem_cons_of_mem _ hz)) l hl
      exact key z.lots c hc (fun l hl => ⟨hok z hz l hl, (b l hl).2.2⟩) l hl'
  · rw [aUpd_sum Ho.many hx, left_many price hc (hok x hxm) hle]
    have := g.cnt; omega
  · rw [aUpd_sum Ho.days hx]
    show _ + (x.days - x.days) ≤ _
    have := g.days; omega
theorem split {m : Int} (g : Gr n S T xs) (hm : 1 ≤ m) : Gr n (S * m) (T * m) (aSplit m xs) := by
  refine ⟨by rw [aSplit_names]; exact g.nd, by simp [aSplit]; exact g.len, fun y hy => ?_, ?_, ?_⟩
  · obtain ⟨x, hx, rfl⟩ := aSplit_mem hy
    obtain ⟨a, b, c⟩ := g.lots x hx
    refine ⟨by simp; exact a, fun z hz => ?_, Int.mul_nonneg c (by omega)⟩
    obtain ⟨l, hl, rfl⟩ := List.mem_map.mp hz
    obtain ⟨h1, h2⟩ := b l hl
    exact ⟨Int.mul_pos (a := l.count) (b := m) (by omega) (by omega), h2⟩
  · rw [aSplit_many, sum_mul]; exact Int.mul_le_mul_of_nonneg_right g.cnt (by omega)
  · rw [aSplit_days, sum_mul]; exact Int.mul_le_mul_of_nonneg_right g.days (by omega)
theorem even_lots {m : Int} {x : Ho} (h : evenH m x = true) : x.days % m = 0 ∧ ∀ l ∈ x.lots, l.count % m = 0 := by
  unfold evenH at h
  rw [Bool.and_eq_true] at h
  refine ⟨of_decide_eq_true h.1, fun l hl => ?_⟩
  have := List.all_eq_true.mp h.2 l hl
  exact of_decide_eq_true this
theorem join {m : Int} (g : Gr n S T xs) (hm : 1 ≤ m) (he : xs.all (evenH m) = true) : Gr n S T (aJoin m xs) := by
  have hm0 : 0 < m := by omega
  refine ⟨by rw [aJoin_names]; exact g.nd, by simp [aJoin]; exact g.len, fun y hy => ?_, ?_, ?_⟩
  · obtain ⟨x, hx, rfl⟩ := aJoin_mem hy
    obtain ⟨a, b, c⟩ := g.lots x hx
    have ev := (even_lots (List.all_eq_true.mp he x hx)).2
    refine ⟨by simp; exact a, fun z hz => ?_, Int.ediv_nonneg c (by omega)⟩
    obtain ⟨l, hl, rfl⟩ := List.mem_map.mp hz
    obtain ⟨h1, h2⟩ := b l hl
    refine ⟨?_, h2⟩
    show 1 ≤ l.count / m
    have e := Int.mul_ediv_add_emod l.count m
    rw [ev l hl] at e
    rcases Int.lt_or_le 0 (l.count / m) with h | h
    · omega
    · have := Int.mul_nonpos_of_nonneg_of_nonpos (a := m) (b := l.count / m) (by omega) h
      omega
  · refine Int.le_trans ?_ g.cnt
    have key : ∀ ys : List Ho, (∀ x ∈ ys, 0 ≤ x.many ∧ ∀ l ∈ x.lots, l.count % m = 0) → ((aJoin m ys).map Ho.many).sum ≤ (ys.map Ho.many).sum := by
      intro ys
      induction ys with
      | nil => intro _; simp [aJoin]
      | cons x r ih =>
        intro h
        have i1 := ih fun z hz => h z (List.mem_cons_of_mem _ hz)
        obtain ⟨h1, h2⟩ := h x (List.mem_cons_self ..)
        have e := slim_sum hm0 x.lots h2
        have h3 : ((x.lots.map (slim m)).map Lot.count).sum ≤ x.many := by
          have h1' : 0 ≤ (x.lots.map Lot.count).sum := h1
          show _ ≤ (x.lots.map Lot.count).sum
          rw [← e] at h1' ⊢
          have h4 : 0 ≤ ((x.lots.map (slim m)).map Lot.count).sum := by
            rcases Int.lt_or_le ((x.lots.map (slim m)).map Lot.count).sum 0 with h | h
            · have := Int.mul_neg_of_neg_of_pos h hm0; omega
            · exact h
          have := Int.mul_le_mul_of_nonneg_left hm h4
          omega
        simp only [aJoin, List.map_cons, List.sum_cons] at i1 ⊢
        show ((x.lots.map (slim m)).map Lot.count).sum + _ ≤ _
        omega
    exact key xs fun x hx => ⟨g.many_pos x hx, (even_lots (List.all_eq_true.mp he x hx)).2⟩
  · refine Int.le_trans ?_ g.days
    have key : ∀ ys : List Ho, (∀ x ∈ ys, 0 ≤ x.days) → ((aJoin m ys).map Ho.days).sum ≤ (ys.map Ho.days).sum := by
      intro ys
      induction ys with
      | nil => intro _; simp [aJoin]
      | cons x r ih =>
        intro h
        have i1 := ih fun z hz => h z (List.mem_cons_of_mem _ hz)
        have h1 := h x (List.mem_cons_self ..)
        have : x.days / m ≤ x.days := Int.ediv_le_self _ h1
        simp only [aJoin, List.map_cons, List.sum_cons] at i1 ⊢
        omega
    exact key xs fun x hx => (g.lots x hx).2.2
theorem paid {ps : List Int} (g : Gr n S T xs) (h : xs.length = ps.length) (hT : 0 ≤ T) : Gr n S T (payH xs ps) := by
  have hz : ∀ y ∈ payH xs ps, ∃ x ∈ xs, y.lots = x.lots ∧ y.days = 0 := fun y hy => by
    obtain ⟨z, hz, rfl⟩ := List.mem_map.mp hy
    exact ⟨z.1, (List.of_mem_zip hz).1, rfl, rfl⟩
  refine ⟨by rw [payH_names h]; exact g.nd, by simp [payH]; have := g.len; omega, fun y hy => ?_, ?_, ?_⟩
  · obtain ⟨x, hx, e1, e2⟩ := hz y hy
    obtain ⟨a, b, c⟩ := g.lots x hx
    rw [e1, e2]
    exact ⟨a, b, Int.le_refl _⟩
  · have : (payH xs ps).map Ho.many = xs.map Ho.many := by
      have := congrArg (List.map Ho.many) (zip_fst h)
      simp only [List.map_map] at this
      simp only [payH, List.map_map]
      exact this
    rw [this]; exact g.cnt
  · have : ((payH xs ps).map Ho.days).sum = 0 := by
      simp only [payH, List.map_map]
      generalize xs.zip ps = zs
      induction zs with
      | nil => rfl
      | cons z r ih => simp only [List.map_cons, List.sum_cons, ih]; rfl
    omega
end Gr
abbrev Grade (n : Nat) (xs : List Ho) : Prop := Gr n (2 ^ (101 * n + 101)) (2 ^ (102 * n + 400)) xs
theorem pow_S (n : Nat) : (2 : Int) ^ (101 * (n + 1) + 101) = 2 ^ (101 * n + 101) * 2 ^ 101 := by rw [show 101 * (n + 1) + 101 = (101 * n + 101) + 101 by omega, Int.pow_add]
theorem pow_T (n : Nat) : (2 : Int) ^ (102 * (n + 1) + 400) = 2 ^ (102 * n + 400) * 2 ^ 102 := by rw [show 102 * (n + 1) + 400 = (102 * n + 400) + 102 by omega, Int.pow_add]
theorem pow_mono {a b : Nat} (h : a ≤ b) : (2 : Int) ^ a ≤ 2 ^ b := by
  obtain ⟨k, rfl⟩ := Nat.exists_eq_add_of_le h
  have h1 : (0 : Int) < 2 ^ a := Int.pow_pos (by decide)
  have h2 : (0 : Int) < 2 ^ k := Int.pow_pos (by decide)
  rw [Int.pow_add]
  have := Int.mul_le_mul_of_nonneg_left (show (1 : Int) ≤ 2 ^ k by omega) (Int.le_of_lt h1)
  omega
theorem Grade.fit {n : Nat} {xs : List Ho} {p : Int} (hn : n ≤ 63) (hp0 : 0 ≤ p) (hp : p ≤ 2 ^ 200) (g : Grade n xs) : (2 : Int) ^ (101 * n + 101) < 2 ^ 8000 ∧ (behinds p xs).sum < 2 ^ 8000 ∧ (2 : Int) ^ (102 * n + 400) + 2 ^ (101 * n + 101) * p ≤ 2 ^ (102 * n + 400) * 2 := by
  have a1 : (2 : Int) ^ (101 * n + 101) ≤ 2 ^ 6464 := pow_mono (by omega)
  have a2 : (2 : Int) ^ (102 * n + 400) ≤ 2 ^ 6826 := pow_mono (by omega)
  have a3 : (2 : Int) ^ (101 * n + 101) * p ≤ 2 ^ (102 * n + 400) := by
    have s0 : (0 : Int) < 2 ^ (101 * n + 101) := Int.pow_pos (by decide)
    have h1 := Int.mul_le_mul_of_nonneg_left hp (Int.le_of_lt s0)
    rw [← Int.pow_add] at h1
    exact Int.le_trans h1 (pow_mono (by omega))
  have a4 : (2 : Int) ^ 6464 < 2 ^ 8000 := by decide +kernel
  have a5 : (2 : Int) ^ 6826 + 2 ^ 6826 < 2 ^ 8000 := by decide +kernel
  have := g.behind_sum hp0
  refine ⟨by omega, by omega, by omega⟩
/-- one deed more -/
theorem Grade.step {n : Nat} {day : Int} {xs xs' : List Ho} {d : Deed} {r : Res} (g : Grade n xs) (hn : n ≤ 63) (hd : DeedOk day d) (h : aDo day xs d = .yes xs' r) : Grade (n + 1) xs' := by
  unfold aDo at h
  split at h
  · cases h
  rename_i h1
  split at h
  · cases h
  rename_i h2
  have hp0 : 0 ≤ d.day - day := by omega
  obtain ⟨f1, f2, f3⟩ := g.fit hn hp0 hd.day
  have gp := g.pass hp0
  have s0 : (0 : Int) < 2 ^ (101 * n + 101) := Int.pow_pos (by decide)
  have t0 : (0 : Int) < 2 ^ (102 * n + 400) := Int.pow_pos (by decide)
  have s1 : (2 : Int) ^ 101 ≤ 2 ^ (101 * n + 101) := pow_mono (by omega)
  have hs2 := pow_S n
  have ht2 := pow_T n
  have e101 : (2 : Int) ^ 101 = 2535301200456458802993406410752 := by decide
  have e102 : (2 : Int) ^ 102 = 5070602400912917605986812821504 := by decide
  have e100 : (2 : Int) ^ 100 = 1267650600228229401496703205376 := by decide
  rw [e101] at hs2 s1
  rw [e102] at ht2
  -- what let_go leaves
  have go : ∀ {who : Str} {c price : Int} {ys : List Ho} {r : Res}, 1 ≤ c → aGo (d.day - day) xs who c price = .yes ys r → ∃ x, aFind who xs = some x ∧ c ≤ x.many ∧ r = .rows (aRows x c price) ∧ Gr n ((2 : Int) ^ (101 * n + 101) - c) (2 ^ (102 * n + 400) * 2) ys := fun {who c price ys r} hc e => by
    unfold aGo at e
    split at e
    · cases e
    · rename_i x hx
      split at e
      · cases e
      · rename_i hle
        cases e
        have hx' : aFind who (aPass (d.day - day) xs) = some { x with days := x.behind (d.day - day) } := by
          rw [aPass, aFind_map (fun x => { x with days := x.behind (d.day - day) }) (fun _ => rfl), hx]; rfl
        refine ⟨x, hx, by omega, rfl, ?_⟩
        exact (gp.sold f1 hx' (by omega) (show c ≤ x.many by omega)).mono (Nat.le_refl _) (Int.le_refl _) f3
  cases d with
  | issue dy w c p =>
    dsimp only at h
    simp only [Out.yes.injEq] at h
    obtain ⟨rfl, _⟩ := h
    simp only [Deed.low, Bool.or_eq_true, decide_eq_true_eq, not_or] at h2
    have hc := hd.cnt
    have hnum := hd.num
    simp only [Deed.num] at hc hnum
    rw [e100] at hc
    refine (gp.add w ⟨by show 1 ≤ c; omega, by show 0 ≤ p; omega, hnum⟩).mono (Nat.le_refl _) ?_ ?_
    · rw [hs2]; show _ + c ≤ _; omega
    · rw [ht2]; simp only [Deed.day] at f3 ⊢; omega
  | sell dy gv t c p =>
    dsimp only at h
    split at h
    · cases h
    rename_i hne
    simp only [Deed.low, Bool.or_eq_true, decide_eq_true_eq, not_or] at h2
    have hnum := hd.num
    simp only [Deed.num] at hnum
    cases hgo : aGo (dy - day) xs gv c p with
    | no w => simp only [hgo, aTaken] at h; cases h
    | yes ys r' =>
      simp only [hgo, aTaken, Out.yes.injEq] at h
      obtain ⟨rfl, rfl⟩ := h
      obtain ⟨x, _, _, _, g2⟩ := go (by omega) hgo
      refine (g2.add t (l := ⟨dy, c, p⟩) ⟨by show 1 ≤ c; omega, by show 0 ≤ p; omega, hnum⟩).mono (Nat.le_refl _) ?_ ?_
      · rw [hs2]; show _ - c + c ≤ _; omega
      · rw [ht2]; omega
  | retire dy gv c p =>
    dsimp only at h
    simp only [Deed.low, Bool.or_eq_true, decide_eq_true_eq, not_or] at h2
    obtain ⟨x, _, _, _, g2⟩ := go (by omega) h
    refine g2.mono (by omega) ?_ ?_
    · rw [hs2]; omega
    · rw [ht2]; omega
  | split dy m =>
    dsimp only at h
    simp only [Out.yes.injEq] at h
    obtain ⟨rfl, _⟩ := h
    simp only [Deed.low, decide_eq_true_eq] at h2
    have hc := hd.cnt
    simp only at hc
    refine (gp.split (m := m) (by omega)).mono (by omega) ?_ ?_
    · rw [hs2, ← e101]
      exact Int.mul_le_mul_of_nonneg_left (Int.le_trans hc (by decide)) (Int.le_of_lt s0)
    · rw [ht2, ← e102]
      refine Int.le_trans (Int.mul_le_mul_of_nonneg_right f3 (by omega)) ?_
      rw [Int.mul_assoc]
      refine Int.mul_le_mul_of_nonneg_left ?_ (Int.le_of_lt t0)
      rw [e100] at hc; rw [e102]; omega
  | join dy m =>
    dsimp only at h
    split at h
    · rename_i he
      simp only [Out.yes.injEq] at h
      obtain ⟨rfl, _⟩ := h
      simp only [Deed.low, decide_eq_true_eq] at h2
      refine (gp.join (m := m) (by omega) he).mono (by omega) ?_ ?_
      · rw [hs2]; omega
      · rw [ht2]; simp only [Deed.day] at f3 ⊢; omega
    · cases h
  | pay dy c =>
    dsimp only at h
    split at h
    · cases h
    simp only [Out.yes.injEq] at h
    obtain ⟨rfl, _⟩ := h
    refine (gp.paid (by simp [aPass, partsL_length, behinds]) ?_).mono (by omega) ?_ ?_
    · have := Int.mul_nonneg (Int.le_of_lt s0) hp0; omega
    · rw [hs2]; omega
    · rw [ht2]; simp only [Deed.day] at f3 ⊢; omega
/-- what a deed asks of a book -/
structure Safe (day : Int) (xs : List Ho) (d : Deed) : Prop where
  len : xs.length ≤ 900
  nd : (nmH xs).Nodup
  lots : ∀ x ∈ xs, x.lots.length ≤ 900 ∧ (∀ l ∈ x.lots, LotOk l) ∧ x.many < 2 ^ 8000
  mul : day ≤ d.day → ∀ x ∈ xs, CMulX x.many (d.day - day) ∧ 0 ≤ x.behind (d.day - day)
  sum : day ≤ d.day → (behinds (d.day - day) xs).sum < 2 ^ 8000
  num : d.low = false → d.num < 2 ^ 200
theorem Grade.safe {n : Nat} {day : Int} {xs : List Ho} {d : Deed} (g : Grade n xs) (hn : n ≤ 63) (hd : DeedOk day d) : Safe day xs d := by
  have f1 := (g.fit (p := 0) hn (Int.le_refl _) (by decide)).1
  refine ⟨by have := g.len; omega, g.nd, fun x hx => ⟨by have := (g.lots x hx).1; omega, g.lotOk f1 x hx, Int.lt_of_le_of_lt (g.many_le x hx) f1⟩, fun h x hx => ⟨?_, g.behind_pos (by omega) x hx⟩, fun h => (g.fit hn (by omega) hd.day).2.1, fun _ => hd.num⟩
  have h1 := g.many_pos x hx
  have h2 := g.many_le x hx
  exact mul_ok (bl_le (n := 7999) h1 (by omega)) (bl_le (n := 200) (by omega) (Int.lt_of_le_of_lt hd.day (by decide))) (by decide)
/-! ### a table of numbers by names -/
def getP (who : Str) (ps : List (Str × Int)) : Int := ((ps.find? fun z => decide (z.1 = who)).map (·.2)).getD 0
def putP (who : Str) (v : Int) : List (Str × Int) → List (Str × Int)
  | [] => [(who, v)]
  | z :: r => if z.1 = who then (who, v) :: r else z :: putP who v r
def manyP (xs : List Ho) : List (Str × Int) := xs.map fun x => (x.name, x.many)
theorem getP_map (g : Ho → Int) (who : Str) : ∀ xs : List Ho, getP who (xs.map fun x => (x.name, g x)) = ((aFind who xs).map g).getD 0
  | [] => rfl
  | x :: r => by
    have ih := getP_map g who r
    simp only [getP, aFind, List.map_cons, List.find?_cons] at ih ⊢
    cases decide (x.name = who) with
    | true => rfl
    | false => exact ih
theorem putP_upd (g : Ho → Int) (who : Str) (f : Ho → Ho) (hf : ∀ x, (f x).name = x.name) (v : Int) : ∀ {xs : List Ho} {x : Ho}, aFind who xs = some x → g (f x) = v → putP who v (xs.map fun x => (x.name, g x)) = (aUpd who f xs).map fun x => (x.name, g x)
  | [], x, h, _ => by cases h
  | y :: r, x, h, hv => by
    simp only [aFind, List.find?_cons] at h
    simp only [List.map_cons, putP, aUpd]
    by_cases e : y.name = who
    · rw [if_pos e, if_pos e]
      rw [decide_eq_true e] at h
      injection h with h
      subst h
      simp only [List.map_cons, hf, hv, e]
    · rw [if_neg e, if_neg e]
      rw [decide_eq_false e] at h
      simp only [List.map_cons]
      rw [putP_upd g who f hf v h hv]
theorem putP_new (g : Ho → Int) (who : Str) (v : Int) : ∀ {xs : List Ho}, who ∉ nmH xs → putP who v (xs.map fun x => (x.name, g x)) = (xs.map fun x => (x.name, g x)) ++ [(who, v)]
  | [], _ => rfl
  | y :: r, h => by
    simp only [nmH, List.map_cons, List.mem_cons, not_or] at h
    simp only [List.map_cons, putP]
    rw [if_neg (fun e => h.1 e.symm), putP_new g who v h.2]; rfl
theorem manyP_add (xs : List Ho) (who : Str) (l : Lot) : putP who (getP who (manyP xs) + l.count) (manyP xs) = manyP (aAdd xs who l) := by
  unfold manyP
  rw [getP_map Ho.many]
  unfold aAdd
  split
  · rename_i h
    obtain ⟨x, hx⟩ := aFind_in h
    rw [hx]
    exact putP_upd Ho.many who (fun x => { x with lots := x.lots ++ [l] }) (fun _ => rfl) _ hx (many_snoc x l)
  · rename_i h
    rw [aFind_none h, putP_new Ho.many who _ h]
    simp [Ho.many]
theorem manyP_pass (p : Int) (xs : List Ho) : manyP (aPass p xs) = manyP xs := by simp [manyP, aPass, List.map_map, Function.comp_def, Ho.many]
theorem manyP_split (m : Int) (xs : List Ho) : manyP (aSplit m xs) = (manyP xs).map fun z => (z.1, z.2 * m) := by
  simp only [manyP, aSplit, List.map_map]
  apply List.map_congr_left
  intro x _
  simp only [Function.comp, Ho.many, wide_sum]
theorem manyP_sold {xs : List Ho} {who : Str} {x : Ho} {c price : Int} (hx : aFind who xs = some x) (hc : 0 ≤ c) (hok : ∀ l ∈ x.lots, LotOk l) (hle : c ≤ x.many) : putP who (getP who (manyP xs) - c) (manyP xs) = manyP (aUpd who (aSold c price) xs) := by
  unfold manyP
  rw [getP_map Ho.many, hx]
  exact putP_upd Ho.many who (aSold c price) (fun _ => rfl) _ hx (left_many price hc hok hle)
theorem manyP_names (xs : List Ho) : (manyP xs).map (·.1) = nmH xs := by simp [manyP, nmH, List.map_map, Function.comp_def]
theorem manyP_sum (xs : List Ho) : ((manyP xs).map (·.2)).sum = (xs.map Ho.many).sum := by simp [manyP, List.map_map, Function.comp_def]
theorem manyP_get (who : Str) (xs : List Ho) : getP who (manyP xs) = ((aFind who xs).map Ho.many).getD 0 := getP_map Ho.many who xs
end T3
namespace T3
open PySem L2
/-- as After, with a list of one's own as the answer -/
def AfterO (cB cH : Addr) (B : Bk) (G0 : G3) (Q : VK3) (items : List D) (day : Int) (xs : List Ho) : Prop := ∀ B' J q, B'.b = B.b → B'.day = day → absH B'.ppl = xs → Q (.ref q) ((q, .lst items) :: (bkG cB cH B' ++ (J ++ G0)))
end T3

/-! sum(d.values()) -/
namespace L2
open PySem PySem.Spec PyProof.Rows
theorem preSum_getD (is : List Int) : ∀ n : Nat, n ≤ is.length → preSum (fun i => is.getD i 0) n = (is.take n).sum
  | 0, _ => by simp [preSum]
  | n + 1, h => by
    have ih := preSum_getD is n (by omega)
    have hn : n < is.length := h
    rw [List.take_succ_eq_append_getElem hn, List.sum_append]
    show preSum _ n + is.getD n 0 = _
    rw [ih]
    simp [List.getD, hn]
def tSumVals (td : TE) : TE := fun σ H Q => td σ H fun x H1 => ∃ (a : Addr) (kvs : List (Key × V)) (is : List Int), x = V.ref a ∧ H1 a = some (.dK kvs) ∧ kvs.map (·.2) = is.map V.int ∧ Q (.int is.sum) H1
section
variable {X : Cx} {o : Expr} {p pos apos mpos : Pos} {td : TE}
theorem pe_sumVals (hc : X.calm = true) (hg : Gl X "sum") (hm : X.mg "sum" = none) (hd : PE X o td) (hbase : attributeBase o "values" X.env (eval o X.env) = eval o X.env := by rfl) (hline : (apos.endLine == mpos.line) = true := by rfl)
    (hse : starEach [Expr.Call (.Attribute o "values" apos) [] [] mpos] X.env = [(false, eval (Expr.Call (.Attribute o "values" apos) [] [] mpos) X.env)] := by rfl) :
    PE X (.Call (.Name "sum" p) [.Call (.Attribute o "values" apos) [] [] mpos] [] pos) (tSumVals td) := by
  refine ⟨fun pins s σ H Q I h => ?_⟩
  refine wpAny_Call_Name_kw (ld_blt I hg hm (u := .builtin "sum") (by first | rfl | decide +kernel) ?_ (by first | decide +kernel | decide) (by first | decide +kernel | decide))
  rw [hse]
  refine PySem.callWith_builtin1 (wpAny_Call_method0_late hbase hline (thn (hd.run pins s σ H _ I h) fun v s1 ⟨x, H1, I1, r1, a, kvs, is, ex, ha, hv, q⟩ => ?_))
  subst ex
  obtain rfl : v = Value.ref a := r1
  obtain ⟨_, hsys, vs, rel, dof⟩ := dk_of I1.hok ha
  obtain ⟨ep, dat⟩ := dof.dictAt
  have dat' := dat
  obtain ⟨ob, es, ho, ex, hdat, hko, hpr, hnd⟩ := dat'
  refine ⟨"dict", "dict.values", F.plainAttrs_dict, F.slot_dict_values, F.type_dict_values, ⟨ob, ho, ex.1⟩, fun b e => ?_, Calls.callWith_builtin rfl (PySem.evalArgs_none ?_)⟩
  · cases e
    exact ⟨ob, ho, ex.2.1⟩
  refine call_meetsIn F.slot_dict_values ⟨ob, ho, ex.1⟩ F.entry_dict_values (F.args_dict_values_1 _) (meets_dict_values (mixKind X.prog X.w) a hsys) ⟨⟨vs, dof⟩, ?_⟩
  have k1 : ∀ b u, s1.heap.get? b = some u → (s1.heap.push { cls := .type "dict_values", data := .fields #[.ref a] }).get? b = some u := fun b u e => Heap.get?_push_of_some _ e
  have dat1 : (s1.heap.push { cls := .type "dict_values", data := .fields #[.ref a] }).DictAt (mixKind X.prog X.w) a vs ep := dat.keep k1
  have hlv : vs.length = is.length := by
    have e1 := congrArg List.length hv
    rw [List.length_map, List.length_map] at e1
    rw [← e1]
    exact (KV.length rel).symm
  have hval : ∀ (i : Nat) (v : Value), (∃ k, vs[i]? = some (k, v)) → ∃ t, v = Value.int (is.getD i 0) t := fun i v ⟨k, hk⟩ => by
    obtain ⟨x, h1, h2⟩ := KV.at' rel hk
    have e1 : (kvs.map (·.2))[i]? = some x := by rw [List.getElem?_map, h1] <;> rfl
    rw [hv, List.getElem?_map] at e1
    obtain ⟨j, hj, e2⟩ := Option.map_eq_some_iff.mp e1
    subst e2
    obtain ⟨t, e3⟩ := h2
    refine ⟨t, ?_⟩
    rw [e3, List.getD_eq_getElem?_getD, hj] <;> rfl
  refine call_sum_walkG (wpAny_pyIter_values (v := s1.heap.objs.size) (d := a) ⟨_, Heap.get?_push_size _ rfl, rfl, rfl⟩ dat1 ?_)
  have hlt : a < s1.heap.objs.size := Heap.lt_size ho
  have hsz : (s1.heap.push { cls := .type "dict_values", data := .fields #[.ref a] }).objs.size = s1.heap.objs.size + 1 := Heap.size_push _ _
  refine ⟨_, _, _, _, _, _, _, rfl, Walks.dictValues (knd := mixKind X.prog X.w) (A := X.A.in1) (I.ok.hd hc) (s1.heap.push { cls := .type "dict_values", data := .fields #[.ref a] }).objs.size a (by rw [hsz]; exact Nat.ne_of_lt (Nat.lt_succ_of_lt hlt)) vs ep,
    ⟨⟨_, Heap.get?_push_size _ rfl, rfl, rfl⟩, dat1.keep fun b u e => Heap.get?_push_of_some _ e⟩, fun b hb => ?_, hval, fun h' tk t' hk => ?_⟩
  · show b < ((s1.heap.push _).push _).objs.size
    rw [Heap.size_push, Heap.size_push]
    rw [hsz] at hb
    rcases List.mem_cons.mp hb with e | hb
    · rw [e]
      exact Nat.lt_succ_self _
    · have e : b = a := List.mem_singleton.mp hb
      rw [e]
      exact Nat.lt_succ_of_lt (Nat.lt_succ_of_lt hlt)
  · have e0 : preSum (fun i => is.getD i 0) vs.length = is.sum := by rw [preSum_getD is _ (by omega), List.take_of_length_le (by omega)]
    rw [e0]
    refine ⟨.int _, H1, I1.kept (t' := tk) fun b u e => hk b u (fun hmem => ?_) (Heap.get?_push_of_some _ (k1 b u e)), ⟨t', rfl⟩, q⟩
    have e1 : b = (s1.heap.push { cls := .type "dict_values", data := .fields #[.ref a] }).objs.size := List.mem_singleton.mp hmem
    have e2 := Heap.lt_size e
    rw [hsz] at e1
    rw [e1] at e2
    exact absurd e2 (Nat.not_lt.mpr (Nat.le_succ _))
end
end L2
namespace T3
open PySem L2
section
variable {X : Cx} {Wx : WX} {ta tb te : TE3} {o e : Expr} {p pos apos mpos : Pos}
def sumV3 (te : TE3) : TE3 := fun σ G Q E => te σ G (fun x G1 => match x with
  | .ref a => ∃ (kvs : List (Key × D)) (ns : List Int), (a, DO.dict kvs) ∈ G1 ∧ kvs.map (·.2) = ns.map D.int ∧ Q (.int ns.sum) G1
  | _ => False) E
theorem RlK.vals {W : Wd} : ∀ {a : List (Key × D)} {b : List (Key × V)} {ns : List Int}, RlK W a b → a.map (·.2) = ns.map D.int → b.map (·.2) = ns.map V.int
  | [], [], [], .nil, _ => rfl
  | [], [], n :: ns, .nil, h => by simp at h
  | _ :: _, _ :: _, [], .cons r t, h => by simp at h
  | x :: a, y :: b, n :: ns, .cons r t, h => by
    simp only [List.map_cons, List.cons.injEq] at h ⊢
    refine ⟨?_, RlK.vals t h.2⟩
    have := r.2
    rw [h.1] at this
    exact this
theorem e_sumV (hc : X.calm = true) (hg : Gl X "sum") (hm : X.mg "sum" = none) (hd : PE X o (lowE X.K Wx te)) (hbase : attributeBase o "values" X.env (eval o X.env) = eval o X.env := by rfl) (hline : (apos.endLine == mpos.line) = true := by rfl)
    (hse : starEach [Expr.Call (.Attribute o "values" apos) [] [] mpos] X.env = [(false, eval (Expr.Call (.Attribute o "values" apos) [] [] mpos) X.env)] := by rfl) :
    PE X (.Call (.Name "sum" p) [.Call (.Attribute o "values" apos) [] [] mpos] [] pos) (lowE X.K Wx (sumV3 te)) := by
  refine (pe_sumVals hc hg hm hd hbase hline hse).imp3 ?_
  rintro σ H Q ⟨σ3, W, G, Q3, E3, R, S, h, q, e⟩
  refine ⟨σ3, W, G, _, E3, R, S, h, ⟨fun W1 x G1 x' H1 l1 S1 r1 h1 => ?_⟩, e⟩
  cases x with
  | ref a =>
    obtain ⟨kvs, ns, hm, hn, h1⟩ := h1
    cases r1
    obtain ⟨vs, e1, rk⟩ := S1.ob _ _ hm
    exact ⟨a, vs, ns, rfl, e1, rk.vals hn, q.run W1 (.int ns.sum) G1 _ H1 l1 S1 rfl h1⟩
  | _ => exact h1.elim
/-- len(d) -/
def lenD3 : U3 := fun x G Q => match x with
  | .ref a => ∃ kvs, (a, DO.dict kvs) ∈ G ∧ Q (.int (kvs.length : Nat)) G
  | _ => False
theorem cl_lenD {K : PySem.W.Frag} : ClL K (on1 lenD3) (fun xs H Q => ∃ a kvs, xs = [V.ref a] ∧ H a = some (.dK kvs) ∧ Q (.int kvs.length) H) := cll_1 fun W x G Q3 x' H Q S r h q => by
  cases x with
  | ref a =>
    obtain ⟨kvs, hm, h⟩ := h
    cases r
    obtain ⟨vs, e1, rk⟩ := S.ob _ _ hm
    rw [rk.length] at h
    exact ⟨a, vs, rfl, e1, q.run W (.int (vs.length : Nat)) G _ H (.refl _) S rfl h⟩
  | _ => exact h.elim
/-- for k in d, d locked -/
def ik3 (te : TE3) : TI3 := fun σ G R E => te σ G (fun x G1 => match x with
  | .ref d => ∃ o kvs, (d, DO.lck o kvs) ∈ G1 ∧ detK kvs ∧ R (kvs.map fun kv => dKey kv.1) (fun G => (d, DO.lck o kvs) ∈ G) G1
  | _ => False) E
theorem RlK.getK {W : Wd} : ∀ {a : List (Key × D)} {b : List (Key × V)} {i : Nat} {k : Key} {v : V}, RlK W a b → b[i]? = some (k, v) → (a.map fun kv => dKey kv.1)[i]? = some (dKey k)
  | _, _, i, _, _, .nil, h => by simp at h
  | _, _, 0, _, _, .cons r t, h => by simp at h; subst h; simp [r.1]
  | _, _, i + 1, _, _, .cons r t, h => by simpa using RlK.getK (i := i) t (by simpa using h)
theorem i_keys {tg : Expr} (he : PE X e (lowE X.K Wx te)) : PI X tg e (lowI X.K Wx (ik3 te)) := by
  refine (pi_keys he).imp3 ?_
  rintro σ H Q ⟨σ3, W, G, R3, E3, R, S, h, e, k⟩
  refine ⟨σ3, W, G, _, E3, R, S, h, ⟨fun W1 x G1 x' H1 l1 S1 r1 h1 => ?_⟩, e⟩
  cases x with
  | ref d =>
    obtain ⟨o, kvs, hm, hk, h1⟩ := h1
    cases r1
    obtain ⟨vs, e1, rk⟩ := S1.ob _ _ hm
    have at' : ∀ {W' G' H'}, Sim X.K W' G' H' → (d, DO.lck o kvs) ∈ G' → H' d = some (.frz o (.dK vs)) := fun S' hm' => by
      obtain ⟨us, e2, ru⟩ := S'.ob _ _ hm'
      rw [detK_eq hk rk ru]; exact e2
    refine ⟨d, o, rfl, .inl ⟨vs, e1, k W1 _ _ G1 _ H1 l1 S1 h1 ⟨fun i W' G' H' l' S' hs hi => ?_, fun W' G' H' l' S' hs => ?_, fun i W' G' H' x H'' l' S' hs hi y => ?_⟩⟩⟩
    · exact ⟨at' S' hs, by rw [← rk.length]; simpa using hi⟩
    · exact ⟨at' S' hs, by rw [← rk.length]; simp⟩
    · obtain ⟨e, ky, v, hg, rfl⟩ := y
      subst e
      exact ⟨W', dKey ky, .refl _, rk.getK hg, S', dKey_rl ky⟩
  | _ => exact h1.elim
end
/-! ### a table of numbers by names -/
def pairsK (ps : List (Str × Int)) : List (Key × D) := ps.map fun z => (.inr z.1, .int z.2)
theorem pairsK_val (who : Str) : ∀ ps : List (Str × Int), valD (pairsK ps) (.inr who) = ((ps.find? fun z => decide (z.1 = who)).map fun z => D.int z.2)
  | [] => rfl
  | z :: r => by
    have ih := pairsK_val who r
    by_cases e : z.1 = who
    · simp [pairsK, valD, e]
    · have h1 : valD (pairsK (z :: r)) (.inr who) = valD (pairsK r) (.inr who) := by simp [pairsK, valD, e]
      rw [h1, ih]
      simp [e]
theorem pairsK_get (who : Str) (ps : List (Str × Int)) : (valD (pairsK ps) (.inr who)).getD (.int 0) = .int (getP who ps) := by
  rw [pairsK_val, getP]
  cases ps.find? fun z => decide (z.1 = who) <;> rfl
theorem pairsK_at {who : Str} {ps : List (Str × Int)} (h : who ∈ ps.map (·.1)) : valD (pairsK ps) (.inr who) = some (.int (getP who ps)) := by
  rw [pairsK_val, getP]
  cases e : ps.find? fun z => decide (z.1 = who) with
  | some z => rfl
  | none =>
    rw [List.find?_eq_none] at e
    obtain ⟨z, hz, h2⟩ := List.mem_map.mp h
    exact absurd h2 (by simpa using e z hz)
theorem putD_ne {x : Key × D} {r : List (Key × D)} {k : Key} {d : D} (e : ¬ x.1 = k) : putD (x :: r) k d = x :: putD r k d := by
  unfold putD
  have h1 : ((x :: r).any fun kv => decide (kv.1 = k)) = (r.any fun kv => decide (kv.1 = k)) := by simp [e]
  rw [h1]
  split
  · simp [e]
  · rfl
theorem putD_eq {x : Key × D} {r : List (Key × D)} {k : Key} {d : D} (e : x.1 = k) (h : ∀ y ∈ r, y.1 ≠ k) : putD (x :: r) k d = (x.1, d) :: r := by
  unfold putD
  rw [if_pos (by simp [e])]
  rw [List.map_cons, if_pos e]
  congr 1
  conv => rhs; rw [← List.map_id r]
  apply List.map_congr_left
  intro y hy
  rw [if_neg (h y hy)]; rfl
theorem pairsK_put (who : Str) (v : Int) : ∀ {ps : List (Str × Int)}, (ps.map (·.1)).Nodup → putD (pairsK ps) (.inr who) (.int v) = pairsK (putP who v ps)
  | [], _ => rfl
  | z :: r, h => by
    rw [List.map_cons, List.nodup_cons] at h
    show putD ((.inr z.1, .int z.2) :: pairsK r) _ _ = _
    unfold putP
    by_cases e : z.1 = who
    · rw [if_pos e, putD_eq (by rw [e])]
      · rw [← e]; rfl
      · intro y hy
        obtain ⟨u, hu, rfl⟩ := List.mem_map.mp hy
        intro h2
        injection h2 with h2
        exact h.1 (e ▸ h2 ▸ List.mem_map_of_mem hu)
    · rw [if_neg e, putD_ne (fun h => by injection h with h; exact e h), pairsK_put who v h.2]
      rfl
theorem putP_names (who : Str) (v : Int) : ∀ ps : List (Str × Int), (putP who v ps).map (·.1) = if who ∈ ps.map (·.1) then ps.map (·.1) else ps.map (·.1) ++ [who]
  | [] => by simp [putP]
  | z :: r => by
    have ih := putP_names who v r
    unfold putP
    by_cases e : z.1 = who
    · rw [if_pos e, if_pos (by simp [e])]; simp [e]
    · rw [if_neg e, List.map_cons, ih]
      by_cases h : who ∈ r.map (·.1)
      · rw [if_pos h, if_pos (by rw [List.map_cons]; exact List.mem_cons_of_mem _ h)]; rfl
      · rw [if_neg h, if_neg (by rw [List.map_cons, List.mem_cons, not_or]; exact ⟨fun z => e z.symm, h⟩)]; rfl
theorem putP_nodup {who : Str} {v : Int} {ps : List (Str × Int)} (h : (ps.map (·.1)).Nodup) : ((putP who v ps).map (·.1)).Nodup := by
  rw [putP_names]
  split
  · exact h
  · rename_i hn
    rw [List.nodup_append]
    refine ⟨h, by simp, fun a ha b hb => ?_⟩
    rw [List.mem_singleton] at hb
    subst hb
    exact fun e => hn (e ▸ ha)
theorem putP_len (who : Str) (v : Int) (ps : List (Str × Int)) : (putP who v ps).length ≤ ps.length + 1 := by
  have := congrArg List.length (putP_names who v ps)
  rw [List.length_map] at this
  rw [this]
  split <;> simp
theorem pairsK_len (ps : List (Str × Int)) : (pairsK ps).length = ps.length := by simp [pairsK]
theorem pairsK_keys (ps : List (Str × Int)) : ((pairsK ps).map fun kv => dKey kv.1) = (ps.map (·.1)).map D.str := by simp [pairsK, List.map_map, Function.comp_def, dKey]
theorem pairsK_vals (ps : List (Str × Int)) : ((pairsK ps).map (·.2)) = (ps.map (·.2)).map D.int := by simp [pairsK, List.map_map, Function.comp_def]
theorem detK_pairs (ps : List (Str × Int)) : detK (pairsK ps) := by
  intro kv h
  obtain ⟨z, _, rfl⟩ := List.mem_map.mp h
  rfl
/-! ### answers -/
def deedD : Deed → D
  | .issue d w c p => .tup [.str "issue", .int d, .str w, .int c, .int p]
  | .sell d g t c p => .tup [.str "sell", .int d, .str g, .str t, .int c, .int p]
  | .retire d w c p => .tup [.str "retire", .int d, .str w, .int c, .int p]
  | .split d m => .tup [.str "split", .int d, .int m]
  | .join d m => .tup [.str "join", .int d, .int m]
  | .pay d c => .tup [.str "pay", .int d, .int c]
def pairD (z : Str × Int) : D := .tup [.str z.1, .int z.2]
/-- what is wanted behind a deed that was done -/
def AfterR (cB cH : Addr) (B : Bk) (G0 : G3) (Q : VK3) (r : Res) (day : Int) (xs : List Ho) : Prop := match r with
  | .non => After cB cH B G0 Q .non day xs
  | .rows rs => AfterO cB cH B G0 Q (rs.map tupD) day xs
  | .pays ps => AfterO cB cH B G0 Q (ps.map pairD) day xs
/-- what is wanted behind a deed -/
def AfterD (cB cH : Addr) (B : Bk) (G0 : G3) (Q : VK3) (E : Why → Prop) (d : Deed) : Prop := match aDo B.day (absH B.ppl) d with
  | .no w => E w
  | .yes xs r => AfterR cB cH B G0 Q r d.day xs
theorem payD_eq (xs : List Ho) (ps : List Int) : payD xs ps = ((nmH xs).zip ps).map pairD := by
  rw [payD, nmH, List.zip_map_left, List.map_map]
  rfl
/-- a pair of a text and a list of one's own, that stays from then on -/
theorem UpV.list1 {K : PySem.W.Frag} {P : D → G3 → Prop} {x : D} {a : Addr} {ds : List D} {G : G3} (h : P (.tup [x, .lst ds]) G) : UpV K P (.tup [x, .ref a]) ((a, .lst ds) :: G) := by
  refine ⟨_, G, fun W H v r S => ?_, h⟩
  obtain ⟨b, vs, e, t, v1, r1, e1, h1, v2, r2, e2, h2, e3⟩ := r
  obtain ⟨W', l, S', q⟩ := S.freeze
  cases h2
  exact ⟨W', l, ⟨b, vs, e, l.t _ _ t, v1, r1, e1, h1.mono l, _, r2, e2, q, e3⟩, S'⟩
end T3

namespace T3
open PySem L2
/-! ### what a deed comes to, case by case -/
section
variable {day dy c p m : Int} {w t : Str} {xs : List Ho} {d : Deed}
theorem aDo_day (h : d.day < day) : aDo day xs d = .no .day := by exact if_pos h
theorem aDo_low (h : day ≤ d.day) (hl : d.low = true) : aDo day xs d = .no .number := by exact (if_neg (by omega)).trans (if_pos hl)
theorem low2 (h1 : 1 ≤ c) (h2 : 0 ≤ p) : ¬ (decide (c < 1) || decide (p < 0)) = true := by
  rw [decide_eq_false (by omega), decide_eq_false (by omega)]; decide
theorem low2' (h : c < 1 ∨ p < 0) : (decide (c < 1) || decide (p < 0)) = true := by
  rcases h with h | h
  · rw [decide_eq_true h]; rfl
  · rw [decide_eq_true h, Bool.or_true]
theorem aDo_issue (h : day ≤ dy) (h1 : 1 ≤ c) (h2 : 0 ≤ p) : aDo day xs (.issue dy w c p) = .yes (aAdd (aPass (dy - day) xs) w ⟨dy, c, p⟩) .non := by
  exact (if_neg (show ¬ dy < day by omega)).trans (if_neg (low2 h1 h2))
theorem aDo_sell (h : day ≤ dy) (h1 : 1 ≤ c) (h2 : 0 ≤ p) : aDo day xs (.sell dy w t c p) = if w = t then .no .hands else aTaken t ⟨dy, c, p⟩ (aGo (dy - day) xs w c p) := by
  exact (if_neg (show ¬ dy < day by omega)).trans (if_neg (low2 h1 h2))
theorem aDo_retire (h : day ≤ dy) (h1 : 1 ≤ c) (h2 : 0 ≤ p) : aDo day xs (.retire dy w c p) = aGo (dy - day) xs w c p := by
  exact (if_neg (show ¬ dy < day by omega)).trans (if_neg (low2 h1 h2))
theorem aDo_split (h : day ≤ dy) (h1 : 2 ≤ m) : aDo day xs (.split dy m) = .yes (aSplit m (aPass (dy - day) xs)) .non := by
  exact (if_neg (show ¬ dy < day by omega)).trans (if_neg (show ¬ decide (m < 2) = true by rw [decide_eq_false (by omega)]; decide))
theorem aDo_join (h : day ≤ dy) (h1 : 2 ≤ m) : aDo day xs (.join dy m) = if (aPass (dy - day) xs).all (evenH m) = true then .yes (aJoin m (aPass (dy - day) xs)) .non else .no .uneven := by
  exact (if_neg (show ¬ dy < day by omega)).trans (if_neg (show ¬ decide (m < 2) = true by rw [decide_eq_false (by omega)]; decide))
theorem aDo_pay (h : day ≤ dy) (h1 : 0 ≤ c) : aDo day xs (.pay dy c) = if (behinds (dy - day) xs).sum = 0 then .no .nodays else
    .yes (payH (aPass (dy - day) xs) (partsL c (behinds (dy - day) xs).sum 0 (behinds (dy - day) xs))) (.pays ((nmH xs).zip (partsL c (behinds (dy - day) xs).sum 0 (behinds (dy - day) xs)))) := by
  exact (if_neg (show ¬ dy < day by omega)).trans (if_neg (show ¬ decide (c < 0) = true by rw [decide_eq_false (by omega)]; decide))
theorem aGo_none (h : w ∉ nmH xs) : aGo dy xs w c p = .no .few := by unfold aGo; rw [aFind_none h]
theorem aGo_at {A R : List Ho} {x : Ho} (e : xs = A ++ x :: R) (e2 : x.name = w) (e3 : w ∉ nmH A) : aGo dy xs w c p = if x.many < c then .no .few else .yes (aPass dy A ++ aSold c p { x with days := x.behind dy } :: aPass dy R) (.rows (aRows x c p)) := by
  unfold aGo
  rw [e, aFind_at e3 e2]
  have h2 : aPass dy (A ++ x :: R) = aPass dy A ++ { x with days := x.behind dy } :: aPass dy R := by simp [aPass]
  have h3 : w ∉ nmH (aPass dy A) := by rw [aPass_names]; exact e3
  rw [h2, aUpd_at h3 (show ({ x with days := x.behind dy } : Ho).name = w from e2)]
end
section
variable {cB cH : Addr} {B : Bk} {G0 : G3} {Q : VK3} {E : Why → Prop} {d : Deed} {w : Why} {xs : List Ho} {r : Res}
theorem AfterD.no (k : AfterD cB cH B G0 Q E d) (h : aDo B.day (absH B.ppl) d = .no w) : E w := by
  unfold AfterD at k; rw [h] at k; exact k
theorem AfterD.yes (k : AfterD cB cH B G0 Q E d) (h : aDo B.day (absH B.ppl) d = .yes xs r) : AfterR cB cH B G0 Q r d.day xs := by
  unfold AfterD at k; rw [h] at k; exact k
theorem AfterD.of (h1 : ∀ w, aDo B.day (absH B.ppl) d = .no w → E w) (h2 : ∀ xs r, aDo B.day (absH B.ppl) d = .yes xs r → AfterR cB cH B G0 Q r d.day xs) : AfterD cB cH B G0 Q E d := by
  unfold AfterD
  cases h : aDo B.day (absH B.ppl) d with
  | no w => exact h1 w h
  | yes xs r => exact h2 xs r h
end
theorem After.up {K : PySem.W.Frag} {cB cH : Addr} {B : Bk} {G0 : G3} {Q : D → G3 → Prop} {d : D} {day : Int} {xs : List Ho} (k : After cB cH B G0 Q d day xs) : After cB cH B G0 (UpV K Q) d day xs := fun B' J e1 e2 e3 => UpV.of (k B' J e1 e2 e3)
theorem AfterO.up {K : PySem.W.Frag} {cB cH : Addr} {B : Bk} {G0 : G3} {Q : D → G3 → Prop} {ds : List D} {day : Int} {xs : List Ho} (k : AfterO cB cH B G0 Q ds day xs) : AfterO cB cH B G0 (UpV K Q) ds day xs := fun B' J q e1 e2 e3 => UpV.of (k B' J q e1 e2 e3)
theorem Safe.fit {B : Bk} {d : Deed} (h : Safe B.day (absH B.ppl) d) (hd : B.day ≤ d.day) : Fit B d.day :=
  ⟨by have := h.len; simpa [absH] using this, fun x hx => ⟨(h.lots x hx).1, (h.mul hd x hx).1⟩⟩
theorem Safe.lotsOk {day : Int} {xs : List Ho} {d : Deed} (h : Safe day xs d) {x : Ho} (hx : x ∈ xs) : LotsOk x.lots := ⟨(h.lots x hx).2.1, by have := (h.lots x hx).1; omega⟩
theorem Safe.bl {day : Int} {xs : List Ho} {d : Deed} (h : Safe day xs d) (hl : d.low = false) (h0 : 0 ≤ d.num) : bl d.num ≤ 50000000 := Nat.le_trans (bl_le (n := 199) h0 (h.num hl)) (by decide)
theorem Safe.parts {day : Int} {xs : List Ho} {d : Deed} (h : Safe day xs d) (hd : day ≤ d.day) (hl : d.low = false) (h0 : 0 ≤ d.num) : PartsOk d.num (behinds (d.day - day) xs) := by
  refine ⟨fun w hw => ?_, h.sum hd, h.bl hl h0, by have := h.len; simp [behinds]; omega⟩
  obtain ⟨x, hx, rfl⟩ := List.mem_map.mp hw
  exact (h.mul hd x hx).2
theorem Safe.wide {day : Int} {xs : List Ho} {d : Deed} (h : Safe day xs d) (hd : day ≤ d.day) (hl : d.low = false) (h0 : 0 ≤ d.num) : ∀ x ∈ xs, (∀ l ∈ x.lots, CMulX l.count d.num) ∧ CMulX (x.behind (d.day - day)) d.num := fun x hx => by
  have hb : T3.bl d.num ≤ 200 := Nat.le_trans (bl_le (n := 199) h0 (h.num hl)) (by decide)
  refine ⟨fun l hl => ?_, ?_⟩
  · have := (h.lots x hx).2.1 l hl
    exact mul_ok (bl_le (n := 7999) (by have := this.1; omega) this.2.1) hb (by decide)
  · have hp : ∀ w ∈ behinds (d.day - day) xs, 0 ≤ w := fun w hw => by
      obtain ⟨y, hy, rfl⟩ := List.mem_map.mp hw
      exact (h.mul hd y hy).2
    have h1 := mem_le_sum hp _ (List.mem_map_of_mem hx)
    exact mul_ok (bl_le (n := 7999) (h.mul hd x hx).2 (Int.lt_of_le_of_lt h1 (h.sum hd))) hb (by decide)
end T3
namespace T3
open PySem L2
/-! a text compared with a written one -/
theorem strT (x : Str) {A B : Prop} (h : A) : if decide (x = x) = true then A else B := by rw [decide_eq_true rfl, if_pos rfl]; exact h
theorem strF (x y : Str) {A B : Prop} (hn : x ≠ y) (h : B) : if decide (x = y) = true then A else B := by rw [decide_eq_false hn, if_neg Bool.false_ne_true]; exact h
theorem AfterR.mono {cB cH : Addr} {B : Bk} {G0 : G3} {Q Q' : VK3} {r : Res} {day : Int} {xs : List Ho} (m : ∀ v G, Q v G → Q' v G) (k : AfterR cB cH B G0 Q r day xs) : AfterR cB cH B G0 Q' r day xs := by
  cases r with
  | non => exact fun B' J e1 e2 e3 => m _ _ (k B' J e1 e2 e3)
  | rows rs => exact fun B' J q e1 e2 e3 => m _ _ (k B' J q e1 e2 e3)
  | pays ps => exact fun B' J q e1 e2 e3 => m _ _ (k B' J q e1 e2 e3)
end T3

namespace T3
open PySem L2
/-! ### what everybody has, kept by a law's own table -/
def changedP (d : Deed) (ps : List (Str × Int)) : List (Str × Int) := match d with
  | .issue _ w c _ => putP w (getP w ps + c) ps
  | .sell _ g t c _ => putP t (getP t (putP g (getP g ps - c) ps) + c) (putP g (getP g ps - c) ps)
  | .retire _ g c _ => putP g (getP g ps - c) ps
  | .split _ m => ps.map fun z => (z.1, z.2 * m)
  | .join _ m => ps.map fun z => (z.1, z.2 / m)
  | .pay _ _ => ps
/-- share-days, kept so -/
def changedD (d : Deed) (ts : List (Str × Int)) : List (Str × Int) := match d with
  | .split _ m => ts.map fun z => (z.1, z.2 * m)
  | _ => ts
theorem manyP_join {m : Int} {xs : List Ho} (hm : 0 < m) (he : xs.all (evenH m) = true) : manyP (aJoin m xs) = (manyP xs).map fun z => (z.1, z.2 / m) := by
  simp only [manyP, aJoin, List.map_map]
  apply List.map_congr_left
  intro x hx
  simp only [Function.comp]
  congr 1
  have ev := (Gr.even_lots (List.all_eq_true.mp he x hx)).2
  have h1 := slim_sum hm x.lots ev
  show ((x.lots.map (slim m)).map Lot.count).sum = (x.lots.map Lot.count).sum / m
  rw [← h1, Int.mul_ediv_cancel _ (by omega)]
theorem manyP_paid {xs : List Ho} {ps : List Int} (h : xs.length = ps.length) : manyP (payH xs ps) = manyP xs := by
  have := congrArg (List.map fun x : Ho => (x.name, x.many)) (zip_fst h)
  simp only [List.map_map] at this
  simp only [manyP, payH, List.map_map]
  exact this
/-- what let_go leaves -/
theorem aGo_yes {p c price : Int} {xs ys : List Ho} {w : Str} {r : Res} (e : aGo p xs w c price = .yes ys r) : ∃ x, aFind w xs = some x ∧ c ≤ x.many ∧ r = .rows (aRows x c price) ∧ ys = aUpd w (aSold c price) (aPass p xs) ∧ aFind w (aPass p xs) = some { x with days := x.behind p } := by
  unfold aGo at e
  split at e
  · cases e
  · rename_i x hx
    split at e
    · cases e
    · rename_i hle
      cases e
      refine ⟨x, hx, by omega, rfl, rfl, ?_⟩
      rw [aPass, aFind_map (fun x => { x with days := x.behind p }) (fun _ => rfl), hx]; rfl
theorem not_low {c p : Int} (h : ¬ (decide (c < 1) || decide (p < 0)) = true) : 1 ≤ c ∧ 0 ≤ p := by
  simp only [Bool.or_eq_true, decide_eq_true_eq, not_or] at h
  omega
/-- a deed that was done: on a day not too early, with numbers that can be -/
theorem aDo_yes {day : Int} {xs xs' : List Ho} {d : Deed} {r : Res} (h : aDo day xs d = .yes xs' r) : day ≤ d.day ∧ d.low = false := by
  unfold aDo at h
  split at h
  · cases h
  rename_i h1
  split at h
  · cases h
  rename_i h2
  exact ⟨by omega, eq_false_of_ne_true h2⟩
theorem changed_ok {day : Int} {xs xs' : List Ho} {d : Deed} {r : Res} (hs : Safe day xs d) (h : aDo day xs d = .yes xs' r) : changedP d (manyP xs) = manyP xs' := by
  obtain ⟨h0, hl⟩ := aDo_yes h
  cases d with
  | issue dy w c p =>
    have h0 : day ≤ dy := h0
    obtain ⟨h1, h2⟩ := not_low (by simpa [Deed.low] using hl)
    rw [aDo_issue h0 h1 h2] at h
    cases h
    rw [← manyP_pass (dy - day) xs]
    exact manyP_add (aPass (dy - day) xs) w ⟨dy, c, p⟩
  | sell dy g t c p =>
    have h0 : day ≤ dy := h0
    obtain ⟨h1, h2⟩ := not_low (by simpa [Deed.low] using hl)
    rw [aDo_sell h0 h1 h2] at h
    split at h
    · cases h
    cases hg : aGo (dy - day) xs g c p with
    | no w => rw [hg] at h; cases h
    | yes ys r' =>
      rw [hg] at h
      cases h
      obtain ⟨x, hx, hle, _, hy, hx'⟩ := aGo_yes hg
      have hok := (hs.lots x (aFind_mem hx).1).2.1
      have e1 := manyP_sold (price := p) hx' (by omega) hok hle
      rw [manyP_pass, ← hy] at e1
      show putP t (getP t (putP g (getP g (manyP xs) - c) (manyP xs)) + c) (putP g (getP g (manyP xs) - c) (manyP xs)) = _
      rw [e1]
      exact manyP_add ys t ⟨dy, c, p⟩
  | retire dy g c p =>
    have h0 : day ≤ dy := h0
    obtain ⟨h1, h2⟩ := not_low (by simpa [Deed.low] using hl)
    rw [aDo_retire h0 h1 h2] at h
    obtain ⟨x, hx, hle, _, hy, hx'⟩ := aGo_yes h
    have hok := (hs.lots x (aFind_mem hx).1).2.1
    have e1 := manyP_sold (price := p) hx' (by omega) hok hle
    rw [manyP_pass, ← hy] at e1
    exact e1
  | split dy m =>
    have h0 : day ≤ dy := h0
    rw [aDo_split (m := m) h0 (by have := of_decide_eq_false hl; omega)] at h
    cases h
    show (manyP xs).map _ = _
    rw [manyP_split, manyP_pass]
  | join dy m =>
    have h0 : day ≤ dy := h0
    have hm : 2 ≤ m := by have := of_decide_eq_false hl; omega
    rw [aDo_join h0 hm] at h
    split at h
    · rename_i he
      cases h
      show (manyP xs).map _ = _
      rw [manyP_join (by omega) he, manyP_pass]
    · cases h
  | pay dy c =>
    have h0 : day ≤ dy := h0
    rw [aDo_pay (c := c) h0 (by have := of_decide_eq_false hl; omega)] at h
    split at h
    · cases h
    cases h
    show manyP xs = _
    rw [manyP_paid (by simp [aPass, behinds, partsL_length]), manyP_pass]
/-! ### a table walked, its numbers changed -/
theorem getP_mid {A R : List (Str × Int)} {w : Str} {v : Int} (h : w ∉ A.map (·.1)) : getP w (A ++ (w, v) :: R) = v := by
  have : A.find? (fun z => decide (z.1 = w)) = none := by
    rw [List.find?_eq_none]
    intro x hx
    simp only [decide_eq_true_eq]
    exact fun e => h (e ▸ List.mem_map_of_mem hx)
  simp [getP, List.find?_append, this]
theorem putP_mid {R : List (Str × Int)} {w : Str} {v u : Int} : ∀ {A : List (Str × Int)}, w ∉ A.map (·.1) → putP w u (A ++ (w, v) :: R) = A ++ (w, u) :: R
  | [], _ => by simp [putP]
  | x :: A, h => by
    simp only [List.map_cons, List.mem_cons, not_or] at h
    simp only [List.cons_append, putP]
    rw [if_neg (fun e => h.1 e.symm), putP_mid h.2]
/-- one turn of such a walk -/
theorem walk_P {ps : List (Str × Int)} {f : Str × Int → Str × Int} (hf : ∀ z, (f z).1 = z.1) (hn : (ps.map (·.1)).Nodup) {i : Nat} {w : Str} (h : (ps.map (·.1))[i]? = some w) :
    ∃ v, (w, v) ∈ ps ∧ getP w ((ps.take i).map f ++ ps.drop i) = v ∧ w ∈ ((ps.take i).map f ++ ps.drop i).map (·.1) ∧ putP w (f (w, v)).2 ((ps.take i).map f ++ ps.drop i) = (ps.take (i + 1)).map f ++ ps.drop (i + 1) ∧ getP w ps = v := by
  obtain ⟨z, h1, h2⟩ := get_map h
  obtain ⟨w', v⟩ := z
  simp only at h2
  subst h2
  have hi := get_lt h1
  have hdrop : ps.drop i = (w, v) :: ps.drop (i + 1) := by rw [List.drop_eq_getElem_cons hi]; congr 1; rw [List.getElem?_eq_getElem hi] at h1; injection h1
  have hps : ps = ps.take i ++ (w, v) :: ps.drop (i + 1) := by rw [← hdrop, List.take_append_drop]
  have hA0 : w ∉ (ps.take i).map (·.1) := by
    rw [hps] at hn
    rw [List.map_append, List.map_cons] at hn
    have := (List.nodup_append.mp hn).2.2
    intro hm
    exact this _ hm _ (List.mem_cons_self ..) rfl
  have hA : w ∉ ((ps.take i).map f).map (·.1) := by
    rw [List.map_map, show (fun z : Str × Int => z.1) ∘ f = fun z => z.1 from funext hf]
    exact hA0
  refine ⟨v, get_mem h1, ?_, ?_, ?_, ?_⟩
  · rw [hdrop, getP_mid hA]
  · rw [hdrop]; simp
  · rw [hdrop, putP_mid hA, take_snoc h1, List.map_append, List.append_assoc]
    congr 1
    show _ = f (w, v) :: _
    congr 1
    exact Prod.ext (hf (w, v)).symm rfl
  · rw [hps, getP_mid hA0]
/-- what such a change asks -/
structure ChgOk2 (ps ts : List (Str × Int)) (d : Deed) : Prop where
  nd : (ps.map (·.1)).Nodup
  len : ps.length ≤ 900
  has : match d with
    | .sell _ g _ _ _ => g ∈ ps.map (·.1) ∧ True
    | .retire _ g _ _ => g ∈ ps.map (·.1)
    | .split _ m => ts.map (·.1) = ps.map (·.1) ∧ (∀ z ∈ ps, CMulX z.2 m) ∧ ∀ z ∈ ts, CMulX z.2 m
    | .join _ _ => False
    | _ => True
structure ChgOk1 (ps : List (Str × Int)) (d : Deed) : Prop where
  nd : (ps.map (·.1)).Nodup
  len : ps.length ≤ 900
  has : match d with
    | .sell _ g _ _ _ => g ∈ ps.map (·.1) ∧ True
    | .retire _ g _ _ => g ∈ ps.map (·.1)
    | .split _ _ => False
    | .join _ _ => False
    | _ => True
/-- the same, with joins -/
structure ChgOkJ (ps : List (Str × Int)) (d : Deed) : Prop where
  nd : (ps.map (·.1)).Nodup
  len : ps.length ≤ 900
  has : match d with
    | .sell _ g _ _ _ => g ∈ ps.map (·.1) ∧ True
    | .retire _ g _ _ => g ∈ ps.map (·.1)
    | .split _ m => ∀ z ∈ ps, CMulX z.2 m
    | .join _ m => 2 ≤ m ∧ m < 2 ^ 8000 ∧ ∀ z ∈ ps, z.2 % m = 0
    | _ => True
end T3

namespace T3
open PySem L2
/-! ### parts, looked at -/
theorem part_close {c h a w : Int} (hh : 0 < h) (hc : 0 ≤ c) (hw : 0 ≤ w) : 0 ≤ c * (a + w) / h - c * a / h ∧ (w = 0 → c * (a + w) / h - c * a / h = 0) ∧
    -h < (c * (a + w) / h - c * a / h) * h - c * w ∧ (c * (a + w) / h - c * a / h) * h - c * w < h := by
  have e1 := Int.mul_ediv_add_emod (c * (a + w)) h
  have e2 := Int.mul_ediv_add_emod (c * a) h
  have r1 := Int.emod_nonneg (c * (a + w)) (Int.ne_of_gt hh)
  have r2 := Int.emod_nonneg (c * a) (Int.ne_of_gt hh)
  have s1 := Int.emod_lt_of_pos (c * (a + w)) hh
  have s2 := Int.emod_lt_of_pos (c * a) hh
  have e3 : c * (a + w) = c * a + c * w := Int.mul_add _ _ _
  refine ⟨?_, ?_, ?_, ?_⟩
  · have : c * a / h ≤ c * (a + w) / h := Int.ediv_le_ediv hh (by rw [e3]; have := Int.mul_nonneg hc hw; omega)
    omega
  · rintro rfl; rw [Int.add_zero]; omega
  all_goals
    rw [Int.sub_mul]
    rw [Int.mul_comm (c * (a + w) / h) h, Int.mul_comm (c * a / h) h]
    omega
theorem partsL_get (c h : Int) : ∀ (ws : List Int) (a : Int) (i : Nat) (w : Int), ws[i]? = some w → (partsL c h a ws)[i]? = some (c * (a + (ws.take i).sum + w) / h - c * (a + (ws.take i).sum) / h)
  | [], _, _, _, e => by simp at e
  | v :: r, a, 0, w, e => by simp at e; subst e; simp [partsL]
  | v :: r, a, i + 1, w, e => by
    have := partsL_get c h r (a + v) i w (by simpa using e)
    simp only [partsL, List.getElem?_cons_succ, this, List.take_succ_cons, List.sum_cons, Int.add_assoc]
theorem partsL_sum (c h : Int) : ∀ (ws : List Int) (a : Int), (partsL c h a ws).sum = c * (a + ws.sum) / h - c * a / h
  | [], a => by simp [partsL]
  | v :: r, a => by
    simp only [partsL, List.sum_cons, partsL_sum c h r (a + v), Int.add_assoc]; omega
theorem partsL_whole (c : Int) {ws : List Int} (hs : 0 < ws.sum) : (partsL c ws.sum 0 ws).sum = c := by
  rw [partsL_sum, Int.zero_add, Int.mul_zero, Int.zero_ediv, Int.mul_ediv_cancel _ (by omega)]; omega
theorem parts_at {c : Int} {ws : List Int} (hp : ∀ w ∈ ws, 0 ≤ w) (hs : 0 < ws.sum) (hc : 0 ≤ c) {i : Nat} {w : Int} (h : ws[i]? = some w) :
    ∃ part, (partsL c ws.sum 0 ws)[i]? = some part ∧ (0 ≤ part ∧ part ≤ c) ∧ (w = 0 → part = 0) ∧ -ws.sum < part * ws.sum - c * w ∧ part * ws.sum - c * w < ws.sum := by
  have hw := hp w (get_mem h)
  obtain ⟨g1, g2, g3, g4⟩ := part_close (a := 0 + (ws.take i).sum) hs hc hw
  refine ⟨_, partsL_get c ws.sum ws 0 i w h, ⟨g1, ?_⟩, g2, g3, g4⟩
  have h0 : 0 ≤ (ws.take i).sum := sum_nonneg fun x hx => hp x (List.mem_of_mem_take hx)
  have h1 := sum_take_le (i + 1) hp
  rw [take_snoc h, List.sum_append] at h1
  simp only [List.sum_cons, List.sum_nil] at h1
  have h2 : c * (0 + (ws.take i).sum + w) / ws.sum ≤ c := by
    have h3 : c * (0 + (ws.take i).sum + w) ≤ c * ws.sum := Int.mul_le_mul_of_nonneg_left (by omega) hc
    have h4 := Int.ediv_le_ediv hs h3
    rwa [Int.mul_ediv_cancel _ (by omega)] at h4
  have h5 : 0 ≤ c * (0 + (ws.take i).sum) / ws.sum := Int.ediv_nonneg (Int.mul_nonneg hc (by omega)) (by omega)
  omega
/-! ### what was got, kept by a table -/
def addP (zs gs : List (Str × Int)) : List (Str × Int) := zs.foldl (fun g z => putP z.1 (getP z.1 g + z.2) g) gs
theorem addP_snoc (zs gs : List (Str × Int)) (z : Str × Int) : addP (zs ++ [z]) gs = putP z.1 (getP z.1 (addP zs gs) + z.2) (addP zs gs) := by simp [addP]
theorem addP_nodup {gs : List (Str × Int)} (h : (gs.map (·.1)).Nodup) : ∀ zs : List (Str × Int), ((addP zs gs).map (·.1)).Nodup := by
  intro zs
  induction zs generalizing gs with
  | nil => exact h
  | cons z r ih => exact ih (putP_nodup h)
theorem addP_len (gs : List (Str × Int)) : ∀ zs : List (Str × Int), (addP zs gs).length ≤ gs.length + zs.length := by
  intro zs
  induction zs generalizing gs with
  | nil => simp [addP]
  | cons z r ih =>
    have h1 := ih (putP z.1 (getP z.1 gs + z.2) gs)
    have h2 := putP_len z.1 (getP z.1 gs + z.2) gs
    simp only [addP, List.foldl_cons, List.length_cons] at h1 ⊢
    omega
theorem getP_put (w u : Str) (v : Int) : ∀ ps : List (Str × Int), getP u (putP w v ps) = if u = w then v else getP u ps
  | [] => by
    by_cases e : u = w
    · subst e; simp [getP, putP]
    · have e' : ¬ w = u := fun z => e z.symm
      simp [getP, putP, e, e']
  | z :: r => by
    have ih := getP_put w u v r
    unfold putP
    by_cases e : z.1 = w
    · rw [if_pos e]
      by_cases e2 : u = w
      · subst e2; simp [getP]
      · have e3 : ¬ w = u := fun z => e2 z.symm
        have e4 : ¬ z.1 = u := fun h => e3 (e ▸ h)
        simp [getP, e2, e3, e4]
    · rw [if_neg e]
      by_cases e2 : z.1 = u
      · have e3 : ¬ u = w := fun h => e (e2.trans h)
        simp [getP, e2, e3]
      · simp only [getP, List.find?_cons, decide_eq_false e2] at ih ⊢
        exact ih
theorem getP_nil {u : Str} {ps : List (Str × Int)} (h : u ∉ ps.map (·.1)) : getP u ps = 0 := by
  unfold getP
  have : ps.find? (fun z => decide (z.1 = u)) = none := by
    rw [List.find?_eq_none]
    intro x hx
    simp only [decide_eq_true_eq]
    exact fun e => h (e ▸ List.mem_map_of_mem hx)
  rw [this]; rfl
theorem getP_add (u : Str) : ∀ (zs gs : List (Str × Int)), (zs.map (·.1)).Nodup → getP u (addP zs gs) = getP u gs + getP u zs
  | [], gs, _ => by simp [addP, getP]
  | z :: r, gs, h => by
    rw [List.map_cons, List.nodup_cons] at h
    have ih := getP_add u r (putP z.1 (getP z.1 gs + z.2) gs) h.2
    show getP u (addP r _) = _
    rw [ih, getP_put]
    by_cases e : u = z.1
    · subst e
      rw [if_pos rfl, getP_nil h.1]
      simp [getP]
    · have e2 : ¬ z.1 = u := fun h => e h.symm
      rw [if_neg e]
      simp [getP, e2]
theorem getP_pos {ps : List (Str × Int)} (h : ∀ z ∈ ps, 0 ≤ z.2) (u : Str) : 0 ≤ getP u ps := by
  unfold getP
  cases e : ps.find? fun z => decide (z.1 = u) with
  | none => exact Int.le_refl _
  | some z => exact h z (List.mem_of_find?_eq_some e)
end T3

namespace T3
open PySem L2
/-! ### the laws' own looks at a deed -/
/-- what a drawn deed is like -/
def DrawnOk (ss : List Str) (day : Int) : Deed → Prop
  | .issue d w c p => d ≤ day + 10 ^ 28 ∧ w ∈ ss ∧ (-(10 ^ 30) ≤ c ∧ c ≤ 10 ^ 30) ∧ 0 ≤ p ∧ p < 10 ^ 30
  | .sell d g t c p => d ≤ day + 10 ^ 28 ∧ (g ∈ ss ∧ t ∈ ss) ∧ (-(10 ^ 30) ≤ c ∧ c ≤ 10 ^ 30) ∧ 0 ≤ p ∧ p < 10 ^ 30
  | .retire d w c p => d ≤ day + 10 ^ 28 ∧ w ∈ ss ∧ (-(10 ^ 30) ≤ c ∧ c ≤ 10 ^ 30) ∧ 0 ≤ p ∧ p < 10 ^ 30
  | .split d m => d ≤ day + 10 ^ 28 ∧ 1 ≤ m ∧ m ≤ 31
  | .join d m => d ≤ day + 10 ^ 28 ∧ 1 ≤ m ∧ m ≤ 31
  | .pay d c => d ≤ day + 10 ^ 28 ∧ 0 ≤ c ∧ c < 10 ^ 30
def wordW : Why → Str
  | .day => "day"
  | .number => "number"
  | .hands => "hands"
  | .few => "few"
  | .uneven => "uneven"
  | .nodays => "nodays"
/-- what is refused by the law's own look -/
def early (day : Int) (ps : List (Str × Int)) (d : Deed) : Option Why :=
  if d.day < day then some .day else match d with
  | .issue _ _ c _ => if c < 1 then some .number else none
  | .sell _ g t c _ => if c < 1 then some .number else if g = t then some .hands else if getP g ps < c then some .few else none
  | .retire _ g c _ => if c < 1 then some .number else if getP g ps < c then some .few else none
  | .split _ m => if m < 2 then some .number else none
  | .join _ m => if m < 2 then some .number else none
  | .pay _ c => if c < 0 then some .number else none
def wordO : Option Why → Str
  | some w => wordW w
  | none => ""

theorem wordW_ne (w : Why) : wordW w ≠ "" := by cases w <;> decide
theorem manyP_few {xs : List Ho} {g : Str} {c p price : Int} (h1 : 1 ≤ c) (h : getP g (manyP xs) < c) : aGo p xs g c price = .no .few := by
  rw [manyP_get] at h
  unfold aGo
  cases hx : aFind g xs with
  | none => rfl
  | some x =>
    rw [hx] at h
    exact if_pos h
theorem early_some {day : Int} {xs : List Ho} {d : Deed} {w : Why} (h : early day (manyP xs) d = some w) (hp : d.low = true → ∀ c p, d.low = (decide (c < 1) || decide (p < 0)) → True) : aDo day xs d = .no w ∨ (day ≤ d.day ∧ d.low = true) := by
  unfold early at h
  split at h
  · rename_i h0
    injection h with h; subst h
    exact .inl (aDo_day h0)
  rename_i h0
  by_cases hl : d.low = true
  · exact .inr ⟨by omega, hl⟩
  left
  have hd : day ≤ d.day := by omega
  cases d with
  | issue dy w' c p =>
    have hd : day ≤ dy := hd
    obtain ⟨h1, h2⟩ := not_low hl
    simp only at h
    rw [if_neg (by omega)] at h; cases h
  | sell dy g t c p =>
    have hd : day ≤ dy := hd
    obtain ⟨h1, h2⟩ := not_low hl
    simp only at h
    rw [if_neg (by omega)] at h
    rw [aDo_sell hd h1 h2]
    split at h
    · rename_i e
      injection h with h; subst h
      rw [if_pos e]
    · rename_i e
      split at h
      · rename_i e2
        injection h with h; subst h
        rw [if_neg e, manyP_few h1 e2]; rfl
      · cases h
  | retire dy g c p =>
    have hd : day ≤ dy := hd
    obtain ⟨h1, h2⟩ := not_low hl
    simp only at h
    rw [if_neg (by omega)] at h
    rw [aDo_retire hd h1 h2]
    split at h
    · rename_i e2
      injection h with h; subst h
      exact manyP_few h1 e2
    · cases h
  | split dy m =>
    have hd : day ≤ dy := hd
    have : ¬ m < 2 := fun e => hl (decide_eq_true e)
    simp only at h
    rw [if_neg this] at h; cases h
  | join dy m =>
    have hd : day ≤ dy := hd
    have : ¬ m < 2 := fun e => hl (decide_eq_true e)
    simp only at h
    rw [if_neg this] at h; cases h
  | pay dy c =>
    have hd : day ≤ dy := hd
    have : ¬ c < 0 := fun e => hl (decide_eq_true e)
    simp only at h
    rw [if_neg this] at h; cases h
/-- a price, what is paid: from nought on -/
def Deed.fair : Deed → Prop
  | .issue _ _ _ p => 0 ≤ p
  | .sell _ _ _ _ p => 0 ≤ p
  | .retire _ _ _ p => 0 ≤ p
  | _ => True
theorem early_low {day : Int} {ps : List (Str × Int)} {d : Deed} (hf : d.fair) (h0 : day ≤ d.day) (hl : d.low = true) : early day ps d = some .number := by
  unfold early
  rw [if_neg (by omega)]
  have two : ∀ {c p : Int}, 0 ≤ p → (decide (c < 1) || decide (p < 0)) = true → c < 1 := fun {c p} hp h => by
    simp only [Bool.or_eq_true, decide_eq_true_eq] at h
    omega
  cases d with
  | issue dy w' c p => exact if_pos (two hf hl)
  | sell dy g t c p => exact if_pos (two hf hl)
  | retire dy g c p => exact if_pos (two hf hl)
  | split dy m => exact if_pos (of_decide_eq_true hl)
  | join dy m => exact if_pos (of_decide_eq_true hl)
  | pay dy c => exact if_pos (of_decide_eq_true hl)
theorem early_no {day : Int} {xs : List Ho} {d : Deed} {w : Why} (hf : d.fair) (h : early day (manyP xs) d = some w) : aDo day xs d = .no w := by
  rcases early_some h (fun _ _ _ _ => trivial) with h1 | ⟨h1, h2⟩
  · exact h1
  · rw [early_low hf h1 h2] at h
    injection h with h; subst h
    exact aDo_low h1 h2
/-- what is refused though the look says nothing -/
theorem early_none {day : Int} {xs : List Ho} {d : Deed} {w : Why} (hf : d.fair) (h : early day (manyP xs) d = none) (e : aDo day xs d = .no w) : (∃ dy m, d = .join dy m ∧ w = .uneven) ∨ (∃ dy c, d = .pay dy c ∧ w = .nodays ∧ day ≤ dy ∧ 0 ≤ c ∧ (behinds (dy - day) xs).sum = 0) := by
  have h0 : day ≤ d.day := by
    unfold early at h
    split at h
    · cases h
    · omega
  have hl : ¬ d.low = true := fun hl => by rw [early_low hf h0 hl] at h; cases h
  unfold early at h
  rw [if_neg (by omega)] at h
  have few : ∀ {g : Str} {c p price : Int}, ¬ getP g (manyP xs) < c → 1 ≤ c → ∃ ys r, aGo p xs g c price = .yes ys r := fun {g c p price} hg h1 => by
    rw [manyP_get] at hg
    unfold aGo
    cases hx : aFind g xs with
    | none => rw [hx] at hg; exact absurd (show (0 : Int) < c by omega) hg
    | some x =>
      rw [hx] at hg
      exact ⟨_, _, if_neg hg⟩
  cases d with
  | issue dy w' c p =>
    have h0 : day ≤ dy := h0
    obtain ⟨h1, h2⟩ := not_low hl
    rw [aDo_issue h0 h1 h2] at e; cases e
  | sell dy g t c p =>
    have h0 : day ≤ dy := h0
    obtain ⟨h1, h2⟩ := not_low hl
    simp only at h
    rw [if_neg (by omega)] at h
    split at h
    · cases h
    rename_i e1
    split at h
    · cases h
    rename_i e2
    obtain ⟨ys, r, hg⟩ := few (p := dy - day) (price := p) e2 h1
    rw [aDo_sell h0 h1 h2, if_neg e1, hg] at e
    cases e
  | retire dy g c p =>
    have h0 : day ≤ dy := h0
    obtain ⟨h1, h2⟩ := not_low hl
    simp only at h
    rw [if_neg (by omega)] at h
    split at h
    · cases h
    rename_i e2
    obtain ⟨ys, r, hg⟩ := few (p := dy - day) (price := p) e2 h1
    rw [aDo_retire h0 h1 h2, hg] at e
    cases e
  | split dy m =>
    have h0 : day ≤ dy := h0
    have : ¬ m < 2 := fun e => hl (decide_eq_true e)
    rw [aDo_split (m := m) h0 (by omega)] at e; cases e
  | join dy m =>
    have h0 : day ≤ dy := h0
    have : ¬ m < 2 := fun e => hl (decide_eq_true e)
    rw [aDo_join (m := m) h0 (by omega)] at e
    split at e
    · cases e
    · cases e
      exact .inl ⟨dy, m, rfl, rfl⟩
  | pay dy c =>
    have h0 : day ≤ dy := h0
    have : ¬ c < 0 := fun e => hl (decide_eq_true e)
    rw [aDo_pay (c := c) h0 (by omega)] at e
    split at e
    · rename_i hz
      cases e
      exact .inr ⟨dy, c, rfl, rfl, h0, by omega, hz⟩
    · cases e
/-! ### a holder's number by his name -/
def valOf (f : Ho → Int) (who : Str) (xs : List Ho) : Int := ((aFind who xs).map f).getD 0
theorem valOf_getP (f : Ho → Int) (who : Str) (xs : List Ho) : getP who (xs.map fun x => (x.name, f x)) = valOf f who xs := getP_map f who xs
theorem aFind_cons (who : Str) (x : Ho) (r : List Ho) : aFind who (x :: r) = if x.name = who then some x else aFind who r := by
  unfold aFind
  rw [List.find?_cons]
  by_cases e : x.name = who
  · rw [if_pos e, decide_eq_true e]
  · rw [if_neg e, decide_eq_false e]
theorem valOf_upd {f : Ho → Int} {g : Str} {h : Ho → Ho} (hn : ∀ x, (h x).name = x.name) (hf : ∀ x, f (h x) = f x) (who : Str) : ∀ xs : List Ho, valOf f who (aUpd g h xs) = valOf f who xs
  | [] => rfl
  | x :: r => by
    have ih := valOf_upd (f := f) (g := g) hn hf who r
    simp only [valOf] at ih ⊢
    simp only [aUpd]
    split
    · rw [aFind_cons, aFind_cons, hn]
      split
      · simp [hf]
      · rfl
    · rw [aFind_cons, aFind_cons]
      split
      · rfl
      · exact ih
theorem valOf_append (f : Ho → Int) (who : Str) (y : Ho) (hy : f y = 0) : ∀ xs : List Ho, valOf f who (xs ++ [y]) = valOf f who xs
  | [] => by
    simp only [valOf, List.nil_append, aFind_cons]
    split
    · simp [hy, aFind]
    · rfl
  | x :: r => by
    have ih := valOf_append f who y hy r
    simp only [valOf, List.cons_append, aFind_cons] at ih ⊢
    split
    · rfl
    · exact ih
theorem valOf_add {f : Ho → Int} (hf : ∀ (x : Ho) ls, f { x with lots := ls } = f x) (h0 : ∀ n l, f ⟨n, l, 0, 0, 0⟩ = 0) (who w : Str) (l : Lot) (xs : List Ho) : valOf f who (aAdd xs w l) = valOf f who xs := by
  unfold aAdd
  split
  · exact valOf_upd (h := fun x => { x with lots := x.lots ++ [l] }) (fun _ => rfl) (fun x => hf x _) who xs
  · exact valOf_append f who _ (h0 w [l]) xs
theorem valOf_map {f g : Ho → Int} {h : Ho → Ho} (hn : ∀ x, (h x).name = x.name) (hf : ∀ x, f (h x) = g x) (who : Str) (xs : List Ho) : valOf f who (xs.map h) = valOf g who xs := by
  unfold valOf
  rw [aFind_map h hn]
  cases aFind who xs with
  | none => rfl
  | some x => simp [hf]
theorem valOf_mul (f : Ho → Int) (m : Int) (who : Str) (xs : List Ho) : valOf (fun x => f x * m) who xs = valOf f who xs * m := by
  unfold valOf
  cases aFind who xs with
  | none => simp
  | some x => rfl
theorem payH_cons (x : Ho) (xs : List Ho) (p : Int) (ps : List Int) : payH (x :: xs) (p :: ps) = { x with days := 0, got := x.got + p } :: payH xs ps := rfl
theorem valOf_paid_days (who : Str) : ∀ (xs : List Ho) (ps : List Int), valOf Ho.days who (payH xs ps) = 0
  | [], ps => by cases ps <;> rfl
  | x :: xs, [] => rfl
  | x :: xs, p :: ps => by
    have ih := valOf_paid_days who xs ps
    rw [payH_cons]
    simp only [valOf, aFind_cons] at ih ⊢
    split
    · rfl
    · exact ih
theorem valOf_paid_got (who : Str) : ∀ {xs : List Ho} {ps : List Int}, xs.length = ps.length → valOf Ho.got who (payH xs ps) = valOf Ho.got who xs + getP who ((nmH xs).zip ps)
  | [], [], _ => rfl
  | x :: xs, p :: ps, h => by
    have ih := valOf_paid_got who (xs := xs) (ps := ps) (by simpa using h)
    rw [payH_cons]
    simp only [valOf, aFind_cons, nmH, List.map_cons, List.zip_cons_cons, getP, List.find?_cons] at ih ⊢
    by_cases e : x.name = who
    · simp [e]
    · simp only [e, if_false, decide_false]
      exact ih
theorem valOf_pos {f : Ho → Int} {who : Str} {xs : List Ho} (h : ∀ x ∈ xs, 0 ≤ f x) : 0 ≤ valOf f who xs := by
  unfold valOf
  cases e : aFind who xs with
  | none => exact Int.le_refl _
  | some x => exact h x (aFind_mem e).1
def daysP (xs : List Ho) : List (Str × Int) := xs.map fun x => (x.name, x.days)
theorem daysP_names (xs : List Ho) : (daysP xs).map (·.1) = nmH xs := by simp [daysP, nmH, List.map_map, Function.comp_def]
theorem daysP_vals (p : Int) (xs : List Ho) : (daysP (aPass p xs)).map (·.2) = behinds p xs := by simp [daysP, aPass, behinds, List.map_map, Function.comp_def]
/-- share-days and what was got, behind a deed, by the names -/
theorem days_ok {day : Int} {xs xs' : List Ho} {d : Deed} {r : Res} (hj : ∀ dy m, d ≠ .join dy m) (hp : ∀ dy c, d ≠ .pay dy c) (h : aDo day xs d = .yes xs' r) (who : Str) : getP who (changedD d (daysP (aPass (d.day - day) xs))) = valOf Ho.days who xs' ∧ valOf Ho.got who xs' = valOf Ho.got who xs := by
  obtain ⟨h0, hl⟩ := aDo_yes h
  have e1 : getP who (daysP (aPass (d.day - day) xs)) = valOf Ho.days who (aPass (d.day - day) xs) := valOf_getP Ho.days who _
  have e2 : ∀ p : Int, valOf Ho.got who (aPass p xs) = valOf Ho.got who xs := fun p => valOf_map (h := fun x => { x with days := x.behind p }) (fun _ => rfl) (fun _ => rfl) who xs
  cases d with
  | issue dy w c p =>
    have h0 : day ≤ dy := h0
    obtain ⟨h1, h2⟩ := not_low (by simpa [Deed.low] using hl)
    rw [aDo_issue h0 h1 h2] at h
    cases h
    rw [valOf_add (f := Ho.days) (fun _ _ => rfl) (fun _ _ => rfl), valOf_add (f := Ho.got) (fun _ _ => rfl) (fun _ _ => rfl)]
    exact ⟨e1, e2 _⟩
  | sell dy g t c p =>
    have h0 : day ≤ dy := h0
    obtain ⟨h1, h2⟩ := not_low (by simpa [Deed.low] using hl)
    rw [aDo_sell h0 h1 h2] at h
    split at h
    · cases h
    cases hg : aGo (dy - day) xs g c p with
    | no w => rw [hg] at h; cases h
    | yes ys r' =>
      rw [hg] at h
      cases h
      obtain ⟨x, hx, hle, _, hy, hx'⟩ := aGo_yes hg
      rw [valOf_add (f := Ho.days) (fun _ _ => rfl) (fun _ _ => rfl), valOf_add (f := Ho.got) (fun _ _ => rfl) (fun _ _ => rfl), hy, valOf_upd (f := Ho.days) (h := aSold c p) (fun _ => rfl) (fun _ => rfl), valOf_upd (f := Ho.got) (h := aSold c p) (fun _ => rfl) (fun _ => rfl)]
      exact ⟨e1, e2 _⟩
  | retire dy g c p =>
    have h0 : day ≤ dy := h0
    obtain ⟨h1, h2⟩ := not_low (by simpa [Deed.low] using hl)
    rw [aDo_retire h0 h1 h2] at h
    obtain ⟨x, hx, hle, _, hy, hx'⟩ := aGo_yes h
    rw [hy, valOf_upd (f := Ho.days) (h := aSold c p) (fun _ => rfl) (fun _ => rfl), valOf_upd (f := Ho.got) (h := aSold c p) (fun _ => rfl) (fun _ => rfl)]
    exact ⟨e1, e2 _⟩
  | split dy m =>
    have h0 : day ≤ dy := h0
    rw [aDo_split (m := m) h0 (by have := of_decide_eq_false hl; omega)] at h
    cases h
    refine ⟨?_, ?_⟩
    · have : changedD (.split dy m) (daysP (aPass (dy - day) xs)) = (aPass (dy - day) xs).map fun x => (x.name, x.days * m) := by
        simp [changedD, daysP, List.map_map, Function.comp_def]
      show getP who (changedD (.split dy m) (daysP (aPass (dy - day) xs))) = _
      rw [this, valOf_getP (fun x => x.days * m)]
      exact (valOf_map (f := Ho.days) (h := fun x => { x with lots := x.lots.map (wide m), days := x.days * m }) (fun _ => rfl) (fun _ => rfl) who _).symm
    · rw [← e2 (dy - day)]
      exact valOf_map (f := Ho.got) (h := fun x => { x with lots := x.lots.map (wide m), days := x.days * m }) (fun _ => rfl) (fun _ => rfl) who _
  | join dy m => exact absurd rfl (hj dy m)
  | pay dy c => exact absurd rfl (hp dy c)
theorem perm_front {α : Type} {L P R : List α} : (L ++ (P ++ R)).Perm (P ++ (L ++ R)) := List.perm_append_comm_assoc ..
theorem perm_word {α : Type} {L P J' M J G : List α} : (L ++ (P ++ (J' ++ (M ++ (J ++ G))))).Perm (L ++ (M ++ (P ++ ((J' ++ J) ++ G)))) := by
  refine .append_left L ?_
  rw [List.append_assoc]
  exact (List.Perm.append_left P (List.perm_append_comm_assoc ..)).trans (List.perm_append_comm_assoc ..)
section
variable {X : Cx} {Wx : WX} {ta tb : TE3} {o i : Expr} {pos : Pos}
/-- d[k], d locked -/
def dgetK3 : R3 := fun x y G Q => match x with
  | .ref a => ∃ od kvs k v, (a, DO.lck od kvs) ∈ G ∧ keyD y = some k ∧ valD kvs k = some v ∧ Q v G
  | _ => False
theorem e_dgetK (hu : X.A.units + 1 < cLine) (ho : PE X o (lowE X.K Wx ta)) (hi : PE X i (lowE X.K Wx tb)) (hs : NoSl i := by intro _ _; rfl) : PE X (.Subscript o i pos) (lowE X.K Wx (op3 dgetK3 ta tb)) := by
  refine (pe_dget hu ho hi hs).imp3 ?_
  rintro σ H Q ⟨σ3, W, G, Q3, E3, R, S, h, q, e⟩
  refine ⟨σ3, W, G, _, E3, R, S, h, ⟨fun W1 x G1 x' H1 l1 S1 r1 h1 => ?_⟩, e⟩
  refine ⟨σ3, W1, G1, _, E3, R.mono l1, S1, h1, ⟨fun W2 y G2 y' H2 l2 S2 r2 h2 => ?_⟩, e.mono l1⟩
  cases x with
  | ref a =>
    obtain ⟨od, kvs, k, v, hm, hk, hv, h2⟩ := h2
    cases r1
    obtain ⟨vs, e1, rk⟩ := S2.ob _ _ hm
    obtain ⟨u, e2, ru⟩ := (RlK.val rk).2 v hv
    rw [key_kV r2 hk]
    refine ⟨a, u, rfl, ?_, q.run _ _ _ _ _ (l1.trans l2) S2 ru h2⟩
    rw [← e2]
    exact .inl ⟨_, _, .inr ⟨_, e1⟩, rfl, rfl⟩
  | _ => exact h2.elim
end
/-- what a drawn deed is like, for the book -/
theorem drawn_ok {ss : List Str} {day : Int} {d : Deed} (h : DrawnOk ss day d) : DeedOk day d ∧ d.fair := by
  have e1 : (10 : Int) ^ 28 ≤ 2 ^ 200 := by decide
  have e2 : (10 : Int) ^ 30 < 2 ^ 200 := by decide
  have e3 : (10 : Int) ^ 30 ≤ 2 ^ 100 := by decide
  have e4 : (31 : Int) < 2 ^ 100 := by decide
  have e5 : (31 : Int) < 2 ^ 200 := by decide
  cases d with
  | issue dy w c p =>
    obtain ⟨h1, _, h2, h3, h4⟩ := h
    exact ⟨⟨by show dy - day ≤ _; omega, by show p < _; omega, by show c ≤ _; omega⟩, h3⟩
  | sell dy g t c p =>
    obtain ⟨h1, _, h2, h3, h4⟩ := h
    exact ⟨⟨by show dy - day ≤ _; omega, by show p < _; omega, trivial⟩, h3⟩
  | retire dy g c p =>
    obtain ⟨h1, _, h2, h3, h4⟩ := h
    exact ⟨⟨by show dy - day ≤ _; omega, by show p < _; omega, trivial⟩, h3⟩
  | split dy m =>
    obtain ⟨h1, h2, h3⟩ := h
    exact ⟨⟨by show dy - day ≤ _; omega, by show m < _; omega, by show m ≤ _; omega⟩, trivial⟩
  | join dy m =>
    obtain ⟨h1, h2, h3⟩ := h
    exact ⟨⟨by show dy - day ≤ _; omega, by show m < _; omega, trivial⟩, trivial⟩
  | pay dy c =>
    obtain ⟨h1, h2, h3⟩ := h
    exact ⟨⟨by show dy - day ≤ _; omega, by show c < _; omega, trivial⟩, trivial⟩
theorem perm5 {α : Type} {a b c d e : α} {G : List α} : (a :: b :: c :: d :: e :: G).Perm (c :: b :: a :: e :: d :: G) := perm_rev3.trans (.cons _ (.cons _ (.cons _ (List.Perm.swap ..))))
theorem perm_word0 {α : Type} {P J' M J G : List α} : (P ++ (J' ++ (M ++ (J ++ G)))).Perm (M ++ (P ++ ((J' ++ J) ++ G))) := perm_word (L := [])
theorem perm_word1 {α : Type} {x : α} {P J' M J G : List α} : (x :: (P ++ (J' ++ (M ++ (J ++ G))))).Perm (x :: (M ++ (P ++ ((J' ++ J) ++ G)))) := .cons _ perm_word0
theorem Gr.next {n : Nat} {xs : List Ho} (g : Grade n xs) : Grade (n + 1) xs := g.mono (Nat.le_succ _) (pow_mono (by omega)) (pow_mono (by omega))
theorem pay_yes {D0 dy c : Int} {xs xs' : List Ho} {r : Res} (h : aDo D0 xs (.pay dy c) = .yes xs' r) : D0 ≤ dy ∧ 0 ≤ c ∧ (behinds (dy - D0) xs).sum ≠ 0 ∧
    xs' = payH (aPass (dy - D0) xs) (partsL c (behinds (dy - D0) xs).sum 0 (behinds (dy - D0) xs)) ∧ r = .pays ((nmH xs).zip (partsL c (behinds (dy - D0) xs).sum 0 (behinds (dy - D0) xs))) := by
  obtain ⟨h0, hl⟩ := aDo_yes h
  have h0 : D0 ≤ dy := h0
  have h1 : 0 ≤ c := by have := of_decide_eq_false hl; omega
  rw [aDo_pay h0 h1] at h
  split at h
  · cases h
  rename_i hz
  cases h
  exact ⟨h0, h1, hz, rfl, rfl⟩
theorem res_ok {day : Int} {xs xs' : List Ho} {d : Deed} {r : Res} (hp : ∀ dy c, d ≠ .pay dy c) (h : aDo day xs d = .yes xs' r) : ∀ ps, r ≠ .pays ps := by
  obtain ⟨h0, hl⟩ := aDo_yes h
  intro ps hr
  subst hr
  cases d with
  | issue dy w c p =>
    have h0 : day ≤ dy := h0
    obtain ⟨h1, h2⟩ := not_low (by simpa [Deed.low] using hl)
    rw [aDo_issue h0 h1 h2] at h
    cases h
  | sell dy g t c p =>
    have h0 : day ≤ dy := h0
    obtain ⟨h1, h2⟩ := not_low (by simpa [Deed.low] using hl)
    rw [aDo_sell h0 h1 h2] at h
    split at h
    · cases h
    cases hg : aGo (dy - day) xs g c p with
    | no w => rw [hg] at h; cases h
    | yes ys r' =>
      rw [hg] at h
      obtain ⟨x, _, _, e, _⟩ := aGo_yes hg
      rw [e] at h
      cases h
  | retire dy g c p =>
    have h0 : day ≤ dy := h0
    obtain ⟨h1, h2⟩ := not_low (by simpa [Deed.low] using hl)
    rw [aDo_retire h0 h1 h2] at h
    obtain ⟨x, _, _, e, _⟩ := aGo_yes h
    cases e
  | split dy m =>
    have h0 : day ≤ dy := h0
    rw [aDo_split (m := m) h0 (by have := of_decide_eq_false hl; omega)] at h
    cases h
  | join dy m =>
    have h0 : day ≤ dy := h0
    rw [aDo_join (m := m) h0 (by have := of_decide_eq_false hl; omega)] at h
    split at h
    · cases h
    · cases h
  | pay dy c => exact absurd rfl (hp dy c)
theorem chg_ok2 {day : Int} {xs xs' : List Ho} {d : Deed} {r : Res} (hj : ∀ dy m, d ≠ .join dy m) (hs : Safe day xs d) (h : aDo day xs d = .yes xs' r) : ChgOk2 (manyP xs) (daysP (aPass (d.day - day) xs)) d := by
  obtain ⟨h0, hl⟩ := aDo_yes h
  have seller : ∀ {g : Str} {c p : Int} {ys : List Ho} {r' : Res}, aGo (d.day - day) xs g c p = .yes ys r' → g ∈ (manyP xs).map (·.1) := fun {g c p ys r'} e => by
    obtain ⟨x, hx, _⟩ := aGo_yes e
    obtain ⟨hm, hn⟩ := aFind_mem hx
    rw [manyP_names, ← hn]
    exact List.mem_map_of_mem hm
  refine ⟨by rw [manyP_names]; exact hs.nd, by simp [manyP]; exact hs.len, ?_⟩
  cases d with
  | issue dy w c p => trivial
  | sell dy g t c p =>
    have h0 : day ≤ dy := h0
    obtain ⟨h1, h2⟩ := not_low (by simpa [Deed.low] using hl)
    rw [aDo_sell h0 h1 h2] at h
    split at h
    · cases h
    cases hg : aGo (dy - day) xs g c p with
    | no w => rw [hg] at h; cases h
    | yes ys r' => exact ⟨seller hg, trivial⟩
  | retire dy g c p =>
    have h0 : day ≤ dy := h0
    obtain ⟨h1, h2⟩ := not_low (by simpa [Deed.low] using hl)
    rw [aDo_retire h0 h1 h2] at h
    exact seller h
  | split dy m =>
    have h0 : day ≤ dy := h0
    have hm2 : 2 ≤ m := by have := of_decide_eq_false hl; omega
    have hb : T3.bl m ≤ 200 := Nat.le_trans (bl_le (n := 199) (by omega) (hs.num hl)) (by decide)
    refine ⟨by rw [daysP_names, aPass_names, manyP_names], fun z hz => ?_, fun z hz => ?_⟩
    · obtain ⟨x, hx, rfl⟩ := List.mem_map.mp hz
      obtain ⟨o1, o2, o3⟩ := hs.lots x hx
      exact mul_ok (bl_le (n := 7999) (sum_nonneg fun w hw => by obtain ⟨l, hl, rfl⟩ := List.mem_map.mp hw; have := (o2 l hl).1; omega) o3) hb (by decide)
    · obtain ⟨y, hy, rfl⟩ := List.mem_map.mp hz
      obtain ⟨x, hx, rfl⟩ := aPass_mem' hy
      exact (hs.wide h0 hl (show 0 ≤ m by omega) x hx).2
  | join dy m => exact absurd rfl (hj dy m)
  | pay dy c => trivial
theorem aFind_nd : ∀ {xs : List Ho} {x : Ho}, (nmH xs).Nodup → x ∈ xs → aFind x.name xs = some x
  | [], _, _, h => by cases h
  | y :: r, x, hn, h => by
    simp only [nmH, List.map_cons, List.nodup_cons] at hn
    rw [aFind_cons]
    rcases List.mem_cons.mp h with rfl | h
    · rw [if_pos rfl]
    · have hne : ¬ y.name = x.name := fun e => hn.1 (by rw [e]; exact List.mem_map_of_mem h)
      rw [if_neg hne, aFind_nd hn.2 h]
theorem deedD_day (d : Deed) : ∃ w r, deedD d = .tup (.str w :: .int d.day :: r) := by
  cases d <;> exact ⟨_, _, rfl⟩
theorem perm_chg {α : Type} {x1 x2 x3 x4 : α} {L P J G : List α} : (x1 :: x4 :: (L ++ (x2 :: x3 :: (P ++ (J ++ G))))).Perm (L ++ (x1 :: x4 :: x3 :: (P ++ ((x2 :: J) ++ G)))) := by
  refine (perm_front (L := [x1, x4]) (P := L) (R := x2 :: x3 :: (P ++ (J ++ G)))).trans (.append_left L (.cons _ (.cons _ ?_)))
  refine (List.Perm.swap ..).trans (.cons _ ?_)
  exact perm_one
theorem perm_chg0 {α : Type} {x1 x4 : α} {L Z : List α} : (x4 :: (L ++ (x1 :: Z))).Perm (x1 :: x4 :: (L ++ Z)) := by
  refine (List.Perm.cons _ List.perm_middle).trans (List.Perm.swap ..)
/-- one turn of the law's own share-days -/
theorem later_turn {p : Int} {xs : List Ho} {j : Nat} {x : Ho} (hn : (nmH xs).Nodup) (h : xs[j]? = some x) : putP x.name (x.behind p) (daysP (aPass p (xs.take j))) = daysP (aPass p (xs.take (j + 1))) ∧ ((daysP (aPass p (xs.take j))).map (·.1)).Nodup := by
  have hA : x.name ∉ nmH (aPass p (xs.take j)) := by
    rw [aPass_names]
    have hj := get_lt h
    have hdrop : xs.drop j = x :: xs.drop (j + 1) := by rw [List.drop_eq_getElem_cons hj]; congr 1; rw [List.getElem?_eq_getElem hj] at h; injection h
    have hxs : nmH xs = nmH (xs.take j) ++ x.name :: nmH (xs.drop (j + 1)) := by
      conv => lhs; rw [← List.take_append_drop j xs, hdrop]
      simp [nmH]
    rw [hxs] at hn
    intro hm
    exact (List.nodup_append.mp hn).2.2 _ hm _ (List.mem_cons_self ..) rfl
  refine ⟨?_, ?_⟩
  · unfold daysP
    rw [putP_new Ho.days x.name _ hA, take_snoc h]
    simp [aPass]
  · rw [daysP_names, aPass_names]
    exact (List.take_sublist j xs).map Ho.name |>.nodup hn
/-- an if whose test comes to False -/
theorem skipT {tc : TT3} {t u : TS3} {D : Ends3} {σ : St3} {G : G3} (h : ∀ Q : Bool → G3 → Prop, Q false G → tc σ G Q D.ex) (k : u D σ G) : if3 tc t u D σ G := h _ (iteF k)
theorem takeT {tc : TT3} {t u : TS3} {D : Ends3} {σ : St3} {G : G3} (h : ∀ Q : Bool → G3 → Prop, Q true G → tc σ G Q D.ex) (k : t D σ G) : if3 tc t u D σ G := h _ (iteT k)
theorem putB {Q : Bool → G3 → Prop} {b c : Bool} {G : G3} (h : b = c) (k : Q c G) : Q b G := by rw [h]; exact k
def deedW : Deed → Str
  | .issue .. => "issue"
  | .sell .. => "sell"
  | .retire .. => "retire"
  | .split .. => "split"
  | .join .. => "join"
  | .pay .. => "pay"
theorem deedD_word {d : Deed} {w : Str} {r : List D} (h : deedD d = .tup (.str w :: r)) : deedW d = w := by
  have e : ∃ r', deedD d = .tup (.str (deedW d) :: r') := by cases d <;> exact ⟨_, rfl⟩
  obtain ⟨r', e⟩ := e
  rw [e] at h
  injection h with h
  injection h with h
  injection h
theorem deedD_pay {d : Deed} {r : List D} (h : deedD d = .tup (.str "pay" :: r)) : ∃ dy c, d = .pay dy c := by
  have e := deedD_word h
  cases d with
  | pay dy c => exact ⟨dy, c, rfl⟩
  | issue _ _ _ _ => exact absurd (show ("issue" : Str) = "pay" from e) (by decide)
  | sell _ _ _ _ _ => exact absurd (show ("sell" : Str) = "pay" from e) (by decide)
  | retire _ _ _ _ => exact absurd (show ("retire" : Str) = "pay" from e) (by decide)
  | split _ _ => exact absurd (show ("split" : Str) = "pay" from e) (by decide)
  | join _ _ => exact absurd (show ("join" : Str) = "pay" from e) (by decide)
theorem getP_zero (who : Str) (ps : List (Str × Int)) : getP who (ps.map fun z => (z.1, (0 : Int))) = 0 := by
  induction ps with
  | nil => rfl
  | cons z r ih =>
    simp only [getP, List.map_cons, List.find?_cons] at ih ⊢
    by_cases e : z.1 = who
    · simp [e]
    · rw [decide_eq_false e]; exact ih
theorem perm_rot {α : Type} {a b c : α} {G : List α} : (a :: b :: c :: G).Perm (b :: c :: a :: G) := (List.Perm.swap ..).trans (.cons _ (List.Perm.swap ..))
end T3

namespace T3
open PySem L2
section
variable {X : Cx} {Wx : WX} {a b : Expr} {ta tb : TE3} {pos : Pos}
/-- xs + ys, a list of one's own -/
def addO3 : R3 := fun x y G Q => ∃ ds es, Ls G x ds ∧ Ls G y es ∧ ds.length + es.length ≤ sizeLine ∧ ∀ p, Q (.ref p) ((p, .lst (ds ++ es)) :: G)
theorem e_addO (ha : PE X a (lowE X.K Wx ta)) (hb : PE X b (lowE X.K Wx tb)) : PE X (.BinOp a .Add b pos) (lowE X.K Wx (op3 addO3 ta tb)) := by
  refine e_op op_cat ?_ ha hb
  intro W x y G Q3 x' y' H Q S rx ry h q
  obtain ⟨ds, es, h1, h2, hz, k⟩ := h
  obtain ⟨p1, vs, rfl, l1, r1⟩ := h1.sql (K := X.K) S rx
  obtain ⟨p2, us, rfl, l2, r2⟩ := h2.sql (K := X.K) S ry
  refine ⟨p1, p2, vs, us, rfl, rfl, l1, l2, by rw [← r1.length, ← r2.length]; exact hz, fun p hp => ?_⟩
  exact q.run W (.ref p) ((p, .lst (ds ++ es)) :: G) (.ref p) _ (.refl _) (S.newO hp ⟨_, upd_same, r1.append r2⟩) rfl (k p)
end
/-! ### the same deeds, so many times as many shares -/
def Deed.times (m : Int) : Deed → Deed
  | .issue d w c p => .issue d w (c * m) p
  | .sell d g t c p => .sell d g t (c * m) p
  | .retire d w c p => .retire d w (c * m) p
  | d => d
def Deed.plainD : Deed → Prop
  | .split _ _ => False
  | .join _ _ => False
  | _ => True
theorem part_times {m : Int} (hm : 0 < m) (c : Int) (l : Lot) : partOf (c * m) (wide m l) = partOf c l * m := by
  unfold partOf
  by_cases h : l.count < c
  · rw [if_pos h, if_pos (show (wide m l).count < c * m from Int.mul_lt_mul_of_pos_right h hm)]; rfl
  · rw [if_neg h, if_neg (show ¬ (wide m l).count < c * m from Int.not_lt.mpr (Int.mul_le_mul_of_nonneg_right (by omega) (by omega)))]
theorem cost_times {m : Int} (hm : 0 < m) (c : Int) (l : Lot) : (wide m l).cost * partOf (c * m) (wide m l) / (wide m l).count = l.cost * partOf c l / l.count := by
  rw [part_times hm]
  show l.cost * (partOf c l * m) / (l.count * m) = _
  rw [← Int.mul_assoc, Int.mul_ediv_mul_of_pos_left _ _ hm]
theorem pos_times {m x : Int} (hm : 0 < m) : 0 < x * m ↔ 0 < x := ⟨fun h => by
  rcases Int.lt_or_le 0 x with h1 | h1
  · exact h1
  · have := Int.mul_nonpos_of_nonpos_of_nonneg h1 (Int.le_of_lt hm); omega, fun h => Int.mul_pos h hm⟩
theorem take_times {m : Int} (hm : 0 < m) (c : Int) (l : Lot) : takeOne (c * m) (wide m l) = (takeOne c l).map (wide m) := by
  unfold takeOne
  rw [cost_times hm, part_times hm]
  by_cases h : 0 < partOf c l
  · rw [if_pos h, if_pos ((pos_times hm).mpr h)]; rfl
  · rw [if_neg h, if_neg (fun e => h ((pos_times hm).mp e))]; rfl
theorem leave_times {m : Int} (hm : 0 < m) (c : Int) (l : Lot) : leaveOne (c * m) (wide m l) = (leaveOne c l).map (wide m) := by
  unfold leaveOne
  rw [cost_times hm, part_times hm]
  by_cases h : partOf c l < l.count
  · rw [if_pos h, if_pos (show partOf c l * m < (wide m l).count from Int.mul_lt_mul_of_pos_right h hm)]
    simp only [List.map_cons, List.map_nil, wide, Int.sub_mul]
  · rw [if_neg h, if_neg (show ¬ partOf c l * m < (wide m l).count from Int.not_lt.mpr (Int.mul_le_mul_of_nonneg_right (by omega) (by omega)))]; rfl
theorem taken_times {m : Int} (hm : 0 < m) : ∀ (ls : List Lot) (c : Int), takenL (c * m) (ls.map (wide m)) = (takenL c ls).map (wide m)
  | [], _ => rfl
  | l :: r, c => by
    simp only [List.map_cons, takenL, List.map_append]
    rw [take_times hm, part_times hm, ← Int.sub_mul, taken_times hm r]
theorem left_times {m : Int} (hm : 0 < m) : ∀ (ls : List Lot) (c : Int), leftL (c * m) (ls.map (wide m)) = (leftL c ls).map (wide m)
  | [], _ => rfl
  | l :: r, c => by
    simp only [List.map_cons, leftL, List.map_append]
    rw [leave_times hm, part_times hm, ← Int.sub_mul, left_times hm r]
def splitH (m : Int) (x : Ho) : Ho := { x with lots := x.lots.map (wide m), days := x.days * m }
theorem aSplit_eq (m : Int) (xs : List Ho) : aSplit m xs = xs.map (splitH m) := rfl
theorem splitH_many (m : Int) (x : Ho) : (splitH m x).many = x.many * m := wide_sum m x.lots
theorem splitH_behind (m p : Int) (x : Ho) : (splitH m x).behind p = x.behind p * m := by
  show x.days * m + (splitH m x).many * p = (x.days + x.many * p) * m
  rw [splitH_many, Int.add_mul, Int.mul_assoc, Int.mul_assoc, Int.mul_comm m p]
theorem pass_split (m p : Int) (xs : List Ho) : aPass p (aSplit m xs) = aSplit m (aPass p xs) := by
  simp only [aPass, aSplit, List.map_map]
  apply List.map_congr_left
  intro x _
  have := splitH_behind m p x
  simp only [Function.comp, splitH] at this ⊢
  rw [this]
theorem behinds_split (m p : Int) (xs : List Ho) : behinds p (aSplit m xs) = (behinds p xs).map fun w => w * m := by
  simp only [behinds, aSplit, List.map_map]
  apply List.map_congr_left
  intro x _
  exact splitH_behind m p x
theorem aUpd_map2 {who : Str} {f f' g : Ho → Ho} (hg : ∀ x, (g x).name = x.name) (h : ∀ x, f' (g x) = g (f x)) : ∀ xs : List Ho, aUpd who f' (xs.map g) = (aUpd who f xs).map g
  | [] => rfl
  | x :: r => by
    simp only [List.map_cons, aUpd, hg]
    split
    · simp [h]
    · simp [aUpd_map2 hg h r]
theorem add_split (m : Int) (xs : List Ho) (w : Str) (l : Lot) : aAdd (aSplit m xs) w (wide m l) = aSplit m (aAdd xs w l) := by
  unfold aAdd
  rw [aSplit_names]
  split
  · exact aUpd_map2 (f := fun x => { x with lots := x.lots ++ [l] }) (f' := fun x => { x with lots := x.lots ++ [wide m l] }) (g := splitH m) (fun _ => rfl) (fun x => by simp [splitH]) xs
  · simp [aSplit]
theorem sold_split {m : Int} (hm : 0 < m) (c price : Int) (x : Ho) : aSold (c * m) price (splitH m x) = splitH m (aSold c price x) := by
  have h1 : ((takenL (c * m) (splitH m x).lots).map Lot.cost).sum = ((takenL c x.lots).map Lot.cost).sum := by
    show ((takenL (c * m) (x.lots.map (wide m))).map Lot.cost).sum = _
    rw [taken_times hm, List.map_map]; rfl
  simp only [aSold]
  rw [h1]
  simp only [splitH, left_times hm]
theorem upd_split {m : Int} (hm : 0 < m) (g : Str) (c price : Int) (xs : List Ho) : aUpd g (aSold (c * m) price) (aSplit m xs) = aSplit m (aUpd g (aSold c price) xs) :=
  aUpd_map2 (f := aSold c price) (f' := aSold (c * m) price) (g := splitH m) (fun _ => rfl) (sold_split hm c price) xs
theorem partsL_times {m : Int} (hm : 0 < m) (c h : Int) : ∀ (ws : List Int) (a : Int), partsL c (h * m) (a * m) (ws.map fun w => w * m) = partsL c h a ws
  | [], _ => rfl
  | w :: r, a => by
    simp only [List.map_cons, partsL]
    rw [← Int.add_mul, partsL_times hm c h r (a + w), ← Int.mul_assoc, ← Int.mul_assoc, Int.mul_ediv_mul_of_pos_left _ _ hm, Int.mul_ediv_mul_of_pos_left _ _ hm]
theorem paid_split (m : Int) : ∀ (xs : List Ho) (ps : List Int), payH (aSplit m xs) ps = aSplit m (payH xs ps)
  | [], ps => by cases ps <;> rfl
  | x :: xs, [] => rfl
  | x :: xs, p :: ps => by
    have ih := paid_split m xs ps
    show payH (splitH m x :: aSplit m xs) (p :: ps) = splitH m { x with days := 0, got := x.got + p } :: aSplit m (payH xs ps)
    rw [payH_cons, ih]
    simp [splitH]
/-- what a deed comes to in a book that was split -/
def Out.like (m : Int) : Out → Out → Prop
  | .no w, .no w' => w' = w
  | .yes xs _, .yes xs' _ => xs' = aSplit m xs
  | _, _ => False
theorem go_split {m : Int} (hm : 0 < m) (p c price : Int) (g : Str) (xs : List Ho) : Out.like m (aGo p xs g c price) (aGo p (aSplit m xs) g (c * m) price) := by
  unfold aGo
  rw [aSplit_eq, aFind_map (splitH m) (fun _ => rfl)]
  cases h : aFind g xs with
  | none => rfl
  | some x =>
    show Out.like m (if x.many < c then _ else _) (if (splitH m x).many < c * m then _ else _)
    rw [splitH_many]
    by_cases h1 : x.many < c
    · rw [if_pos h1, if_pos (Int.mul_lt_mul_of_pos_right h1 hm)]; rfl
    · rw [if_neg h1, if_neg (Int.not_lt.mpr (Int.mul_le_mul_of_nonneg_right (by omega) (by omega)))]
      show aUpd g (aSold (c * m) price) (aPass p (aSplit m xs)) = aSplit m (aUpd g (aSold c price) (aPass p xs))
      rw [pass_split, upd_split hm]
theorem do_split {m : Int} (hm : 1 ≤ m) (day : Int) (xs : List Ho) {d : Deed} (hd : d.plainD) : Out.like m (aDo day xs d) (aDo day (aSplit m xs) (d.times m)) := by
  have hm0 : 0 < m := by omega
  have one : ∀ c : Int, decide (c * m < 1) = decide (c < 1) := fun c => by
    have := pos_times (x := c) hm0
    by_cases h : c < 1
    · rw [decide_eq_true h, decide_eq_true]
      rcases Int.lt_or_le (c * m) 1 with h2 | h2
      · exact h2
      · have := this.mp (by omega); omega
    · rw [decide_eq_false h, decide_eq_false]
      have := this.mpr (by omega); omega
  have hl : (d.times m).low = d.low := by
    cases d with
    | issue dy w c p => show (decide (c * m < 1) || _) = _; rw [one]; rfl
    | sell dy g t c p => show (decide (c * m < 1) || _) = _; rw [one]; rfl
    | retire dy w c p => show (decide (c * m < 1) || _) = _; rw [one]; rfl
    | split dy m => exact hd.elim
    | join dy m => exact hd.elim
    | pay dy c => rfl
  have hdy : (d.times m).day = d.day := by cases d <;> rfl
  by_cases h0 : d.day < day
  · rw [aDo_day h0, aDo_day (by rw [hdy]; exact h0)]; rfl
  by_cases h1 : d.low = true
  · rw [aDo_low (by omega) h1, aDo_low (by rw [hdy]; omega) (by rw [hl]; exact h1)]; rfl
  cases d with
  | issue dy w c p =>
    have h0 : day ≤ dy := by have : ¬ dy < day := h0; omega
    obtain ⟨h2, h3⟩ := not_low h1
    have h4 : 1 ≤ c * m := (pos_times hm0).mpr (by omega)
    show Out.like m (aDo day xs (.issue dy w c p)) (aDo day (aSplit m xs) (.issue dy w (c * m) p))
    rw [aDo_issue h0 h2 h3, aDo_issue h0 h4 h3]
    show aAdd (aPass (dy - day) (aSplit m xs)) w (wide m ⟨dy, c, p⟩) = _
    rw [pass_split, add_split]
  | sell dy g t c p =>
    have h0 : day ≤ dy := by have : ¬ dy < day := h0; omega
    obtain ⟨h2, h3⟩ := not_low h1
    have h4 : 1 ≤ c * m := (pos_times hm0).mpr (by omega)
    show Out.like m (aDo day xs (.sell dy g t c p)) (aDo day (aSplit m xs) (.sell dy g t (c * m) p))
    rw [aDo_sell h0 h2 h3, aDo_sell h0 h4 h3]
    split
    · rfl
    have := go_split hm0 (dy - day) c p g xs
    cases e1 : aGo (dy - day) xs g c p with
    | no w =>
      rw [e1] at this
      cases e2 : aGo (dy - day) (aSplit m xs) g (c * m) p with
      | no w' => rw [e2] at this; exact this
      | yes ys r => rw [e2] at this; exact this.elim
    | yes ys r =>
      rw [e1] at this
      cases e2 : aGo (dy - day) (aSplit m xs) g (c * m) p with
      | no w' => rw [e2] at this; exact this.elim
      | yes ys' r' =>
        rw [e2] at this
        have : ys' = aSplit m ys := this
        show aAdd ys' t (wide m ⟨dy, c, p⟩) = aSplit m (aAdd ys t ⟨dy, c, p⟩)
        rw [this, add_split]
  | retire dy g c p =>
    have h0 : day ≤ dy := by have : ¬ dy < day := h0; omega
    obtain ⟨h2, h3⟩ := not_low h1
    have h4 : 1 ≤ c * m := (pos_times hm0).mpr (by omega)
    show Out.like m (aDo day xs (.retire dy g c p)) (aDo day (aSplit m xs) (.retire dy g (c * m) p))
    rw [aDo_retire h0 h2 h3, aDo_retire h0 h4 h3]
    exact go_split hm0 (dy - day) c p g xs
  | split dy m => exact hd.elim
  | join dy m => exact hd.elim
  | pay dy c =>
    have h0 : day ≤ dy := by have : ¬ dy < day := h0; omega
    have h2 : 0 ≤ c := by have : ¬ c < 0 := fun e => h1 (decide_eq_true e); omega
    show Out.like m (aDo day xs (.pay dy c)) (aDo day (aSplit m xs) (.pay dy c))
    rw [aDo_pay h0 h2, aDo_pay h0 h2, behinds_split, sum_mul]
    by_cases hz : (behinds (dy - day) xs).sum = 0
    · rw [if_pos hz, if_pos (by rw [hz, Int.zero_mul])]; rfl
    · rw [if_neg hz, if_neg (fun e => hz (by rcases Int.mul_eq_zero.mp e with e | e; exact e; omega))]
      show payH (aPass (dy - day) (aSplit m xs)) (partsL c ((behinds (dy - day) xs).sum * m) 0 ((behinds (dy - day) xs).map fun w => w * m)) = _
      have := partsL_times hm0 c (behinds (dy - day) xs).sum (behinds (dy - day) xs) 0
      rw [Int.zero_mul] at this
      rw [this, pass_split, paid_split]
/-! ### answers as values -/
def resD : Res → D
  | .non => .non
  | .rows rs => .lst (rs.map tupD)
  | .pays ps => .lst (ps.map pairD)
def lotsOfH (who : Str) (xs : List Ho) : List Lot := ((aFind who xs).map Ho.lots).getD []
def whoD (xs : List Ho) (who : Str) : List D := [.int (valOf Ho.many who xs), .lst ((lotsOfH who xs).map lotD), .int (valOf Ho.gain who xs), .int (valOf Ho.got who xs), .int (valOf Ho.days who xs)]
def toldL (day : Int) (xs : List Ho) (ss : List Str) : List D := [.int day, .lst ((nmH xs).map .str), .int (xs.map Ho.many).sum] ++ ss.flatMap (whoD xs)
def Deed.whos : Deed → List Str
  | .issue _ w _ _ => [w]
  | .sell _ g t _ _ => [g, t]
  | .retire _ g _ _ => [g]
  | _ => []
theorem aAdd_names {xs : List Ho} {w : Str} {l : Lot} : ∀ n ∈ nmH (aAdd xs w l), n ∈ nmH xs ∨ n = w := by
  intro n hn
  obtain ⟨y, hy, rfl⟩ := List.mem_map.mp hn
  rcases aAdd_mem hy with h | ⟨x, hx, rfl⟩ | rfl
  · exact .inl (List.mem_map_of_mem h)
  · exact .inl (List.mem_map.mpr ⟨x, hx, rfl⟩)
  · exact .inr rfl
theorem aUpd_sold_names (g : Str) (c p : Int) (xs : List Ho) : nmH (aUpd g (aSold c p) xs) = nmH xs := aUpd_names (f := aSold c p) (fun _ => rfl) xs
theorem do_names {day : Int} {xs xs' : List Ho} {d : Deed} {r : Res} (h : aDo day xs d = .yes xs' r) : ∀ n ∈ nmH xs', n ∈ nmH xs ∨ n ∈ d.whos := by
  obtain ⟨h0, hl⟩ := aDo_yes h
  intro n hn
  cases d with
  | issue dy w c p =>
    have h0 : day ≤ dy := h0
    obtain ⟨h1, h2⟩ := not_low (by simpa [Deed.low] using hl)
    rw [aDo_issue h0 h1 h2] at h
    cases h
    rcases aAdd_names n hn with h | h
    · rw [aPass_names] at h; exact .inl h
    · rw [h]; exact .inr (.head _)
  | sell dy g t c p =>
    have h0 : day ≤ dy := h0
    obtain ⟨h1, h2⟩ := not_low (by simpa [Deed.low] using hl)
    rw [aDo_sell h0 h1 h2] at h
    split at h
    · cases h
    cases hg : aGo (dy - day) xs g c p with
    | no w => rw [hg] at h; cases h
    | yes ys r' =>
      rw [hg] at h
      cases h
      obtain ⟨x, hx, hle, _, hy, hx'⟩ := aGo_yes hg
      rcases aAdd_names n hn with h | h
      · rw [hy, aUpd_sold_names, aPass_names] at h; exact .inl h
      · rw [h]; exact .inr (.tail _ (.head _))
  | retire dy g c p =>
    have h0 : day ≤ dy := h0
    obtain ⟨h1, h2⟩ := not_low (by simpa [Deed.low] using hl)
    rw [aDo_retire h0 h1 h2] at h
    obtain ⟨x, hx, hle, _, hy, hx'⟩ := aGo_yes h
    rw [hy, aUpd_sold_names, aPass_names] at hn
    exact .inl hn
  | split dy m =>
    have h0 : day ≤ dy := h0
    rw [aDo_split (m := m) h0 (by have := of_decide_eq_false hl; omega)] at h
    cases h
    rw [aSplit_names, aPass_names] at hn
    exact .inl hn
  | join dy m =>
    have h0 : day ≤ dy := h0
    rw [aDo_join (m := m) h0 (by have := of_decide_eq_false hl; omega)] at h
    split at h
    · cases h
      rw [aJoin_names, aPass_names] at hn
      exact .inl hn
    · cases h
  | pay dy c =>
    obtain ⟨_, _, _, e, _⟩ := pay_yes h
    rw [e, payH_names (by simp [aPass, partsL_length, behinds]), aPass_names] at hn
    exact .inl hn
theorem plain_texts : ∀ ss : List Str, (∀ s ∈ ss, sOk s) → plainL (ss.map D.str) = true ∧ depL (ss.map D.str) ≤ 1
  | [], _ => ⟨rfl, by decide⟩
  | x :: r, h => by
    have ih := plain_texts r fun y hy => h y (List.mem_cons_of_mem _ hy)
    refine ⟨?_, ?_⟩
    · show (PySem.PyData.strOk x && plainL (r.map D.str)) = true
      rw [ih.1, h x (List.mem_cons_self ..)]; rfl
    · show max (dep (D.str x)) (depL (r.map D.str)) ≤ 1
      have : dep (D.str x) ≤ 1 := by simp [dep]
      have := ih.2
      omega
theorem plainL_append : ∀ a b : List D, plainL (a ++ b) = (plainL a && plainL b)
  | [], b => rfl
  | x :: a, b => by
    show (plain x && plainL (a ++ b)) = (plain x && plainL a && plainL b)
    rw [plainL_append a b, Bool.and_assoc]
theorem depL_append : ∀ a b : List D, depL (a ++ b) = max (depL a) (depL b)
  | [], b => by show depL b = max 0 (depL b); omega
  | x :: a, b => by
    show max (dep x) (depL (a ++ b)) = max (max (dep x) (depL a)) (depL b)
    rw [depL_append a b]; omega
theorem plain_lots : ∀ ls : List Lot, plainL (ls.map lotD) = true ∧ depL (ls.map lotD) ≤ 2
  | [] => ⟨rfl, by decide⟩
  | l :: r => by
    have ih := plain_lots r
    refine ⟨?_, ?_⟩
    · show (plain (lotD l) && plainL (r.map lotD)) = true
      rw [ih.1]; rfl
    · show max (dep (lotD l)) (depL (r.map lotD)) ≤ 2
      have : dep (lotD l) ≤ 2 := by show max 0 (max 0 (max 0 0)) + 1 ≤ 2; omega
      have := ih.2
      omega
theorem plain_who (xs : List Ho) (who : Str) : plainL (whoD xs who) = true ∧ depL (whoD xs who) ≤ 5 := by
  have h := plain_lots (lotsOfH who xs)
  refine ⟨?_, ?_⟩
  · show (true && (plainL ((lotsOfH who xs).map lotD) && true)) = true
    rw [h.1]; rfl
  · show max 0 (max (depL ((lotsOfH who xs).map lotD) + 1) (max 0 (max 0 (max 0 0)))) ≤ 5
    have := h.2
    omega
theorem plain_whos (xs : List Ho) : ∀ ss : List Str, plainL (ss.flatMap (whoD xs)) = true ∧ depL (ss.flatMap (whoD xs)) ≤ 5
  | [] => ⟨rfl, by show (0 : Nat) ≤ 5; decide⟩
  | s :: r => by
    have ih := plain_whos xs r
    have h := plain_who xs s
    rw [List.flatMap_cons]
    refine ⟨by rw [plainL_append, h.1, ih.1]; rfl, ?_⟩
    rw [depL_append]
    have := h.2
    have := ih.2
    omega
theorem plain_told (day : Int) (xs : List Ho) (ss : List Str) (h : ∀ n ∈ nmH xs, sOk n) : plain (.lst (toldL day xs ss)) = true ∧ dep (.lst (toldL day xs ss)) ≤ 64 := by
  have h1 := plain_texts (nmH xs) h
  have h2 := plain_whos xs ss
  refine ⟨?_, ?_⟩
  · show plainL (toldL day xs ss) = true
    unfold toldL
    rw [plainL_append, h2.1]
    show ((true && (plainL ((nmH xs).map D.str) && (true && true))) && true) = true
    rw [h1.1]; rfl
  · show depL (toldL day xs ss) + 1 ≤ 64
    unfold toldL
    rw [depL_append]
    have h3 : depL [D.int day, .lst ((nmH xs).map .str), .int (xs.map Ho.many).sum] ≤ 2 := by
      show max 0 (max (depL ((nmH xs).map D.str) + 1) (max 0 0)) ≤ 2
      have := h1.2
      omega
    have := h2.2
    omega
theorem plain_rows : ∀ rs : List (List Int), plainL (rs.map tupD) = true ∧ depL (rs.map tupD) ≤ 1
  | [] => ⟨rfl, by decide⟩
  | r :: rs => by
    have ih := plain_rows rs
    refine ⟨?_, ?_⟩
    · show (plain (tupD r) && plainL (rs.map tupD)) = true
      rw [ih.1, plain_tup]; rfl
    · show max (depL (r.map D.int) + 1) (depL (rs.map tupD)) ≤ 1
      rw [depL_ints]
      have := ih.2
      omega
theorem plain_pays : ∀ ps : List (Str × Int), (∀ z ∈ ps, sOk z.1) → plainL (ps.map pairD) = true ∧ depL (ps.map pairD) ≤ 1
  | [], _ => ⟨rfl, by decide⟩
  | z :: ps, h => by
    have ih := plain_pays ps fun y hy => h y (List.mem_cons_of_mem _ hy)
    refine ⟨?_, ?_⟩
    · show ((PySem.PyData.strOk z.1 && (true && true)) && plainL (ps.map pairD)) = true
      rw [ih.1, h z (List.mem_cons_self ..)]; rfl
    · show max (max 0 (max 0 0) + 1) (depL (ps.map pairD)) ≤ 1
      have := ih.2
      omega
theorem plain_res {day : Int} {xs xs' : List Ho} {d : Deed} {r : Res} (h : aDo day xs d = .yes xs' r) (hn : ∀ n ∈ nmH xs, sOk n) (s : Str) (hs : sOk s) : plain (.tup [.str s, resD r]) = true ∧ dep (.tup [.str s, resD r]) ≤ 64 := by
  have key : plain (resD r) = true ∧ dep (resD r) ≤ 2 := by
    cases r with
    | non => exact ⟨rfl, by decide⟩
    | rows rs =>
      have := plain_rows rs
      exact ⟨this.1, by show depL _ + 1 ≤ 2; omega⟩
    | pays ps =>
      have hz : ∀ z ∈ ps, sOk z.1 := by
        have hp : ∃ dy c, d = .pay dy c := Classical.byContradiction fun hc => res_ok (fun dy c e => hc ⟨dy, c, e⟩) h ps rfl
        obtain ⟨dy, c, rfl⟩ := hp
        obtain ⟨_, _, _, _, e⟩ := pay_yes h
        injection e with e
        intro z hz
        rw [e] at hz
        exact hn _ (List.of_mem_zip hz).1
      have := plain_pays ps hz
      exact ⟨this.1, by show depL _ + 1 ≤ 2; omega⟩
  refine ⟨?_, ?_⟩
  · show (PySem.PyData.strOk s && (plain (resD r) && true)) = true
    rw [hs, key.1]; rfl
  · show max 0 (max (dep (resD r)) 0) + 1 ≤ 64
    have := key.2
    omega
theorem aPass_zero (xs : List Ho) : aPass 0 xs = xs := by simp [aPass, Ho.behind]
def Deed.capB : Deed → Prop
  | .issue _ _ c _ => bl c ≤ 200
  | .sell _ _ _ c _ => bl c ≤ 200
  | .retire _ _ c _ => bl c ≤ 200
  | _ => True
end T3

namespace T3
open PySem L2
/-! ### isinstance of a class of one's own -/
structure InsC (K : PySem.W.Frag) (C : Addr) : Prop where
  ha : PySem.W.findIn K (.ref C) "__class__" = some (some (.builtin "object.__class__"))
  hn : PySem.W.specialIn K (.builtin "object.__class__") "__get__" = some (some (.builtin "getset_descriptor.__get__"))
  ht : PySem.W.takesIn K (.builtin "object.__class__") = some true
  hm : PySem.W.mroIn K C (.type "object") = some true
def isC3 (K : PySem.W.Frag) (C : Addr) : U3 := fun x G Q => match x with
  | .ref a => ∃ C' fs b, (a, DO.ins C' fs) ∈ G ∧ (Cls K C' ∧ InsC K C') ∧ PySem.W.kitOne K (.ref C') (.ref C) = some b ∧ Q (.bl b) G
  | _ => False
section
variable {X : Cx} {Wx : WX} {te : TE3} {e : Expr} {p p2 pos : Pos} {y : Str} {C : Addr}
theorem e_isC (hg : Gl X "isinstance") (hm : X.mg "isinstance" = none) (hgy : Gl X y) (hmy : X.mg y = some (.ref C)) (ha : PE X e (lowE X.K Wx te))
    (hdy : (y == ("__debug__" : Str)) = false := by decide) (hv : bootBuiltins "isinstance" = some (.builtin "isinstance") := by decide +kernel)
    (he : starEach [e, .Name y p2] X.env = (false, eval e X.env) :: starEach [.Name y p2] X.env := by rfl) (he2 : starEach [.Name y p2] X.env = (false, eval (.Name y p2) X.env) :: starEach [] X.env := by rfl) (hpl : (backTo pos (starEach [.Name y p2] X.env)).any (·.1) = false := by rfl) :
    PE X (.Call (.Name "isinstance" p) [e, .Name y p2] [] pos) (lowE X.K Wx (un3 (isC3 X.K C) te)) := by
  refine (pe_callB call_isi hg hm hv (pa_cons ha (pa_cons (pe_glob (v := .ref C) hgy hmy rfl hdy) pa_nil he2) he) (by decide) (by decide) he hpl).imp3 ?_
  rintro σ H Q ⟨σ3, W, G, Q3, E3, R, S, h, q, ex⟩
  refine ⟨σ3, W, G, _, E3, R, S, h, ⟨fun W1 x G1 x' H1 l1 S1 r1 h1 => ?_⟩, ex⟩
  cases x with
  | ref a =>
    obtain ⟨C', fs, b, hm', ⟨cl, ic⟩, hk, h1⟩ := h1
    cases r1
    obtain ⟨dx, vs, e1, rk⟩ := S1.ob _ _ hm'
    exact ⟨.ref a, .ref C, .ref C', .ref C, b, rfl, .own C, .base (.ins e1 cl ic.ha ic.hn ic.ht ic.hm), hk, q.run W1 (.bl b) G1 _ H1 l1 S1 rfl h1⟩
  | _ => exact h1.elim
end
/-! ### str(i) -/
def str3 : U3 := fun x G Q => match x with
  | .int i => i.natAbs.log2 < 1920 ∧ Q (.str (toString i)) G
  | _ => False
theorem cl_str {K : PySem.W.Frag} : ClL K (on1 str3) (fun xs H Q => ∃ i, xs = [.int i] ∧ i.natAbs.log2 < 1920 ∧ Q (.str (toString i)) H) := cll_1 fun W x G Q3 x' H Q S r h q => by
  cases x with
  | int i => cases r; exact ⟨i, rfl, h.1, q.run W (.str (toString i)) G _ H (.refl _) S rfl h.2⟩
  | _ => exact h.elim
section
variable {X : Cx} {Wx : WX}
/-- t[lo:hi], the whole of it perhaps -/
def slT3 : S3 := fun x lo hi G Q => match x with
  | .tup ds => Q (.tup (cutD ds lo hi)) G
  | _ => False
def slcT3 (ta : TE3) (tl th : TO3) : TE3 := fun σ G Q E => ta σ G (fun x G1 => tl σ G1 (fun l G2 => th σ G2 (fun u G3 => slT3 x l u G3 Q) E) E) E
theorem e_sliceT {e : Expr} {lo hi : Option Expr} {te : TE3} {tl th : TO3} {p2 pos : Pos} (he : PE X e (lowE X.K Wx te)) (hl : PO X lo (lowO X.K Wx tl)) (hu : PO X hi (lowO X.K Wx th)) : PE X (.Subscript e (.Slice lo hi none p2) pos) (lowE X.K Wx (slcT3 te tl th)) := by
  refine (pe_slice sl_tupA he hl hu).imp3 ?_
  rintro σ H Q ⟨σ3, W, G, Q3, E3, R, S, h, q, e⟩
  refine ⟨σ3, W, G, _, E3, R, S, h, ⟨fun W1 x G1 x' H1 l1 S1 r1 h1 => ?_⟩, e⟩
  refine ⟨σ3, W1, G1, _, E3, R.mono l1, S1, h1, ⟨fun W2 lo' G2 H2 l2 S2 h2 => ?_⟩, e.mono l1⟩
  refine ⟨σ3, W2, G2, _, E3, R.mono (l1.trans l2), S2, h2, ⟨fun W3 hi' G3 H3 l3 S3 h3 => ?_⟩, e.mono (l1.trans l2)⟩
  have r3 := r1.mono (l2.trans l3)
  have q3 := q.mono (l1.trans (l2.trans l3))
  cases x with
  | tup ds =>
    obtain ⟨a, vs, rfl, l, r⟩ := r3
    refine ⟨a, vs, rfl, S3.ft _ _ l, fun hw => ?_, fun _ p hp => ?_⟩
    · have hlen := r.length
      have e1 : cutD ds lo' hi' = ds := by
        unfold cutD
        rw [hlen, hw.1, hw.2, List.drop_zero, Nat.sub_zero, ← hlen, List.take_length]
      have h3' : Q3 (.tup ds) G3 := by
        have : Q3 (.tup (cutD ds lo' hi')) G3 := h3
        rwa [e1] at this
      exact q3.run W3 (.tup ds) G3 (.ref a) H3 (.refl _) S3 ⟨a, vs, rfl, l, r⟩ h3'
    · obtain ⟨W4, l4, S4, r4⟩ := S3.newT hp (r.cut lo' hi')
      exact q3.run _ _ _ _ _ l4 S4 r4 h3
  | _ => exact h3.elim
end
section
variable {X : Cx} {Wx : WX}
/-- x = [.. for ..] -/
theorem s_lc {st : Stmt} {src : TI3} {g : TG} {g3 : TL3} {tt : TT3} {te : TE3} {vs : List Nat} {i : Nat} (h : PS X st (tAsg (tLc (lowI X.K Wx src) g (lowT X.K wF tt) (lowE X.K wF te) vs) (gName i))) (hg : TlOk X.K vs g g3) : PS X st (lowS X.K Wx (asg3 (lc3 src g3 tt te vs) (name3 i))) := s_asg (asg_imp h fun _ _ _ => low_lc hg)
theorem s_lcO {st : Stmt} {src : TI3} {g : TG} {g3 : TL3} {tt : TT3} {te : TE3} {vs : List Nat} {i : Nat} (h : PS X st (tAsg (tLc (lowI X.K Wx src) g (lowT X.K wF tt) (lowE X.K wF te) vs) (gName i))) (hg : TlOk X.K vs g g3) : PS X st (lowS X.K Wx (asg3 (lcO3 src g3 tt te vs) (name3 i))) := s_asg (asg_imp h fun _ _ _ => low_lcO hg)
end
end T3

/-! an exception that leaves a list comprehension -/
namespace L2
open PySem PySem.Spec PyProof.Rows
/-- frames over another ground, in another heap that agrees on them -/
theorem frames_move {g B h h' : Heap} : ∀ {l : List Env}, h.FunFrames g l → (∀ L ∈ frs l, B.get? L = none ∧ h'.get? L = h.get? L) → h'.FunFrames B l
  | [], _, _ => trivial
  | env :: l, hh, hn => by
    obtain ⟨hk, ⟨L, o, hf, _, ho, hd⟩, hr⟩ := hh
    have hL := hn L (List.mem_filterMap.mpr ⟨env, List.mem_cons_self, hf⟩)
    refine ⟨hk, ⟨L, o, hf, hL.1, hL.2.trans ho, hd⟩, frames_move hr fun b hb => ?_⟩
    obtain ⟨e, he, q⟩ := List.mem_filterMap.mp hb
    exact hn b (List.mem_filterMap.mpr ⟨e, List.mem_cons_of_mem _ he, q⟩)
/-- what a comprehension's block is to bear, its own environment told -/
def postX (M : Model) (A : Around) (E : Value → Shared → Prop) (use : Option (Value → Sem Unit)) (Q : Value → Shared → Prop) (acc : Value) (ce : Env) (r : Result) (s' : Shared) : Prop :=
  match r with
  | .ok f => compPost M A E use Q acc ce.locals (.ok f) s'
  | .error x => ∃ m, s'.heap.Ns ce.locals m ∧ ∀ h', Heap.SameBut ce.locals s'.heap h' → wpAny M A (passOn "comprehension.variables-let-go" x ce : Sem Value) (fun _ _ => False) E { s' with heap := h' }
section
variable {X : Cx} {pins : List (Addr × Obj)} {σ : St} {H : Hp} {s : Shared}
/-- an exception of a call within the block: noted, the variables let go, passed on: in the air of the def -/
theorem blk_leaves {HY : Hp} {sY s' : Shared} {scope : Scope} {cl : List (Str × Addr)} {fp : List Addr} {Wx : WX} {E : XK} {u : Value} {pY : List (Addr × Obj)} {σY : St} {E1 : Value → Shared → Prop}
    (hs : X.stack = X.env :: X.outer) (hf : X.env.frame = some X.env.locals) (tk : Takes X Wx) (I : Inv X pins σ H s) (hfp : ∀ b ∈ fp, FpOk X pins H b ∧ b < s.heap.objs.size)
    (IY : Inv (X.blk s H scope (compEnvC scope cl s.heap.objs.size X.env) fp) pY σY HY sY) (hE : ∀ cls d H', E cls d H' → Wx cls d σ H') (c : CX X.prog X.w X.stack HY sY E u s') :
    wpAny (model X.prog X.w) X.A (noteFrame u (compEnvC scope cl s.heap.objs.size X.env)) (fun _ s'' => postX (model X.prog X.w) X.A X.xe none (fun _ _ => False) .none (compEnvC scope cl s.heap.objs.size X.env) (.error u) s'') E1 s' := by
  obtain ⟨a, B, H', cls, d, rfl, fl, hok, ub, na, os, ag, hEe⟩ := c
  have hfr : X.A.frames = some (X.env :: X.outer) := by rw [I.ok.frames, hs]
  show wpAny _ _ (noteFrame (.ref a) X.env) _ _ _
  refine HandSPX.looks_onZ Zc.steady hfr hf (by rw [← hs]; exact fl) fun h1 hh up1 => ?_
  -- the block's variables
  obtain ⟨m, ⟨oC, es, ep, eC, dC, kC, nC⟩, _⟩ := IY.loc
  have eC : sY.heap.get? s.heap.objs.size = some oC := eC
  have fC : HY s.heap.objs.size = none := IY.free
  have old : ∀ b ∈ frs X.stack, b < s.heap.objs.size := fun b hb => by
    obtain ⟨_, o, e, _⟩ := I.stack.mem hb
    exact Heap.lt_size e
  have frC : s.heap.objs.size ∉ frs X.stack := fun hm => absurd (old _ hm) (Nat.lt_irrefl _)
  have BC : B.get? s.heap.objs.size = some oC := ub.keep _ _ eC fC frC
  have fC' : H' s.heap.objs.size = none := ub.free _ _ eC fC
  obtain ⟨slC, hC1⟩ := up1 _ _ (fl.1 _ _ BC) (fun vs e => by rw [dC] at e; cases e)
  refine ⟨m, ⟨_, es, ep, hC1, dC, kC, nC⟩, fun h' sb => ?_⟩
  have hb2 : ∀ b, b ≠ s.heap.objs.size → h'.get? b = h1.get? b := fun b hb => sb.2 b hb
  -- the ground without them
  obtain ⟨B', hB'⟩ : ∃ B', B' = PySem.W.hideAll B [s.heap.objs.size] := ⟨_, rfl⟩
  have ofB : ∀ b o, B'.get? b = some o → B.get? b = some o := fun b o e => PySem.W.of_hideAll _ (by rw [← hB']; exact e)
  have noC : B'.get? s.heap.objs.size = none := by rw [hB']; exact PySem.W.hideAll_none _ (List.mem_singleton.mpr rfl)
  have inB : ∀ b o, B.get? b = some o → b ≠ s.heap.objs.size → B'.get? b = some o := fun b o e hne => by
    rw [hB']; exact PySem.W.hideAll_get _ e (fun hm => hne (List.mem_singleton.mp hm))
  have neB : ∀ b o, B'.get? b = some o → b ≠ s.heap.objs.size := fun b o e z => by rw [z, noC] at e; cases e
  have noneB : ∀ b, B.get? b = none → B'.get? b = none := fun b e => by
    cases q : B'.get? b with
    | none => rfl
    | some o => rw [ofB b o q] at e; cases e
  obtain ⟨x1, x2, x3, oe, vs, Tb, oT, ts, he, hz, hd, hv1, hnT, hTe, hT, hdT, h3⟩ := hh
  have neA : a ≠ s.heap.objs.size := fun z => by rw [z, BC] at x2; cases x2
  have neT : Tb ≠ s.heap.objs.size := fun z => by rw [z, BC] at hnT; cases hnT
  have k1 : B'.StaysIn h' := fun b o e => (hb2 b (neB b o e)).trans (x1 b o (ofB b o e))
  have k3 : h'.FunFrames B' (X.env :: X.outer) := by
    refine frames_move x3 fun L hL => ?_
    rw [← hs] at hL
    exact ⟨noneB L (x3.mem (by rw [← hs]; exact hL)).1, hb2 L (fun z => frC (z ▸ hL))⟩
  have k4 : HandSPX.TracedZ h' B' a (Zc cls d) (rawInt X.env.locals) := ⟨oe, vs, Tb, oT, ts, (hb2 a neA).trans he, hz, hd, hv1, noneB Tb hnT, hTe, (hb2 Tb neT).trans hT, hdT, h3⟩
  -- the state without the exception
  obtain ⟨G, g1, g2⟩ := restrict s'.heap fun b => (B'.get? b).isSome || decide (b ∈ frs X.stack)
  have st : B.StaysIn s'.heap := fl.1
  have gB : ∀ b o, B'.get? b = some o → G.get? b = some o := fun b o e => by
    rw [g1 b (by simp [e])]
    exact st b o (ofB b o e)
  have gF : ∀ b, b ∈ frs X.stack → G.get? b = s'.heap.get? b := fun b hb => g1 b (by simp [hb])
  have og : ∀ b o, G.get? b = some o → s'.heap.get? b = some o ∧ ((B'.get? b).isSome = true ∨ b ∈ frs X.stack) := fun b o e => by
    cases q : ((B'.get? b).isSome || decide (b ∈ frs X.stack)) with
    | false => rw [g2 b q] at e; cases e
    | true =>
      rw [g1 b q] at e
      exact ⟨e, by simpa [Bool.or_eq_true] using q⟩
  have ogC : ∀ b o, G.get? b = some o → b ≠ s.heap.objs.size := fun b o e z => by
    rcases (og b o e).2 with h | h
    · rw [z, noC] at h; cases h
    · exact frC (z ▸ h)
  have hokG : HOk X.prog X.w H' G := fun b o q => (hok b o q).stay (fun e v hc r => gB e v (inB e v r fun z => by
    rcases hc with hc | hc
    · rw [← hc, z, fC'] at q; cases q
    · rw [z, fC'] at hc; cases hc)) (fun _ r => r) fun _ _ r => r
  have neS : ∀ b o, s.heap.get? b = some o → b ≠ s.heap.objs.size := fun b o e => Nat.ne_of_lt (Heap.lt_size e)
  have J : Inv X pins σ H' { s with heap := G, gens := s'.gens, drawn := s'.drawn, toks := s'.toks } := by
    have bY := IY.base
    refine I.call (ch := fp) ⟨fun b o e n hb hx => gB b o (inB b o (ub.keep b o (bY.keep b o e n hb hx) (bY.free b o e n hx) hb) (neS b o e)), fun b o e n hb hx => ?_, fun b o e n hx => ?_, fun b o e hx => ?_, fun b xs e => ub.tups b xs (bY.tups b xs e), fun b o x e => ub.frzs b o x (bY.frzs b o x e), fun b ps e => ?_⟩ hokG ag (fun b hb => ⟨(hfp b hb).1.2.2.2.1, (hfp b hb).1.2.1, (hfp b hb).1.2.2.2.2.1, (hfp b hb).1.2.2.2.2.2⟩)
    · obtain ⟨sl, q⟩ := bY.slot b o e n hb hx
      obtain ⟨sl2, q2⟩ := ub.slot b _ q hb
      exact ⟨sl2, by rw [gF b hb]; exact q2⟩
    · obtain ⟨o', q⟩ := bY.there b o e hx
      exact ub.free b o' q (bY.free b o e n hx)
    · obtain ⟨o', q⟩ := bY.there b o e hx
      by_cases hb : b ∈ frs X.stack
      · obtain ⟨sl2, q2⟩ := ub.slot b _ q hb
        exact ⟨_, by rw [gF b hb]; exact q2⟩
      · obtain ⟨o2, q2⟩ := ub.there b o' q hb
        exact ⟨o2, gB b o2 (inB b o2 q2 (neS b o e))⟩
    · obtain ⟨m1, q1⟩ := bY.tbls b ps e
      obtain ⟨m2, q2⟩ := ub.tbls b _ q1
      exact ⟨m1 ++ m2, by rw [q2, Array.append_assoc]⟩
  -- passed on
  unfold PySem.passOn
  refine wpAny_bind (wpAny_field ((hb2 a neA).trans he) hd hv1 ?_)
  rw [if_neg (show ¬ ((Value.ref Tb == Value.none) = true) from by simp)]
  have fin : wpAny (model X.prog X.w) X.A (setFlight (.ref a) X.env.frame) (fun _ s4 => wpAny (model X.prog X.w) X.A (throw (.ref a) : Sem Value) (fun _ _ => False) X.xe s4) X.xe { s' with heap := h' } := by
    rw [hf]
    refine HandSPX.setFlight_anyZ k1 k3 k4 fun h2 y1 y2 y3 up2 => wpAny_throw (tk _ _ ?_)
    refine ⟨a, B', { s with heap := G, gens := s'.gens, drawn := s'.drawn, toks := s'.toks }, pins, σ, H', cls, d, rfl, J, fun b o e hb => ?_, fun b o e hnf => ?_, .inr (.inr (by rw [hs]; exact ⟨y1, noneB a x2, y2, y3⟩)), na, os.trans IY.os, ag, hE _ _ _ hEe⟩
    · obtain ⟨e1, h⟩ := og b o e
      rcases h with h | h
      · obtain ⟨o', q⟩ := Option.isSome_iff_exists.mp h
        have z := st b o' (ofB b o' q)
        rw [e1] at z; cases z
        exact q
      · exact absurd h hb
    · obtain ⟨sl, q⟩ := up1 b o (og b o e).1 hnf
      obtain ⟨sl2, q2⟩ := up2 b _ ((hb2 b (ogC b o e)).trans q) hnf
      exact ⟨sl2, q2⟩
  first
    | exact wpAny_bind (wpAny_pure (wpAny_bind fin))
    | exact wpAny_bind fin
end
end L2

/-! a list comprehension whose items may raise -/
namespace L2
open PySem PySem.Spec PyProof.Rows
section
variable {M : Model} {A : Around} {E : Value → Shared → Prop} {s : Shared} {env : Env}
/-- a comprehension, its block's environment told to the error -/
theorem compr_env {e : Expr} {scope : Scope} {pos : Pos} {newAcc first : Sem Value} {g : Comprehension} {gs : List Comprehension} {cl : List (Str × Addr)} {use : Option (Value → Sem Unit)}
    {Q : Value → Shared → Prop}
    (hcl : clausesOf e = g :: gs) (hs : ∀ x, foldedSetIterable g.iter env x = pure x) (hclos : closureFor scope env = pure cl)
    (hkind : scope.kind = .function) (hnames : ∀ x ∈ scope.names, x.2 = .local → scope.names.lookup x.1 = some .local)
    (h : wpAny M A first (fun x s₁ => wpAny M A (pyIter x) (fun it s₂ => wpAny M A newAcc (fun acc s₃ =>
      wpAny M A (newFunctionEnv scope env.globals cl [] env.qual none .none (some env)) (fun cenv s₄ =>
        codeAny M A (.compStart e 0 it acc { cenv with scope := relabel scope env }) (postX M A E use Q acc { cenv with scope := relabel scope env }) s₄) E s₃) E s₂) E s₁) E s) :
    wpAny M A (comprehension e scope env pos newAcc false first use) Q E s := by
  unfold comprehension
  rw [hclos, hcl]
  refine wpAny_bind (wpAny_mono h (fun x s₁ h₁ => wpAny_bind (wpAny_standAt (wpAny_bind (wpAny_of_eq (hs x) (wpAny_bind (wpAny_holding (wpAny_mono h₁ (fun it s₂ h₂ =>
    wpAny_standIf (wpAny_bind (wpAny_mono h₂ (fun acc s₃ h₃ => wpAny_bind (wpAny_pure (wpAny_bind (wpAny_mono h₃ (fun cenv s₄ h₄ => ?_) fun _ _ h' => h')))) fun _ _ h' => h')))
      fun _ _ h' => h'))))))) fun _ _ h' => h')
  dsimp only
  have hv : ∀ x ∈ (scope.names.filter fun x => (x.2 == .local || x.2 == .cell) && x.1 != (".0" : Str)).reverse, x.2 = .local →
      Env.kindOf { cenv with scope := relabel scope env } x.1 = some .local := fun x hx hl => lookup_relabel_local (hnames x (List.mem_filter.mp (List.mem_reverse.mp hx)).1 hl)
  have hv' : ∀ x ∈ (scope.names.filter fun x => (x.2 == .local || x.2 == .cell) && x.1 != (".0" : Str)).reverse.drop 1 ++ (scope.names.filter fun x => (x.2 == .local || x.2 == .cell) && x.1 != (".0" : Str)).reverse.take 1,
      x.2 = .local → Env.kindOf { cenv with scope := relabel scope env } x.1 = some .local := fun x hx hl => by
    rcases List.mem_append.mp hx with h1 | h1
    · exact hv x (List.mem_of_mem_drop h1) hl
    · exact hv x (List.mem_of_mem_take h1) hl
  refine wpAny_holding (wpAny_bind (wpAny_attempt (wpAny_holding (wpAny_run (codeAny_mono h₄ fun r s' hr => ?_)))))
  cases r with
  | ok f =>
    cases use with
    | none =>
      obtain ⟨m, hn, hr⟩ := hr
      exact wpAny_bind (wpAny_holding (wpAny_comp_letGo (cenv := { cenv with scope := relabel scope env }) hkind _ s' m hv hn fun h' m' _ hs' => wpAny_pure (hr h' hs')))
    | some u =>
      refine wpAny_bind (wpAny_rule (wpAny_bind (wpAny_holding (wpAny_mono hr (fun _ s'' hr' => ?_) fun _ _ h' => h'))))
      obtain ⟨m, hn, hr'⟩ := hr'
      exact wpAny_bind (wpAny_comp_letGo (cenv := { cenv with scope := relabel scope env }) hkind _ s'' m hv' hn fun h' m' _ hs' => wpAny_pure (hr' h' hs'))
  | error x =>
    obtain ⟨m, hn, hr⟩ := hr
    exact wpAny_bind (wpAny_holding (wpAny_comp_letGo (cenv := { cenv with scope := relabel scope env }) hkind _ s' m hv hn fun h' m' _ hs' => wpAny_mono (hr h' hs') (fun _ _ f => f.elim) fun _ _ y => y))
end
/-- a block whose items may raise: what leaves a call within it -/
abbrev Cx.blkE (X : Cx) (s : Shared) (H : Hp) (scope : Scope) (ce : Env) (fp : List Addr) (E : XK) : Cx :=
  (X.blk s H scope ce fp).wish fun u s' => ∃ pY σY HY sY, Inv (X.blk s H scope ce fp) pY σY HY sY ∧ CX X.prog X.w X.stack HY sY E u s'
section
variable {X : Cx}
theorem passBlk {s : Shared} {H : Hp} {scope : Scope} {ce : Env} {fp : List Addr} {E : XK} (σ : St) : PassesAt (L2.CX X.prog X.w) (X.blkE s H scope ce fp E) σ E := fun _ _ _ _ _ I c => ⟨_, _, _, _, I.unwish, c⟩
def tLcX (Wx : WX) (wi : TI) (g : TG) (tt : TT) (te : XK → TE) (vs : List Nat) : TE := fun σ H Q => tLc wi g tt (te fun cls d H' => Wx cls d σ H') vs σ H Q
theorem lc_coreX {Wx : WX} {pins : List (Addr × Obj)} {s : Shared} {σ : St} {H : Hp} {Q : VK} {elt tg iter : Expr} {ifs : List Expr} {scope : Scope} {own : List (Str × Nat)} {pos pos' : Pos} {wi : TI} {g : TG} {tt : TT} {te : XK → TE} {use : Option (Value → Sem Unit)} {Qf : Value → Shared → Prop}
    (hst : X.stack = X.env :: X.outer) (hfr : X.env.frame = some X.env.locals) (tk : Takes X Wx)
    (hc : X.calm = true) (hN : X.N.Nodup) (I : Inv X pins σ H s) (hi : PI X tg iter wi) (ok : BlkOk X.N X.env.scope scope own)
    (hg : ∀ (s : Shared) (H : Hp) (C : Addr) (cl : List (Str × Addr)) (fp : List Addr), PG (X.blk s H scope (compEnvC scope cl C X.env) fp) tg g) (ht : ∀ (s : Shared) (H : Hp) (C : Addr) (cl : List (Str × Addr)) (fp : List Addr), PTs (X.blk s H scope (compEnvC scope cl C X.env) fp) ifs tt)
    (he : ∀ (s : Shared) (H : Hp) (C : Addr) (cl : List (Str × Addr)) (fp : List Addr) (E : XK), PE (X.blkE s H scope (compEnvC scope cl C X.env) fp E) elt (te E)) (hs : ∀ x, foldedSetIterable iter X.env x = pure x)
    (h : tLcX Wx wi g tt te (own.map (·.2)) σ H Q)
    (hRR : ∀ D C s' m H', Inv X pins σ H' s' → Q (.ref D) H' → s'.heap.Ns C m → FpOk X pins H' C → compPost (model X.prog X.w) X.A X.xe use Qf (.ref D) C (.ok .next) s') :
    wpAny (model X.prog X.w) X.A (comprehension (.ListComp elt [⟨tg, iter, ifs, 0⟩] scope pos) scope X.env pos' (newList []) false (eval iter X.env) use) Qf X.xe s := by
  have hfree : ∀ y ∈ scope.names, y.2 = .free → ∃ c, X.env.cells.lookup y.1 = some c := fun y hy e => by
    rcases ok.free y hy e with k | k
    · exact I.ok.has _ (.inl k)
    · exact I.ok.has _ (.inr k)
  refine compr_env (use := use) rfl hs (closure_ok hfree) ok.kind (fun y hy e => by rw [ok.uniq y hy, e])
    (thn (hi.run pins s σ H _ I h) fun xv s1 hx => thn hx fun itv s2 h2 => ?_)
  obtain ⟨it, fp, tn, J, H2, e, I2, T, st2, f2, q⟩ := h2
  subst e
  refine wpAny_newObj_type (newEnv_comp ?_) (by show 0 ≤ sizeLine; decide)
  generalize hD : s2.heap.objs.size = D
  have hDn : H2 D = none := I2.hok.fresh (Nat.le_of_eq hD)
  obtain ⟨W, ⟨m0, w0⟩, turn⟩ := q D hDn
  -- the new list
  generalize hs3 : ({ s2 with heap := s2.heap.push { cls := .type "list", data := .seq ([] : List Value).toArray } } : Shared) = s3
  have I3 : Inv X pins σ (upd H2 D (.lst [])) s3 := by
    rw [← hs3]
    refine I2.laid (t' := s2.toks) (fun b o e => Heap.get?_push_of_some _ e) (Nat.le_of_eq hD) ⟨Nat.zero_le _, [], 0, .nil, ?_⟩
    rw [← hD]
    exact Heap.get?_push_size _ rfl
  have h3 : s3.heap = s2.heap.push { cls := .type "list", data := .seq ([] : List Value).toArray } := by rw [← hs3]
  have sz : ∀ b ∈ fp, b < s2.heap.objs.size := fun b hb => by
    obtain ⟨o, e, _⟩ := T.obj _ _ st2 b hb
    exact Heap.lt_size e
  have f3 : ∀ b ∈ fp, FpOk X pins (upd H2 D (.lst [])) b ∧ b < s3.heap.objs.size := fun b hb => by
    have hlt := sz b hb
    refine ⟨⟨?_, (f2 b hb).2⟩, by rw [h3, Heap.size_push]; exact Nat.lt_succ_of_lt hlt⟩
    rw [upd_ne (by rw [← hD]; exact Nat.ne_of_lt hlt)]
    exact (f2 b hb).1
  have st3 : tn 0 s3.heap := T.keep _ _ _ st2 fun b _ o e => by rw [h3]; exact Heap.get?_push_of_some _ e
  have I4 := block_start I3 ok hN f3
  have pg := hg s3 (upd H2 D (.lst [])) s3.heap.objs.size (cellsFrom (s3.heap.objs.size + 1) scope.names (cloFrom X.env.cells scope.names [])) fp
  have pt := ht s3 (upd H2 D (.lst [])) s3.heap.objs.size (cellsFrom (s3.heap.objs.size + 1) scope.names (cloFrom X.env.cells scope.names [])) fp
  have pe := he s3 (upd H2 D (.lst [])) s3.heap.objs.size (cellsFrom (s3.heap.objs.size + 1) scope.names (cloFrom X.env.cells scope.names [])) fp fun cls d H' => Wx cls d σ H'
  have lv : ∀ {HY : Hp} {sY s' : Shared} {u : Value} {pY : List (Addr × Obj)} {σY : St}, Inv (X.blk s3 (upd H2 D (.lst [])) scope (compEnvC scope (cellsFrom (s3.heap.objs.size + 1) scope.names (cloFrom X.env.cells scope.names [])) s3.heap.objs.size X.env) fp) pY σY HY sY →
      CX X.prog X.w X.stack HY sY (fun cls d H' => Wx cls d σ H') u s' →
      notedBy (model X.prog X.w) X.A (compEnvC scope (cellsFrom (s3.heap.objs.size + 1) scope.names (cloFrom X.env.cells scope.names [])) s3.heap.objs.size X.env) (fun e s' => postX (model X.prog X.w) X.A X.xe use Qf (.ref D) (compEnvC scope (cellsFrom (s3.heap.objs.size + 1) scope.names (cloFrom X.env.cells scope.names [])) s3.heap.objs.size X.env) (.error e) s') u s' := fun IY c => by
    exact blk_leaves hst hfr tk I3 f3 IY (fun _ _ _ h => h) c
  show codeAny _ _ (.compStart (.ListComp elt [⟨tg, iter, ifs, 0⟩] scope pos) 0 (.ref it) (.ref D) (compEnvC scope (cellsFrom (s3.heap.objs.size + 1) scope.names (cloFrom X.env.cells scope.names [])) s3.heap.objs.size X.env)) (postX (model X.prog X.w) X.A X.xe use Qf (.ref D) (compEnvC scope (cellsFrom (s3.heap.objs.size + 1) scope.names (cloFrom X.env.cells scope.names [])) s3.heap.objs.size X.env)) { s3 with heap := pushCells (s3.heap.push { cls := .type "dict", data := .dict #[] }) scope.names }
  have nfp : ∀ b ∈ fp, (upd H2 D (.lst [])) b = none := fun b hb => (f3 b hb).1.1
  generalize hce : compEnvC scope (cellsFrom (s3.heap.objs.size + 1) scope.names (cloFrom X.env.cells scope.names [])) s3.heap.objs.size X.env = ce at I4 pg pt pe lv ⊢
  have cL : ce.locals = s3.heap.objs.size := by subst hce; rfl
  generalize hH3 : upd H2 D (.lst []) = H3 at I3 I4 pg pt pe lv w0 nfp f3
  generalize hs4 : ({ s3 with heap := pushCells (s3.heap.push { cls := .type "dict", data := .dict #[] }) scope.names } : Shared) = s4 at I4 ⊢
  have st4 : tn 0 s4.heap := T.keep _ _ _ st3 fun b _ o e => by rw [← hs4]; exact pushCells_keeps _ _ _ _ (Heap.get?_push_of_some _ e)
  have stat : ∀ {σ' : St} {H' : Hp} {s' : Shared}, Inv (X.blk s3 H3 scope ce fp) [] σ' H' s' → (∀ b ∈ fp, H' b = none) → ∀ b ∈ fp, FpOk (X.blk s3 H3 scope ce fp) [] H' b := fun {σ' H' s'} I' hn b hb =>
    ⟨hn b hb, (I'.ok.exf b hb).1, I'.ok.exfs b hb, .inl hb, fun x c e => (I'.ok.exf b hb).2 x c e, fun p hp => absurd (show p ∈ ([] : List (Addr × Obj)) ++ [] from hp) (by simp)⟩
  have loop : codeAny (model X.prog X.w) X.A (.compLoop (.ListComp elt [⟨tg, iter, ifs, 0⟩] scope pos) 0 (.ref it) (.ref D) ce) (postX (model X.prog X.w) X.A X.xe use Qf (.ref D) ce) s4 := by
    refine compLoop_any (fun n s' => ∃ i H', Inv (X.blk s3 H3 scope ce fp) [] (wipe σ (own.map (·.2))) H' s' ∧ tn i s'.heap ∧ (∀ b ∈ fp, H' b = none) ∧ W i n H') ?_ m0 ⟨0, H3, I4, st4, nfp, w0⟩
    rintro n s5 ⟨i, H5, I5, st5, n5, w5⟩
    rcases turn i n H5 w5 with ⟨stop, qq⟩ | ⟨go, Nx, hNx, step⟩
    · have td := T.done (X.blk s3 H3 scope ce fp) rfl rfl rfl hc i [] s5 _ H5 (fun _ _ => False) I5 (stat I5 n5) st5 stop
      refine thnF td fun r s6 ⟨hr, I6⟩ => ?_
      subst hr
      -- back in the def's context
      have I7 : Inv X pins σ H5 s6 := I3.call' (ch := fp) I6.os I6.base I6.hok I6.bare fun b hb => ⟨(f3 b hb).1.2.2.2.1, (f3 b hb).1.2.1, (f3 b hb).1.2.2.2.2.1, (f3 b hb).1.2.2.2.2.2⟩
      have nC : H5 s3.heap.objs.size = none := by
        have z : H5 ce.locals = none := I6.free
        rw [cL] at z
        exact z
      obtain ⟨m, hn, _⟩ := I6.loc
      have hn : s6.heap.Ns ce.locals m := hn
      rw [cL] at hn
      show compPost _ _ _ _ _ _ ce.locals _ _
      rw [cL]
      exact hRR D s3.heap.objs.size s6 m H5 I7 qq hn (I3.fpOk (Nat.le_refl _) nC)
    · have ti := T.item (X.blk s3 H3 scope ce fp) rfl rfl rfl hc i [] s5 _ H5 (fun _ _ => False) I5 (stat I5 n5) st5 go
      refine thnF ti fun r s6 ⟨u, hr, h6⟩ => ?_
      subst hr
      refine thnF h6 fun _ s7 ⟨x, H7, I7, r7, y7, st7, n7⟩ => ?_
      have I7' := I7.pinned (stat I7 n7) (T.obj _ _ st7)
      refine thnF (pg.run _ s7 _ H7 x u _ I7' r7 (step x H7 y7)) fun _ s8 ⟨σ8, H8, I8, hw8, q8⟩ => ?_
      refine thnF (pt.run _ s8 σ8 H8 _ I8 q8) fun b s9 ⟨H9, I9, q9⟩ => ?_
      -- the turn's end
      have fin : ∀ {s' : Shared} {H' : Hp}, Inv (X.blk s3 H3 scope ce fp) ([] ++ pinsAt fp s7.heap) σ8 H' s' → Nx H' → ∃ m, m < n ∧ ∃ i H', Inv (X.blk s3 H3 scope ce fp) [] (wipe σ (own.map (·.2))) H' s' ∧ tn i s'.heap ∧ (∀ b ∈ fp, H' b = none) ∧ W i m H' := fun {s' H'} I' nx => by
        obtain ⟨m', hm, w'⟩ := hNx H' nx
        have pin' : ∀ b ∈ fp, ∀ o, s7.heap.get? b = some o → s'.heap.get? b = some o ∧ H' b = none := fun b hb o e =>
          let z := I'.pin (b, o) (List.mem_append_right _ (List.mem_append_right _ (mem_pinsAt hb e)))
          ⟨z.1, z.2.1⟩
        have hl : (wipe σ (own.map (·.2))).length = σ8.length := by rw [← hw8, wipe_length]
        refine ⟨m', hm, i + 1, H', (I'.unpinned (pins := [])).weak hl (fun j v e => ?_), T.keep _ _ _ st7 fun b hb o e => (pin' b hb o e).1, fun b hb => ?_, w'⟩
        · rw [← hw8] at e
          exact (wipe_some e).1
        · obtain ⟨o, e, _⟩ := T.obj _ _ st7 b hb
          exact (pin' b hb o e).2
      cases b with
      | false =>
        simp only [Bool.false_eq_true, if_false] at q9 ⊢
        exact fin I9 q9
      | true =>
        simp only [if_true] at q9 ⊢
        refine wpAny_mono (pe.run _ s9 σ8 H9 _ (I9.wish _) q9) (fun z s10 ⟨yv, H10, I10, r10, acc, hD10, hz10, nx⟩ => ?_) (fun u s' ⟨_, _, _, _, IY, c⟩ => lv IY c)
        exact app_ok (X := X.blk s3 H3 scope ce fp) I10.unwish hD10 hz10 r10 fun s11 I11 => fin I11 nx
  exact codeAny_compStart_list loop (T.self X.A 0 _ _ _ st4 loop)
/-- name = [..], the items may raise -/
theorem ps_setLcX {Wx : WX} {i : Nat} {y : Str} {py : Pos} {elt tg iter : Expr} {ifs : List Expr} {scope : Scope} {own : List (Str × Nat)} {pos spos : Pos} {wi : TI} {g : TG} {tt : TT} {te : XK → TE}
    (hst : X.stack = X.env :: X.outer) (hfr : X.env.frame = some X.env.locals) (tk : Takes X Wx) (hc : X.calm = true) (hN : X.N.Nodup) (hy : X.N[i]? = some y) (hyl : X.env.scope.names.lookup y = some .local)
    (hsw : swapsWith (.ListComp elt [⟨tg, iter, ifs, 0⟩] scope pos) (some (.Name y py)) spos.line X.env = pure true) (hi : PI X tg iter wi) (ok : BlkOk X.N X.env.scope scope own)
    (hg : ∀ (s : Shared) (H : Hp) (C : Addr) (cl : List (Str × Addr)) (fp : List Addr), PG (X.blk s H scope (compEnvC scope cl C X.env) fp) tg g) (ht : ∀ (s : Shared) (H : Hp) (C : Addr) (cl : List (Str × Addr)) (fp : List Addr), PTs (X.blk s H scope (compEnvC scope cl C X.env) fp) ifs tt)
    (he : ∀ (s : Shared) (H : Hp) (C : Addr) (cl : List (Str × Addr)) (fp : List Addr) (E : XK), PE (X.blkE s H scope (compEnvC scope cl C X.env) fp E) elt (te E)) (hs : ∀ x, foldedSetIterable iter X.env x = pure x := by intro _; rfl) :
    PS X (.Assign [.Name y py] (.ListComp elt [⟨tg, iter, ifs, 0⟩] scope pos) spos) (tAsg (tLcX Wx wi g tt te (own.map (·.2))) (gName i)) := by
  refine ⟨fun pins s σ H D I h => ?_⟩
  rw [exec_Assign_Name_used _ _ _ _ hsw]
  refine wpAny_bind (wpAny_standAt (wpAny_bind ?_))
  show wpAny _ X.A (do let _ ← comprehension (.ListComp elt [⟨tg, iter, ifs, 0⟩] scope pos) scope X.env (firstIterPos [⟨tg, iter, ifs, 0⟩] pos) (newList []) false (eval iter X.env) (some (assign (.Name y py) X.env))) _ _ s
  have h : tLcX Wx wi g tt te (own.map (·.2)) σ H (fun x H1 => gName i x σ H1 D.nx) := h
  refine wpAny_bind (thn (lc_coreX (Qf := fun _ s' => SP X pins D .next s') hst hfr tk hc hN I hi ok hg ht he hs h fun L C s' m H' I' q hn f => ?_) fun _ s' hq => wpAny_pure (wpAny_pure hq))
  show wpAny _ _ (assign (.Name y py) X.env (.ref L)) _ _ _
  refine wpAny_assign_Name (store_ok2 (v := V.ref L) I' hN hy (.inl hyl) rfl (fun s2 I2 ⟨a, sb, ha⟩ => ?_) (.inr hyl))
  obtain ⟨f0, f1, f2, f3, f4, f5⟩ := f
  have haC : C ≠ a := by
    rcases ha with z | z
    · rw [z]; exact f1
    · exact fun e => f4 y a z e.symm
  refine ⟨m, hn.sameBut sb haC, fun h3 sb3 => ?_⟩
  exact ⟨_, H', I2.turned (t' := s2.toks) (fun b o hb e => (sb3.2 b hb).trans e) f0 f1 f3 f4 f5, q⟩
end
end L2

/-! the same, in our values; a locked dict that an exception leaves -/
namespace L2
open PySem PySem.Spec PyProof.Rows
def tLockX (Wx : WX) (t : WX → TS) : TS := fun D σ H => ∃ d u, H d = some u ∧ Mut (some u) ∧ ∀ od, t (fun cls dd σ' H' => H' d = some (.frz od u) ∧ Wx cls dd σ' (upd H' d u)) ⟨fun σ' H' => H' d = some (.frz od u) ∧ D.nx σ' (upd H' d u), fun v H' => H' d = some (.frz od u) ∧ D.rt v (upd H' d u), fun σ' H' => H' d = some (.frz od u) ∧ D.bk σ' (upd H' d u), fun σ' H' => H' d = some (.frz od u) ∧ D.ct σ' (upd H' d u)⟩ σ (upd H d (.frz od u))
variable {X : Cx}
theorem Takes.unlock {Wx : WX} {d : Addr} {od : Obj} {u : HO} (tk : Takes X Wx) (hn : ∀ o' u', X.H_0 d ≠ some (.frz o' u')) : Takes X (fun cls dd σ' H' => H' d = some (.frz od u) ∧ Wx cls dd σ' (upd H' d u)) := by
  rintro v s' ⟨a, B, sI, pins, σ, H, cls, dd, e, I, nb, up, sky, na, os, ag, eH, w⟩
  refine tk v s' ⟨a, B, sI, pins, σ, _, cls, dd, e, I.unlock eH hn, nb, up, sky, ?_, os, ag, w⟩
  rw [upd_ne (fun z => by rw [z, eH] at na; cases na)]
  exact na
theorem ps_lockX {Wx : WX} {st : Stmt} {t : WX → TS} (tk : Takes X Wx) (h : ∀ Wl, Takes X Wl → PS X st (t Wl)) : PS X st (tLockX Wx t) := by
  refine ⟨fun pins s σ H D I hw => ?_⟩
  obtain ⟨d, u, hd, mu, hw⟩ := hw
  obtain ⟨od, I1⟩ := I.lock hd mu
  refine thn ((h _ (tk.unlock (I.nofrz hd mu))).run pins s σ _ _ I1 (hw od)) fun f s1 q => ?_
  cases f with
  | next => obtain ⟨σ', H', I2, e, q⟩ := q; exact ⟨σ', _, I2.unlock e (I.nofrz hd mu), q⟩
  | brk => obtain ⟨σ', H', I2, e, q⟩ := q; exact ⟨σ', _, I2.unlock e (I.nofrz hd mu), q⟩
  | cont => obtain ⟨σ', H', I2, e, q⟩ := q; exact ⟨σ', _, I2.unlock e (I.nofrz hd mu), q⟩
  | ret v => obtain ⟨x, σ', H', I2, r, e, q⟩ := q; exact ⟨x, σ', _, I2.unlock e (I.nofrz hd mu), r, q⟩
end L2
namespace T3
open PySem PySem.Spec PyProof.Rows L2
variable {X : Cx} {Wx : WX}
def lockX3 (t : TS3) : TS3 := fun D σ G => ∃ d kvs l r, G = l ++ (d, .dict kvs) :: r ∧ detK kvs ∧ ∀ od, t
  { nx := fun σ' G' => ∃ G2, Put d (.lck od kvs) (.dict kvs) G' G2 ∧ D.nx σ' G2, rt := fun v G' => ∃ G2, Put d (.lck od kvs) (.dict kvs) G' G2 ∧ D.rt v G2,
    bk := fun σ' G' => ∃ G2, Put d (.lck od kvs) (.dict kvs) G' G2 ∧ D.bk σ' G2, ct := fun σ' G' => ∃ G2, Put d (.lck od kvs) (.dict kvs) G' G2 ∧ D.ct σ' G2, ex := fun C σ' G' => ∃ G2, Put d (.lck od kvs) (.dict kvs) G' G2 ∧ D.ex C σ' G2 } σ (l ++ (d, .lck od kvs) :: r)
theorem s_lockX {st : Stmt} {t : TS3} (tk : Takes X Wx) (h : ∀ Wl, Takes X Wl → PS X st (lowS X.K Wl t)) : PS X st (lowS X.K Wx (lockX3 t)) := by
  refine (ps_lockX (t := fun Wl => lowS X.K Wl t) tk h).imp3 ?_
  rintro D σ H ⟨σ3, W, G, D3, R, S, ⟨d, kvs, l, r, rfl, hk, h⟩, k⟩
  obtain ⟨vs, e1, rk⟩ := S.ob d _ (put_mid (o' := .dict kvs)).mem
  refine ⟨d, .dK vs, e1, trivial, fun od => ?_⟩
  refine ⟨σ3, W, _, _, R, S.put (o' := .lck od kvs) put_mid ⟨vs, upd_same, rk⟩, h od, ?_⟩
  refine ⟨⟨fun W1 σ1 G1 σ' H1 l1 R1 S1 h1 => ?_⟩, ⟨fun W1 v G1 v' H1 l1 S1 r1 h1 => ?_⟩, ⟨fun W1 σ1 G1 σ' H1 l1 R1 S1 h1 => ?_⟩, ⟨fun W1 σ1 G1 σ' H1 l1 R1 S1 h1 => ?_⟩, ⟨fun C W1 σ1 G1 σ' H1 l1 R1 S1 h1 => ?_⟩⟩
  all_goals
    obtain ⟨G2, p, h2⟩ := h1
    obtain ⟨e2, S2⟩ := unlock hk rk S1 p
    refine ⟨e2, ?_⟩
  · exact k.nx.run _ _ _ _ _ l1 R1 S2 h2
  · exact k.rt.run _ _ _ _ _ l1 S2 r1 h2
  · exact k.bk.run _ _ _ _ _ l1 R1 S2 h2
  · exact k.ct.run _ _ _ _ _ l1 R1 S2 h2
  · exact k.ex.run _ _ _ _ _ _ l1 R1 S2 h2
/-- [elt for .. in ..], a list of one's own: P by the turn, the new list's place and the things; the items may raise (what is new then may be forgotten) -/
def lcX3 (K : PySem.W.Frag) (src : TI3) (g : TL3) (te : TE3) (vs : List Nat) : TE3 := fun σ G Q E => src σ G (fun xs Std G1 => ∃ Pv : Nat → Addr → G3 → Prop, (∀ k p G', Pv k p G' → Std G') ∧ (∀ p, Pv 0 p ((p, .lst []) :: G1)) ∧
  (∀ k d p G', xs[k]? = some d → Pv k p G' → match g d (wipe3 σ vs) with
    | some σ' => te σ' G' (fun y G3 => ∃ acc G4, Put p (.lst acc) (.lst (acc ++ [y])) G3 G4 ∧ acc.length < sizeLine ∧ Pv (k + 1) p G4) (fun C _ G2 => Up K (E C) σ G2)
    | none => False) ∧ ∀ p G', Pv xs.length p G' → Q (.ref p) G') E
/-- the wish of the block -/
abbrev WxE (E : XK) : WX := fun cls d _ H => E cls d H
theorem low_lcX {K : PySem.W.Frag} {src : TI3} {g : TG} {g3 : TL3} {te : TE3} {vs : List Nat} {σ : L2.St} {H : Hp} {Q : VK} (hg : TlOk K vs g g3) :
    lowE K Wx (lcX3 K src g3 te vs) σ H Q → tLcX Wx (lowI K Wx src) g tYes (fun E => lowE K (WxE E) te) vs σ H Q := by
  rintro ⟨σ3, W, G, Q3, E3, R, S, h, q, e⟩
  refine ⟨σ3, W, G, _, E3, R, S, h, e, fun W1 xs Std G1 J H1 l1 S1 h1 w => ?_⟩
  intro Dl hD
  obtain ⟨Pv, hstd, h0, turn, h1⟩ := h1
  refine ⟨fun k m H' => m = xs.length - k ∧ k ≤ xs.length ∧ ∃ W' G', W1.le W' ∧ Sim K W' G' H' ∧ Pv k Dl G', ⟨xs.length, by simp, Nat.zero_le _, W1, _, .refl _, S1.newO (o := .lst []) hD ⟨[], upd_same, rfl⟩, h0 Dl⟩, ?_⟩
  rintro k m H' ⟨rfl, hk, W', G', l', S', p'⟩
  by_cases hlt : k < xs.length
  · refine .inr ⟨w.goes k W' _ H' l' S' (hstd _ _ _ p') hlt, fun H'' => ∃ W'' G'', W1.le W'' ∧ Sim K W'' G'' H'' ∧ Pv (k + 1) Dl G'', fun H'' p' => ⟨xs.length - (k + 1), by omega, rfl, hlt, p'⟩, fun x H'' y => ?_⟩
    obtain ⟨W2, d, l2, hd, S2, r2⟩ := w.yields k W' _ H' x H'' l' S' (hstd _ _ _ p') hlt y
    have t := turn k d Dl G' hd p'
    cases hg3 : g3 d (wipe3 σ3 vs) with
    | none => rw [hg3] at t; exact t.elim
    | some σ4 =>
      rw [hg3] at t
      have RW : RepS W2 (wipe3 σ3 vs) (wipe σ vs) := (R.mono (l1.trans (l'.trans l2))).wipe vs
      refine hg W2 d x (wipe3 σ3 vs) σ _ H'' σ4 _ RW S2 r2 hg3 fun σ' R' hw => ⟨hw, ?_⟩
      unfold tYes
      simp only [if_true]
      refine ⟨σ4, W2, _, _, _, R', S2, t, ⟨fun W4 y G3 y' H4 l4 S4 r4 h4 => ?_⟩, ⟨fun C W4 σ5 G4 σ6 H4 l4 R5 S4 h4 => ?_⟩⟩
      · obtain ⟨acc, G4, pt, hz, hp⟩ := h4
        obtain ⟨us, e4, q4⟩ := S4.ob _ _ pt.mem
        refine ⟨us, e4, by rw [← q4.length]; exact hz, W4, G4, l'.trans (l2.trans l4), ?_, hp⟩
        exact S4.put (o' := .lst (acc ++ [y])) pt ⟨_, upd_same, q4.append (RlL.one r4)⟩
      · have l5 := l1.trans (l'.trans (l2.trans l4))
        obtain ⟨σ9, G9, wk, h9⟩ := h4
        obtain ⟨W9, l9, R9, S9⟩ := wk _ _ _ (R.mono l5) S4
        exact e.run C W9 σ9 G9 σ H4 (l5.trans l9) R9 S9 h9
  · have e : k = xs.length := by omega
    subst e
    refine .inl ⟨w.stops W' _ H' l' S' (hstd _ _ _ p'), ?_⟩
    exact q.run _ (.ref Dl) _ _ _ (l1.trans l') S' rfl (h1 Dl _ p')
theorem s_lcX {st : Stmt} {src : TI3} {g : TG} {g3 : TL3} {te : TE3} {vs : List Nat} {i : Nat} (h : PS X st (tAsg (tLcX Wx (lowI X.K Wx src) g tYes (fun E => lowE X.K (WxE E) te) vs) (gName i))) (hg : TlOk X.K vs g g3) : PS X st (lowS X.K Wx (asg3 (lcX3 X.K src g3 te vs) (name3 i))) := s_asg (asg_imp h fun _ _ _ => low_lcX hg)
section
variable {k : Nat} {fa C : Addr} {fd : FuncData} {ps : List Str} {sp : Sp3} {x : Str} {e : Expr} {es : List Expr} {tr : TA3} {p pos : Pos}
/-- a field, within a block -/
theorem e_fldK {K : PySem.W.Frag} {o : Expr} {f : Str} {ta : TE3} {pos : Pos} (hK : X.K = K) (ho : PE X o (lowE X.K Wx ta)) (hb : attributeBase o f X.env (eval o X.env) = eval o X.env := by rfl) : PE X (.Attribute o f pos) (lowE X.K Wx (fld3 K f ta)) := by
  subst hK
  exact e_fld ho hb
/-- a call within such a block -/
theorem e_fnX {E : XK} (hp : ∀ σ, PassesAt (L2.CX X.prog X.w) X σ E) (F : FnOk X.prog X.w X.K X.mg X.base (L2.CX X.prog X.w) k fa fd ps (lowSp X.K sp)) (hr : Room k X.A) (hg : Gl X x) (hm : X.mg x = some (.ref fa)) (hk : PySem.W.keepIn X.K (.ref fa) = true) (hb : Binds X.K fd ps [])
    (ha : PA X (e :: es) (lowA X.K (WxE E) tr)) (hdb : (x == ("__debug__" : Str)) = false := by decide) (he : starEach (e :: es) X.env = (false, eval e X.env) :: starEach es X.env := by rfl) (hpl : (backTo pos (starEach es X.env)).any (·.1) = false := by rfl) :
    PE X (.Call (.Name x p) (e :: es) [] pos) (lowE X.K (WxE E) (fn3 sp tr)) :=
  (pe_callS (E := WE (WxE E)) F hr hg hm hk hb hp ha hdb he hpl).imp3 fun _ _ _ => low_fn
end
end T3

/-! zip(d.values(), list): the texts follow the library's, whose zip walks two lists -/
namespace ZV
open PySem
open PySem.Sem (wp)
section
variable {prog : Program} {w : World} {K : Type} [DecidableEq K] {knd : KeyKind prog w K} {A : Around} {E : Value → Shared → Prop} {s : Shared}
theorem nextOf_val_item {it d : Addr} {i ep : Nat} {kvs : List (K × Value)} {k : K} {v : Value} {Q : Value → Shared → Prop} (hit : s.heap.IsValIter it d i kvs.length ep)
    (hm : s.heap.DictAt knd d kvs ep) (hx : kvs[i]? = some (k, v))
    (hQ : ∀ h', h'.IsValIter it d (i + 1) kvs.length ep → Heap.SameBut it s.heap h' → Q v { s with heap := h' }) :
    wpAny (model prog w) A (Builtin.SmallTypes.nextOf (.ref it)) Q E s := by
  obtain ⟨o, ho, hc, hd⟩ := id hit
  obtain ⟨od, es, hod, hcd, hdd, hk, hp, hn⟩ := id hm
  unfold Builtin.SmallTypes.nextOf
  refine wpAny_bind ((wpAny_callSpecial?_slot (name := Str.ofString "__next__") hit.typeIs F.slot_dict_valueiterator_next
    (wpAny_call_entry F.slot_dict_valueiterator_next hit.typeIs F.entry_dict_valueiterator_next ?_ (F.args_dict_valueiterator_next_1 _))))
  refine wpAny_bind (wpAny_pure ?_)
  refine wpAny_bind ?_
  refine wpAny_bind ?_
  first | refine wpAny_bind (wpAny_typeNameOfWhole_valiter hit.typeIs (wpAny_pure ?_)) | refine wpAny_bind (wpAny_typeNameOf_valiter hit.typeIs (wpAny_pure ?_))
  refine wpAny_bind (wpAny_fieldsOf ho hd ?_)
  have hown : Builtin.Dict_items.ownsTuple "dict_valueiterator" = false := by decide
  simp only [hown, Bool.false_eq_true, if_false]
  show wpAny _ _ (if (Value.ref d == Value.none) = true then _ else _) _ _ s
  rw [if_neg (show ¬ ((Value.ref d == Value.none) = true) from Bool.false_ne_true)]
  refine wpAny_bind (wpAny_pure ?_)
  refine wpAny_bind (wpAny_dictEntries hod hdd ?_)
  have hsz : es.size = kvs.length := by rw [← hp.length]; simp
  rw [if_neg (by rw [hsz]; simp)]
  refine wpAny_bind (wpAny_pure ?_)
  refine wpAny_bind (wpAny_dictEpoch hod hdd ?_)
  rw [if_neg (by simp)]
  refine wpAny_pure ?_

  have hlt : i < kvs.length := by
    rcases Nat.lt_or_ge i kvs.length with h | h
    · exact h
    · simp [List.getElem?_eq_none h] at hx
  have hlt' : i < es.size := by rw [hsz]; exact hlt
  have hval : es[i].val = v := (hp.get? (e := es[i]) (by simp [hlt']) hx).2
  simp only [show ¬ ((i : Int) < 0) from by omega, if_false, Int.toNat_natCast, Array.getElem?_eq_getElem hlt']
  refine wpAny_bind ?_
  first | refine wpAny_bind (wpAny_typeNameOfWhole_valiter hit.typeIs (wpAny_pure ?_)) | refine wpAny_bind (wpAny_typeNameOf_valiter hit.typeIs (wpAny_pure ?_))
  refine wpAny_bind (wpAny_isOneOf_valiter hit.typeIs ?_)
  show wpAny _ _ (setField (.ref it) 1 (rawInt ((i : Int) + 1)) >>= _) _ _ s
  refine wpAny_bind (wpAny_setField ho hd (by simp) ?_)
  have hit' : (s.heap.update it (Obj.mapFields (·.setIfInBounds 1 (rawInt ((i : Int) + 1))))).IsValIter it d (i + 1) kvs.length ep :=
    ⟨_, Heap.get?_update_self _ ho (Obj.isFreed_of_fields (Obj.data_mapFields hd _)), (Obj.cls_mapFields ..).trans hc, by rw [Obj.data_mapFields hd]; simp [rawInt]⟩
  refine wpAny_bind (wpAny_holding ?_)
  refine wpAny_bind (wpAny_isOneOf_valiter (s := { s with heap := s.heap.update it (Obj.mapFields (·.setIfInBounds 1 (rawInt ((i : Int) + 1)))) }) hit'.typeIs ?_)
  refine wpAny_bind (wpAny_isOneOf_valiter (s := { s with heap := s.heap.update it (Obj.mapFields (·.setIfInBounds 1 (rawInt ((i : Int) + 1)))) }) hit'.typeIs ?_)
  show wpAny _ _ (pure es[i].val) _ _ _
  exact wpAny_pure (wpAny_pure ⟨_, rfl, wpAny_pure (hval ▸ hQ _ hit' (Heap.SameBut.update ..))⟩)

theorem nextOf_val_end {it d : Addr} {i ep : Nat} {kvs : List (K × Value)} {Q : Value → Shared → Prop} (hh : A.handled = none) (hit : s.heap.IsValIter it d i kvs.length ep)
    (hm : s.heap.DictAt knd d kvs ep) (hx : kvs[i]? = none)
    (hE : ∀ h' e, Heap.ExtBut it s.heap h' → (∃ o, h'.get? e = some o ∧ o.cls = .type "StopIteration") → E (.ref e) { s with heap := h' }) : wpAny (model prog w) A (Builtin.SmallTypes.nextOf (.ref it)) Q E s := by
  obtain ⟨o, ho, hc, hd⟩ := id hit
  obtain ⟨od, es, hod, hcd, hdd, hk, hp, hn⟩ := id hm
  unfold Builtin.SmallTypes.nextOf
  refine wpAny_bind ((wpAny_callSpecial?_slot (name := Str.ofString "__next__") hit.typeIs F.slot_dict_valueiterator_next
    (wpAny_call_entry F.slot_dict_valueiterator_next hit.typeIs F.entry_dict_valueiterator_next ?_ (F.args_dict_valueiterator_next_1 _))))
  refine wpAny_bind (wpAny_pure ?_)
  refine wpAny_bind ?_
  refine wpAny_bind ?_
  first | refine wpAny_bind (wpAny_typeNameOfWhole_valiter hit.typeIs (wpAny_pure ?_)) | refine wpAny_bind (wpAny_typeNameOf_valiter hit.typeIs (wpAny_pure ?_))
  refine wpAny_bind (wpAny_fieldsOf ho hd ?_)
  have hown : Builtin.Dict_items.ownsTuple "dict_valueiterator" = false := by decide
  simp only [hown, Bool.false_eq_true, if_false]
  show wpAny _ _ (if (Value.ref d == Value.none) = true then _ else _) _ _ s
  rw [if_neg (show ¬ ((Value.ref d == Value.none) = true) from Bool.false_ne_true)]
  refine wpAny_bind (wpAny_pure ?_)
  refine wpAny_bind (wpAny_dictEntries hod hdd ?_)
  have hsz : es.size = kvs.length := by rw [← hp.length]; simp
  rw [if_neg (by rw [hsz]; simp)]
  refine wpAny_bind (wpAny_pure ?_)
  refine wpAny_bind (wpAny_dictEpoch hod hdd ?_)
  rw [if_neg (by simp)]
  refine wpAny_pure ?_
  have hge : es.size ≤ i := by rw [hsz]; simpa using hx
  simp only [show ¬ ((i : Int) < 0) from by omega, if_false, Int.toNat_natCast, Array.getElem?_eq_none hge]
  refine wpAny_bind ?_
  first | refine wpAny_bind (wpAny_typeNameOfWhole_valiter hit.typeIs (wpAny_pure ?_)) | refine wpAny_bind (wpAny_typeNameOf_valiter hit.typeIs (wpAny_pure ?_))
  show wpAny _ _ (setField (.ref it) 0 .none >>= _) _ _ s
  refine wpAny_bind (wpAny_setField ho hd (by simp) ?_)
  show wpAny _ _ (newExc (.type "StopIteration") [] >>= _) _ _ _
  refine wpAny_bind ?_
  simp only [newExc, newTuple]
  refine wpAny_bind (wpAny_newObj_type ?_ (by size_fits))
  refine wpAny_bind (m := firstArgMember _ _) (wpAny_of_eq (a := Value.none) (by first | rfl | (simp only [firstArgMember]; rfl)) ?_)
  refine wpAny_newObj_type ?_ (by size_fits)
  simp only [raiseNew]
  refine wpAny_bind (wpAny_handled ?_)
  first | rw [show A.in1.handled = none from hh] | rw [hh]
  refine wpAny_bind (wpAny_pure (wpAny_throw ?_))
  exact hE _ _ (((Heap.SameBut.update ..).extBut.push _).push _) ⟨_, Heap.get?_push_size _ rfl, rfl⟩

theorem zipV_next_item {z TI TO i1 i2 l1 l2 : Addr} {k1 k2 ep : Nat} {xs : List (K × Value)} {kx : K} {ys : Array Value} {x y a b : Value} {Q : Value → Shared → Prop} (D : ZipApart z TI TO i1 i2 l1 l2)
    (hz : IsZip s.heap z TI TO .none) (hTI : IsPair s.heap TI (.ref i1) (.ref i2)) (hTO : IsPair s.heap TO a b)
    (h1 : s.heap.IsValIter i1 l1 k1 xs.length ep) (h2 : s.heap.IsListIter i2 l2 k2) (hl1 : s.heap.DictAt knd l1 xs ep) (hl2 : s.heap.IsList l2 ys) (hx : xs[k1]? = some (kx, x)) (hy : ys[k2]? = some y)
    (hQ : ∀ h', IsZip h' z TI TO (rawInt s.heap.objs.size) → IsPair h' TO x y → h'.IsValIter i1 l1 (k1 + 1) xs.length ep → h'.IsListIter i2 l2 (k2 + 1) → IsPair h' s.heap.objs.size x y → h'.objs.size = s.heap.objs.size + 1 →
      (∀ c o, c ≠ z → c ≠ TO → c ≠ i1 → c ≠ i2 → s.heap.get? c = some o → h'.get? c = some o) → Q (.ref s.heap.objs.size) { s with heap := h' }) :
    wpAny (model prog w) A (Builtin.«zip.__next__» ⟨[.ref z], []⟩) (fun fin s' => ∃ v, fin = .done (.ret v) ∧ Q v s') E s := by
  show wpAny _ _ (field (.ref z) 2 >>= _) _ _ _
  refine wpAny_bind (wpAny_field hz rfl (x := .bool false) rfl ?_)
  show wpAny _ _ (field (.ref z) 3 >>= _) _ _ _
  refine wpAny_bind (wpAny_field hz rfl (x := .ref TI) rfl ?_)
  refine wpAny_bind (wpAny_seqItems hTI rfl ?_)
  show wpAny _ _ (Builtin.SmallTypes.ownedTupleIsFree (.ref z) >>= _) _ _ _
  refine wpAny_bind ?_
  unfold Builtin.SmallTypes.ownedTupleIsFree
  refine wpAny_bind (wpAny_field hz rfl (x := .none) rfl (wpAny_pure ?_))
  simp only [if_true]
  refine wpAny_bind (wpAny_rule ?_)
  refine wpAny_bind (wpAny_field hz rfl (x := .ref TO) rfl ?_)
  refine wpAny_bind (wpAny_setField_rec hz (by simp) fun h₁ hz₁ hs₁ => ?_)
  replace hz₁ : IsZip h₁ z TI TO .ellipsis := hz₁
  refine wpAny_bind ?_
  simp only [List.zipIdx_cons, List.zipIdx_nil, List.forIn_cons, List.forIn_nil]

  refine wpAny_bind (wpAny_bind (wpAny_onRaise ?_))
  show wpAny _ _ (Builtin.SmallTypes.nextOf (.ref i1) >>= _) _ _ _
  refine wpAny_bind (nextOf_val_item (h1.extBut hs₁.extBut D.i1z) (hl1.extBut hs₁.extBut D.l1z) hx fun h₂ h1₂ hs₂ => wpAny_pure ?_)
  have hTO₂ : IsPair h₂ TO a b := hs₂.extBut _ _ D.TOi1 (hs₁.extBut _ _ D.TOz hTO)
  refine wpAny_bind (wpAny_seqItems hTO₂ rfl ?_)
  refine wpAny_bind (wpAny_updateSeq_pair hTO₂ fun h₃ hTO₃ hs₃ => ?_)
  replace hTO₃ : IsPair h₃ TO x b := hTO₃
  refine wpAny_bind (wpAny_letGo (wpAny_pure ?_))

  refine wpAny_bind (wpAny_bind (wpAny_onRaise ?_))
  show wpAny _ _ (Builtin.SmallTypes.nextOf (.ref i2) >>= _) _ _ _
  refine wpAny_bind (wpAny_nextOf_list_item (((h2.extBut hs₁.extBut D.i2z).extBut hs₂.extBut D.i12.symm).extBut hs₃.extBut D.TOi2.symm)
    (((hl2.extBut hs₁.extBut D.l2z).extBut hs₂.extBut D.l2i1).extBut hs₃.extBut D.l2TO) hy fun h₄ h2₄ hs₄ => wpAny_pure ?_)
  have hTO₄ : IsPair h₄ TO x b := hs₄.extBut _ _ D.TOi2 hTO₃
  refine wpAny_bind (wpAny_seqItems hTO₄ rfl ?_)
  refine wpAny_bind (wpAny_updateSeq_pair hTO₄ fun h₅ hTO₅ hs₅ => ?_)
  replace hTO₅ : IsPair h₅ TO x y := hTO₅
  refine wpAny_bind (wpAny_letGo (wpAny_pure (wpAny_pure ?_)))

  refine wpAny_bind (wpAny_seqItems hTO₅ rfl ?_)
  refine wpAny_bind (wpAny_newTuple ?_)
  have hsz : h₅.objs.size = s.heap.objs.size := by rw [hs₅.1, hs₄.1, hs₃.1, hs₂.1, hs₁.1]
  have hz₅ : IsZip h₅ z TI TO .ellipsis := hs₅.extBut _ _ D.TOz.symm (hs₄.extBut _ _ D.i2z.symm (hs₃.extBut _ _ D.TOz.symm (hs₂.extBut _ _ D.i1z.symm hz₁)))
  have hk₅ : ∀ c o, c ≠ z → c ≠ TO → c ≠ i1 → c ≠ i2 → s.heap.get? c = some o → h₅.get? c = some o := fun c o c1 c2 c3 c4 e =>
    hs₅.extBut _ _ c2 (hs₄.extBut _ _ c4 (hs₃.extBut _ _ c2 (hs₂.extBut _ _ c3 (hs₁.extBut _ _ c1 e))))
  have h1₅ : h₅.IsValIter i1 l1 (k1 + 1) xs.length ep := ((h1₂.extBut hs₃.extBut D.TOi1.symm).extBut hs₄.extBut D.i12).extBut hs₅.extBut D.TOi1.symm
  have h2₅ : h₅.IsListIter i2 l2 (k2 + 1) := h2₄.extBut hs₅.extBut D.TOi2.symm
  have hzlt : z < h₅.objs.size := Heap.lt_size hz₅
  have hTOlt : TO < h₅.objs.size := Heap.lt_size hTO₅
  have hi1lt : i1 < h₅.objs.size := by obtain ⟨_, e, _⟩ := h1₅; exact Heap.lt_size e
  have hi2lt : i2 < h₅.objs.size := by obtain ⟨_, e, _⟩ := h2₅; exact Heap.lt_size e
  show wpAny _ _ (Builtin.SmallTypes.ownedTupleHandOut (.ref z) (.ref h₅.objs.size) >>= _) _ _ _
  refine wpAny_bind ?_
  unfold Builtin.SmallTypes.ownedTupleHandOut
  have hz₆ : IsZip (h₅.push { cls := .type "tuple", data := .seq #[x, y] }) z TI TO .ellipsis := Heap.get?_push_of_some _ hz₅
  refine wpAny_bind (wpAny_setField_rec hz₆ (by simp) fun h₇ hz₇ hs₇ => ?_)
  replace hz₇ : IsZip h₇ z TI TO (rawInt h₅.objs.size) := hz₇
  refine wpAny_setField_rec hz₇ (by simp) fun h₈ hz₈ hs₈ => ?_
  replace hz₈ : IsZip h₈ z TI TO (rawInt h₅.objs.size) := hz₈
  have up : ∀ c o, c ≠ z → h₅.get? c = some o → h₈.get? c = some o := fun c o c1 e => hs₈.extBut _ _ c1 (hs₇.extBut _ _ c1 (Heap.get?_push_of_some _ e))
  have hT₈ : IsPair h₈ h₅.objs.size x y := hs₈.extBut _ _ (Nat.ne_of_gt hzlt) (hs₇.extBut _ _ (Nat.ne_of_gt hzlt) (Heap.get?_push_size _ rfl))
  have hz8 : h₈.objs.size = h₅.objs.size + 1 := by rw [hs₈.1, hs₇.1, Heap.size_push]
  rw [hsz] at hz₈ hT₈ hz8
  refine wpAny_pure ⟨_, rfl, ?_⟩
  show Q (.ref h₅.objs.size) _
  rw [hsz]
  exact hQ h₈ hz₈ (up _ _ D.TOz hTO₅) (h1₅.at fun o e => up _ o D.i1z e) (h2₅.at fun o e => up _ o D.i2z e) hT₈ hz8 fun c o c1 c2 c3 c4 e => up c o c1 (hk₅ c o c1 c2 c3 c4 e)

theorem zipV_next_end {z TI TO i1 i2 l1 l2 : Addr} {k1 k2 ep : Nat} {xs : List (K × Value)} {ys : Array Value} {a b : Value} {Q : Fin → Shared → Prop} (hh : A.handled = none) (D : ZipApart z TI TO i1 i2 l1 l2)
    (hz : IsZip s.heap z TI TO .none) (hTI : IsPair s.heap TI (.ref i1) (.ref i2)) (hTO : IsPair s.heap TO a b)
    (h1 : s.heap.IsValIter i1 l1 k1 xs.length ep) (h2 : s.heap.IsListIter i2 l2 k2) (hl1 : s.heap.DictAt knd l1 xs ep) (hl2 : s.heap.IsList l2 ys) (hend : xs[k1]? = none ∨ ys[k2]? = none)
    (hE : ∀ h' e, (∀ c o, c ≠ z → c ≠ TO → c ≠ i1 → c ≠ i2 → s.heap.get? c = some o → h'.get? c = some o) → (∃ o, h'.get? e = some o ∧ o.cls = .type "StopIteration") → E (.ref e) { s with heap := h' }) :
    wpAny (model prog w) A (Builtin.«zip.__next__» ⟨[.ref z], []⟩) Q E s := by
  show wpAny _ _ (field (.ref z) 2 >>= _) _ _ _
  refine wpAny_bind (wpAny_field hz rfl (x := .bool false) rfl ?_)
  show wpAny _ _ (field (.ref z) 3 >>= _) _ _ _
  refine wpAny_bind (wpAny_field hz rfl (x := .ref TI) rfl ?_)
  refine wpAny_bind (wpAny_seqItems hTI rfl ?_)
  show wpAny _ _ (Builtin.SmallTypes.ownedTupleIsFree (.ref z) >>= _) _ _ _
  refine wpAny_bind ?_
  unfold Builtin.SmallTypes.ownedTupleIsFree
  refine wpAny_bind (wpAny_field hz rfl (x := .none) rfl (wpAny_pure ?_))
  simp only [if_true]
  refine wpAny_bind (wpAny_rule ?_)
  refine wpAny_bind (wpAny_field hz rfl (x := .ref TO) rfl ?_)
  refine wpAny_bind (wpAny_setField_rec hz (by simp) fun h₁ hz₁ hs₁ => ?_)
  replace hz₁ : IsZip h₁ z TI TO .ellipsis := hz₁
  refine wpAny_bind ?_
  simp only [List.zipIdx_cons, List.zipIdx_nil, List.forIn_cons, List.forIn_nil]
  refine wpAny_bind (wpAny_bind (wpAny_onRaise ?_))
  show wpAny _ _ (Builtin.SmallTypes.nextOf (.ref i1) >>= _) _ _ _
  cases hx : xs[k1]? with
  | none =>
    refine wpAny_bind (nextOf_val_end hh (h1.extBut hs₁.extBut D.i1z) (hl1.extBut hs₁.extBut D.l1z) hx fun h₂ e hs₂ he => ?_)
    obtain ⟨oe, hoe, hce⟩ := he
    have hz₂ : IsZip h₂ z TI TO .ellipsis := hs₂ _ _ D.i1z.symm hz₁
    have hez : e ≠ z := fun x => by subst x; rw [hz₂] at hoe; cases hoe; simp at hce
    refine wpAny_setField_rec hz₂ (by simp) fun h₃ _ hs₃ => hE h₃ e (fun c o c1 _ c3 _ x => hs₃.extBut _ _ c1 (hs₂ _ _ c3 (hs₁.extBut _ _ c1 x))) ⟨oe, hs₃.extBut _ _ hez hoe, hce⟩
  | some kvx =>
    obtain ⟨kx', x⟩ := kvx
    have hy : ys[k2]? = none := by rcases hend with h | h; rw [hx] at h; cases h; exact h
    refine wpAny_bind (nextOf_val_item (h1.extBut hs₁.extBut D.i1z) (hl1.extBut hs₁.extBut D.l1z) hx fun h₂ h1₂ hs₂ => wpAny_pure ?_)
    have hTO₂ : IsPair h₂ TO a b := hs₂.extBut _ _ D.TOi1 (hs₁.extBut _ _ D.TOz hTO)
    refine wpAny_bind (wpAny_seqItems hTO₂ rfl ?_)
    refine wpAny_bind (wpAny_updateSeq_pair hTO₂ fun h₃ hTO₃ hs₃ => ?_)
    refine wpAny_bind (wpAny_letGo (wpAny_pure ?_))
    refine wpAny_bind (wpAny_bind (wpAny_onRaise ?_))
    show wpAny _ _ (Builtin.SmallTypes.nextOf (.ref i2) >>= _) _ _ _
    refine wpAny_bind (wpAny_nextOf_list_end hh (((h2.extBut hs₁.extBut D.i2z).extBut hs₂.extBut D.i12.symm).extBut hs₃.extBut D.TOi2.symm)
      (((hl2.extBut hs₁.extBut D.l2z).extBut hs₂.extBut D.l2i1).extBut hs₃.extBut D.l2TO) hy fun h₄ e hs₄ he => ?_)
    obtain ⟨oe, hoe, hce⟩ := he
    have hz₄ : IsZip h₄ z TI TO .ellipsis := hs₄ _ _ D.i2z.symm (hs₃.extBut _ _ D.TOz.symm (hs₂.extBut _ _ D.i1z.symm hz₁))
    have hez : e ≠ z := fun x => by subst x; rw [hz₄] at hoe; cases hoe; simp at hce
    refine wpAny_setField_rec hz₄ (by simp) fun h₅ _ hs₅ => hE h₅ e (fun c o c1 c2 c3 c4 x => hs₅.extBut _ _ c1 (hs₄ _ _ c4 (hs₃.extBut _ _ c2 (hs₂.extBut _ _ c3 (hs₁.extBut _ _ c1 x))))) ⟨oe, hs₅.extBut _ _ hez hoe, hce⟩

theorem pyNext_zipV_item {z TI TO i1 i2 l1 l2 : Addr} {k1 k2 ep : Nat} {xs : List (K × Value)} {kx : K} {ys : Array Value} {x y a b : Value} {Q : Option Value → Shared → Prop} (D : ZipApart z TI TO i1 i2 l1 l2)
    (hz : IsZip s.heap z TI TO .none) (hTI : IsPair s.heap TI (.ref i1) (.ref i2)) (hTO : IsPair s.heap TO a b)
    (h1 : s.heap.IsValIter i1 l1 k1 xs.length ep) (h2 : s.heap.IsListIter i2 l2 k2) (hl1 : s.heap.DictAt knd l1 xs ep) (hl2 : s.heap.IsList l2 ys) (hx : xs[k1]? = some (kx, x)) (hy : ys[k2]? = some y)
    (hQ : ∀ h', IsZip h' z TI TO (rawInt s.heap.objs.size) → IsPair h' TO x y → h'.IsValIter i1 l1 (k1 + 1) xs.length ep → h'.IsListIter i2 l2 (k2 + 1) → IsPair h' s.heap.objs.size x y → h'.objs.size = s.heap.objs.size + 1 →
      (∀ c o, c ≠ z → c ≠ TO → c ≠ i1 → c ≠ i2 → s.heap.get? c = some o → h'.get? c = some o) → Q (some (.ref s.heap.objs.size)) { s with heap := h' }) :
    wpAny (model prog w) A (pyNext (.ref z)) Q E s := by
  have hT : s.TypeIs (.ref z) "zip" := ⟨_, hz, rfl⟩
  unfold pyNext
  exact wpAny_bind (wpAny_attempt (wpAny_callSpecial?_slot (name := Str.ofString "__next__") hT F.slot_zip_next
    (wpAny_call_entry F.slot_zip_next hT F.entry_zip_next
      (zipV_next_item D hz hTI hTO h1 h2 hl1 hl2 hx hy fun h' a1 a2 a3 a4 a5 a6 a7 => wpAny_pure (hQ h' a1 a2 a3 a4 a5 a6 a7)) (F.args_zip_next_1 _))))

theorem pyNext_zipV_end {z TI TO i1 i2 l1 l2 : Addr} {k1 k2 ep : Nat} {xs : List (K × Value)} {ys : Array Value} {a b : Value} {Q : Option Value → Shared → Prop} (hh : A.handled = none) (D : ZipApart z TI TO i1 i2 l1 l2)
    (hz : IsZip s.heap z TI TO .none) (hTI : IsPair s.heap TI (.ref i1) (.ref i2)) (hTO : IsPair s.heap TO a b)
    (h1 : s.heap.IsValIter i1 l1 k1 xs.length ep) (h2 : s.heap.IsListIter i2 l2 k2) (hl1 : s.heap.DictAt knd l1 xs ep) (hl2 : s.heap.IsList l2 ys) (hend : xs[k1]? = none ∨ ys[k2]? = none)
    (hQ : ∀ h', (∀ c o, c ≠ z → c ≠ TO → c ≠ i1 → c ≠ i2 → s.heap.get? c = some o → h'.get? c = some o) → Q none { s with heap := h' }) : wpAny (model prog w) A (pyNext (.ref z)) Q E s := by
  have hT : s.TypeIs (.ref z) "zip" := ⟨_, hz, rfl⟩
  unfold pyNext
  refine wpAny_bind (wpAny_attempt (wpAny_callSpecial?_slot (name := Str.ofString "__next__") hT F.slot_zip_next
    (wpAny_call_entry F.slot_zip_next hT F.entry_zip_next (zipV_next_end hh D hz hTI hTO h1 h2 hl1 hl2 hend fun h' e hk he => ?_) (F.args_zip_next_1 _))))
  obtain ⟨o, ho, hc⟩ := he
  refine wpAny_bind (wpAny_isInstance (T := "StopIteration") (b := true) ⟨o, ho, hc⟩ isSubtype_stop ?_)
  exact wpAny_pure (hQ _ hk)
end

abbrev zipVH1 (h : Heap) (l1 : Addr) (n ep : Nat) : Heap := h.push { cls := .type "dict_valueiterator", data := .fields #[.ref l1, .int 0 0, .int n 0, .int ep 0] }
abbrev zipVH2 (h : Heap) (l1 : Addr) (n ep : Nat) (l2 : Addr) : Heap := (zipVH1 h l1 n ep).push { cls := .type "list_iterator", data := .fields #[.ref l2, .int 0 0] }
abbrev zipVH3 (h : Heap) (l1 : Addr) (n ep : Nat) (l2 : Addr) : Heap := (zipVH2 h l1 n ep l2).push { cls := .type "tuple", data := .seq #[.ref h.objs.size, .ref (zipVH1 h l1 n ep).objs.size] }
abbrev zipVH4 (h : Heap) (l1 : Addr) (n ep : Nat) (l2 : Addr) : Heap := (zipVH3 h l1 n ep l2).push { cls := .type "tuple", data := .seq #[.none, .none] }
abbrev zipVH5 (h : Heap) (l1 : Addr) (n ep : Nat) (l2 : Addr) : Heap := (zipVH4 h l1 n ep l2).push { cls := .type "zip", data := .fields #[.none, .bool false, .bool false, .ref (zipVH2 h l1 n ep l2).objs.size, .ref (zipVH3 h l1 n ep l2).objs.size] }

theorem meets_zipV_new {prog : Program} {w : World} {K : Type} [DecidableEq K] (knd : KeyKind prog w K) (v l1 l2 : Addr) (xs : List (K × Value)) (ep : Nat) (ys : Array Value) :
    MeetsIn prog w (Builtin.«zip.__new__» ⟨[.type "zip", .ref v, .ref l2], []⟩) (fun _ R s => s.heap.IsValuesView v l1 ∧ s.heap.DictAt knd l1 xs ep ∧ s.heap.IsList l2 ys ∧
      R (.ok (.ret (.ref (zipVH4 s.heap l1 xs.length ep l2).objs.size))) { s with heap := zipVH5 s.heap l1 xs.length ep l2 }) :=
  .of_wp fun A R s h => by
    obtain ⟨hp, g, d, tk, os⟩ := s; obtain ⟨hv, hl1, hl2, h⟩ := h
    have hsub := sub_zip
    have hV : Heap.IsValuesView (Shared.heap ⟨hp, g, d, tk, os⟩) v l1 := hv
    have hL1 : Heap.DictAt knd (Shared.heap ⟨hp, g, d, tk, os⟩) l1 xs ep := hl1
    have hL2 : Heap.IsList (Shared.heap ⟨hp.push { cls := .type "dict_valueiterator", data := .fields #[.ref l1, .int 0 0, .int xs.length 0, .int ep 0] }, g, d, tk, os⟩) l2 ys := Heap.IsList.push hl2 _
    wp_walk using wpAny_pyIter_values hV hL1, wpAny_pyIter_list hL2
    exact ⟨_, rfl, h⟩

section
variable {prog : Program} {w : World} {K : Type} [DecidableEq K] {knd : KeyKind prog w K} {A : Around} {E : Value → Shared → Prop} {s : Shared}

theorem call_zipV {v l1 l2 : Addr} {xs : List (K × Value)} {ep : Nat} {ys : Array Value} {Q : Value → Shared → Prop} (hv : s.heap.IsValuesView v l1) (hl1 : s.heap.DictAt knd l1 xs ep) (hl2 : s.heap.IsList l2 ys)
    (h : ∀ h', IsZip h' (s.heap.objs.size + 4) (s.heap.objs.size + 2) (s.heap.objs.size + 3) .none → IsPair h' (s.heap.objs.size + 2) (.ref s.heap.objs.size) (.ref (s.heap.objs.size + 1)) →
      IsPair h' (s.heap.objs.size + 3) .none .none → h'.IsValIter s.heap.objs.size l1 0 xs.length ep → h'.IsListIter (s.heap.objs.size + 1) l2 0 → h'.objs.size = s.heap.objs.size + 5 →
      (∀ c o, s.heap.get? c = some o → h'.get? c = some o) → Q (.ref (s.heap.objs.size + 4)) { s with heap := h' }) :
    wpAny (model prog w) A (call (.type "zip") [.ref v, .ref l2]) Q E s := by
  refine callType_newIn F.called_zip (by decide) (F.typeCall_zip_2 _ _) (F.newCall_zip_2 _ _) (fun obj => F.args_object_init_3 obj _ _) F.entry_zip_new
    (meets_zipV_new knd v l1 l2 xs ep ys) ⟨hv, hl1, hl2, ?_⟩
  have z1 : (zipVH1 s.heap l1 xs.length ep).objs.size = s.heap.objs.size + 1 := Heap.size_push ..
  have z2 : (zipVH2 s.heap l1 xs.length ep l2).objs.size = s.heap.objs.size + 2 := by rw [Heap.size_push, z1]
  have z3 : (zipVH3 s.heap l1 xs.length ep l2).objs.size = s.heap.objs.size + 3 := by rw [Heap.size_push, z2]
  have z4 : (zipVH4 s.heap l1 xs.length ep l2).objs.size = s.heap.objs.size + 4 := by rw [Heap.size_push, z3]
  have z5 : (zipVH5 s.heap l1 xs.length ep l2).objs.size = s.heap.objs.size + 5 := by rw [Heap.size_push, z4]
  have g5 : (zipVH5 s.heap l1 xs.length ep l2).get? (zipVH4 s.heap l1 xs.length ep l2).objs.size = some _ := Heap.get?_push_size _ rfl
  have g4 : (zipVH5 s.heap l1 xs.length ep l2).get? (zipVH3 s.heap l1 xs.length ep l2).objs.size = some _ := Heap.get?_push_of_some _ (Heap.get?_push_size _ rfl)
  have g3 : (zipVH5 s.heap l1 xs.length ep l2).get? (zipVH2 s.heap l1 xs.length ep l2).objs.size = some _ := Heap.get?_push_of_some _ (Heap.get?_push_of_some _ (Heap.get?_push_size _ rfl))
  have g2 : (zipVH5 s.heap l1 xs.length ep l2).get? (zipVH1 s.heap l1 xs.length ep).objs.size = some _ := Heap.get?_push_of_some _ (Heap.get?_push_of_some _ (Heap.get?_push_of_some _ (Heap.get?_push_size _ rfl)))
  have g1 : (zipVH5 s.heap l1 xs.length ep l2).get? s.heap.objs.size = some _ := Heap.get?_push_of_some _ (Heap.get?_push_of_some _ (Heap.get?_push_of_some _ (Heap.get?_push_of_some _ (Heap.get?_push_size _ rfl))))
  show _ ∧ _
  rw [z2, z3, z4] at g5
  rw [z1, z2] at g3
  rw [z3] at g4
  rw [z1] at g2
  rw [z4]
  exact ⟨⟨_, g5, rfl⟩, h _ g5 g3 g4 ⟨_, g1, rfl, rfl⟩ ⟨_, g2, rfl, rfl⟩ z5 fun c o x =>
    Heap.get?_push_of_some _ (Heap.get?_push_of_some _ (Heap.get?_push_of_some _ (Heap.get?_push_of_some _ (Heap.get?_push_of_some _ x))))⟩
end
end ZV
namespace L2
open PySem PySem.Spec PyProof.Rows
/-- the values of the locked dict at d and the list at b as it stands at each turn, in new pairs -/
def Itzv (K : PySem.W.Frag) (d : Addr) (o : Obj) (kvs : List (Key × V)) (b : Addr) : It :=
  ⟨fun i H => H d = some (.frz o (.dK kvs)) ∧ ∃ (ys : List V) (k : Key) (x y : V), SqL K H b ys ∧ kvs[i]? = some (k, x) ∧ ys[i]? = some y,
    fun i H v H' => ∃ T k x y, v = .ref T ∧ H T = none ∧ H' = upd H T (.tup [x, y]) ∧ kvs[i]? = some (k, x) ∧ ∀ ys, SqL K H b ys → ys[i]? = some y,
    fun i H => H d = some (.frz o (.dK kvs)) ∧ ∃ ys : List V, SqL K H b ys ∧ (kvs.length ≤ i ∨ ys.length ≤ i)⟩
theorem turn_zipV {P : Program} {w : World} {K : PySem.W.Frag} {elts : List Expr} {kk : Nat} {tpos : Pos} {d b z TI TO i1 i2 : Addr} {o : Obj} {es : Array DictEntry} {ep : Nat} {kvs : List (Key × V)} (D : ZipApart z TI TO i1 i2 d b) (hod : o.data = .dict es ep) :
    Turn P w K (.Tuple elts kk tpos) (Itzv K d o kvs b) [z, TI, TO, i1, i2] z (fun i h => IsZip h z TI TO .none ∧ IsPair h TI (.ref i1) (.ref i2) ∧ (∃ x y, IsPair h TO x y) ∧ h.IsValIter i1 d i kvs.length ep ∧ h.IsListIter i2 b i) where
  mem := by simp
  obj := fun i h st c hc => by
    obtain ⟨hz, hTI, ⟨x, y, hTO⟩, ⟨o1, e1, _, d1⟩, ⟨o2, e2, _, d2⟩⟩ := st
    have e' : c = z ∨ c = TI ∨ c = TO ∨ c = i1 ∨ c = i2 := by simpa using hc
    rcases e' with q | q | q | q | q
    · rw [q]; exact ⟨_, hz, fun v q => nomatch q⟩
    · rw [q]; exact ⟨_, hTI, fun v q => nomatch q⟩
    · rw [q]; exact ⟨_, hTO, fun v q => nomatch q⟩
    · rw [q]; exact ⟨o1, e1, fun v q => by rw [d1] at q; cases q⟩
    · rw [q]; exact ⟨o2, e2, fun v q => by rw [d2] at q; cases q⟩
  keep := fun i h h' st k => by
    obtain ⟨hz, hTI, ⟨x, y, hTO⟩, h1, h2⟩ := st
    exact ⟨k z (by simp) _ hz, k TI (by simp) _ hTI, ⟨x, y, k TO (by simp) _ hTO⟩, h1.at fun o q => k i1 (by simp) o q, h2.at fun o q => k i2 (by simp) o q⟩
  item := by
    intro X hP hw hK hc i pins s σ H E I hf st hg
    subst hP hw hK
    obtain ⟨hz, hTI, ⟨x0, y0, hTO⟩, h1, h2⟩ := st
    obtain ⟨hd, ys, k, x, y, hqy, hx, hy⟩ := hg
    obtain ⟨hs, hgd, hX, es', ep', vs, hdt, hsz, kv, hm⟩ := I.frzK hd
    obtain ⟨rfl, rfl⟩ := dict_ep hod hdt
    obtain ⟨its2, rv2, p2, _⟩ := I.list hqy
    obtain ⟨u, hu, ru⟩ := kv_get kv hx
    have hl : kvs.length = vs.length := Paired.length kv
    rw [hl] at h1
    obtain ⟨u2, hu2, ru2⟩ := rv2.get hy
    have hzl : z < s.heap.objs.size := Heap.lt_size hz
    refine ZV.pyNext_zipV_item D hz hTI hTO h1 h2 hm p2.isList hu (y := u2) (by simpa using hu2) fun h' z' TO' h1' h2' hT hsz hk => ?_
    refine ⟨_, rfl, wpAny_letOwnedTupleGo_zip (s := { s with heap := h' }) z' fun h'' z'' sb => ?_⟩
    have hT2 : h''.get? s.heap.objs.size = some { cls := .type "tuple", data := .seq #[u, u2] } := (sb.2 _ (Nat.ne_of_gt hzl)).trans hT
    have new : ObjOk X.prog X.w (upd H s.heap.objs.size (.tup [x, y])) h'' s.heap.objs.size (.tup [x, y]) :=
      ⟨by show 2 ≤ sizeLine; decide, [u, u2], .cons ru (.cons ru2 .nil), ⟨_, hT2, rfl, _, rfl⟩⟩
    have I1 : Inv X pins σ (upd H s.heap.objs.size (.tup [x, y])) { s with heap := h'' } :=
      I.turnedNew (t' := s.toks) (ch := [z, TI, TO, i1, i2]) (fun c o hb q => (sb.2 c (fun q' => hb (by simp [q']))).trans (hk c o (fun q' => hb (by simp [q'])) (fun q' => hb (by simp [q'])) (fun q' => hb (by simp [q'])) (fun q' => hb (by simp [q'])) q)) hf (Nat.le_refl _) new
    refine ⟨.ref s.heap.objs.size, _, I1, rfl, ⟨_, k, x, y, rfl, I.hok.fresh (Nat.le_refl _), rfl, hx, fun l hl => by rw [I.list_inj hl hqy]; exact hy⟩, ⟨z'', ?_, ⟨u, u2, ?_⟩, ?_, ?_⟩, fun c hcm => ?_⟩
    · exact (sb.2 _ D.TIz).trans (hk _ _ D.TIz D.TITO D.TIi1 D.TIi2 hTI)
    · exact (sb.2 _ D.TOz).trans TO'
    · rw [hl]; exact h1'.at fun o q => (sb.2 _ D.i1z).trans q
    · exact h2'.at fun o q => (sb.2 _ D.i2z).trans q
    · have hlt : c < s.heap.objs.size := by
        have e' : c = z ∨ c = TI ∨ c = TO ∨ c = i1 ∨ c = i2 := by simpa using hcm
        rcases e' with q | q | q | q | q
        · rw [q]; exact hzl
        · rw [q]; exact Heap.lt_size hTI
        · rw [q]; exact Heap.lt_size hTO
        · rw [q]; obtain ⟨_, e1, _⟩ := h1; exact Heap.lt_size e1
        · rw [q]; obtain ⟨_, e2, _⟩ := h2; exact Heap.lt_size e2
      rw [upd_ne (Nat.ne_of_lt hlt)]
      exact (hf c hcm).1
  done := by
    intro X hP hw hK hc i pins s σ H E I hf st hg
    subst hP hw hK
    obtain ⟨hz, hTI, ⟨x0, y0, hTO⟩, h1, h2⟩ := st
    obtain ⟨hd, ys, hqy, hend⟩ := hg
    obtain ⟨hs, hgd, hX, es', ep', vs, hdt, hsz, kv, hm⟩ := I.frzK hd
    obtain ⟨rfl, rfl⟩ := dict_ep hod hdt
    have hl : kvs.length = vs.length := Paired.length kv
    rw [hl] at h1
    obtain ⟨its2, rv2, p2, _⟩ := I.list hqy
    have l2 := rv2.length
    have he : vs[i]? = none ∨ its2.toArray[i]? = none := by
      rcases hend with q | q
      · exact .inl (List.getElem?_eq_none (by omega))
      · exact .inr (by simp; omega)
    exact ZV.pyNext_zipV_end (I.ok.hd hc) D hz hTI hTO h1 h2 hm p2.isList he fun h' hk => ⟨rfl, I.turnedL (t' := s.toks) (ch := [z, TI, TO, i1, i2]) (fun c o hb q =>
      hk c o (fun q' => hb (by simp [q'])) (fun q' => hb (by simp [q'])) (fun q' => hb (by simp [q'])) (fun q' => hb (by simp [q'])) q) hf⟩
  self := fun A i s Q E st h => wpAny_pyIter_zip st.1 h
/-- zip(d.values(), l), d locked -/
def iZipV (K : PySem.W.Frag) (td ta : TE) : TI := fun σ H R => td σ H fun x H1 => ∃ d o kvs, x = .ref d ∧ H1 d = some (.frz o (.dK kvs)) ∧ ta σ H1 fun y H2 => ∃ b ys, y = .ref b ∧ H2 d = some (.frz o (.dK kvs)) ∧ SqL K H2 b ys ∧ R (Itzv K d o kvs b) H2
theorem pi_zipV {X : Cx} {e e2 : Expr} {td ta : TE} {p pos tpos apos cpos : Pos} {elts : List Expr} {kk : Nat} (hg : Gl X "zip") (hm : X.mg "zip" = none) (he : PE X e td) (ha : PE X e2 ta)
    (hbase : attributeBase e "values" X.env (eval e X.env) = eval e X.env := by rfl) (hline : (apos.endLine == cpos.line) = true := by rfl)
    (hs : starEach [.Call (.Attribute e "values" apos) [] [] cpos, e2] X.env = (false, eval (.Call (.Attribute e "values" apos) [] [] cpos) X.env) :: starEach [e2] X.env := by rfl) (hs2 : starEach [e2] X.env = (false, eval e2 X.env) :: starEach [] X.env := by rfl) (hpl : (backTo pos (starEach [e2] X.env)).any (·.1) = false := by rfl) :
    PI X (.Tuple elts kk tpos) (.Call (.Name "zip" p) [.Call (.Attribute e "values" apos) [] [] cpos, e2] [] pos) (iZipV X.K td ta) := by
  refine ⟨fun pins s σ H R I h => ?_⟩
  refine Call_ (ld_blt I hg hm PyProof.Rows.boot_zip (PyProof.Rows.callWith_type1 ?_ hs hpl))
  rw [hs]
  refine Calls.spliced_cons ?_
  refine wpAny_Call_method (T := "dict") (id := "dict.values") hbase rfl hline F.plainAttrs_dict F.slot_dict_values F.type_dict_values (thn (he.run pins s σ H _ I h) fun u s1 ⟨x, H1, I1, rx, d, o, kvs, ex, hd, q⟩ => ?_)
  subst ex
  obtain rfl : u = Value.ref d := rx
  obtain ⟨hS, hgd, hx, es, ep, vs, hdt, hsz, kv, hm1⟩ := I1.frzK hd
  refine ⟨hm1.dictOf.typeIs, hm1.dictOf.mapOf.noDict, ?_⟩
  generalize hs1' : ({ s1 with heap := s1.heap.push { cls := .type "dict_values", data := .fields #[.ref d] } } : Shared) = s1'
  have gv : s1'.heap.get? s1.heap.objs.size = some { cls := .type "dict_values", data := .fields #[.ref d] } := by rw [← hs1']; exact Heap.get?_push_size _ rfl
  have I2 : Inv X pins σ H1 s1' := by rw [← hs1']; exact I1.kept (t' := s1.toks) fun b ob q => Heap.get?_push_of_some _ q
  have f2 : ∀ b ∈ [s1.heap.objs.size], FpOk X pins H1 b := fun b hb => by
    rw [List.mem_singleton.mp hb]
    exact I1.fpOk (Nat.le_refl _) (I1.hok.fresh (Nat.le_refl _))
  have I3 := I2.pinned f2 fun b hb => by
    rw [List.mem_singleton.mp hb]
    exact ⟨_, gv, fun v q => nomatch q⟩
  have fin : wpAny (model X.prog X.w) X.A (spliced (backTo pos (starEach [e2] X.env))) (fun vs s2 => wpAny (model X.prog X.w) X.A (call (.type "zip") (.ref s1.heap.objs.size :: vs)) (fun v s3 => wpAny (model X.prog X.w) X.A (pyIter v) (PIE X pins σ (.Tuple elts kk tpos) R) X.xe s3) X.xe s2) X.xe s1' := by
    rw [hs2]
    refine Calls.spliced_cons (thn (ha.run _ s1' σ H1 _ I3 q) fun w s2 ⟨y, H2, I4, r2, b, ys, ey, hd2, hq, q2⟩ => ?_)
    subst ey
    obtain rfl : w = Value.ref b := r2
    refine args_nil ?_
    have gv2 := (I4.pin (s1.heap.objs.size, _) (List.mem_append_right _ (List.mem_append_right _ (mem_pinsAt (List.mem_singleton.mpr rfl) gv)))).1
    obtain ⟨hS2, hgd2, hx2, es2, ep2, vs2, hdt2, hsz2, kv2, hm2⟩ := I4.frzK hd2
    obtain ⟨its2, rv2, p2, _⟩ := I4.list hq
    have la : d < s2.heap.objs.size := Heap.lt_size hgd2
    have lb : b < s2.heap.objs.size := p2.lt
    have hl : kvs.length = vs2.length := Paired.length kv2
    have I4' := I4.unpinned
    refine ZV.call_zipV (v := s1.heap.objs.size) ⟨_, gv2, rfl, rfl⟩ hm2 p2.isList fun h' hz hTI hTO h1 h2 hsz hk => wpAny_pyIter_zip hz ?_
    have I5 : Inv X pins σ H2 { s2 with heap := h' } := I4'.kept (t' := s2.toks) hk
    rw [← hl] at h1
    refine ⟨s2.heap.objs.size + 4, [s2.heap.objs.size + 4, s2.heap.objs.size + 2, s2.heap.objs.size + 3, s2.heap.objs.size, s2.heap.objs.size + 1], _, _, H2, rfl, I5, turn_zipV (PySem.W.ktu_apart s2.heap.objs.size d b la lb) hdt2, ⟨hz, hTI, ⟨_, _, hTO⟩, h1, h2⟩, fun c hcm => ?_, q2⟩
    have e' : c = s2.heap.objs.size + 4 ∨ c = s2.heap.objs.size + 2 ∨ c = s2.heap.objs.size + 3 ∨ c = s2.heap.objs.size ∨ c = s2.heap.objs.size + 1 := by simpa using hcm
    have hle : s2.heap.objs.size ≤ c := by
      rcases e' with z | z | z | z | z
      · rw [z]; exact Nat.le_add_right _ _
      · rw [z]; exact Nat.le_add_right _ _
      · rw [z]; exact Nat.le_add_right _ _
      · rw [z]; exact Nat.le_refl _
      · rw [z]; exact Nat.le_add_right _ _
    exact I4'.fpOk hle (I4'.hok.fresh hle)
  show wpAny _ _ (callWith cpos (.builtin "dict.values") [.ref d] [] []) _ X.xe s1
  rw [← hs1'] at fin
  exact method_meetsIn F.slot_dict_values F.entry_dict_values rfl (PySem.evalArgs_none ⟨rfl, hm1.dictOf.typeIs, F.args_dict_values_1 _, _, meets_dict_values (mixKind X.prog X.w) d hS, ⟨vs, hm1.dictOf⟩, fin⟩)
end L2

namespace T3
open PySem PySem.Spec PyProof.Rows L2
variable {X : Cx} {Wx : WX}
/-- zip(d.values(), l), d locked -/
def izv3 (td tb : TE3) : TI3 := fun σ G R E => td σ G (fun x G1 => match x with
  | .ref d => ∃ o kvs, (d, DO.lck o kvs) ∈ G1 ∧ detK kvs ∧ tb σ G1 (fun y G2 => ∃ ys, (d, DO.lck o kvs) ∈ G2 ∧ Lw G2 y ys ∧ R (List.zipWith (fun a b => .tup [a, b]) (kvs.map (·.2)) ys) (fun G => (d, DO.lck o kvs) ∈ G ∧ Lw G y ys) G2) E
  | _ => False) E
theorem i_zipV {e e2 : Expr} {td tb : TE3} {p pos tpos apos cpos : Pos} {elts : List Expr} {kk : Nat} (hg : Gl X "zip") (hm : X.mg "zip" = none) (he : PE X e (lowE X.K Wx td)) (hb : PE X e2 (lowE X.K Wx tb))
    (hbase : attributeBase e "values" X.env (eval e X.env) = eval e X.env := by rfl) (hline : (apos.endLine == cpos.line) = true := by rfl)
    (hs : starEach [.Call (.Attribute e "values" apos) [] [] cpos, e2] X.env = (false, eval (.Call (.Attribute e "values" apos) [] [] cpos) X.env) :: starEach [e2] X.env := by rfl) (hs2 : starEach [e2] X.env = (false, eval e2 X.env) :: starEach [] X.env := by rfl) (hpl : (backTo pos (starEach [e2] X.env)).any (·.1) = false := by rfl) :
    PI X (.Tuple elts kk tpos) (.Call (.Name "zip" p) [.Call (.Attribute e "values" apos) [] [] cpos, e2] [] pos) (lowI X.K Wx (izv3 td tb)) := by
  refine (pi_zipV hg hm he hb hbase hline hs hs2 hpl).imp3 ?_
  rintro σ H Q ⟨σ3, W, G, R3, E3, R, S, h, e, k⟩
  refine ⟨σ3, W, G, _, E3, R, S, h, ⟨fun W1 x G1 x' H1 l1 S1 r1 h1 => ?_⟩, e⟩
  cases x with
  | ref d =>
    obtain ⟨o, kvs, hm, hk, h1⟩ := h1
    cases r1
    obtain ⟨vs, e1, rk⟩ := S1.ob _ _ hm
    have at' : ∀ {W' G' H'}, Sim X.K W' G' H' → (d, DO.lck o kvs) ∈ G' → H' d = some (.frz o (.dK vs)) := fun S' hm' => by
      obtain ⟨us, e2, ru⟩ := S'.ob _ _ hm'
      rw [detK_eq hk rk ru]; exact e2
    refine ⟨d, o, vs, rfl, e1, ?_⟩
    refine ⟨σ3, W1, G1, _, E3, R.mono l1, S1, h1, ⟨fun W2 y G2 y' H2 l2 S2 r2 h2 => ?_⟩, e.mono l1⟩
    obtain ⟨ys, hm2, hy, h2⟩ := h2
    obtain ⟨b, rfl⟩ := hy.ref r2
    obtain ⟨us, eb, rb⟩ := hy.sql S2 r2
    refine ⟨b, us, rfl, at' S2 hm2, eb, k W2 _ _ G2 _ H2 (l1.trans l2) S2 h2 ⟨fun i W' G' H' l' S' hs hi => ?_, fun W' G' H' l' S' hs => ?_, fun i W' G' H' x H'' l' S' hs hi y => ?_⟩⟩
    all_goals
      obtain ⟨us', e2, q2⟩ := hs.2.sql S' (r2.mono l')
      have q1 := rk.length
    · rw [List.length_zipWith, List.length_map, q1, q2.length] at hi
      have h1 : i < vs.length := by omega
      have h2 : i < us'.length := by omega
      exact ⟨at' S' hs.1, us', vs[i].1, vs[i].2, us'[i], e2, List.getElem?_eq_getElem h1, List.getElem?_eq_getElem h2⟩
    · rw [List.length_zipWith, List.length_map, q1, q2.length]
      exact ⟨at' S' hs.1, us', e2, by omega⟩
    · obtain ⟨T, ky, u, w, rfl, hT, rfl, h5, h6⟩ := y
      obtain ⟨d1, h7, rd1⟩ := RlK.get' (rk.mono (l2.trans l')) h5
      obtain ⟨d2, h8, rd2⟩ := q2.get' (h6 us' e2)
      obtain ⟨W3, l3, S3, r3⟩ := yields_pair S' hT rd1 rd2
      refine ⟨W3, _, l3, ?_, S3, r3⟩
      rw [List.getElem?_zipWith, h7, h8]
  | _ => exact h1.elim
end T3

namespace T3
open PySem PySem.Spec PyProof.Rows L2
/-! ### name = [..] where the name is a cell: no swap -/
theorem sw_false {elt : Expr} {gs : List Comprehension} {scope : Scope} {pos py : Pos} {y : Str} {l : Nat} {env : Env} (hk : env.scope.kind = .function) (hy : env.scope.names.lookup y = some .cell) :
    swapsWith (.ListComp elt gs scope pos) (some (.Name y py)) l env = pure false := by
  have ky : env.kindOf y = some .cell := hy
  have hb : env.blockKind = .function := by unfold Env.blockKind; rw [hk]; rfl
  unfold swapsWith
  simp only [hb, ky]
  rfl
end T3

namespace T3
open PySem PySem.Spec PyProof.Rows L2
/-! ### how often a truth value stands in a list of them -/
def eqb (k : Bool) (v : Value) : Bool := match v with
  | .bool b => b == k
  | _ => false
theorem eqb_at {A : Around} {s : Shared} {k : Bool} : ∀ {bs : List Bool} {us : List Value}, Vals (bs.map V.bl) us → ∀ y ∈ us, SeqAt.EqAt A s y (.bool k) (eqb k y)
  | [], us, h, y, hy => by cases h; cases hy
  | b :: bs, us, h, y, hy => by
    cases h with
    | cons r rs =>
      cases r
      rcases List.mem_cons.mp hy with rfl | hy
      · exact SeqAt.EqAt.bool_bool b k
      · exact eqb_at rs y hy
theorem eqb_count {k : Bool} : ∀ {bs : List Bool} {us : List Value}, Vals (bs.map V.bl) us → us.countP (eqb k) = bs.count k
  | [], us, h => by cases h; rfl
  | b :: bs, us, h => by
    cases h with
    | cons r rs =>
      cases r
      have ih := eqb_count (k := k) rs
      rw [List.countP_cons, List.count_cons, ih] <;> rfl
def rCntB (K : PySem.W.Frag) : V → List V → Hp → VK → Prop := fun x xs H Q => ∃ (p : Addr) (bs : List Bool) (k : Bool), x = .ref p ∧ xs = [.bl k] ∧ SqL K H p (bs.map V.bl) ∧ Q (.int (bs.count k : Nat)) H
section
variable {X : Cx} {Wx : WX}
theorem mt_lcountB : MtR X "list.count" (rCntB X.K) := by
  intro pins s σ H x xs v us Q I rx rxs h
  obtain ⟨p, bs, k, rfl, rfl, hs, q⟩ := h
  cases rx
  obtain ⟨u, rfl, ru⟩ := rxs.one
  cases ru
  obtain ⟨its, rv, ⟨⟨cls, dd, data, sl⟩, n, ho, hc, hdn, hd⟩, hlen⟩ := I.list hs
  simp only at hc hd
  subst hc hd
  refine call_meets PySem.F.slot_list_count ⟨_, ho, rfl⟩ PySem.F.entry_list_count (PySem.F.args_list_count_2 _ _)
    (SeqAt.list_countAt p its.toArray n dd sl (.bool k) (eqb k)) ⟨ho, fun y hy => eqb_at rv y (by simpa using hy), ?_⟩
  have ec : its.toArray.toList.countP (eqb k) = bs.count k := eqb_count rv
  refine ⟨.int (bs.count k : Nat), H, I.tok _, ⟨s.toks, ?_⟩, q⟩
  show Value.int ((its.toArray.toList.countP (eqb k) : Nat) : Int) s.toks = Value.int ((bs.count k : Nat) : Int) s.toks
  rw [ec]
def cnt3 (ta te : TE3) : TE3 := fun σ G Q E => ta σ G (fun x G1 => ∃ bs : List Bool, Ls G1 x (bs.map D.bl) ∧ te σ G1 (fun y G2 => Ls G2 x (bs.map D.bl) ∧ match y with
  | .bl k => Q (.int (bs.count k : Nat)) G2
  | _ => False) E) E
theorem e_count {c : Expr} {ta te : TE3} (hm : PE X c (tBM X.K "list" (rCntB X.K) (lowE X.K Wx ta) (tCons (lowE X.K Wx te) tNil))) : PE X c (lowE X.K Wx (cnt3 ta te)) := by
  refine hm.imp3 ?_
  rintro σ H Q ⟨σ3, W, G, Q3, E3, R, S, h, q, e⟩
  refine ⟨σ3, W, G, _, E3, R, S, h, ⟨fun W1 x G1 x' H1 l1 S1 r1 h1 => ?_⟩, e⟩
  obtain ⟨bs, hl, h1⟩ := h1
  obtain ⟨a, vs, rfl, e1, rv⟩ := hl.sql S1 r1
  refine ⟨.inl ⟨rfl, _, SqL.of e1⟩, ?_⟩
  refine ⟨σ3, W1, G1, _, E3, R.mono l1, S1, h1, ⟨fun W2 y G2 y' H2 l2 S2 r2 h2 => ?_⟩, e.mono l1⟩
  obtain ⟨hl2, h2⟩ := h2
  obtain ⟨a2, vs2, e3, e2, rv2⟩ := hl2.sql S2 (r1.mono l2)
  cases e3
  have := rv2.bls
  subst this
  cases y with
  | bl k =>
    cases r2
    exact ⟨a, bs, k, rfl, rfl, SqL.of e2, q.run _ (.int (bs.count k : Nat)) _ _ _ (l1.trans l2) S2 rfl h2⟩
  | _ => exact h2.elim
end
end T3

namespace T3
open PySem PySem.Spec PyProof.Rows L2
section
variable {X : Cx} {Wx : WX} {ta tb ty tx td te : TE3} {o e f : Expr} {pos pos' apos cpos : Pos}
/-! ### d.setdefault(k, x) -/
def setd3 (td ty tx : TE3) : TE3 := fun σ G Q E => td σ G (fun x G1 => match x with
  | .ref a => (∃ kvs, (a, DO.dict kvs) ∈ G1) ∧ ty σ G1 (fun y G2 => tx σ G2 (fun z G3 => ∃ kvs k, (a, DO.dict kvs) ∈ G3 ∧ keyD y = some k ∧ kvs.length < sizeLine ∧
      match valD kvs k with
      | some v => Q v G3
      | none => ∃ G4, Put a (.dict kvs) (.dict (putD kvs k z)) G3 G4 ∧ Q z G4) E) E
  | _ => False) E
theorem e_setd (ho : PE X o (lowE X.K Wx td)) (he : PE X e (lowE X.K Wx ty)) (hf : PE X f (lowE X.K Wx tx)) (m : M2 X o "setdefault" apos e f cpos := by exact ⟨rfl, rfl, rfl, rfl⟩) : PE X (.Call (.Attribute o "setdefault" apos) [e, f] [] cpos) (lowE X.K Wx (setd3 td ty tx)) := by
  refine (pe_dsetd ho he hf m).imp3 ?_
  rintro σ H Q ⟨σ3, W, G, Q3, E3, R, S, h, q, e⟩
  refine ⟨σ3, W, G, _, E3, R, S, h, ⟨fun W1 x G1 x' H1 l1 S1 r1 h1 => ?_⟩, e⟩
  cases x with
  | ref a =>
    obtain ⟨⟨kvs, hm⟩, h1⟩ := h1
    cases r1
    obtain ⟨vs, e1, _⟩ := S1.ob _ _ hm
    refine ⟨a, rfl, .inl ⟨vs, .inl e1⟩, ?_⟩
    refine ⟨σ3, W1, G1, _, E3, R.mono l1, S1, h1, ⟨fun W2 y G2 y' H2 l2 S2 r2 h2 => ?_⟩, e.mono l1⟩
    refine ⟨σ3, W2, G2, _, E3, R.mono (l1.trans l2), S2, h2, ⟨fun W3 z G3 z' H3 l3 S3 r3 h3 => ?_⟩, e.mono (l1.trans l2)⟩
    obtain ⟨kvs, k, hm, hk, hl, h3⟩ := h3
    obtain ⟨vs, e1, rk⟩ := S3.ob _ _ hm
    have ll := l1.trans (l2.trans l3)
    refine ⟨vs, k, e1, key_kV (r2.mono l3) hk, by rw [← rk.length]; exact hl, fun v hv => ?_, fun hv => ?_⟩
    · cases hd : valD kvs k with
      | none => rw [(RlK.val rk).1 hd] at hv; cases hv
      | some d =>
        rw [hd] at h3
        obtain ⟨u, e2, ru⟩ := (RlK.val rk).2 d hd
        rw [e2] at hv
        injection hv with hv
        subst hv
        exact q.run _ _ _ _ _ ll S3 ru h3
    · cases hd : valD kvs k with
      | some d =>
        obtain ⟨u, e2, ru⟩ := (RlK.val rk).2 d hd
        rw [e2] at hv; cases hv
      | none =>
        rw [hd] at h3
        obtain ⟨G4, p, h4⟩ := h3
        exact q.run _ _ _ _ _ ll (S3.put (o' := .dict (putD kvs k z)) p ⟨_, upd_same, rk.put r3⟩) r3 h4
  | _ => exact h1.elim
/-! ### {"k": "v", ..}, written texts -/
def strK (ps : List (Str × Str)) : List (Key × D) := ps.map fun z => (.inr z.1, .str z.2)
def strV (ps : List (Str × Str)) : List (Key × V) := ps.map fun z => (.inr z.1, .str z.2)
def disp3 (ps : List (Str × Str)) : TE3 := fun _ G Q _ => ∀ p, Q (.ref p) ((p, .dict (strK ps)) :: G)
inductive StrPs : List (Option Expr) → List Expr → List (Str × Str) → Prop where
  | nil : StrPs [] [] []
  | cons {ks vs ps} (x y : Str) (j1 j2 : Nat) (p1 p2 : Pos) (h : StrPs ks vs ps) : StrPs (some (.Constant (.str x) j1 p1) :: ks) (.Constant (.str y) j2 p2 :: vs) ((x, y) :: ps)
def strPT (ps : List (Str × Str)) : List (TE × TE) := ps.map fun z => (tC (.str z.1), tC (.str z.2))
theorem StrPs.pps {X : Cx} {pos : Pos} : ∀ {ks : List (Option Expr)} {vs : List Expr} {ps : List (Str × Str)}, StrPs ks vs ps → PPs X pos ks vs (strPT ps)
  | _, _, _, .nil => pps_nil
  | _, _, _, .cons x y j1 j2 p1 p2 h => pps_cons pe_str pe_str h.pps
theorem strPT_run : ∀ (ps : List (Str × Str)) (σ : L2.St) (H : Hp) (Q : List (V × V) → Hp → Prop), Q ((strV ps).map fun kv => (kV kv.1, kv.2)) H → tPairs (strPT ps) σ H Q
  | [], σ, H, Q, h => h
  | z :: r, σ, H, Q, h => strPT_run r σ H (fun ps H3 => Q ((.str z.1, .str z.2) :: ps) H3) h
theorem strV_merge {ps : List (Str × Str)} (hn : (ps.map (·.1)).Nodup) : ∀ (acc : List (Str × Str)), (∀ z ∈ ps, z.1 ∉ acc.map (·.1)) → mergeK (strV acc) (strV ps) = strV (acc ++ ps) := by
  induction ps with
  | nil => intro acc _; simp [mergeK, strV]
  | cons z r ih =>
    intro acc h
    obtain ⟨h1, h2⟩ := List.nodup_cons.mp (show (z.1 :: r.map (·.1)).Nodup from hn)
    have hz := h z (List.mem_cons_self ..)
    have e : putK (strV acc) (.inr z.1) (.str z.2) = strV (acc ++ [z]) := by
      unfold putK
      have : ((strV acc).any fun kv => decide (kv.1 = (Sum.inr z.1 : Key))) = false := by
        rw [List.any_eq_false]
        intro kv hk
        obtain ⟨y, hy, rfl⟩ := List.mem_map.mp hk
        simp only [decide_eq_true_eq]
        intro e
        injection e with e
        exact hz (by rw [← e]; exact List.mem_map_of_mem hy)
      rw [if_neg (by rw [this]; exact Bool.false_ne_true)]
      simp [strV]
    have ih := ih h2 (acc ++ [z]) fun y hy hm => by
      rw [List.map_append, List.mem_append] at hm
      rcases hm with hm | hm
      · exact h y (List.mem_cons_of_mem _ hy) hm
      · rw [List.map_cons, List.map_nil, List.mem_singleton] at hm
        exact h1 (by rw [← hm]; exact List.mem_map_of_mem hy)
    show mergeK (putK (strV acc) (.inr z.1) (.str z.2)) (strV r) = _
    rw [e, ih, List.append_assoc]
    rfl
theorem strK_rl {W : Wd} : ∀ ps : List (Str × Str), RlK W (strK ps) (strV ps)
  | [] => .nil
  | z :: r => .cons ⟨rfl, rfl⟩ (strK_rl r)
theorem e_disp {ks : List (Option Expr)} {vs : List Expr} {ps : List (Str × Str)} (h : StrPs ks vs ps) (hall : ks.all (·.isSome) = true) (hl : ks.length = vs.length) (h0 : ks ≠ []) (h15 : ks.length ≤ 15) (hp : ps.length ≤ 15) (hn : (ps.map (·.1)).Nodup) : PE X (.Dict ks vs pos) (lowE X.K Wx (disp3 ps)) := by
  refine (pe_disp h.pps hall hl h0 h15).imp3 ?_
  rintro σ H Q ⟨σ3, W, G, Q3, E3, R, S, h, q, e⟩
  intro p hpn
  refine strPT_run ps σ _ _ ⟨upd_same, strV ps, rfl, by simpa [strV] using hp, ?_⟩
  have em : mergeK [] (strV ps) = strV ps := by
    have := strV_merge hn [] (fun _ _ hm => by cases hm)
    simpa [strV] using this
  rw [em]
  have eu : upd (upd H p (.dK [])) p (.dK (strV ps)) = upd H p (.dK (strV ps)) := by
    funext b
    unfold upd
    split <;> rfl
  rw [eu]
  exact q.run _ (.ref p) _ _ _ (.refl _) (S.newO (o := .dict (strK ps)) hpn ⟨strV ps, upd_same, strK_rl ps⟩) rfl (h p)
end
end T3

namespace T3
open PySem PySem.Spec PyProof.Rows L2 CwR
/-! ### t.replace(written, written): a token must be out; a test against a written text gives one out -/
theorem PET_imp {X : Cx} {e : Expr} {t t' : TE} (h : PET X e t) (m : ∀ σ H Q, t' σ H Q → t σ H Q) : PET X e t' := fun pins s σ H Q h0 I q => h pins s σ H Q h0 I (m σ H Q q)
section
variable {X : Cx} {Wx : WX} {ta td ty tx te tw : TE3} {o e f c : Expr} {pos pos' apos cpos p0 p1 p2 p3 : Pos}
def rep3 (y z : Str) (ta : TE3) : TE3 := fun σ G Q E => ta σ G (fun v G1 => match v with
  | .str x => x.length + (x.length + 1) * z.length ≤ 16777216 ∧ Q (.str (Txt.replace x y z)) G1
  | _ => False) E
theorem pet_rep {y z : Str} {j k : Nat} {c0 c1 : Pos} (ho : PE X o (lowE X.K Wx ta)) (hyz : (y == z) = false)
    (hst : starEach [.Constant (.str y) j c0, .Constant (.str z) k c1] X.env = [(false, eval (.Constant (.str y) j c0) X.env), (false, eval (.Constant (.str z) k c1) X.env)] := by rfl)
    (hbase : attributeBase o "replace" X.env (eval o X.env) = eval o X.env := by rfl) (hline : (apos.endLine == pos.line) = true := by rfl) :
    PET X (.Call (.Attribute o "replace" apos) [.Constant (.str y) j c0, .Constant (.str z) k c1] [] pos) (lowE X.K Wx (rep3 y z ta)) := by
  refine PET_imp (pet_replC ho hyz hst hbase hline) ?_
  rintro σ H Q ⟨σ3, W, G, Q3, E3, R, S, h, q, e⟩
  refine ⟨σ3, W, G, _, E3, R, S, h, ⟨fun W1 x G1 x' H1 l1 S1 r1 h1 => ?_⟩, e⟩
  cases x with
  | str x => cases r1; exact ⟨x, rfl, h1.1, q.run _ (.str (Txt.replace x y z)) _ _ _ l1 S1 rfl h1.2⟩
  | _ => exact h1.elim
/-- d.get(k, x), x wants a token -/
theorem pet_dget {td ty tx : TE} (hu : X.A.units + 1 < cLine) (ho : PE X o td) (he : PE X e ty) (hf : PET X f tx) (m : M2 X o "get" apos e f cpos) : PET X (.Call (.Attribute o "get" apos) [e, f] [] cpos) (tDGet2 td ty tx) := by
  intro pins s σ H Q h0 I h
  refine wpAny_Call_method m.base m.few m.line PySem.F.plainAttrs_dict PySem.F.slot_dict_get PySem.F.type_dict_get (wpAny_mono (wpAny_toks (ho.run pins s σ H _ I h)) (fun u s1 q => ?_) fun _ _ z => z.2)
  obtain ⟨hk1, x, H1, I1, rx, a, ex, d, q1⟩ := q
  subst ex
  obtain rfl : u = Value.ref a := rx
  obtain ⟨t1, t2, _⟩ := isD_at I1 d
  refine ⟨t1, t2, ?_⟩
  rw [m.trees]
  refine Calls.callWith_builtin rfl (Calls.evalArgs_plain (Calls.spliced_cons (wpAny_mono (wpAny_toks (he.run pins s1 σ H1 _ I1 q1)) (fun iv s2 q => ?_) fun _ _ z => z.2)))
  obtain ⟨hk2, y, H2, I2, ry, q2⟩ := q
  refine Calls.spliced_cons (thn (hf pins s2 σ H2 _ (Nat.le_trans h0 (Nat.le_trans hk1 hk2)) I2 q2) fun fv s3 ⟨z, H3, I3, rz, ov, g, q3⟩ => Calls.spliced_nil ?_)
  exact d_get2 hu I3 g ry rz fun w' s4 I4 rw' => ⟨_, H3, I4, rw', q3⟩
theorem pet_dget3 (hu : X.A.units + 1 < cLine) (ho : PE X o (lowE X.K Wx td)) (he : PE X e (lowE X.K Wx ty)) (hf : PET X f (lowE X.K Wx tx)) (m : M2 X o "get" apos e f cpos := by exact ⟨rfl, rfl, rfl, rfl⟩) : PET X (.Call (.Attribute o "get" apos) [e, f] [] cpos) (lowE X.K Wx (dgetD3 td ty tx)) := by
  refine PET_imp (pet_dget hu ho he hf m) ?_
  rintro σ H Q ⟨σ3, W, G, Q3, E3, R, S, h, q, e⟩
  refine ⟨σ3, W, G, _, E3, R, S, h, ⟨fun W1 x G1 x' H1 l1 S1 r1 h1 => ?_⟩, e⟩
  cases x with
  | ref a =>
    obtain ⟨⟨kvs, hm⟩, h1⟩ := h1
    cases r1
    obtain ⟨vs, e1, _⟩ := S1.ob _ _ hm
    refine ⟨a, rfl, .inl ⟨vs, .inl e1⟩, ?_⟩
    refine ⟨σ3, W1, G1, _, E3, R.mono l1, S1, h1, ⟨fun W2 y G2 y' H2 l2 S2 r2 h2 => ?_⟩, e.mono l1⟩
    refine ⟨σ3, W2, G2, _, E3, R.mono (l1.trans l2), S2, h2, ⟨fun W3 z G3 z' H3 l3 S3 r3 h3 => ?_⟩, e.mono (l1.trans l2)⟩
    obtain ⟨kvs, k, hm, hk, h3⟩ := h3
    obtain ⟨vs, e1, rk⟩ := S3.ob _ _ hm
    rw [key_kV (r2.mono l3) hk]
    refine ⟨_, DGet.k e1, ?_⟩
    have ll := l1.trans (l2.trans l3)
    cases hv : valD kvs k with
    | none => rw [hv] at h3; rw [(RlK.val rk).1 hv]; exact q.run _ _ _ _ _ ll S3 r3 h3
    | some d => rw [hv] at h3; obtain ⟨v, e, rv⟩ := (RlK.val rk).2 d hv; rw [e]; exact q.run _ _ _ _ _ ll S3 rv h3
  | _ => exact h1.elim
/-- o.m(e) of a built-in, e wants a token -/
theorem pet_bm1 {to : TE} {te : TE} {T id : String} {name : Str} {r : V → List V → Hp → VK → Prop} (pa : PlainAttrs T) (slot : Slot T name id) (hty : typeOf (.builtin id) = pure (.type "method_descriptor")) (hm : MtR X id r) (ho : PE X o to) (ha : PET X e te)
    (hbase : attributeBase o name X.env (eval o X.env) = eval o X.env := by rfl)
    (hfew : ((backTo cpos (starEach [e] X.env)).all (fun x => !x.1) && (backToKw cpos (keywordEach [] X.env)).all (fun x => x.1.isSome)
      && decide (([e] : List Expr).length + ([] : List Keyword).length + (if ([] : List Keyword).isEmpty then 0 else 1) < 30)) = true := by rfl)
    (hline : (apos.endLine == cpos.line) = true := by rfl) (hs : starEach [e] X.env = (false, eval e X.env) :: starEach [] X.env := by rfl) (hplain : (backTo cpos (starEach [] X.env)).any (·.1) = false := by rfl) :
    PET X (.Call (.Attribute o name apos) [e] [] cpos) (tBM X.K T r to (tCons te tNil)) := by
  intro pins s σ H Q h0 I h
  refine wpAny_Call_method_late hbase hfew hline rfl (wpAny_mono (wpAny_toks (ho.run pins s σ H _ I h)) (fun v s1 q => ?_) fun _ _ z => z.2)
  obtain ⟨hk, x, H1, I1, r1, ty, q1⟩ := q
  obtain ⟨h1, h2⟩ := tyV_is I1 r1 ty
  refine ⟨T, id, pa, slot, hty, h1, h2, ?_⟩
  rw [hs]
  refine Calls.callWith_builtin (by show (false || (backTo cpos (starEach [] X.env)).any (·.1)) = false; rw [hplain] <;> rfl) (Calls.evalArgs_plain ?_)
  refine Calls.spliced_cons (thn (ha pins s1 σ H1 _ (Nat.le_trans h0 hk) I1 q1) fun u s2 ⟨y, H2, I2, r2, q2⟩ => Calls.spliced_nil ?_)
  exact hm pins s2 σ H2 x [y] v [u] Q I2 r1 (.cons r2 .nil) q2
theorem pet_app3 (hm : PET X c (tBM X.K "list" rAppend (lowE X.K Wx ta) (tCons (lowE X.K Wx te) tNil))) : PET X c (lowE X.K Wx (app3 ta te)) := by
  refine PET_imp hm ?_
  rintro σ H Q ⟨σ3, W, G, Q3, E3, R, S, h, q, e⟩
  refine ⟨σ3, W, G, _, E3, R, S, h, ⟨fun W1 x G1 x' H1 l1 S1 r1 h1 => ?_⟩, e⟩
  cases x with
  | ref a =>
    obtain ⟨⟨ds, hm⟩, h1⟩ := h1
    cases r1
    obtain ⟨vs, e1, _⟩ := S1.ob _ _ hm
    refine ⟨.inl ⟨rfl, _, SqL.of e1⟩, ?_⟩
    refine ⟨σ3, W1, G1, _, E3, R.mono l1, S1, h1, ⟨fun W2 y G2 y' H2 l2 S2 r2 h2 => ?_⟩, e.mono l1⟩
    obtain ⟨es, G3, p, hz, h2⟩ := h2
    obtain ⟨us, e2, ru⟩ := S2.ob _ _ p.mem
    refine ⟨a, us, y', rfl, rfl, e2, by rw [← ru.length]; exact hz, ?_⟩
    exact q.run _ .non _ _ _ (l1.trans l2) (S2.put (o' := .lst (es ++ [y])) p ⟨_, upd_same, ru.append (RlL.one r2)⟩) rfl h2
  | _ => exact h1.elim
theorem pst_expr3 (he : PET X e (lowE X.K Wx te)) (hs : swapsWith e none pos.line X.env = pure false := by rfl) : PST X (.Expr e pos) (lowS X.K Wx (drop3 te)) := by
  intro pins s σ H D h0 I h
  refine wpAny_Expr_any (thn (he pins s σ H (fun _ H' => D.nx σ H') h0 I ?_) fun v s1 ⟨x, H1, I1, r1, q1⟩ => ⟨σ, H1, I1, q1⟩) I.quiet hs
  obtain ⟨σ3, W, G, D3, R, S, h, k⟩ := h
  exact ⟨σ3, W, G, _, _, R, S, h, ⟨fun W1 x G1 x' H1 l1 S1 r1 h1 => k.nx.run _ _ _ _ _ l1 (R.mono l1) S1 h1⟩, k.ex⟩
/-- the test gives a token out -/
def PTk (X : Cx) (e : Expr) (t : TT) : Prop := ∀ (pins : List (Addr × Obj)) (s : Shared) (σ : L2.St) (H : Hp) (Q : Bool → Hp → Prop), Inv X pins σ H s → t σ H Q →
  wpAny (model X.prog X.w) X.A (isTrue e X.env (eval e X.env)) (fun d s1 => 1 ≤ s1.toks ∧ TP X pins σ Q d s1) X.xe s
theorem ptk_cmp {op : CmpOp} {r : R2} {ta : TE} {z : Str} {j : Nat} {a : Expr} {cp : Pos} (ho : OpR X (compareOp op) r) (ha : PE X a ta) (hm : behindInMarks op (.Constant (.str z) j cp) = false) : PTk X (.Compare a [op] [.Constant (.str z) j cp] pos) (tTest (tOp r ta (tC (.str z)))) := by
  intro pins s σ H Q I h
  refine wpAny_isTrue_Compare1 (thn (ha.run pins s σ H _ I h) fun v s1 ⟨x, H1, I1, r1, q1⟩ => Calls.Constant_str ?_) hm
  refine wpAny_mono (wpAny_toks_of (n := 1) (by show 1 ≤ s1.toks + 1; omega) (ho pins _ σ H1 x (.str z) v _ _ (I1.tok (s1.toks + 1)) r1 ⟨_, rfl⟩ q1)) (fun c s3 q => ?_) fun _ _ z => z.2
  obtain ⟨hk, z3, H3, I3, r3, k, e, q3⟩ := q
  subst e
  cases r3
  exact wpAny_truthy_bool ⟨hk, H3, I3, q3⟩
theorem ptk_eq3 {a : Expr} {z : Str} {j : Nat} {cp : Pos} (hu : X.A.units + 64 < cLine) (ha : PE X a (lowE X.K Wx ta)) : PTk X (.Compare a [.Eq] [.Constant (.str z) j cp] pos) (lowT X.K Wx (t3 (op3 eq3 ta (c3 (.str z))))) := by
  intro pins s σ H Q I h
  refine ptk_cmp (op_eq.or (op_eqD hu)) ha (nomark _) pins s σ H Q I ?_
  obtain ⟨σ3, W, G, Q3, E3, R, S, h, q, e⟩ := low_t h
  refine ⟨σ3, W, G, _, E3, R, S, h, ⟨fun W1 x G1 x' H1 l1 S1 r1 h1 => ?_⟩, e⟩
  exact opl_eq W1 x (.str z) G1 _ x' (.str z) H1 _ S1 r1 rfl h1 (q.mono l1)
theorem s_ifK {a b : List Stmt} {tc : TT3} {t u : TS3} (hc : PTk X c (lowT X.K Wx tc)) (ha : PSs X a (lowS X.K Wx t)) (hb : PSsT X b (lowS X.K Wx u)) : PS X (.If c a b pos) (lowS X.K Wx (if3 tc t u)) := by
  have h0 : PS X (.If c a b pos) (tIfS (lowT X.K Wx tc) (lowS X.K Wx t) (lowS X.K Wx u)) := by
    refine ⟨fun pins s σ H D I h => ?_⟩
    refine wpAny_If (thn (hc pins s σ H _ I h) fun d s1 ⟨hk, H1, I1, q1⟩ => ?_)
    cases d with
    | true => exact ha.run pins s1 σ H1 D I1 q1
    | false => exact hb pins s1 σ H1 D hk I1 q1
  refine h0.imp3 ?_
  rintro D σ H ⟨σ3, W, G, D3, R, S, h, k⟩
  refine ⟨σ3, W, G, _, _, R, S, h, ⟨fun W1 b G1 H1 l1 S1 h1 => ?_⟩, k.ex⟩
  cases b with
  | true => rw [if_pos rfl] at h1 ⊢; exact ⟨σ3, W1, G1, D3, R.mono l1, S1, h1, k.mono l1⟩
  | false => rw [if_neg Bool.false_ne_true] at h1 ⊢; exact ⟨σ3, W1, G1, D3, R.mono l1, S1, h1, k.mono l1⟩
theorem bT_one {st : Stmt} {t : TS3} (h : PST X st (lowS X.K Wx t)) : PSsT X [st] (lowS X.K Wx t) := by
  intro pins s σ H D h0 I q
  exact psst_one h pins s σ H D h0 I q
end
end T3

namespace ZL
open PySem PySem.Spec PyProof.Rows L2
/-! ### list(zip(xs, ys)) of two lists -/
/-- the zip's state: behind the first turn its tuple is out -/
def St (h : Heap) (z TI TO i1 i2 l1 l2 S : Addr) (xs ys : Array Value) (i : Nat) : Prop :=
  IsPair h TI (.ref i1) (.ref i2) ∧ h.IsListIter i1 l1 i ∧ h.IsListIter i2 l2 i ∧ h.IsList l1 xs ∧ h.IsList l2 ys ∧
  ((IsZip h z TI TO .none ∧ ∃ a b, IsPair h TO a b) ∨ ∃ T f oT, IsZipHeld h z TI TO T f ∧ h.get? T = some oT ∧ T ≠ z ∧ T ≠ i1 ∧ T ≠ i2 ∧ T ≠ S)
structure Off (z TI TO i1 i2 l1 l2 S : Addr) : Prop where
  z : z ≠ S
  TI : TI ≠ S
  TO : TO ≠ S
  i1 : i1 ≠ S
  i2 : i2 ≠ S
  l1 : l1 ≠ S
  l2 : l2 ≠ S
section
variable {prog : Program} {w : World} {A : Around} {E : Value → Shared → Prop} {s : Shared} {z TI TO i1 i2 l1 l2 S : Addr} {xs ys : Array Value} {R : Result → Shared → Prop}
theorem St.keep {h h' : Heap} {i : Nat} (x : St h z TI TO i1 i2 l1 l2 S xs ys i) (hk : ∀ b o, b ≠ S → h.get? b = some o → h'.get? b = some o) (O : Off z TI TO i1 i2 l1 l2 S) : St h' z TI TO i1 i2 l1 l2 S xs ys i := by
  obtain ⟨hTI, h1, h2, hl1, hl2, hz⟩ := x
  refine ⟨hk _ _ O.TI hTI, h1.at fun o e => hk _ o O.i1 e, h2.at fun o e => hk _ o O.i2 e, hl1.at fun o e => hk _ o O.l1 e, hl2.at fun o e => hk _ o O.l2 e, ?_⟩
  rcases hz with ⟨hz, a, b, hTO⟩ | ⟨T, f, oT, hz, hT, r1, r2, r3, r4⟩
  · exact .inl ⟨hk _ _ O.z hz, a, b, hk _ _ O.TO hTO⟩
  · exact .inr ⟨T, f, oT, hk _ _ O.z hz, hk _ _ r4 hT, r1, r2, r3, r4⟩
theorem item {i : Nat} {x y : Value} {Q : Option Value → Shared → Prop} (D : ZipApart z TI TO i1 i2 l1 l2) (st : St s.heap z TI TO i1 i2 l1 l2 S xs ys i) (hS : S < s.heap.objs.size) (ex : xs[i]? = some x) (ey : ys[i]? = some y)
    (hQ : ∀ h', St h' z TI TO i1 i2 l1 l2 S xs ys (i + 1) → IsPair h' s.heap.objs.size x y → (∀ c o, c ≠ z → c ≠ TO → c ≠ i1 → c ≠ i2 → s.heap.get? c = some o → h'.get? c = some o) → Q (some (.ref s.heap.objs.size)) { s with heap := h' }) :
    wpAny (model prog w) A (pyNext (.ref z)) Q E s := by
  obtain ⟨hTI, h1, h2, hl1, hl2, hz⟩ := st
  have lt : ∀ {c o}, s.heap.get? c = some o → s.heap.objs.size ≠ c := fun e => Nat.ne_of_gt (Heap.lt_size e)
  have n1 : s.heap.objs.size ≠ i1 := let ⟨_, e, _⟩ := h1; lt e
  have n2 : s.heap.objs.size ≠ i2 := let ⟨_, e, _⟩ := h2; lt e
  rcases hz with ⟨hz, a, b, hTO⟩ | ⟨T, f, oT, hz, hT, r1, r2, r3, r4⟩
  · refine wpAny_pyNext_zip_item D hz hTI hTO h1 h2 hl1 hl2 ex ey fun h' a1 a2 a3 a4 a5 a6 hk => ?_
    exact hQ h' ⟨hk _ _ D.TIz D.TITO D.TIi1 D.TIi2 hTI, a3, a4, hl1.at fun o e => hk _ o D.l1z D.l1TO D.l1i1 D.l1i2 e, hl2.at fun o e => hk _ o D.l2z D.l2TO D.l2i1 D.l2i2 e,
      .inr ⟨s.heap.objs.size, false, _, a1, a5, lt hz, n1, n2, Nat.ne_of_gt hS⟩⟩ a5 hk
  · refine wpAny_pyNext_zip_item_held D hz hT hTI h1 h2 hl1 hl2 ex ey fun h' a1 a3 a4 a5 a6 hk => ?_
    exact hQ h' ⟨hk _ _ D.TIz D.TIi1 D.TIi2 hTI, a3, a4, hl1.at fun o e => hk _ o D.l1z D.l1i1 D.l1i2 e, hl2.at fun o e => hk _ o D.l2z D.l2i1 D.l2i2 e,
      .inr ⟨T, true, oT, a1, hk _ _ r1 r2 r3 hT, r1, r2, r3, r4⟩⟩ a5 fun c o c1 _ c3 c4 e => hk c o c1 c3 c4 e
theorem done {i : Nat} {Q : Option Value → Shared → Prop} (hh : A.handled = none) (D : ZipApart z TI TO i1 i2 l1 l2) (st : St s.heap z TI TO i1 i2 l1 l2 S xs ys i) (hend : xs[i]? = none ∨ ys[i]? = none)
    (hQ : ∀ h', (∀ c o, c ≠ z → c ≠ TO → c ≠ i1 → c ≠ i2 → s.heap.get? c = some o → h'.get? c = some o) → Q none { s with heap := h' }) : wpAny (model prog w) A (pyNext (.ref z)) Q E s := by
  obtain ⟨hTI, h1, h2, hl1, hl2, hz⟩ := st
  rcases hz with ⟨hz, a, b, hTO⟩ | ⟨T, f, oT, hz, hT, r1, r2, r3, r4⟩
  · exact wpAny_pyNext_zip_end hh D hz hTI hTO h1 h2 hl1 hl2 hend fun h' hk => hQ h' hk
  · exact wpAny_pyNext_zip_end_held hh D hz hT hTI h1 h2 hl1 hl2 hend fun h' hk => hQ h' fun c o c1 _ c3 c4 e => hk c o c1 c3 c4 e
/-- what is gathered -/
structure Got (xs ys : Array Value) (lo : Addr) (h : Heap) (as : List Addr) : Prop where
  rise : as.Pairwise (· < ·)
  above : ∀ a ∈ as, lo < a
  pairs : ∀ (j : Nat) (a : Addr), as[j]? = some a → ∃ x y, xs[j]? = some x ∧ ys[j]? = some y ∧ IsPair h a x y
theorem Got.there {lo : Addr} {h : Heap} {as : List Addr} (g : Got xs ys lo h as) {a : Addr} (ha : a ∈ as) : a < h.objs.size := by
  obtain ⟨j, hj⟩ := List.mem_iff_getElem?.mp ha
  obtain ⟨_, _, _, _, e⟩ := g.pairs j a hj
  exact Heap.lt_size e
theorem loop (hh : A.handled = none) (D : ZipApart z TI TO i1 i2 l1 l2) (O : Off z TI TO i1 i2 l1 l2 S) (lo : z < S ∧ TO < S ∧ i1 < S ∧ i2 < S) (hxy : xs.size = ys.size) (hn : xs.size ≤ sizeLine) (res : Value) {h₁ : Heap}
    (hR : ∀ h' tk acc c as, (∀ b o, b ≠ S → b ≠ z → b ≠ TO → b ≠ i1 → b ≠ i2 → h₁.get? b = some o → h'.get? b = some o) → h'.get? S = some { cls := .type "list", dict := none, data := .seq acc c, slots := #[] } → as.length = xs.size → Got xs ys S h' as →
      acc.toList = as.map Value.ref → R (.ok (.ret res)) { s with heap := h', toks := tk }) :
    ∀ (k i : Nat) (h : Heap) (tk c : Nat) (acc : Array Value) (as : List Addr), xs.size - i = k → i ≤ xs.size → St h z TI TO i1 i2 l1 l2 S xs ys i → (∀ b o, b ≠ S → b ≠ z → b ≠ TO → b ≠ i1 → b ≠ i2 → h₁.get? b = some o → h.get? b = some o) →
      h.get? S = some { cls := .type "list", dict := none, data := .seq acc c, slots := #[] } → acc.toList = as.map Value.ref → as.length = i → Got xs ys S h as →
      codeAny (model prog w) A (.builtin "list.extend.loop" ⟨[.ref S, .ref z, res], []⟩) R { s with heap := h, toks := tk } := by
  have off : ∀ {a : Addr}, S < a → a ≠ z ∧ a ≠ TO ∧ a ≠ i1 ∧ a ≠ i2 := fun h => ⟨Nat.ne_of_gt (Nat.lt_trans lo.1 h), Nat.ne_of_gt (Nat.lt_trans lo.2.1 h), Nat.ne_of_gt (Nat.lt_trans lo.2.2.1 h), Nat.ne_of_gt (Nat.lt_trans lo.2.2.2 h)⟩
  intro k
  induction k with
  | zero =>
    intro i h tk c acc as hk hi st hkeep hS hacc hal hG
    refine codeAny_builtin PySem.F.entry_extend_loop ?_
    rw [Around.under_plainId PySem.F.plain_extend_loop _]
    show wpAny _ A.in1 (pyNext (.ref z) >>= _) _ _ _
    refine wpAny_bind (done (s := { s with heap := h, toks := tk }) (A := A.in1) hh D st (.inl (Array.getElem?_eq_none (by omega))) fun h' he => ?_)
    refine wpAny_pure (hR h' tk acc c as (fun b o h0 h1 h2 h3 h4 e => he b o h1 h2 h3 h4 (hkeep b o h0 h1 h2 h3 h4 e)) (he S _ O.z.symm O.TO.symm O.i1.symm O.i2.symm hS) (by omega) ⟨hG.rise, hG.above, fun j a hj => ?_⟩ hacc)
    obtain ⟨x, y, e1, e2, e3⟩ := hG.pairs j a hj
    obtain ⟨g1, g2, g3, g4⟩ := off (hG.above a (List.mem_of_getElem? hj))
    exact ⟨x, y, e1, e2, he a _ g1 g2 g3 g4 e3⟩
  | succ k ih =>
    intro i h tk c acc as hk hi st hkeep hS hacc hal hG
    have hlt : i < xs.size := by omega
    have ex : xs[i]? = some xs[i] := Array.getElem?_eq_getElem hlt
    have ey : ys[i]? = some (ys[i]'(by omega)) := Array.getElem?_eq_getElem (by omega)
    have hsz : acc.size = i := by rw [← Array.length_toList, hacc, List.length_map, hal]
    refine codeAny_builtin PySem.F.entry_extend_loop ?_
    rw [Around.under_plainId PySem.F.plain_extend_loop _]
    show wpAny _ A.in1 (pyNext (.ref z) >>= _) _ _ _
    refine wpAny_bind (item (s := { s with heap := h, toks := tk }) D st (Heap.lt_size hS) ex ey fun h' st' ht hkp => ?_)
    dsimp only at ht hkp ⊢
    have hS' := hkp S _ O.z.symm O.TO.symm O.i1.symm O.i2.symm hS
    have up : ∀ b o, b ≠ S → h'.get? b = some o → (h'.update S (Obj.mapSeq (·.push (Value.ref h.objs.size)))).get? b = some o := fun b o hb e => (Heap.get?_update_other _ _ (Ne.symm hb)).trans e
    have hSl : S < h.objs.size := Heap.lt_size hS
    show wpAny _ A.in1 (updateSeq S (·.push (Value.ref h.objs.size)) >>= _) _ _ _
    refine wpAny_bind ?_
    refine wpAny_updateSeq hS' rfl (wpAny_pure ⟨plainId_quiet PySem.F.plain_extend_loop _, ih (i + 1) _ tk _ (acc.push (Value.ref h.objs.size)) (as ++ [h.objs.size]) (by omega) hlt (st'.keep up O)
      (fun b o h0 h1 h2 h3 h4 e => up b o h0 (hkp b o h1 h2 h3 h4 (hkeep b o h0 h1 h2 h3 h4 e))) (Heap.get?_update_self _ hS' rfl) (by rw [Array.toList_push, hacc, List.map_append]; rfl) (by rw [List.length_append, hal]; rfl) ⟨?_, ?_, ?_⟩⟩) (by rw [hsz]; omega) (by show (acc.push (Value.ref h.objs.size)).size ≤ sizeLine + 1; rw [Array.size_push, hsz]; omega)
    · refine List.pairwise_append.mpr ⟨hG.rise, List.pairwise_singleton _ _, fun a ha b hb => ?_⟩
      rw [List.mem_singleton.mp hb]
      exact hG.there ha
    · intro a ha
      rcases List.mem_append.mp ha with ha | ha
      · exact hG.above a ha
      · rw [List.mem_singleton.mp ha]; exact hSl
    · intro j b hj
      rcases Nat.lt_trichotomy j as.length with h1 | h1 | h1
      · rw [List.getElem?_append_left h1] at hj
        obtain ⟨x', y', e1, e2, e3⟩ := hG.pairs j b hj
        have hb := hG.above b (List.mem_of_getElem? hj)
        obtain ⟨g1, g2, g3, g4⟩ := off hb
        exact ⟨x', y', e1, e2, up b _ (Nat.ne_of_gt hb) (hkp b _ g1 g2 g3 g4 e3)⟩
      · subst h1
        have hb : h.objs.size = b := by simpa using hj
        subst hb
        exact ⟨_, _, by rw [hal]; exact ex, by rw [hal]; exact ey, up _ _ (Nat.ne_of_gt hSl) ht⟩
      · have hnone : (as ++ [h.objs.size])[j]? = none := List.getElem?_eq_none (by rw [List.length_append, List.length_singleton]; omega)
        rw [hnone] at hj; cases hj
end
end ZL
namespace ZL
open PySem PySem.Spec PyProof.Rows L2
theorem no_len : typeLookup (.type "zip") "__len__" = pure none := am_miss_of_fast (by decide +kernel)
theorem no_hint : typeLookup (.type "zip") "__length_hint__" = pure none := am_miss_of_fast (by decide +kernel)
section
variable {prog : Program} {w : World} {A : Around} {E : Value → Shared → Prop} {s : Shared} {z TI TO i1 i2 l1 l2 S : Addr} {xs ys : Array Value} {R : Result → Shared → Prop}
theorem hint {r : Addr} (hT : s.TypeIs (.ref r) "zip") {Q : Bool → Shared → Prop} (h : Q true s) : wpAny (model prog w) A (Builtin.List.listLengthHint (.ref r)) Q E s := by
  unfold Builtin.List.listLengthHint
  refine wpAny_bind (wpAny_specialOf hT no_len ?_)
  refine wpAny_ite_split (fun hab => absurd hab (by decide +kernel)) (fun _ => ?_)
  refine wpAny_ite_split (fun hab => absurd hab (by decide +kernel)) (fun _ => ?_)
  refine wpAny_bind (wpAny_specialOf hT no_hint ?_)
  exact wpAny_pure h
theorem extend (hh : A.handled = none) (D : ZipApart z TI TO i1 i2 l1 l2) (O : Off z TI TO i1 i2 l1 l2 S) (lo : z < S ∧ TO < S ∧ i1 < S ∧ i2 < S) (hxy : xs.size = ys.size) (hn : xs.size ≤ sizeLine) (res : Value)
    (hz : IsZip s.heap z TI TO .none) (st : St s.heap z TI TO i1 i2 l1 l2 S xs ys 0) (c₀ : Nat) (hS : s.heap.get? S = some { cls := .type "list", data := .seq #[] c₀ })
    (hR : ∀ h' tk acc c as, (∀ b o, b ≠ S → b ≠ z → b ≠ TO → b ≠ i1 → b ≠ i2 → s.heap.get? b = some o → h'.get? b = some o) → h'.get? S = some { cls := .type "list", dict := none, data := .seq acc c, slots := #[] } → as.length = xs.size → Got xs ys S h' as →
      acc.toList = as.map Value.ref → R (.ok (.ret res)) { s with heap := h', toks := tk }) :
    wpAny (model prog w) A.in1 (Builtin.List.listExtendWith (.ref S) (.ref z) res)
      (fun fin s' => match fin with | .done f => R (.ok f) s' | .again c' => c'.quiet = true ∧ codeAny (model prog w) A c' R s') (fun e s' => R (.error e) s') s := by
  have hT : s.TypeIs (.ref z) "zip" := ⟨_, hz, rfl⟩
  have key : ∀ (h : Heap) (c₁ tk : Nat), (∀ b o, b ≠ S → s.heap.get? b = some o → h.get? b = some o) → h.get? S = some { cls := .type "list", data := .seq #[] c₁ } → codeAny (model prog w) A (.builtin "list.extend.loop" ⟨[.ref S, .ref z, res], []⟩) R { s with heap := h, toks := tk } := by
    intro h c₁ tk hk hS₁
    refine loop (s := s) (h₁ := s.heap) hh D O lo hxy hn res hR xs.size 0 h tk c₁ #[] [] (Nat.sub_zero _) (Nat.zero_le _) (st.keep hk O) (fun b o h0 _ _ _ _ e => hk b o h0 e) hS₁ rfl rfl
      ⟨List.Pairwise.nil, (fun _ ha => nomatch ha), (fun j a hj => by simp at hj)⟩
  unfold Builtin.List.listExtendWith
  refine wpAny_bind (wpAny_typeOf (T := "zip") hT ?_)
  have h1 : Builtin.List.listSameRef (.ref S) (.ref z) = false := by simp [Builtin.List.listSameRef, O.z.symm]
  have h2 : (Value.type "zip" == Value.type "list") = false := by decide
  have h3 : (Value.type "zip" == Value.type "tuple") = false := by decide
  simp only [h1, h2, h3, Bool.or_false, Bool.false_eq_true, if_false]
  refine wpAny_bind (wpAny_pyIter_zip hz ?_)
  refine wpAny_bind (wpAny_holding (hint hT ?_))
  refine wpAny_ite_split (fun _ => ?_) (fun _ => wpAny_pure ⟨plainId_quiet PySem.F.plain_extend_loop _, key _ c₀ _ (fun b o _ e => e) hS⟩)
  refine wpAny_bind (wpAny_rule ?_)
  refine wpAny_bind ?_
  show wpAny _ _ (updateSeq S (·.push .none) >>= fun _ => updateSeq S (·.pop)) _ _ _
  refine wpAny_bind (wpAny_updateSeq hS rfl ?_)
  have hS₂ := Heap.get?_update_self (Obj.mapSeq (·.push Value.none)) hS rfl
  refine wpAny_updateSeq (hz := by seq_fits) hS₂ rfl ?_
  have hS₃ := Heap.get?_update_self (Obj.mapSeq (·.pop)) hS₂ rfl
  refine wpAny_pure ⟨plainId_quiet PySem.F.plain_extend_loop _, key _ _ _ (fun b o hb e => ?_) hS₃⟩
  exact (Heap.get?_update_other _ _ (Ne.symm hb)).trans ((Heap.get?_update_other _ _ (Ne.symm hb)).trans e)
theorem init (hh : A.handled = none) (D : ZipApart z TI TO i1 i2 l1 l2) (O : Off z TI TO i1 i2 l1 l2 S) (lo : z < S ∧ TO < S ∧ i1 < S ∧ i2 < S) (hxy : xs.size = ys.size) (hn : xs.size ≤ sizeLine)
    (hz : IsZip s.heap z TI TO .none) (st : St s.heap z TI TO i1 i2 l1 l2 S xs ys 0) (hS : s.heap.get? S = some { cls := .type "list", data := .seq #[] })
    (hR : ∀ h' tk acc c as, (∀ b o, b ≠ S → b ≠ z → b ≠ TO → b ≠ i1 → b ≠ i2 → s.heap.get? b = some o → h'.get? b = some o) → h'.get? S = some { cls := .type "list", dict := none, data := .seq acc c, slots := #[] } → as.length = xs.size → Got xs ys S h' as →
      acc.toList = as.map Value.ref → R (.ok (.ret .none)) { s with heap := h', toks := tk }) :
    wpAny (model prog w) A.in1 (Builtin.«list.__init__» ⟨[.ref S, .ref z], []⟩)
      (fun fin s' => match fin with | .done f => R (.ok f) s' | .again c' => c'.quiet = true ∧ codeAny (model prog w) A c' R s') (fun e s' => R (.error e) s') s := by
  show wpAny _ _ (do let old ← Builtin.List.listItems (.ref S); Builtin.List.listUpdate (.ref S) (fun _ => #[]); letGo old.toList.reverse; Builtin.List.listExtendWith (.ref S) (.ref z) .none) _ _ s
  refine wpAny_bind ?_
  unfold Builtin.List.listItems
  refine wpAny_bind (wpAny_seqItems hS rfl (wpAny_pure ?_))
  show wpAny _ _ (updateSeq S (fun _ => #[]) >>= fun _ => letGo (#[] : Array Value).toList.reverse >>= fun _ => Builtin.List.listExtendWith (.ref S) (.ref z) .none) _ _ s
  refine wpAny_bind (wpAny_updateSeq hS rfl ?_)
  have hS₂ := Heap.get?_update_self (Obj.mapSeq (fun _ => (#[] : Array Value))) hS rfl
  have oth : ∀ b o, b ≠ S → s.heap.get? b = some o → (s.heap.update S (Obj.mapSeq (fun _ => (#[] : Array Value)))).get? b = some o :=
    fun b o hb e => (Heap.get?_update_other _ _ (Ne.symm hb)).trans e
  refine wpAny_bind (wpAny_letGo ?_)
  refine extend hh D O lo hxy hn .none (oth _ _ O.z hz) (st.keep oth O) _ hS₂ (fun h' tk acc c as hk hS' hl hG hacc => ?_)
  exact hR h' tk acc c as (fun b o h0 h1 h2 h3 h4 e => hk b o h0 h1 h2 h3 h4 (oth b o h0 e)) hS' hl hG hacc
/-- list(z), z a fresh zip of two lists -/
theorem call_list {Q : Value → Shared → Prop} {B : Addr} (hh : A.handled = none) (D : ZipApart z TI TO i1 i2 l1 l2) (lo : z < s.heap.objs.size ∧ TI < s.heap.objs.size ∧ TO < s.heap.objs.size ∧ i1 < s.heap.objs.size ∧ i2 < s.heap.objs.size ∧ l1 < s.heap.objs.size ∧ l2 < s.heap.objs.size)
    (hB : B ≤ z ∧ B ≤ TO ∧ B ≤ i1 ∧ B ≤ i2) (hxy : xs.size = ys.size) (hn : xs.size ≤ sizeLine)
    (hz : IsZip s.heap z TI TO .none) (hTI : IsPair s.heap TI (.ref i1) (.ref i2)) (hTO : IsPair s.heap TO .none .none) (h1 : s.heap.IsListIter i1 l1 0) (h2 : s.heap.IsListIter i2 l2 0) (hl1 : s.heap.IsList l1 xs) (hl2 : s.heap.IsList l2 ys)
    (hQ : ∀ h' tk acc c as, (∀ b o, b < B → s.heap.get? b = some o → h'.get? b = some o) → h'.get? s.heap.objs.size = some { cls := .type "list", dict := none, data := .seq acc c, slots := #[] } → as.length = xs.size → Got xs ys s.heap.objs.size h' as →
      acc.toList = as.map Value.ref → Q (.ref s.heap.objs.size) { s with heap := h', toks := tk }) :
    wpAny (model prog w) A (call (.type "list") [.ref z]) Q E s := by
  refine callType_codes (Q₁ := fun obj s₁ => obj = .ref s.heap.objs.size ∧ s₁ = { s with heap := s.heap.push { cls := .type "list", data := .seq #[] } }) PySem.F.called_list (PySem.F.typeCall_list_1 _) PySem.F.entry_list_init
    (code_list_new _ ⟨rfl, rfl⟩) fun obj s₁ h₁ => ?_
  obtain ⟨rfl, rfl⟩ := h₁
  have hS : (s.heap.push { cls := .type "list", data := .seq #[] }).get? s.heap.objs.size = some { cls := .type "list", data := .seq #[] } := Heap.get?_push_size _ rfl
  obtain ⟨g1, g2, g3, g4, g5, g6, g7⟩ := lo
  have up : ∀ b o, s.heap.get? b = some o → (s.heap.push { cls := .type "list", data := .seq #[] }).get? b = some o := fun b o e => Heap.get?_push_of_some _ e
  have O : Off z TI TO i1 i2 l1 l2 s.heap.objs.size := ⟨Nat.ne_of_lt g1, Nat.ne_of_lt g2, Nat.ne_of_lt g3, Nat.ne_of_lt g4, Nat.ne_of_lt g5, Nat.ne_of_lt g6, Nat.ne_of_lt g7⟩
  refine ⟨⟨_, hS, rfl⟩, PySem.F.args_list_init_2 _ _, init (A := A.in1) hh D O ⟨g1, g3, g4, g5⟩ hxy hn (up _ _ hz) ⟨up _ _ hTI, h1.at (up _), h2.at (up _), hl1.at (up _), hl2.at (up _), .inl ⟨up _ _ hz, _, _, up _ _ hTO⟩⟩ hS (fun h' tk acc c as hk hS' hl hG hacc => ?_)⟩
  refine ⟨rfl, hQ h' tk acc c as (fun b o hb e => hk b o (Nat.ne_of_lt (Heap.lt_size e)) ?_ ?_ ?_ ?_ (up b o e)) hS' hl hG hacc⟩
  · exact Nat.ne_of_lt (Nat.lt_of_lt_of_le hb hB.1)
  · exact Nat.ne_of_lt (Nat.lt_of_lt_of_le hb hB.2.1)
  · exact Nat.ne_of_lt (Nat.lt_of_lt_of_le hb hB.2.2.1)
  · exact Nat.ne_of_lt (Nat.lt_of_lt_of_le hb hB.2.2.2)
end
end ZL

namespace ZL
open PySem PySem.Spec PyProof.Rows L2 LiI
def putZ : Hp → List Addr → List (V × V) → Hp
  | H, a :: as, p :: ps => putZ (upd H a (.tup [p.1, p.2])) as ps
  | H, _, _ => H
theorem putZ_off {b : Addr} : ∀ (as : List Addr) (ps : List (V × V)) (H : Hp), b ∉ as → putZ H as ps b = H b
  | [], _, _, _ => rfl
  | _ :: _, [], _, _ => rfl
  | a :: as, p :: ps, H, h => by
    show putZ (upd H a (.tup [p.1, p.2])) as ps b = H b
    rw [putZ_off as ps _ (fun z => h (List.mem_cons_of_mem _ z)), upd_ne (fun z => h (by rw [z]; exact List.mem_cons_self))]
theorem putZ_at : ∀ (as : List Addr) (ps : List (V × V)) (H : Hp), as.length = ps.length → as.Nodup → Paired (fun (t : Addr) (p : V × V) => putZ H as ps t = some (.tup [p.1, p.2])) as ps
  | [], [], _, _, _ => .nil
  | [], _ :: _, _, h, _ => by cases h
  | _ :: _, [], _, h, _ => by cases h
  | a :: as, p :: ps, H, h, hn => by
    have hn' := List.nodup_cons.mp hn
    have ih := putZ_at as ps (upd H a (.tup [p.1, p.2])) (Nat.succ.inj h) hn'.2
    refine .cons ?_ ih
    show putZ (upd H a (.tup [p.1, p.2])) as ps a = some (.tup [p.1, p.2])
    rw [putZ_off as ps _ hn'.1, upd_same]
section
variable {X : Cx}
theorem laid {pins : List (Addr × Obj)} {σ : L2.St} {H : Hp} {s : Shared} {h' : Heap} {tk : Nat} {vs us : List V} {its its2 : List Value} {acc : Array Value} {c : Nat} {as : List Addr} {S : Addr} (I : Inv X pins σ H s) (rv : Vals vs its) (ru : Vals us its2) (hlen : vs.length = us.length) (hz : vs.length ≤ sizeLine)
    (hSB : s.heap.objs.size ≤ S) (hk : ∀ b o, s.heap.get? b = some o → h'.get? b = some o) (hS : h'.get? S = some { cls := .type "list", dict := none, data := .seq acc c, slots := #[] }) (hl : as.length = vs.length) (hG : Got its.toArray its2.toArray S h' as) (hacc : acc.toList = as.map Value.ref) :
    as.Nodup ∧ (∀ t ∈ as, H t = none) ∧ H S = none ∧ S ∉ as ∧ Inv X pins σ (upd (putZ H as (vs.zip us)) S (.lst (as.map V.ref))) { s with heap := h', toks := tk } := by
  have hzl : (vs.zip us).length = vs.length := by rw [List.length_zip, hlen, Nat.min_self]
  have hSn : S ∉ as := fun z => Nat.lt_irrefl _ (hG.above _ z)
  have nd : as.Nodup := List.Pairwise.imp (fun {a b} (h : a < b) => Nat.ne_of_lt h) hG.rise
  have new : ∀ t ∈ as, H t = none := fun t ht => I.hok.fresh (Nat.le_trans hSB (Nat.le_of_lt (hG.above t ht)))
  have newS : H S = none := I.hok.fresh hSB
  have atP := putZ_at as (vs.zip us) H (by omega) nd
  have off : ∀ b, b ∉ as → b ≠ S → upd (putZ H as (vs.zip us)) S (.lst (as.map V.ref)) b = H b := fun b h1 h2 => by rw [upd_ne h2, putZ_off as (vs.zip us) _ h1]
  have low : ∀ b o, s.heap.get? b = some o → b ∉ as ∧ b ≠ S := fun b o e => ⟨fun z => absurd (Heap.lt_size e) (Nat.not_lt.mpr (Nat.le_trans hSB (Nat.le_of_lt (hG.above b z)))), Nat.ne_of_lt (Nat.lt_of_lt_of_le (Heap.lt_size e) hSB)⟩
  have kp : ∀ b u, H b = some u → (upd (putZ H as (vs.zip us)) S (.lst (as.map V.ref))) b = some u := fun b u e => by
    rw [off b (fun z => by rw [new b z] at e; cases e) (fun z => by rw [z, newS] at e; cases e)]
    exact e
  refine ⟨nd, new, newS, hSn, ?_⟩
  refine I.call' (ch := []) rfl ⟨fun b o q _ _ _ => hk b o q, fun b o q _ _ _ => ⟨o.slots, hk b o q⟩, fun b o q n _ => ?_, fun b o q _ => ⟨o, hk b o q⟩, fun b xs q => kp b _ q, fun b o u q => kp b _ q, fun b ps q => ⟨#[], by rw [kp b _ q]; simp⟩⟩ (fun b u q => ?_) I.bare fun b z => by simp at z
  · obtain ⟨z1, z2⟩ := low b o q
    rw [off b z1 z2]
    exact n
  · by_cases hb2 : b = S
    · rw [hb2] at q ⊢
      rw [upd_same] at q
      cases q
      refine ⟨by rw [List.length_map]; omega, acc.toList, c, by rw [hacc]; exact LiI.vals_refs as, ?_⟩
      rw [Array.toArray_toList]
      exact hS
    · by_cases hb : b ∈ as
      · obtain ⟨j, pk, e1, e2, e3⟩ := paired_ix atP hb
        rw [upd_ne hb2, e3] at q
        cases q
        obtain ⟨x, y, f1, f2, f3⟩ := hG.pairs j b e1
        rw [List.getElem?_zip_eq_some] at e2
        obtain ⟨g1, g2⟩ := e2
        obtain ⟨x', k1, k2⟩ := rv.get g1
        obtain ⟨y', k3, k4⟩ := ru.get g2
        have f1 : its[j]? = some x := by simpa using f1
        have f2 : its2[j]? = some y := by simpa using f2
        rw [f1] at k1
        rw [f2] at k3
        cases k1
        cases k3
        exact ⟨by show 2 ≤ sizeLine; decide, [x, y], .cons k2 (.cons k4 .nil), ⟨_, f3, rfl, _, rfl⟩⟩
      · rw [off b hb hb2] at q
        exact (I.hok b u q).stay (fun d v _ y => hk d v y) (fun d y => kp d _ y) fun d xs y => kp d _ y
def tListZip (K : PySem.W.Frag) (ta : TA) : TE := fun σ H Q => ta σ H fun vs0 H1 => ∃ (a b : Addr) (xs ys : List V), vs0 = [.ref a, .ref b] ∧ SqL K H1 a xs ∧ SqL K H1 b ys ∧ xs.length = ys.length ∧
  ∀ (as : List Addr) (S : Addr), as.length = xs.length → as.Nodup → (∀ t ∈ as, H1 t = none) → H1 S = none → S ∉ as → Q (.ref S) (upd (putZ H1 as (xs.zip ys)) S (.lst (as.map V.ref)))
theorem pe_listZip {e e2 : Expr} {ta : TA} {p p2 pos pos2 : Pos} (hc : X.calm = true) (hgl : Gl X "list") (hml : X.mg "list" = none) (hg : Gl X "zip") (hm : X.mg "zip" = none) (ha : PA X [e, e2] ta)
    (na : starEach [.Call (.Name "zip" p2) [e, e2] [] pos2] X.env = (false, eval (.Call (.Name "zip" p2) [e, e2] [] pos2) X.env) :: starEach [] X.env := by rfl)
    (hs : starEach [e, e2] X.env = (false, eval e X.env) :: starEach [e2] X.env := by rfl) (hpl : (backTo pos2 (starEach [e2] X.env)).any (·.1) = false := by rfl) :
    PE X (.Call (.Name "list" p) [.Call (.Name "zip" p2) [e, e2] [] pos2] [] pos) (tListZip X.K ta) := by
  refine ⟨fun pins s σ H Q I h => ?_⟩
  refine Call_ (ld_blt I hgl hml boot_list (PyProof.Rows.callWith_type1 (args_cons ?_ na) na))
  refine Call_ (ld_blt I hg hm PyProof.Rows.boot_zip (PyProof.Rows.callWith_type1 (thn (ha.run pos2 pins s σ H _ I h) fun us s1 ⟨vs, H1, I1, r1, q1⟩ => ?_) hs hpl))
  obtain ⟨a, b, xs, ys, ex, hqx, hqy, hlen, q⟩ := q1
  subst ex
  cases r1 with
  | cons r rr =>
    cases rr with
    | cons r' rr =>
      cases rr
      cases r
      cases r'
      obtain ⟨its, rv, p1, z1⟩ := I1.list hqx
      obtain ⟨its2, rv2, p2, z2⟩ := I1.list hqy
      have la : a < s1.heap.objs.size := p1.lt
      have lb : b < s1.heap.objs.size := p2.lt
      have l1 := rv.length
      have l2 := rv2.length
      refine call_zip_2 p1.isList p2.isList fun h' hz hTI hTO h1 h2 hsz hk => args_nil ?_
      have D : ZipApart (s1.heap.objs.size + 4) (s1.heap.objs.size + 2) (s1.heap.objs.size + 3) s1.heap.objs.size (s1.heap.objs.size + 1) a b := PySem.W.ktu_apart s1.heap.objs.size a b la lb
      have lo : s1.heap.objs.size + 4 < h'.objs.size ∧ s1.heap.objs.size + 2 < h'.objs.size ∧ s1.heap.objs.size + 3 < h'.objs.size ∧ s1.heap.objs.size < h'.objs.size ∧ s1.heap.objs.size + 1 < h'.objs.size ∧ a < h'.objs.size ∧ b < h'.objs.size := by
        have la' : (a : Nat) < s1.heap.objs.size := la
        have lb' : (b : Nat) < s1.heap.objs.size := lb
        rw [hsz]
        exact ⟨by show (_ : Nat) < _; omega, by show (_ : Nat) < _; omega, by show (_ : Nat) < _; omega, by show (_ : Nat) < _; omega, by show (_ : Nat) < _; omega, Nat.lt_of_lt_of_le la (Nat.le_add_right _ _), Nat.lt_of_lt_of_le lb (Nat.le_add_right _ _)⟩
      refine call_list (s := { s1 with heap := h' }) (B := s1.heap.objs.size) (I1.ok.hd hc) D lo ?_ (by simp only [List.size_toArray]; omega) (by rw [List.size_toArray, ← l1]; exact z1) hz hTI hTO h1 h2 (p1.isList.at (hk _)) (p2.isList.at (hk _)) fun h2' tk acc c as hk2 hS hl hG hacc => ?_
      · refine ⟨?_, ?_, ?_, ?_⟩ <;> (show (_ : Nat) ≤ _; omega)
      · obtain ⟨k1, k2, k3, k4, J⟩ := laid (tk := tk) I1 rv rv2 hlen z1 (by show (_ : Nat) ≤ _; rw [hsz]; omega) (fun bb o e => hk2 bb o (Heap.lt_size e) (hk bb o e)) hS (by rw [hl, List.size_toArray, l1]) hG hacc
        exact ⟨.ref _, _, J, rfl, q as _ (by rw [hl, List.size_toArray, l1]) k1 k2 k3 k4⟩
end
end ZL
namespace T3
open PySem PySem.Spec PyProof.Rows L2 ZL
/-! ### list(zip(xs, ys)), a list that stays -/
def zipL3 : R3 := fun x y G Q => ∃ xs ys, Ls G x xs ∧ Ls G y ys ∧ xs.length = ys.length ∧ Q (.lst (List.zipWith (fun a b => .tup [a, b]) xs ys)) G
theorem zip_sim {K : PySem.W.Frag} {W0 : Wd} : ∀ {xs ys : List D} {vs us : List V} {as : List Addr} {W : Wd} {G : G3} {H : Hp}, W0.le W → Sim K W G H → RlL W0 xs vs → RlL W0 ys us → vs.length = us.length → as.length = vs.length → as.Nodup → (∀ t ∈ as, H t = none) →
    ∃ W', W.le W' ∧ Sim K W' G (putZ H as (vs.zip us)) ∧ RlL W' (List.zipWith (fun a b => D.tup [a, b]) xs ys) (as.map V.ref)
  | [], ys, vs, us, as, W, G, H, l, S, rx, ry, h1, h2, hn, hf => by
    cases rx
    have e : as = [] := List.length_eq_zero_iff.mp h2
    subst e
    exact ⟨W, .refl _, S, rfl⟩
  | x :: xs, [], vs, us, as, W, G, H, l, S, rx, ry, h1, h2, hn, hf => by
    obtain ⟨v, vr, rfl, rv, rvs⟩ := rx
    cases ry
    cases h1
  | x :: xs, y :: ys, vs, us, as, W, G, H, l, S, rx, ry, h1, h2, hn, hf => by
    obtain ⟨v, vr, rfl, rv, rvs⟩ := rx
    obtain ⟨u, ur, rfl, ru, rus⟩ := ry
    match as, h2, hn, hf with
    | a :: ar, h2, hn, hf =>
      have hn' := List.nodup_cons.mp hn
      have ha := hf a (List.mem_cons_self ..)
      obtain ⟨W1, l1, S1, r1⟩ := S.newT ha (show RlL W [x, y] [v, u] from ⟨_, _, rfl, rv.mono l, _, _, rfl, ru.mono l, rfl⟩)
      obtain ⟨W2, l2, S2, r2⟩ := zip_sim (as := ar) (l.trans l1) S1 rvs rus (Nat.succ.inj h1) (Nat.succ.inj h2) hn'.2 fun t ht => by
        rw [upd_ne (fun e => hn'.1 (by rw [← e]; exact ht))]
        exact hf t (List.mem_cons_of_mem _ ht)
      exact ⟨W2, l1.trans l2, S2, _, _, rfl, r1.mono l2, r2⟩
theorem e_listZip {X : Cx} {Wx : WX} {e e2 : Expr} {ta tb : TE3} {p p2 pos pos2 : Pos} (hc : X.calm = true) (hgl : Gl X "list") (hml : X.mg "list" = none) (hg : Gl X "zip") (hm : X.mg "zip" = none) (ha : PE X e (lowE X.K Wx ta)) (hb : PE X e2 (lowE X.K Wx tb))
    (na : starEach [.Call (.Name "zip" p2) [e, e2] [] pos2] X.env = (false, eval (.Call (.Name "zip" p2) [e, e2] [] pos2) X.env) :: starEach [] X.env := by rfl)
    (hs : starEach [e, e2] X.env = (false, eval e X.env) :: starEach [e2] X.env := by rfl) (hs2 : starEach [e2] X.env = [(false, eval e2 X.env)] := by rfl) :
    PE X (.Call (.Name "list" p) [.Call (.Name "zip" p2) [e, e2] [] pos2] [] pos) (lowE X.K Wx (op3 zipL3 ta tb)) := by
  refine (pe_listZip hc hgl hml hg hm (pa_cons ha (pa_cons hb pa_nil hs2) hs) na hs (by rw [hs2]; rfl)).imp3 ?_
  rintro σ H Q ⟨σ3, W, G, Q3, E3, R, S, h, q, e⟩
  refine ⟨σ3, W, G, _, E3, R, S, h, ⟨fun W1 x G1 x' H1 l1 S1 r1 h1 => ?_⟩, e⟩
  refine ⟨σ3, W1, G1, _, E3, R.mono l1, S1, h1, ⟨fun W2 y G2 y' H2 l2 S2 r2 h2 => ?_⟩, e.mono l1⟩
  obtain ⟨xs, ys, hx, hy, hl, h2⟩ := h2
  obtain ⟨a, vs, rfl, ea, ra⟩ := hx.sql S2 (r1.mono l2)
  obtain ⟨b, us, rfl, eb, rb⟩ := hy.sql S2 r2
  refine ⟨a, b, vs, us, rfl, SqL.of ea, SqL.of eb, by rw [← ra.length, ← rb.length]; exact hl, fun as L h1 hn hf hL hLn => ?_⟩
  obtain ⟨W3, l3, S3, r3⟩ := zip_sim (.refl _) S2 ra rb (by rw [← ra.length, ← rb.length]; exact hl) h1 hn hf
  have hL2 : putZ H2 as (vs.zip us) L = none := by rw [putZ_off as _ _ hLn]; exact hL
  obtain ⟨W4, l4, S4, r4⟩ := S3.newL hL2 r3
  exact q.run _ _ _ _ _ (l1.trans (l2.trans (l3.trans l4))) S4 r4 h2
end T3

/-! walks that end while an exception is handled -/
namespace HotX
open PySem PySem.Spec PyProof.Rows
section
variable {prog : Program} {w : World} {A : Around} {E : Value → Shared → Prop} {s : Shared}
theorem HotAt.upd {x1 it : Addr} {h : Heap} {f : Obj → Obj} (hot : HotAt A x1 h) (hne : x1 ≠ it) : HotAt A x1 (h.update it f) := by
  obtain ⟨hh, o, vs, e, d, c⟩ := hot
  exact ⟨hh, o, vs, (Heap.get?_update_other _ _ (Ne.symm hne)).trans e, d, c⟩
theorem HotAt.keep {x1 : Addr} {h h' : Heap} (hot : HotAt A x1 h) (k : ∀ o, h.get? x1 = some o → h'.get? x1 = some o) : HotAt A x1 h' := by
  obtain ⟨hh, o, vs, e, d, c⟩ := hot
  exact ⟨hh, o, vs, k _ e, d, c⟩
/-- StopIteration is made and raised -/
theorem stopped {α : Type} {x1 : Addr} {Q : α → Shared → Prop} (hot : HotAt A x1 s.heap)
    (hE : ∀ h' a, (∀ b o, s.heap.get? b = some o → h'.get? b = some o) → ({ s with heap := h' } : Shared).TypeIs (.ref a) "StopIteration" → E (.ref a) { s with heap := h' }) :
    wpAny (model prog w) A (newExc (.type "StopIteration") [] >>= fun e => (raiseNew e : Sem α)) Q E s := by
  obtain ⟨hh, o1, vs1, h1, d1, c1⟩ := hot
  refine wpAny_bind ?_
  simp only [newExc, newTuple]
  refine wpAny_bind (wpAny_newObj_type ?_ (by size_fits))
  refine wpAny_bind (m := firstArgMember _ _) (wpAny_of_eq (a := Value.none) (by first | rfl | (simp only [firstArgMember]; rfl)) ?_)
  refine wpAny_newObj_type ?_ (by size_fits)
  refine raiseNew_hot ⟨hh, o1, vs1, Heap.get?_push_of_some _ (Heap.get?_push_of_some _ h1), d1, c1⟩ (Nat.ne_of_lt (Heap.lt_size (Heap.get?_push_of_some _ h1))) (Heap.get?_push_size _ rfl) rfl (by first | (simp; done) | (simp; omega) | (simp only [Array.size_append]; simp; omega)) ?_
  refine hE _ _ (fun b o e => ?_) ⟨_, Heap.get?_update_self _ (Heap.get?_push_size _ rfl) rfl, rfl⟩
  rw [Heap.get?_update_other _ _ (Nat.ne_of_gt (Heap.lt_size (Heap.get?_push_of_some _ e)))]
  exact Heap.get?_push_of_some _ (Heap.get?_push_of_some _ e)
theorem list_end {x1 it l : Addr} {i : Nat} {items} {Q : Option Value → Shared → Prop} (hot : HotAt A x1 s.heap) (hne : x1 ≠ it)
    (hit : s.heap.IsListIter it l i) (hl : s.heap.IsList l items) (hx : items[i]? = none)
    (hQ : ∀ h', Heap.ExtBut it s.heap h' → Q none { s with heap := h' }) : wpAny (model prog w) A (pyNext (.ref it)) Q E s := by
  obtain ⟨o, ho, hc, hd⟩ := id hit
  obtain ⟨ol, hol, _, nl, hdl⟩ := hl
  unfold pyNext
  refine wpAny_bind (wpAny_attempt (wpAny_callSpecial?_slot (name := Str.ofString "__next__") hit.typeIs slot_listiter_next
    (wpAny_call_entry slot_listiter_next hit.typeIs entry_listiter_next ?_ (args_listiter_next _))))
  show wpAny _ _ (field (.ref it) 0 >>= _) _ _ s
  refine wpAny_bind (wpAny_field ho hd (x := .ref l) rfl ?_)
  show wpAny _ _ (if (Value.ref l == Value.none) = true then _ else _) _ _ s
  rw [if_neg (show ¬ ((Value.ref l == Value.none) = true) from Bool.false_ne_true)]
  show wpAny _ _ (field (.ref it) 1 >>= _) _ _ s
  refine wpAny_bind (wpAny_field ho hd (x := .int i 0) rfl ?_)
  show wpAny _ _ (seqItems? (.ref l) >>= _) _ _ s
  refine wpAny_bind (wpAny_seqItems hol hdl ?_)
  simp only [Int.toNat_natCast, hx]
  refine wpAny_bind (wpAny_rule (wpAny_bind (wpAny_setField ho hd (by simp) ?_)))
  refine stopped (hot.upd hne) fun h' a hk ht => ?_
  refine wpAny_bind (wpAny_isInstance (T := "StopIteration") (b := true) ht isSubtype_stop ?_)
  exact wpAny_pure (hQ _ fun b o e1 e2 => hk b o (((Heap.SameBut.update ..).extBut : Heap.ExtBut it s.heap _) b o e1 e2))
theorem tuple_end {x1 it l : Addr} {i : Nat} {items} {Q : Option Value → Shared → Prop} (hot : HotAt A x1 s.heap) (hne : x1 ≠ it)
    (hit : s.heap.IsTupleIter it l i) (hl : s.heap.IsTuple l items) (hx : items[i]? = none)
    (hQ : ∀ h', Heap.ExtBut it s.heap h' → Q none { s with heap := h' }) : wpAny (model prog w) A (pyNext (.ref it)) Q E s := by
  obtain ⟨o, ho, hc, hd⟩ := id hit
  obtain ⟨ol, hol, _, nl, hdl⟩ := hl
  unfold pyNext
  refine wpAny_bind (wpAny_attempt (wpAny_callSpecial?_slot (name := Str.ofString "__next__") hit.typeIs F.slot_tuple_iterator_next
    (wpAny_call_entry F.slot_tuple_iterator_next hit.typeIs F.entry_tuple_iterator_next ?_ (F.args_tuple_iterator_next_1 _))))
  show wpAny _ _ (field (.ref it) 0 >>= _) _ _ s
  refine wpAny_bind (wpAny_field ho hd (x := .ref l) rfl ?_)
  show wpAny _ _ (if (Value.ref l == Value.none) = true then _ else _) _ _ s
  rw [if_neg (show ¬ ((Value.ref l == Value.none) = true) from Bool.false_ne_true)]
  show wpAny _ _ (field (.ref it) 1 >>= _) _ _ s
  refine wpAny_bind (wpAny_field ho hd (x := .int i 0) rfl ?_)
  show wpAny _ _ (seqItems? (.ref l) >>= _) _ _ s
  refine wpAny_bind (wpAny_seqItems hol hdl ?_)
  simp only [Int.toNat_natCast, hx]
  refine wpAny_bind (wpAny_rule (wpAny_bind (wpAny_setField ho hd (by simp) ?_)))
  refine stopped (hot.upd hne) fun h' a hk ht => ?_
  refine wpAny_bind (wpAny_isInstance (T := "StopIteration") (b := true) ht isSubtype_stop ?_)
  exact wpAny_pure (hQ _ fun b o e1 e2 => hk b o (((Heap.SameBut.update ..).extBut : Heap.ExtBut it s.heap _) b o e1 e2))
theorem key_end {x1 it d : Addr} {i n ep : Nat} {od : Obj} {es : Array DictEntry} {Q : Option Value → Shared → Prop} (hot : HotAt A x1 s.heap) (hne : x1 ≠ it) (hit : s.heap.IsKeyIter it d i n ep) (hod : s.heap.get? d = some od) (hdd : od.data = .dict es ep)
    (hsz : es.size = n) (hge : n ≤ i) (hQ : ∀ h', Heap.ExtBut it s.heap h' → Q none { s with heap := h' }) : wpAny (model prog w) A (pyNext (.ref it)) Q E s := by
  obtain ⟨o, ho, hc, hd⟩ := id hit
  unfold pyNext
  refine wpAny_bind (wpAny_attempt (wpAny_callSpecial?_slot (name := Str.ofString "__next__") hit.typeIs F.slot_dict_keyiterator_next
    (wpAny_call_entry F.slot_dict_keyiterator_next hit.typeIs F.entry_dict_keyiterator_next ?_ (F.args_dict_keyiterator_next_1 _))))
  refine wpAny_bind (wpAny_pure ?_)
  refine wpAny_bind ?_
  refine wpAny_bind ?_
  first | refine wpAny_bind (wpAny_typeNameOfWhole_keyiter hit.typeIs (wpAny_pure ?_)) | refine wpAny_bind (wpAny_typeNameOf_keyiter hit.typeIs (wpAny_pure ?_))
  refine wpAny_bind (wpAny_fieldsOf ho hd ?_)
  have hown : Builtin.Dict_items.ownsTuple "dict_keyiterator" = false := by decide
  simp only [hown, Bool.false_eq_true, if_false]
  show wpAny _ _ (if (Value.ref d == Value.none) = true then _ else _) _ _ s
  rw [if_neg (show ¬ ((Value.ref d == Value.none) = true) from Bool.false_ne_true)]
  refine wpAny_bind (wpAny_pure ?_)
  refine wpAny_bind (wpAny_dictEntries hod hdd ?_)
  rw [if_neg (by rw [hsz]; simp)]
  refine wpAny_bind (wpAny_pure ?_)
  refine wpAny_bind (wpAny_dictEpoch hod hdd ?_)
  rw [if_neg (by simp)]
  refine wpAny_pure ?_
  have hge' : es.size ≤ i := by rw [hsz]; exact hge
  simp only [show ¬ ((i : Int) < 0) from by omega, if_false, Int.toNat_natCast, Array.getElem?_eq_none hge']
  refine wpAny_bind ?_
  first | refine wpAny_bind (wpAny_typeNameOfWhole_keyiter hit.typeIs (wpAny_pure ?_)) | refine wpAny_bind (wpAny_typeNameOf_keyiter hit.typeIs (wpAny_pure ?_))
  show wpAny _ _ (setField (.ref it) 0 .none >>= _) _ _ s
  refine wpAny_bind (wpAny_setField ho hd (by simp) ?_)
  refine stopped (hot.upd hne) fun h' a hk ht => ?_
  refine wpAny_bind (wpAny_isInstance (T := "StopIteration") (b := true) ht isSubtype_stop ?_)
  exact wpAny_pure (hQ _ fun b o e1 e2 => hk b o (((Heap.SameBut.update ..).extBut : Heap.ExtBut it s.heap _) b o e1 e2))
theorem val_end {x1 it d : Addr} {i n ep : Nat} {od : Obj} {es : Array DictEntry} {Q : Option Value → Shared → Prop} (hot : HotAt A x1 s.heap) (hne : x1 ≠ it) (hit : s.heap.IsValIter it d i n ep) (hod : s.heap.get? d = some od) (hdd : od.data = .dict es ep)
    (hsz : es.size = n) (hge : n ≤ i) (hQ : ∀ h', Heap.ExtBut it s.heap h' → Q none { s with heap := h' }) : wpAny (model prog w) A (pyNext (.ref it)) Q E s := by
  obtain ⟨o, ho, hc, hd⟩ := id hit
  unfold pyNext
  refine wpAny_bind (wpAny_attempt (wpAny_callSpecial?_slot (name := Str.ofString "__next__") hit.typeIs F.slot_dict_valueiterator_next
    (wpAny_call_entry F.slot_dict_valueiterator_next hit.typeIs F.entry_dict_valueiterator_next ?_ (F.args_dict_valueiterator_next_1 _))))
  refine wpAny_bind (wpAny_pure ?_)
  refine wpAny_bind ?_
  refine wpAny_bind ?_
  first | refine wpAny_bind (wpAny_typeNameOfWhole_valiter hit.typeIs (wpAny_pure ?_)) | refine wpAny_bind (wpAny_typeNameOf_valiter hit.typeIs (wpAny_pure ?_))
  refine wpAny_bind (wpAny_fieldsOf ho hd ?_)
  have hown : Builtin.Dict_items.ownsTuple "dict_valueiterator" = false := by decide
  simp only [hown, Bool.false_eq_true, if_false]
  show wpAny _ _ (if (Value.ref d == Value.none) = true then _ else _) _ _ s
  rw [if_neg (show ¬ ((Value.ref d == Value.none) = true) from Bool.false_ne_true)]
  refine wpAny_bind (wpAny_pure ?_)
  refine wpAny_bind (wpAny_dictEntries hod hdd ?_)
  rw [if_neg (by rw [hsz]; simp)]
  refine wpAny_bind (wpAny_pure ?_)
  refine wpAny_bind (wpAny_dictEpoch hod hdd ?_)
  rw [if_neg (by simp)]
  refine wpAny_pure ?_
  have hge' : es.size ≤ i := by rw [hsz]; exact hge
  simp only [show ¬ ((i : Int) < 0) from by omega, if_false, Int.toNat_natCast, Array.getElem?_eq_none hge']
  refine wpAny_bind ?_
  first | refine wpAny_bind (wpAny_typeNameOfWhole_valiter hit.typeIs (wpAny_pure ?_)) | refine wpAny_bind (wpAny_typeNameOf_valiter hit.typeIs (wpAny_pure ?_))
  show wpAny _ _ (setField (.ref it) 0 .none >>= _) _ _ s
  refine wpAny_bind (wpAny_setField ho hd (by simp) ?_)
  refine stopped (hot.upd hne) fun h' a hk ht => ?_
  refine wpAny_bind (wpAny_isInstance (T := "StopIteration") (b := true) ht isSubtype_stop ?_)
  exact wpAny_pure (hQ _ fun b o e1 e2 => hk b o (((Heap.SameBut.update ..).extBut : Heap.ExtBut it s.heap _) b o e1 e2))
end
/-- a list's iterator, walked while x1's exception is handled -/
theorem walks_list {prog : Program} {w : World} {A : Around} {x1 : Addr} (I ax : Addr) (hne : ax ≠ I) (hx : x1 ≠ I) (items : Array Value) :
    Walks prog w A I [I, ax, x1] [I] items.size (fun i v => items[i]? = some v) (fun i h => (h.IsListIter I ax i ∧ h.IsList ax items) ∧ HotAt A x1 h) where
  sub := fun b hb => by simp at hb; simp [hb]
  frame := fun _ _ _ st hk => ⟨⟨st.1.1.at fun o e => hk I (by simp) o e, st.1.2.at fun o e => hk ax (by simp) o e⟩, st.2.keep fun o e => hk x1 (by simp) o e⟩
  item := fun i s Q E hi st hQ => by
    refine wpAny_pyNext_list_item st.1.1 st.1.2 (x := items[i]) (by simp [hi]) fun h' hit' hs' => ?_
    exact hQ _ h' s.toks (by simp [hi]) ⟨⟨hit', st.1.2.extBut hs'.extBut hne⟩, st.2.keep fun o e => hs'.extBut _ o hx e⟩ fun b o hb e => hs'.extBut b o (fun h => hb (by simp [h])) e
  done := fun s Q E st hQ => list_end st.2 hx st.1.1 st.1.2 (by simp) fun h' he' => hQ h' s.toks fun b o hb e => he' b o (fun h => hb (by simp [h])) e
  self := fun _ _ _ _ st hQ => wpAny_pyIter_listiter st.1.1 hQ
end HotX

/-! loops, comprehensions and sums while an exception is handled -/
namespace L2H
open PySem PySem.Spec PyProof.Rows L2 HotX
theorem HotC.off {X : Cx} {pins : List (Addr × Obj)} {σ : L2.St} {H : Hp} {s : Shared} {b : Addr} (c : HotC X) (I : Inv X pins σ H s) (f : FpOk X pins H b) : ∃ x1, HotAt X.A x1 s.heap ∧ x1 ≠ b := by
  obtain ⟨p, ⟨hh, v1, e1, c1⟩, hp⟩ := c
  exact ⟨p.1, ⟨hh, p.2, v1, (I.pin p (List.mem_append_left _ hp)).1, e1, c1⟩, f.2.2.2.2.2 p (List.mem_append_left _ hp)⟩
section
variable {P : Program} {w : World} {K : PySem.W.Frag} {tg : Expr}
theorem turn_listH (a it : Addr) : TurnH P w K tg (Itl K a) [it] it (fun i h => h.IsListIter it a i) where
  mem := by simp
  obj := (turn_list (P := P) (w := w) (K := K) (tg := tg) a it).obj
  keep := (turn_list (P := P) (w := w) (K := K) (tg := tg) a it).keep
  item := by
    intro X hP hw hK hc i pins s σ H E I hf st hg
    subst hP hw hK
    obtain ⟨xs, x, hq, hx⟩ := hg
    obtain ⟨its, rv, p, hz⟩ := I.list hq
    obtain ⟨u, hu, ru⟩ := rv.get hx
    obtain ⟨f0, f1, f2, f3, f4, f5⟩ := hf it (by simp)
    refine wpAny_pyNext_list_item st p.isList (x := u) (by simpa using hu) fun h' st' sb => ?_
    have I1 : Inv X pins σ H { s with heap := h' } := I.turned (t' := s.toks) (fun b o hb e => (sb.2 b hb).trans e) f0 f1 f3 f4 f5
    obtain ⟨o, e, c, d⟩ := id st'
    exact ⟨u, rfl, go_of (s := { s with heap := h' }) e c d (by decide) ⟨x, H, I1, ru, ⟨rfl, fun ys hy => by rw [I.list_inj hy hq]; exact hx⟩, st', fun b hb => (hf b hb).1⟩⟩
  done := by
    intro X hP hw hK hc i pins s σ H E I hf st hg
    subst hP hw hK
    obtain ⟨xs, hq, hx⟩ := hg
    obtain ⟨its, rv, p, hz⟩ := I.list hq
    have hfi := hf it (by simp)
    obtain ⟨x1, hot, hne⟩ := hc.off I hfi
    obtain ⟨f0, f1, f2, f3, f4, f5⟩ := hfi
    have hl := rv.length
    exact list_end hot hne st p.isList (by simp; omega) fun h' eb => ⟨rfl, I.turned (t' := s.toks) (fun b o hb e => eb b o hb e) f0 f1 f3 f4 f5⟩
  self := fun _ _ _ _ _ st h => wpAny_pyIter_listiter st h
theorem turn_tupleH (a it : Addr) : TurnH P w K tg (Itt K a) [it] it (fun i h => h.IsTupleIter it a i) where
  mem := by simp
  obj := (turn_tuple (P := P) (w := w) (K := K) (tg := tg) a it).obj
  keep := (turn_tuple (P := P) (w := w) (K := K) (tg := tg) a it).keep
  item := by
    intro X hP hw hK hc i pins s σ H E I hf st hg
    subst hP hw hK
    obtain ⟨xs, x, hq, hx⟩ := hg
    obtain ⟨its, rv, p, hz⟩ := I.tuple hq
    obtain ⟨u, hu, ru⟩ := rv.get hx
    obtain ⟨f0, f1, f2, f3, f4, f5⟩ := hf it (by simp)
    refine wpAny_pyNext_tuple_item st (show s.heap.IsTuple a its.toArray from p) (x := u) (by simpa using hu) fun h' st' sb => ?_
    have I1 : Inv X pins σ H { s with heap := h' } := I.turned (t' := s.toks) (fun b o hb e => (sb.2 b hb).trans e) f0 f1 f3 f4 f5
    obtain ⟨o, e, c, d⟩ := id st'
    exact ⟨u, rfl, go_of (s := { s with heap := h' }) e c d (by decide) ⟨x, H, I1, ru, ⟨rfl, fun ys hy => by rw [I.tuple_inj hy hq]; exact hx⟩, st', fun b hb => (hf b hb).1⟩⟩
  done := by
    intro X hP hw hK hc i pins s σ H E I hf st hg
    subst hP hw hK
    obtain ⟨xs, hq, hx⟩ := hg
    obtain ⟨its, rv, p, hz⟩ := I.tuple hq
    have hfi := hf it (by simp)
    obtain ⟨x1, hot, hne⟩ := hc.off I hfi
    obtain ⟨f0, f1, f2, f3, f4, f5⟩ := hfi
    have hl := rv.length
    exact tuple_end hot hne st (show s.heap.IsTuple a its.toArray from p) (by simp; omega) fun h' eb => ⟨rfl, I.turned (t' := s.toks) (fun b o hb e => eb b o hb e) f0 f1 f3 f4 f5⟩
  self := fun _ _ _ _ _ st h => wpAny_pyIter_tupleiter st h
variable {d : Addr} {o : Obj} {es : Array DictEntry} {ep : Nat}
theorem turn_keysH {kvs : List (Key × V)} (it : Addr) (hod : o.data = .dict es ep) : TurnH P w K tg (Itk d o kvs) [it] it (fun i h => h.IsKeyIter it d i kvs.length ep) where
  mem := by simp
  obj := (turn_keys (P := P) (w := w) (K := K) (tg := tg) (kvs := kvs) (d := d) it hod).obj
  keep := (turn_keys (P := P) (w := w) (K := K) (tg := tg) (kvs := kvs) (d := d) it hod).keep
  item := by
    intro X hP hw hK hc i pins s σ H E I hf st hg
    subst hP hw hK
    obtain ⟨hd, hi⟩ := hg
    obtain ⟨f0, f1, f2, f3, f4, f5⟩ := hf it (by simp)
    obtain ⟨hs, hgd, hx, es', ep', vs, hdt, hsz, kv, hm⟩ := I.frzK hd
    obtain ⟨rfl, rfl⟩ := dict_ep hod hdt
    obtain ⟨⟨k, v⟩, hkv⟩ : ∃ p, kvs[i]? = some p := ⟨kvs[i], List.getElem?_eq_getElem hi⟩
    obtain ⟨u, hu, ru⟩ := kv_get kv hkv
    have hl : kvs.length = vs.length := Paired.length kv
    rw [hl] at st
    refine wpAny_pyNext_dict_item st hm hu fun key h' hkey st' sb => ?_
    have I1 : Inv X pins σ H { s with heap := h' } := I.turned (t' := s.toks) (fun b ob hb e => (sb.2 b hb).trans e) f0 f1 f3 f4 f5
    obtain ⟨oi, e, c, dd⟩ := id st'
    refine ⟨key, rfl, go_of (s := { s with heap := h' }) e c dd (by decide) ⟨kV k, H, I1, relV_key (show keyIs k key = true from hkey), ⟨rfl, k, v, hkv, rfl⟩, ?_, fun b hb => (hf b hb).1⟩⟩
    show h'.IsKeyIter it d (i + 1) kvs.length _
    rw [hl]
    exact st'
  done := by
    intro X hP hw hK hc i pins s σ H E I hf st hg
    subst hP hw hK
    obtain ⟨hd, hi⟩ := hg
    have hfi := hf it (by simp)
    obtain ⟨x1, hot, hne⟩ := hc.off I hfi
    obtain ⟨f0, f1, f2, f3, f4, f5⟩ := hfi
    obtain ⟨hs, hgd, hx, es', ep', vs, hdt, hsz, kv, hm⟩ := I.frzK hd
    obtain ⟨rfl, rfl⟩ := dict_ep hod hdt
    exact key_end hot hne st hgd hdt hsz hi fun h' eb => ⟨rfl, I.turned (t' := s.toks) (fun b ob hb e => eb b ob hb e) f0 f1 f3 f4 f5⟩
  self := fun A i s Q E st h => wpAny_pyIter_keyiter st h
theorem turn_valsH {kvs : List (Key × V)} (it : Addr) (hod : o.data = .dict es ep) : TurnH P w K tg (Itd d o kvs) [it] it (fun i h => h.IsValIter it d i kvs.length ep) where
  mem := by simp
  obj := (turn_vals (P := P) (w := w) (K := K) (tg := tg) (kvs := kvs) (d := d) it hod).obj
  keep := (turn_vals (P := P) (w := w) (K := K) (tg := tg) (kvs := kvs) (d := d) it hod).keep
  item := by
    intro X hP hw hK hc i pins s σ H E I hf st hg
    subst hP hw hK
    obtain ⟨hd, hi⟩ := hg
    obtain ⟨f0, f1, f2, f3, f4, f5⟩ := hf it (by simp)
    obtain ⟨hs, hgd, hx, es', ep', vs, hdt, hsz, kv, hm⟩ := I.frzK hd
    obtain ⟨rfl, rfl⟩ := dict_ep hod hdt
    obtain ⟨⟨k, v⟩, hkv⟩ : ∃ p, kvs[i]? = some p := ⟨kvs[i], List.getElem?_eq_getElem hi⟩
    obtain ⟨u, hu, ru⟩ := kv_get kv hkv
    have hl : kvs.length = vs.length := Paired.length kv
    rw [hl] at st
    refine wpAny_pyNext_values_item st hm hu fun h' st' sb => ?_
    have I1 : Inv X pins σ H { s with heap := h' } := I.turned (t' := s.toks) (fun b ob hb e => (sb.2 b hb).trans e) f0 f1 f3 f4 f5
    obtain ⟨oi, e, c, dd⟩ := id st'
    refine ⟨u, rfl, go_of (s := { s with heap := h' }) e c dd (by decide) ⟨v, H, I1, ru, ⟨rfl, k, hkv⟩, ?_, fun b hb => (hf b hb).1⟩⟩
    show h'.IsValIter it d (i + 1) kvs.length _
    rw [hl]
    exact st'
  done := by
    intro X hP hw hK hc i pins s σ H E I hf st hg
    subst hP hw hK
    obtain ⟨hd, hi⟩ := hg
    have hfi := hf it (by simp)
    obtain ⟨x1, hot, hne⟩ := hc.off I hfi
    obtain ⟨f0, f1, f2, f3, f4, f5⟩ := hfi
    obtain ⟨hs, hgd, hx, es', ep', vs, hdt, hsz, kv, hm⟩ := I.frzK hd
    obtain ⟨rfl, rfl⟩ := dict_ep hod hdt
    exact val_end hot hne st hgd hdt hsz hi fun h' eb => ⟨rfl, I.turned (t' := s.toks) (fun b ob hb e => eb b ob hb e) f0 f1 f3 f4 f5⟩
  self := fun A i s Q E st h => wpAny_pyIter_valiter st h
end
section
variable {X : Cx} {tg : Expr} {pins : List (Addr × Obj)} {σ : L2.St} {H : Hp} {s : Shared}
theorem pi_oneH {R : It → Hp → Prop} {J : It} {tn : Nat → Heap → Prop} {tk : Nat} (I : Inv X pins σ H s) (o : Obj)
    (T : TurnH X.prog X.w X.K tg J [s.heap.objs.size] s.heap.objs.size tn) (st : tn 0 (s.heap.push o)) (q : R J H) : PIEH X pins σ tg R (.ref s.heap.objs.size) { s with heap := s.heap.push o, toks := tk } := by
  refine ⟨s.heap.objs.size, [s.heap.objs.size], tn, J, H, rfl, I.kept fun b ob e => Heap.get?_push_of_some _ e, T, st, fun b hb => ?_, q⟩
  have e : b = s.heap.objs.size := by simpa using hb
  subst e
  exact I.fpOk (Nat.le_refl _) (I.hok.fresh (Nat.le_refl _))
theorem pi_listH {l : Expr} {tl : TE} (hl : PE X l tl) : PIH X tg l (iList X.K tl) := by
  refine ⟨fun pins s σ H R I h => ?_⟩
  refine thn (hl.run pins s σ H _ I h) fun v s1 ⟨x, H1, I1, r1, q1⟩ => ?_
  obtain ⟨a, e, ⟨xs, hq⟩, q⟩ := q1
  subst e
  cases r1
  obtain ⟨its, rv, p, hz⟩ := I1.list hq
  exact wpAny_pyIter_list p.isList (pi_oneH (tk := s1.toks) I1 _ (turn_listH a _) ⟨_, Heap.get?_push_size _ rfl, rfl, rfl⟩ q)
theorem pi_tupH {l : Expr} {tl : TE} (hl : PE X l tl) : PIH X tg l (iTup X.K tl) := by
  refine ⟨fun pins s σ H R I h => ?_⟩
  refine thn (hl.run pins s σ H _ I h) fun v s1 ⟨x, H1, I1, r1, q1⟩ => ?_
  obtain ⟨a, e, ⟨xs, hq⟩, q⟩ := q1
  subst e
  cases r1
  obtain ⟨its, rv, p, hz⟩ := I1.tuple hq
  exact wpAny_pyIter_tuple (show s1.heap.IsTuple a its.toArray from p) (pi_oneH (tk := s1.toks) I1 _ (turn_tupleH a _) ⟨_, Heap.get?_push_size _ rfl, rfl, rfl⟩ q)
theorem pi_keysH {e : Expr} {td : TE} (he : PE X e td) : PIH X tg e (fun σ H R => td σ H fun x H1 => ∃ d o kvs, x = .ref d ∧ H1 d = some (.frz o (.dK kvs)) ∧ R (Itk d o kvs) H1) := by
  refine ⟨fun pins s σ H R I h => ?_⟩
  refine thn (he.run pins s σ H _ I h) fun u s1 ⟨x, H1, I1, rx, d, o, kvs, ex, hd, q⟩ => ?_
  subst ex
  obtain rfl : u = Value.ref d := rx
  obtain ⟨hs, hgd, hx, es, ep, vs, hdt, hsz, kv, hm⟩ := I1.frzK hd
  refine iter_keys hs hgd hx hdt (pi_oneH (tk := s1.toks) I1 _ (turn_keysH _ hdt) ⟨_, Heap.get?_push_size _ rfl, rfl, ?_⟩ q)
  rw [hsz] <;> rfl
theorem pi_valuesH {e : Expr} {td : TE} {apos cpos : Pos} (he : PE X e td) (hbase : attributeBase e "values" X.env (eval e X.env) = eval e X.env := by rfl) (hline : (apos.endLine == cpos.line) = true := by rfl) : PIH X tg (.Call (.Attribute e "values" apos) [] [] cpos) (iVals td) := by
  refine ⟨fun pins s σ H R I h => ?_⟩
  refine wpAny_Call_method (T := "dict") (id := "dict.values") hbase rfl hline F.plainAttrs_dict F.slot_dict_values F.type_dict_values (thn (he.run pins s σ H _ I h) fun u s1 ⟨x, H1, I1, rx, d, o, kvs, ex, hd, q⟩ => ?_)
  subst ex
  obtain rfl : u = Value.ref d := rx
  obtain ⟨hs, hgd, hx, es, ep, vs, hdt, hsz, kv, hm⟩ := I1.frzK hd
  have hl : kvs.length = vs.length := Paired.length kv
  refine ⟨hm.dictOf.typeIs, hm.dictOf.mapOf.noDict, ?_⟩
  have I2 : Inv X pins σ H1 { s1 with heap := s1.heap.push { cls := .type "dict_values", data := .fields #[.ref d] } } := I1.kept (t' := s1.toks) fun b ob q => Heap.get?_push_of_some _ q
  have fin : wpAny (model X.prog X.w) X.A (pyIter (.ref s1.heap.objs.size)) (PIEH X pins σ tg R) X.xe { s1 with heap := s1.heap.push { cls := .type "dict_values", data := .fields #[.ref d] } } := by
    refine wpAny_pyIter_values (d := d) (knd := mixKind X.prog X.w) ⟨_, Heap.get?_push_size _ rfl, rfl, rfl⟩ (hm.push _) (pi_oneH (tk := s1.toks) I2 _ (turn_valsH _ hdt) ⟨_, Heap.get?_push_size _ rfl, rfl, ?_⟩ q)
    rw [hl] <;> rfl
  show wpAny _ _ (callWith cpos (.builtin "dict.values") [.ref d] [] []) _ X.xe s1
  exact method_meetsIn F.slot_dict_values F.entry_dict_values rfl (PySem.evalArgs_none ⟨rfl, hm.dictOf.typeIs, F.args_dict_values_1 _, _, meets_dict_values (mixKind X.prog X.w) d hs, ⟨vs, hm.dictOf⟩, fin⟩)
/-! ### sum, all, any -/
theorem cr_sumH (hc : HotC X) : CallR X (.builtin "sum") (rSum X.K) := by
  intro pins s σ H vs us Q I r h
  obtain ⟨a, ns, rfl, hs, q⟩ := h
  obtain ⟨its, rv, hl, _⟩ := I.list hs
  rw [Vals.ref1 r]
  obtain ⟨x1, hot⟩ := hc.at I
  obtain ⟨xs, e⟩ := rv.ints.allInts.items
  have hn : numsOf (intItems xs).toList = ns := by rw [← e]; exact rv.ints.numsOf
  rw [nums_intItems] at hn
  have hl' : s.heap.IsList a (intItems xs) := by rw [← e]; exact hl.isList
  have lx : x1 < s.heap.objs.size := by obtain ⟨_, o, _, eo, _⟩ := hot; exact Heap.lt_size eo
  refine call_sum_walkG (iter_intList hl' fun s₂ e2 st hfp hlI => ?_)
  subst e2
  refine ⟨_, _, _, _, _, _, numAt xs, rfl, walks_list (A := X.A.in1) (x1 := x1) _ a hlI (Nat.ne_of_lt lx) (intItems xs), ⟨st, hot.keep fun o eo => Heap.get?_push_of_some _ eo⟩, fun b hb => ?_, (fun _ _ => intItems_at), fun h' tk t' hk => ?_⟩
  · rcases List.mem_cons.mp hb with rfl | hb
    · exact hfp _ (by simp)
    · rcases List.mem_cons.mp hb with rfl | hb
      · exact hfp _ (by simp)
      · rw [List.mem_singleton.mp hb]
        show x1 < (s.heap.push _).objs.size
        rw [Heap.size_push]
        exact Nat.lt_succ_of_lt lx
  · refine ⟨.int ns.sum, H, I.kept (old_kept hk), ⟨t', ?_⟩, q⟩
    have : preSum (numAt xs) xs.size = ns.sum := by rw [preSum_eq, List.take_of_length_le (by simp), hn]
    simpa [intItems] using congrArg (fun z => Value.int z t') this
theorem cr_allH (hc : HotC X) : CallR X (.builtin "all") (rAll X.K) := by
  intro pins s σ H vs us Q I r h
  obtain ⟨a, bs, rfl, hs, q⟩ := h
  obtain ⟨its, rv, hl, _⟩ := I.list hs
  rw [Vals.ref1 r]
  have hb := rv.bls
  obtain ⟨x1, hot⟩ := hc.at I
  have lx : x1 < s.heap.objs.size := by obtain ⟨_, o, _, eo, _⟩ := hot; exact Heap.lt_size eo
  refine call_all_walk (iter_any hl.isList fun s₂ e2 st hne => ?_)
  subst e2
  refine ⟨_, _, _, _, _, _, _, rfl, walks_list (A := X.A.in1) (x1 := x1) _ a hne (Nat.ne_of_lt lx) its.toArray, ⟨st, hot.keep fun o eo => Heap.get?_push_of_some _ eo⟩, truth_bools hb, fun h' tk hk => ?_⟩
  refine ⟨.bl _, H, I.kept fun b o eo => hk b o (fun hmem => ?_) (Heap.get?_push_of_some _ eo), ?_, q⟩
  · rcases List.mem_cons.mp hmem with e1 | hmem
    · exact absurd (e1 ▸ Heap.lt_size eo) (Nat.lt_irrefl _)
    · cases hmem
  · show Value.bool _ = Value.bool _
    rw [← L2.all_range, hb, List.size_toArray, List.length_map]
end
end L2H

/-! list comprehensions while an exception is handled -/
namespace L2H
open PySem PySem.Spec PyProof.Rows L2 HotX
/-- a block's context: the handled exception stays pinned -/
abbrev Cx.blkH (X : Cx) (s : Shared) (H : Hp) (scope : Scope) (ce : Env) (fp : List Addr) : Cx := { X.blk s H scope ce fp with pn := X.pn }
theorem blk_pin {X : Cx} {pins pY : List (Addr × Obj)} {σ σY : L2.St} {H HY : Hp} {s sY : Shared} {scope : Scope} {ce : Env} {fp : List Addr} (I : Inv X pins σ H s) (hce : ce.locals = s.heap.objs.size)
    (IY : Inv (X.blk s H scope ce fp) pY σY HY sY) (hk : ∀ q ∈ X.pn, sY.heap.get? q.1 = some q.2 ∧ HY q.1 = none) : Inv (Cx.blkH X s H scope ce fp) pY σY HY sY := by
  have ok := IY.ok
  refine ⟨⟨ok.mod, ok.kind, ok.glob, ok.blt, ok.above, ok.inj, ok.has, ok.cab, ok.hd, ok.frames, ok.stk, ok.exf, ok.bs, ok.bsz, ok.noex, ok.exfs, ok.funs, ok.frf⟩, IY.os, IY.bare, IY.base, IY.loc, IY.cell, IY.free, IY.freeC, fun q hq => ?_, IY.hok, IY.len⟩
  rcases List.mem_append.mp hq with hq | hq
  · have P1 := I.pin q (List.mem_append_left _ hq)
    obtain ⟨k1, k2⟩ := hk q hq
    refine ⟨k1, k2, fun z => ?_, fun hm => (List.mem_cons.mp (I.stkSub q.1 hm)).elim P1.2.2.1 P1.2.2.2.1, P1.2.2.2.2⟩
    have z : q.1 = ce.locals := z
    rw [hce] at z
    exact absurd (Heap.lt_size P1.1) (by rw [z]; exact Nat.lt_irrefl _)
  · exact IY.pin q (List.mem_append_right _ hq)
section
variable {X : Cx}
theorem lc_coreH {pins : List (Addr × Obj)} {s : Shared} {σ : L2.St} {H : Hp} {Q : VK} {elt tg iter : Expr} {ifs : List Expr} {scope : Scope} {own : List (Str × Nat)} {pos pos' : Pos} {wi : TI} {g : TG} {tt : TT} {te : TE} {use : Option (Value → Sem Unit)} {Qf : Value → Shared → Prop}
    (hc : HotC X) (hN : X.N.Nodup) (I : Inv X pins σ H s) (hi : PIH X tg iter wi) (ok : BlkOk X.N X.env.scope scope own)
    (hg : ∀ (s : Shared) (H : Hp) (C : Addr) (cl : List (Str × Addr)) (fp : List Addr), PG (Cx.blkH X s H scope (compEnvC scope cl C X.env) fp) tg g) (ht : ∀ (s : Shared) (H : Hp) (C : Addr) (cl : List (Str × Addr)) (fp : List Addr), PTs (Cx.blkH X s H scope (compEnvC scope cl C X.env) fp) ifs tt)
    (he : ∀ (s : Shared) (H : Hp) (C : Addr) (cl : List (Str × Addr)) (fp : List Addr), PE (Cx.blkH X s H scope (compEnvC scope cl C X.env) fp) elt te) (hs : ∀ x, foldedSetIterable iter X.env x = pure x)
    (h : tLc wi g tt te (own.map (·.2)) σ H Q)
    (hRR : ∀ D C s' m H', Inv X pins σ H' s' → Q (.ref D) H' → s'.heap.Ns C m → FpOk X pins H' C → compPost (model X.prog X.w) X.A X.xe use Qf (.ref D) C (.ok .next) s') :
    wpAny (model X.prog X.w) X.A (comprehension (.ListComp elt [⟨tg, iter, ifs, 0⟩] scope pos) scope X.env pos' (newList []) false (eval iter X.env) use) Qf X.xe s := by
  have hfree : ∀ y ∈ scope.names, y.2 = .free → ∃ c, X.env.cells.lookup y.1 = some c := fun y hy e => by
    rcases ok.free y hy e with k | k
    · exact I.ok.has _ (.inl k)
    · exact I.ok.has _ (.inr k)
  refine wpAny_comprehension_free (use := use) rfl hs (closure_ok hfree) ok.kind (fun y hy e => by rw [ok.uniq y hy, e])
    (thn (hi.run pins s σ H _ I h) fun xv s1 hx => thn hx fun itv s2 h2 => ?_)
  obtain ⟨it, fp, tn, J, H2, e, I2, T, st2, f2, q⟩ := h2
  subst e
  refine wpAny_newObj_type (newEnv_comp ?_) (by show 0 ≤ sizeLine; decide)
  generalize hD : s2.heap.objs.size = D
  have hDn : H2 D = none := I2.hok.fresh (Nat.le_of_eq hD)
  obtain ⟨W, ⟨m0, w0⟩, turn⟩ := q D hDn
  generalize hs3 : ({ s2 with heap := s2.heap.push { cls := .type "list", data := .seq ([] : List Value).toArray } } : Shared) = s3
  have I3 : Inv X pins σ (upd H2 D (.lst [])) s3 := by
    rw [← hs3]
    refine I2.laid (t' := s2.toks) (fun b o e => Heap.get?_push_of_some _ e) (Nat.le_of_eq hD) ⟨Nat.zero_le _, [], 0, .nil, ?_⟩
    rw [← hD]
    exact Heap.get?_push_size _ rfl
  have h3 : s3.heap = s2.heap.push { cls := .type "list", data := .seq ([] : List Value).toArray } := by rw [← hs3]
  have sz : ∀ b ∈ fp, b < s2.heap.objs.size := fun b hb => by
    obtain ⟨o, e, _⟩ := T.obj _ _ st2 b hb
    exact Heap.lt_size e
  have f3 : ∀ b ∈ fp, FpOk X pins (upd H2 D (.lst [])) b ∧ b < s3.heap.objs.size := fun b hb => by
    have hlt := sz b hb
    refine ⟨⟨?_, (f2 b hb).2⟩, by rw [h3, Heap.size_push]; exact Nat.lt_succ_of_lt hlt⟩
    rw [upd_ne (by rw [← hD]; exact Nat.ne_of_lt hlt)]
    exact (f2 b hb).1
  have st3 : tn 0 s3.heap := T.keep _ _ _ st2 fun b _ o e => by rw [h3]; exact Heap.get?_push_of_some _ e
  have I4 : Inv (Cx.blkH X s3 (upd H2 D (.lst [])) scope (compEnvC scope (cellsFrom (s3.heap.objs.size + 1) scope.names (cloFrom X.env.cells scope.names [])) s3.heap.objs.size X.env) fp) [] (wipe σ (own.map (·.2))) (upd H2 D (.lst [])) { s3 with heap := pushCells (s3.heap.push { cls := .type "dict", data := .dict #[] }) scope.names } :=
    blk_pin I3 rfl (block_start I3 ok hN f3) fun q hq => by
      have P1 := I3.pin q (List.mem_append_left _ hq)
      exact ⟨pushCells_keeps _ _ _ _ (Heap.get?_push_of_some _ P1.1), P1.2.1⟩
  have pg := hg s3 (upd H2 D (.lst [])) s3.heap.objs.size (cellsFrom (s3.heap.objs.size + 1) scope.names (cloFrom X.env.cells scope.names [])) fp
  have pt := ht s3 (upd H2 D (.lst [])) s3.heap.objs.size (cellsFrom (s3.heap.objs.size + 1) scope.names (cloFrom X.env.cells scope.names [])) fp
  have pe := he s3 (upd H2 D (.lst [])) s3.heap.objs.size (cellsFrom (s3.heap.objs.size + 1) scope.names (cloFrom X.env.cells scope.names [])) fp
  show codeAny _ _ (.compStart (.ListComp elt [⟨tg, iter, ifs, 0⟩] scope pos) 0 (.ref it) (.ref D) (compEnvC scope (cellsFrom (s3.heap.objs.size + 1) scope.names (cloFrom X.env.cells scope.names [])) s3.heap.objs.size X.env)) (compPost (model X.prog X.w) X.A X.xe use Qf (.ref D) s3.heap.objs.size) { s3 with heap := pushCells (s3.heap.push { cls := .type "dict", data := .dict #[] }) scope.names }
  have nfp : ∀ b ∈ fp, (upd H2 D (.lst [])) b = none := fun b hb => (f3 b hb).1.1
  generalize hce : compEnvC scope (cellsFrom (s3.heap.objs.size + 1) scope.names (cloFrom X.env.cells scope.names [])) s3.heap.objs.size X.env = ce at I4 pg pt pe ⊢
  have cL : ce.locals = s3.heap.objs.size := by subst hce; rfl
  generalize hH3 : upd H2 D (.lst []) = H3 at I3 I4 pg pt pe w0 nfp f3
  generalize hs4 : ({ s3 with heap := pushCells (s3.heap.push { cls := .type "dict", data := .dict #[] }) scope.names } : Shared) = s4 at I4 ⊢
  have st4 : tn 0 s4.heap := T.keep _ _ _ st3 fun b _ o e => by rw [← hs4]; exact pushCells_keeps _ _ _ _ (Heap.get?_push_of_some _ e)
  have hcb : HotC (Cx.blkH X s3 H3 scope ce fp) := hc
  have stat : ∀ {σ' : L2.St} {H' : Hp} {s' : Shared}, Inv (Cx.blkH X s3 H3 scope ce fp) [] σ' H' s' → (∀ b ∈ fp, H' b = none) → ∀ b ∈ fp, FpOk (Cx.blkH X s3 H3 scope ce fp) [] H' b := fun {σ' H' s'} I' hn b hb =>
    ⟨hn b hb, (I'.ok.exf b hb).1, I'.ok.exfs b hb, .inl hb, fun x c e => (I'.ok.exf b hb).2 x c e, fun p hp => by
      have hp : p ∈ X.pn := by simpa using (show p ∈ X.pn ++ ([] : List (Addr × Obj)) from hp)
      exact (f3 b hb).1.2.2.2.2.2 p (List.mem_append_left _ hp)⟩
  have loop : codeAny (model X.prog X.w) X.A (.compLoop (.ListComp elt [⟨tg, iter, ifs, 0⟩] scope pos) 0 (.ref it) (.ref D) ce) (compPost (model X.prog X.w) X.A X.xe use Qf (.ref D) s3.heap.objs.size) s4 := by
    refine compLoop_any (fun n s' => ∃ i H', Inv (Cx.blkH X s3 H3 scope ce fp) [] (wipe σ (own.map (·.2))) H' s' ∧ tn i s'.heap ∧ (∀ b ∈ fp, H' b = none) ∧ W i n H') ?_ m0 ⟨0, H3, I4, st4, nfp, w0⟩
    rintro n s5 ⟨i, H5, I5, st5, n5, w5⟩
    rcases turn i n H5 w5 with ⟨stop, qq⟩ | ⟨go, Nx, hNx, step⟩
    · have td := T.done (Cx.blkH X s3 H3 scope ce fp) rfl rfl rfl hcb i [] s5 _ H5 (fun _ _ => False) I5 (stat I5 n5) st5 stop
      refine thnF td fun r s6 ⟨hr, I6⟩ => ?_
      subst hr
      have I7 : Inv X pins σ H5 s6 := I3.call' (ch := fp) I6.os I6.base I6.hok I6.bare fun b hb => ⟨(f3 b hb).1.2.2.2.1, (f3 b hb).1.2.1, (f3 b hb).1.2.2.2.2.1, (f3 b hb).1.2.2.2.2.2⟩
      have nC : H5 s3.heap.objs.size = none := by
        have z : H5 ce.locals = none := I6.free
        rw [cL] at z
        exact z
      obtain ⟨m, hn, _⟩ := I6.loc
      have hn : s6.heap.Ns ce.locals m := hn
      rw [cL] at hn
      exact hRR D s3.heap.objs.size s6 m H5 I7 qq hn (I3.fpOk (Nat.le_refl _) nC)
    · have ti := T.item (Cx.blkH X s3 H3 scope ce fp) rfl rfl rfl hcb i [] s5 _ H5 (fun _ _ => False) I5 (stat I5 n5) st5 go
      refine thnF ti fun r s6 ⟨u, hr, h6⟩ => ?_
      subst hr
      refine thnF h6 fun _ s7 ⟨x, H7, I7, r7, y7, st7, n7⟩ => ?_
      have I7' := I7.pinned (stat I7 n7) (T.obj _ _ st7)
      refine thnF (pg.run _ s7 _ H7 x u _ I7' r7 (step x H7 y7)) fun _ s8 ⟨σ8, H8, I8, hw8, q8⟩ => ?_
      refine thnF (pt.run _ s8 σ8 H8 _ I8 q8) fun b s9 ⟨H9, I9, q9⟩ => ?_
      have fin : ∀ {s' : Shared} {H' : Hp}, Inv (Cx.blkH X s3 H3 scope ce fp) ([] ++ pinsAt fp s7.heap) σ8 H' s' → Nx H' → ∃ m, m < n ∧ ∃ i H', Inv (Cx.blkH X s3 H3 scope ce fp) [] (wipe σ (own.map (·.2))) H' s' ∧ tn i s'.heap ∧ (∀ b ∈ fp, H' b = none) ∧ W i m H' := fun {s' H'} I' nx => by
        obtain ⟨m', hm, w'⟩ := hNx H' nx
        have pin' : ∀ b ∈ fp, ∀ o, s7.heap.get? b = some o → s'.heap.get? b = some o ∧ H' b = none := fun b hb o e =>
          let z := I'.pin (b, o) (List.mem_append_right _ (List.mem_append_right _ (mem_pinsAt hb e)))
          ⟨z.1, z.2.1⟩
        have hl : (wipe σ (own.map (·.2))).length = σ8.length := by rw [← hw8, wipe_length]
        refine ⟨m', hm, i + 1, H', (I'.unpinned (pins := [])).weak hl (fun j v e => ?_), T.keep _ _ _ st7 fun b hb o e => (pin' b hb o e).1, fun b hb => ?_, w'⟩
        · rw [← hw8] at e
          exact (wipe_some e).1
        · obtain ⟨o, e, _⟩ := T.obj _ _ st7 b hb
          exact (pin' b hb o e).2
      cases b with
      | false =>
        simp only [Bool.false_eq_true, if_false] at q9 ⊢
        exact fin I9 q9
      | true =>
        simp only [if_true] at q9 ⊢
        refine thnF (pe.run _ s9 σ8 H9 _ I9 q9) fun z s10 ⟨yv, H10, I10, r10, acc, hD10, hz10, nx⟩ => ?_
        exact app_ok (X := Cx.blkH X s3 H3 scope ce fp) I10 hD10 hz10 r10 fun s11 I11 => fin I11 nx
  exact codeAny_compStart_list loop (T.self X.A 0 _ _ _ st4 loop)
/-- as a value -/
theorem pe_lcH {elt tg iter : Expr} {ifs : List Expr} {scope : Scope} {own : List (Str × Nat)} {pos : Pos} {wi : TI} {g : TG} {tt : TT} {te : TE} (hc : HotC X) (hN : X.N.Nodup) (hi : PIH X tg iter wi) (ok : BlkOk X.N X.env.scope scope own)
    (hg : ∀ (s : Shared) (H : Hp) (C : Addr) (cl : List (Str × Addr)) (fp : List Addr), PG (Cx.blkH X s H scope (compEnvC scope cl C X.env) fp) tg g) (ht : ∀ (s : Shared) (H : Hp) (C : Addr) (cl : List (Str × Addr)) (fp : List Addr), PTs (Cx.blkH X s H scope (compEnvC scope cl C X.env) fp) ifs tt)
    (he : ∀ (s : Shared) (H : Hp) (C : Addr) (cl : List (Str × Addr)) (fp : List Addr), PE (Cx.blkH X s H scope (compEnvC scope cl C X.env) fp) elt te) (hs : ∀ x, foldedSetIterable iter X.env x = pure x := by intro _; rfl) :
    PE X (.ListComp elt [⟨tg, iter, ifs, 0⟩] scope pos) (tLc wi g tt te (own.map (·.2))) := by
  refine ⟨fun pins s σ H Q I h => ?_⟩
  rw [eval_ListComp]
  refine lc_coreH hc hN I hi ok hg ht he hs h fun D C s' m H' I' q hn f => ⟨m, hn, fun h'' sb => ?_⟩
  obtain ⟨f0, f1, f2, f3, f4, f5⟩ := f
  exact ⟨.ref D, H', I'.turned (t' := s'.toks) (fun b o hb e => (sb.2 b hb).trans e) f0 f1 f3 f4 f5, rfl, q⟩
/-- name = [..], the name a local -/
theorem ps_setLcH {i : Nat} {y : Str} {py : Pos} {elt tg iter : Expr} {ifs : List Expr} {scope : Scope} {own : List (Str × Nat)} {pos spos : Pos} {wi : TI} {g : TG} {tt : TT} {te : TE} (hc : HotC X) (hN : X.N.Nodup) (hy : X.N[i]? = some y) (hyl : X.env.scope.names.lookup y = some .local)
    (hsw : swapsWith (.ListComp elt [⟨tg, iter, ifs, 0⟩] scope pos) (some (.Name y py)) spos.line X.env = pure true) (hi : PIH X tg iter wi) (ok : BlkOk X.N X.env.scope scope own)
    (hg : ∀ (s : Shared) (H : Hp) (C : Addr) (cl : List (Str × Addr)) (fp : List Addr), PG (Cx.blkH X s H scope (compEnvC scope cl C X.env) fp) tg g) (ht : ∀ (s : Shared) (H : Hp) (C : Addr) (cl : List (Str × Addr)) (fp : List Addr), PTs (Cx.blkH X s H scope (compEnvC scope cl C X.env) fp) ifs tt)
    (he : ∀ (s : Shared) (H : Hp) (C : Addr) (cl : List (Str × Addr)) (fp : List Addr), PE (Cx.blkH X s H scope (compEnvC scope cl C X.env) fp) elt te) (hs : ∀ x, foldedSetIterable iter X.env x = pure x := by intro _; rfl) :
    PS X (.Assign [.Name y py] (.ListComp elt [⟨tg, iter, ifs, 0⟩] scope pos) spos) (tAsg (tLc wi g tt te (own.map (·.2))) (gName i)) := by
  refine ⟨fun pins s σ H D I h => ?_⟩
  rw [exec_Assign_Name_used _ _ _ _ hsw]
  refine wpAny_bind (wpAny_standAt (wpAny_bind ?_))
  show wpAny _ X.A (do let _ ← comprehension (.ListComp elt [⟨tg, iter, ifs, 0⟩] scope pos) scope X.env (firstIterPos [⟨tg, iter, ifs, 0⟩] pos) (newList []) false (eval iter X.env) (some (assign (.Name y py) X.env))) _ _ s
  have h : tLc wi g tt te (own.map (·.2)) σ H (fun x H1 => gName i x σ H1 D.nx) := h
  refine wpAny_bind (thn (lc_coreH (Qf := fun _ s' => SP X pins D .next s') hc hN I hi ok hg ht he hs h fun L C s' m H' I' q hn f => ?_) fun _ s' hq => wpAny_pure (wpAny_pure hq))
  show wpAny _ _ (assign (.Name y py) X.env (.ref L)) _ _ _
  refine wpAny_assign_Name (store_ok2 (v := V.ref L) I' hN hy (.inl hyl) rfl (fun s2 I2 ⟨a, sb, ha⟩ => ?_) (.inr hyl))
  obtain ⟨f0, f1, f2, f3, f4, f5⟩ := f
  have haC : C ≠ a := by
    rcases ha with z | z
    · rw [z]; exact f1
    · exact fun e => f4 y a z e.symm
  refine ⟨m, hn.sameBut sb haC, fun h3 sb3 => ?_⟩
  exact ⟨_, H', I2.turned (t' := s2.toks) (fun b o hb e => (sb3.2 b hb).trans e) f0 f1 f3 f4 f5, q⟩
end
end L2H

/-! calls, new objects, try with several clauses, while an exception is handled -/
namespace L2H
open PySem PySem.Spec PyProof.Rows L2 HotX
theorem HotC.tr {X : Cx} {pn : List (Addr × Obj)} {xe : Value → Shared → Prop} (hc : HotC X) (h : ∀ q ∈ X.pn, q ∈ pn) : HotC (X.tr pn xe) := by
  obtain ⟨p, h1, h2⟩ := hc
  exact ⟨p, h1, h p h2⟩
theorem RoomH.units {k : Nat} {A : Around} (r : RoomH k A) : A.units + 64 < cLine := by have := r.un; omega
theorem hu_ofH {k : Nat} {A : Around} (r : RoomH k A) : A.units + 1 < cLine := by have := r.un; omega
section
variable {X : Cx} {CX : CXT} {k : Nat} {f C : Addr} {fd : FuncData} {ps : List Str} {sp : Sp} {x m : Str} {p pos apos : Pos} {e o : Expr} {es : List Expr} {ta : TE} {t : TA}
theorem pe_methH0 {E : L2.St → XK} {pl : Sem Bool} (he : PE X o ta) (c : Cls X.K C) (hm : Meth X.K C m f) (F : FnH X.prog X.w X.K X.mg X.base CX k f fd ps sp) (hr : RoomH k X.A) (hc : HotC X) (hb : Binds X.K fd ps []) (hx : ∀ σ, PassesAt CX X σ (E σ))
    (ht : eval (.Call (.Attribute o m apos) [] [] pos) X.env = (do
      let ov ← eval o X.env
      standAt apos.atName
      let (f, first) ← holding [ov] (getMethod ov m pl)
      callWith pos f first (backTo pos (starEach [] X.env)) (backToKw pos (keywordEach [] X.env))) := by rfl) :
    PE X (.Call (.Attribute o m apos) [] [] pos) (tMethH C m sp E ta tNil) := by
  refine ⟨fun pins s σ H Q I h => ?_⟩
  refine PySem.W.methodCall_KW (pl := pl) (thn (he.run pins s σ H _ I h) fun u s1 ⟨x, H1, I1, rx, a, dx, fs, ex, ea, l, q⟩ => ?_) ht
  subst ex
  obtain rfl : u = Value.ref a := rx
  refine getmeth_ok I1 ea c hm l ?_
  exact PySem.W.callWith_K0 (first := [.ref a]) I1.kIn hm.kp (run_fnH (us := [.ref a]) (vs := [.ref a]) F hr hc hb (hx σ) I1 (.cons rfl .nil) q)
theorem run_makeH {E : XK} {pins : List (Addr × Obj)} {σ : L2.St} {H : Hp} {s : Shared} {Q : VK} (M : Mk X.K C f) (F : FnH X.prog X.w X.K X.mg X.base CX k f fd ps sp) (hr : RoomH (k + 1) X.A) (hc : HotC X) (hb : Binds X.K fd ps [])
    (hx : Passes CX X E) (I : Inv X pins σ H s)
    (h : ∀ x dx, H x = none → H dx = none → dx ≠ x → sp [.ref x] (upd (upd H dx (.own x)) x (.ins C dx [])) (fun v H2 => v = .non ∧ Q (.ref x) H2) E) :
    wpAny (model X.prog X.w) X.A (call (.ref C) []) (EP X pins σ Q) X.xe s := by
  obtain ⟨pn, hot, hpn⟩ := hc
  have hq := h (s.heap.objs.size + 1) s.heap.objs.size (I.hok.fresh (Nat.le_succ _)) (I.hok.fresh (Nat.le_refl _)) (Nat.ne_of_lt (Nat.lt_succ_self _))
  have I2 := Inv.made (C := C) I
  have r2 : Vals [V.ref (s.heap.objs.size + 1)] [Value.ref (s.heap.objs.size + 1)] := .cons rfl .nil
  have hl : [Value.ref (s.heap.objs.size + 1)].length = ps.length := by
    have e := r2.length
    rw [F.len _ _ _ _ hq] at e
    exact e.symm
  have b2 := hb _ [Value.ref (s.heap.objs.size + 1)] I2.kIn (by rw [List.append_nil]; exact hl)
  rw [List.append_nil] at b2
  have P1 := I2.pin pn (List.mem_append_left _ hpn)
  have hpin := PinOk.mk P1.1 P1.2.1 (outer := X.stack) (fun hmm => (List.mem_cons.mp (I2.stkSub pn.1 hmm)).elim P1.2.2.1 P1.2.2.2.1) P1.2.2.2.2
  refine wpAny_call (make_map (f := f) I.kIn M.makes M.init (beq_iff_eq.mp M.fn) (codeAny_mono (F.run _ X.stack _ _ ⟨[Value.ref (s.heap.objs.size + 1)], []⟩ [Value.ref (s.heap.objs.size + 1)] _ _ E pn (hr.make C [] []) ⟨hot.1, hot.2⟩ hpin
    (I2.env0.make C [] []) b2 r2 hq) fun r s' hq' => ?_))
  cases r with
  | error e => exact hx pins σ _ _ e s' I2 hq'
  | ok fl =>
    cases fl with
    | ret u =>
      obtain ⟨v, H', I3, rv, ev, q3⟩ := I2.after hq'
      subst ev
      exact ⟨rv, ⟨V.ref (s.heap.objs.size + 1), H', I3, rfl, q3⟩⟩
    | next => exact False.elim hq'
    | brk => exact False.elim hq'
    | cont => exact False.elim hq'
theorem pe_make0H {E : XK} (M : Mk X.K C f) (F : FnH X.prog X.w X.K X.mg X.base CX k f fd ps sp) (hr : RoomH (k + 1) X.A) (hc : HotC X) (hg : Gl X x) (hm : X.mg x = some (.ref C)) (hb : Binds X.K fd ps []) (hx : Passes CX X E)
    (hdb : (x == ("__debug__" : Str)) = false := by decide) : PE X (.Call (.Name x p) [] [] pos) (fun σ H Q => ∀ x dx, H x = none → H dx = none → dx ≠ x → sp [.ref x] (upd (upd H dx (.own x)) x (.ins C dx [])) (fun v H2 => v = .non ∧ Q (.ref x) H2) E) := by
  refine ⟨fun pins s σ H Q I h => ?_⟩
  refine wpAny_Call_Name_kw (ld_glob I hg hm ?_ hdb)
  exact PySem.W.callWith_K0 I.kIn M.kp (run_makeH M F hr hc hb hx I h)
end
theorem ps_try_manyH {X : Cx} {body : List Stmt} {h₀ : ExceptHandler} {hds : List ExceptHandler} {l : List (Value × (Addr → Value → Option Addr → TS))} {pos : Pos} {tb : WX → TS} {Wout : WX} (hs : X.stack = X.env :: X.outer) (hf : X.env.frame = some X.env.locals) (tk : Takes X Wout)
    (hb : ∀ (W : WX) (pn : List (Addr × Obj)) (xe : Value → Shared → Prop), (∀ q ∈ X.pn, q ∈ pn) → Takes (X.tr pn xe) W → PassesOwn (model X.prog X.w) X.A X.env xe → PSs (X.tr pn xe) body (tb W))
    (hh : HdsOk X (h₀ :: hds) l) : PS X (.Try body (h₀ :: hds) [] [] pos) (fun D σ H => tb (wMany X.K Wout D l) D σ H) := by
  refine ⟨fun pins s σ H D I h => ?_⟩
  have ok := I.ok
  have hfr : X.A.frames = some (X.env :: X.outer) := by rw [ok.frames, hs]
  refine wpAny_Try_except ?_
  refine wpAny_mono ((hb (wMany X.K Wout D l) (X.pn ++ pins) (fun e s₁ => wpAny (model X.prog X.w) X.A (noteFrame e X.env) (fun _ s₂ => wpAny (model X.prog X.w) X.A (setFlight e none) (fun _ s₃ =>
    wpAny (model X.prog X.w) X.A (handleBy e X.env (h₀ :: hds)) (SP X pins D) X.xe s₃) X.xe s₂) X.xe s₁) (fun q hq => List.mem_append_left _ hq) (fun u s' xx => ?_) PassesOwn.looking).run [] s σ H D (I.toTry _) h) (fun f s1 hsp => ?_) (fun e s1 he => he)
  · -- the catch
    obtain ⟨a, B, sI, pins', σ', H', cls, d, rfl, J', nb, up, sky, na, os, ag, w⟩ := xx
    have J : Inv X pins σ' H' sI := J'.ofTry ok
    have sky' : Sky B (X.env :: X.outer) a (Zc cls d) X.env.locals s'.heap := by rw [← hs]; exact sky
    show wpAny (model X.prog X.w) X.A (noteFrame (.ref a) X.env) _ _ _
    refine Sky.land Zc.steady hfr hf sky' fun h3 fl3 up3 => ?_
    have J3 : Inv X pins σ' H' { s' with heap := h3 } := J.landed nb fl3.1 (up.trans up3) os ag
    obtain ⟨oe3, vs3, he3, hz3, hd3⟩ := fl3.there
    have notFr : ∀ {h : Heap} {o : Obj} {vs : Array Value}, h.FunFrames B (X.env :: X.outer) → h.get? a = some o → o.data = .fields vs → a ∉ frs (X.env :: X.outer) := fun {h o vs} ff e dd hm => by
      obtain ⟨_, o', e', hnf⟩ := ff.mem hm
      rw [e] at e'; cases e'
      exact hnf _ dd
    have nfr := notFr fl3.2.2.1 he3 hd3
    have nL : a ≠ X.env.locals := fun z => nfr (List.mem_filterMap.mpr ⟨X.env, List.mem_cons_self, by rw [hf, z]⟩)
    have nF : a ∉ X.fs := fun hm => by
      obtain ⟨e, he, q⟩ := List.mem_filterMap.mp hm
      exact nfr (List.mem_filterMap.mpr ⟨e, List.mem_cons_of_mem _ he, q⟩)
    have S3 := J3.suite he3 hd3 na nL nF
    have go : ∀ {hds' : List ExceptHandler} {l' : List (Value × (Addr → Value → Option Addr → TS))}, HdsOk X hds' l' → wMany X.K Wout D l' cls d σ' H' →
        wpAny (model X.prog X.w) X.A (handleBy (.ref a) X.env hds') (SP X pins D) X.xe { s' with heap := h3 } := by
      intro hds' l' hk
      induction hk with
      | nil =>
        intro w
        refine wpAny_handleBy_nil ?_
        obtain ⟨k1, k2, k3, oe, vs, T, oT, ts', he, hz, hd, h1, hr⟩ := id fl3
        unfold PySem.passOn
        refine wpAny_bind (wpAny_field he hd h1 ?_)
        rw [if_neg (show ¬ ((Value.ref T == Value.none) = true) from by simp)]
        have fin : wpAny (model X.prog X.w) X.A (setFlight (.ref a) X.env.frame) (fun _ s4 => wpAny (model X.prog X.w) X.A (throw (.ref a) : Sem Flow) (SP X pins D) X.xe s4) X.xe { s' with heap := h3 } := by
          rw [hf]
          refine HandSPX.setFlight_upZ fl3 fun h4 hh4 up4 => wpAny_throw (tk _ _ ?_)
          exact ⟨a, B, sI, pins, σ', H', cls, d, rfl, J, nb, (up.trans up3).trans up4, .inr (.inr (by rw [hs]; exact hh4)), na, os, ag, w⟩
        first
          | exact wpAny_bind (wpAny_pure (wpAny_bind fin))
          | exact wpAny_bind fin
      | @cons x c ts b₀ suite np pos' hds2 l2 hc hsu r ih =>
        intro w
        obtain ⟨b, hb1, hyes, hno⟩ := w
        refine wpAny_handleBy_cons (codeAny_handlers_test ?_) (by intro q; cases q)
        have LT : PySem.W.Looks (model X.prog X.w) h3 (typeOf (.ref a)) cls := fun A Q E s k q => wpAny_typeOf_ref (k _ _ he3) (by rw [hz3.1]; exact q)
        have LM := PySem.W.exm_one (M := model X.prog X.w) (J3.kIn) LT hb1
        have test : ∀ {Q : Value → Shared → Prop} {E : Value → Shared → Prop}, Q c { s' with heap := h3 } → wpAny (model X.prog X.w) (X.A.mark (some (.ref a))) (eval (.Name x np) X.env) Q E { s' with heap := h3 } := fun {Q E} q => by
          obtain ⟨hg, hdbg, hm | ⟨hm, hv, hnn⟩⟩ := hc
          · exact ld_glob (X := X.suite a ((a, oe3) :: (X.pn ++ pins))) S3 hg hm q hdbg
          · exact ld_blt (X := X.suite a ((a, oe3) :: (X.pn ++ pins))) S3 hg hm hv q hnn hdbg
        refine test (LM.here ?_)
        cases b with
        | true =>
          refine codeAny_handlers_suite ?_
          refine HandSPX.lands_againZ fl3 fun h4 fl4 up4 => ?_
          have J4 : Inv X pins σ' H' { s' with heap := h4 } := J.landed nb fl4.1 ((up.trans up3).trans up4) os ag
          obtain ⟨oe4, vs4, he4, hz4, hd4⟩ := fl4.there
          have S4 := J4.suite he4 hd4 na nL nF
          refine wpAny_mono ((hsu a oe4 cls d (X.pn ++ pins) hz4 ⟨_, hd4⟩).run [] _ _ H' _ S4 (hyes rfl a na)) (fun f s6 hsp => ?_) (fun _ _ z => False.elim z)
          cases f with
          | next =>
            obtain ⟨σ6, H6, S6, q6⟩ := hsp
            exact ⟨_, _, S6.unsuite ok, q6⟩
          | brk =>
            obtain ⟨σ6, H6, S6, q6⟩ := hsp
            exact ⟨_, _, S6.unsuite ok, q6⟩
          | cont =>
            obtain ⟨σ6, H6, S6, q6⟩ := hsp
            exact ⟨_, _, S6.unsuite ok, q6⟩
          | ret u =>
            obtain ⟨v6, σ6, H6, S6, r6, q6⟩ := hsp
            exact ⟨_, _, _, S6.unsuite ok, r6, q6⟩
        | false =>
          show wpAny _ X.A (handleBy (.ref a) X.env hds2) _ _ _
          exact ih (hno rfl)
    exact go hh w
  · cases f with
    | next =>
      obtain ⟨σ', H', J', q⟩ := hsp
      exact wpAny_execs_nil ⟨σ', H', J'.ofTry ok, q⟩
    | brk =>
      obtain ⟨σ', H', J', q⟩ := hsp
      exact ⟨σ', H', J'.ofTry ok, q⟩
    | cont =>
      obtain ⟨σ', H', J', q⟩ := hsp
      exact ⟨σ', H', J'.ofTry ok, q⟩
    | ret u =>
      obtain ⟨v, σ', H', J', r, q⟩ := hsp
      exact ⟨v, σ', H', J'.ofTry ok, r, q⟩
end L2H
namespace T3
open PySem L2 L2H
theorem _root_.L2H.PIH.imp3 {X : Cx} {tg e : Expr} {t t' : TI} (h : PIH X tg e t) (m : ∀ σ H Q, t' σ H Q → t σ H Q) : PIH X tg e t' := ⟨fun pins s σ H Q I q => h.run pins s σ H Q I (m σ H Q q)⟩
section
variable {X : Cx} {Wx : WX} {e o : Expr} {es : List Expr} {x m f : Str} {p pos apos cpos : Pos} {te ta : TE3} {tr : TA3} {k : Nat} {fa C : Addr} {fd : FuncData} {ps : List Str} {sp : Sp3}
theorem i_listH {tg e : Expr} {te : TE3} (he : PE X e (lowE X.K Wx te)) : PIH X tg e (lowI X.K Wx (il3 te)) := by
  refine (pi_listH he).imp3 ?_
  rintro σ H Q ⟨σ3, W, G, R3, E3, R, S, h, e, k⟩
  refine ⟨σ3, W, G, _, E3, R, S, h, ⟨fun W1 x G1 x' H1 l1 S1 r1 h1 => ?_⟩, e⟩
  obtain ⟨ds, hx, h1⟩ := h1
  obtain ⟨a, rfl⟩ := hx.ref r1
  obtain ⟨vs, e1, r⟩ := hx.sql S1 r1
  refine ⟨a, rfl, ⟨vs, e1⟩, k W1 ds _ G1 _ H1 l1 S1 h1 ⟨fun i W' G' H' l' S' hs hi => ?_, fun W' G' H' l' S' hs => ?_, fun i W' G' H' x H'' l' S' hs hi y => ?_⟩⟩
  all_goals obtain ⟨us, e2, r2⟩ := hs.sql S' (r1.mono l')
  · exact (walk_list (K := X.K) (a := a) (xs := us)).goes i H' (by rw [← r2.length]; exact hi) e2
  · rw [r2.length]
    exact (walk_list (K := X.K) (a := a) (xs := us)).stops H' e2
  · obtain ⟨e, h⟩ := (walk_list (K := X.K) (a := a) (xs := us)).yields i H' x H'' (by rw [← r2.length]; exact hi) e2 y
    subst e
    obtain ⟨d, h1, h2⟩ := r2.get' h
    exact ⟨W', d, .refl _, h1, S', h2⟩
theorem i_range1H {tg a : Expr} {ta : TE3} {p pos : Pos} (hg : Gl X "range") (hm : X.mg "range" = none) (ha : PE X a (lowE X.K Wx ta)) (hs : starEach [a] X.env = [(false, eval a X.env)] := by rfl) : PIH X tg (.Call (.Name "range" p) [a] [] pos) (lowI X.K Wx (ir1 ta)) := by
  refine (pi_range1H hg hm (pa_cons ha pa_nil hs) hs).imp3 ?_
  rintro σ H Q ⟨σ3, W, G, R3, E3, R, S, h, e, k⟩
  refine ⟨σ3, W, G, _, E3, R, S, h, ⟨fun W1 x G1 x' H1 l1 S1 r1 h1 => ?_⟩, e⟩
  cases x with
  | int n => cases r1; exact ⟨n, rfl, h1.1.1, h1.1.2, k W1 _ _ G1 _ H1 l1 S1 h1.2 (by rw [natsD_eq]; exact walk_rng)⟩
  | _ => exact h1.elim
theorem i_tupH {tg e : Expr} {te : TE3} (he : PE X e (lowE X.K Wx te)) : PIH X tg e (lowI X.K Wx (it3 te)) := by
  refine (pi_tupH he).imp3 ?_
  rintro σ H Q ⟨σ3, W, G, R3, E3, R, S, h, e, k⟩
  refine ⟨σ3, W, G, _, E3, R, S, h, ⟨fun W1 x G1 x' H1 l1 S1 r1 h1 => ?_⟩, e⟩
  cases x with
  | tup ds =>
    obtain ⟨a, vs, rfl, l, r⟩ := r1
    refine ⟨a, rfl, ⟨vs, S1.ft _ _ l⟩, k W1 ds _ G1 _ H1 l1 S1 h1 ⟨fun i W' G' H' l' S' hs hi => ?_, fun W' G' H' l' S' hs => ?_, fun i W' G' H' x H'' l' S' hs hi y => ?_⟩⟩
    · exact (walk_tup (K := X.K) (a := a) (xs := vs)).goes i H' (by rw [← r.length]; exact hi) (S'.ft _ _ (l'.t _ _ l))
    · rw [r.length]
      exact (walk_tup (K := X.K) (a := a) (xs := vs)).stops H' (S'.ft _ _ (l'.t _ _ l))
    · obtain ⟨e, h⟩ := (walk_tup (K := X.K) (a := a) (xs := vs)).yields i H' x H'' (by rw [← r.length]; exact hi) (S'.ft _ _ (l'.t _ _ l)) y
      subst e
      obtain ⟨d, h1, h2⟩ := (r.mono l').get' h
      exact ⟨W', d, .refl _, h1, S', h2⟩
  | _ => exact h1.elim
theorem i_valsH {tg : Expr} {te : TE3} (he : PE X e (lowE X.K Wx te)) (hbase : attributeBase e "values" X.env (eval e X.env) = eval e X.env := by rfl) (hline : (apos.endLine == cpos.line) = true := by rfl) : PIH X tg (.Call (.Attribute e "values" apos) [] [] cpos) (lowI X.K Wx (iv3 te)) := by
  refine (pi_valuesH he hbase hline).imp3 ?_
  rintro σ H Q ⟨σ3, W, G, R3, E3, R, S, h, e, k⟩
  refine ⟨σ3, W, G, _, E3, R, S, h, ⟨fun W1 x G1 x' H1 l1 S1 r1 h1 => ?_⟩, e⟩
  cases x with
  | ref d =>
    obtain ⟨o, kvs, hm, hk, h1⟩ := h1
    cases r1
    obtain ⟨vs, e1, rk⟩ := S1.ob _ _ hm
    have at' : ∀ {W' G' H'}, Sim X.K W' G' H' → (d, DO.lck o kvs) ∈ G' → H' d = some (.frz o (.dK vs)) := fun S' hm' => by
      obtain ⟨us, e2, ru⟩ := S'.ob _ _ hm'
      rw [detK_eq hk rk ru]; exact e2
    refine ⟨d, o, vs, rfl, e1, k W1 _ _ G1 _ H1 l1 S1 h1 ⟨fun i W' G' H' l' S' hs hi => ?_, fun W' G' H' l' S' hs => ?_, fun i W' G' H' x H'' l' S' hs hi y => ?_⟩⟩
    · exact ⟨at' S' hs, by rw [← rk.length]; simpa using hi⟩
    · exact ⟨at' S' hs, by rw [← rk.length]; simp⟩
    · obtain ⟨e, ky, hg⟩ := y
      subst e
      obtain ⟨dd, g1, g2⟩ := RlK.get' (rk.mono l') hg
      exact ⟨W', dd, .refl _, g1, S', g2⟩
  | _ => exact h1.elim
theorem i_keysH {tg : Expr} (he : PE X e (lowE X.K Wx te)) : PIH X tg e (lowI X.K Wx (ik3 te)) := by
  refine (pi_keysH he).imp3 ?_
  rintro σ H Q ⟨σ3, W, G, R3, E3, R, S, h, e, k⟩
  refine ⟨σ3, W, G, _, E3, R, S, h, ⟨fun W1 x G1 x' H1 l1 S1 r1 h1 => ?_⟩, e⟩
  cases x with
  | ref d =>
    obtain ⟨o, kvs, hm, hk, h1⟩ := h1
    cases r1
    obtain ⟨vs, e1, rk⟩ := S1.ob _ _ hm
    have at' : ∀ {W' G' H'}, Sim X.K W' G' H' → (d, DO.lck o kvs) ∈ G' → H' d = some (.frz o (.dK vs)) := fun S' hm' => by
      obtain ⟨us, e2, ru⟩ := S'.ob _ _ hm'
      rw [detK_eq hk rk ru]; exact e2
    refine ⟨d, o, vs, rfl, e1, k W1 _ _ G1 _ H1 l1 S1 h1 ⟨fun i W' G' H' l' S' hs hi => ?_, fun W' G' H' l' S' hs => ?_, fun i W' G' H' x H'' l' S' hs hi y => ?_⟩⟩
    · exact ⟨at' S' hs, by rw [← rk.length]; simpa using hi⟩
    · exact ⟨at' S' hs, by rw [← rk.length]; simp⟩
    · obtain ⟨e, ky, v, hg, rfl⟩ := y
      subst e
      exact ⟨W', dKey ky, .refl _, rk.getK hg, S', dKey_rl ky⟩
  | _ => exact h1.elim
theorem s_forH {tg iter : Expr} {body : List Stmt} {src : TI3} {g : TG3} {tb : TS3} {pos : Pos} (hp : PassesOwn (model X.prog X.w) X.A X.env X.xe) (hc : HotC X) (hi : PIH X tg iter (lowI X.K Wx src)) (hg : PG X tg (lowG X.K g)) (hb : PSs X body (lowS X.K Wx tb))
    (hs : ∀ x, foldedSetIterable iter X.env x = pure x := by intro _; rfl) : PS X (.For tg iter body [] pos) (lowS X.K Wx (for3 X.K src g tb)) := by
  refine (ps_forH hp hc hi hg hb hs).imp3 ?_
  rintro D σ H ⟨σ3, W, G, D3, R, S, h, k⟩
  refine ⟨σ3, W, G, _, _, R, S, h, k.ex, fun W1 xs Std G1 J H1 l1 S1 h1 w => ?_⟩
  obtain ⟨Pv, ⟨σ4, G4, wk, p0⟩, hstd, turn, done⟩ := h1
  obtain ⟨W4, l4, R4, S4⟩ := wk _ _ _ (R.mono l1) S1
  refine ⟨fun i m σ' H' => m = xs.length - i ∧ i ≤ xs.length ∧ ∃ σ3' W' G', W1.le W' ∧ RepS W' σ3' σ' ∧ Sim X.K W' G' H' ∧ Pv i σ3' G', ⟨xs.length, by simp, Nat.zero_le _, σ4, W4, G4, l4, R4, S4, p0⟩, ?_⟩
  rintro i m σ' H' ⟨rfl, hi, σ5, W5, G5, l5, R5, S5, p5⟩
  have q := hstd i σ5 G5 hi p5
  by_cases hlt : i < xs.length
  · refine .inr ⟨w.goes i W5 G5 H' l5 S5 q hlt, fun τ H'' => ∃ σ3' W' G', W1.le W' ∧ RepS W' σ3' τ ∧ Sim X.K W' G' H'' ∧ Pv (i + 1) σ3' G', fun τ H'' p' => ⟨xs.length - (i + 1), by omega, rfl, hlt, p'⟩, fun x H'' y => ?_⟩
    obtain ⟨W6, d, l6, hd, S6, r6⟩ := w.yields i W5 G5 H' x H'' l5 S5 q hlt y
    have R6 := R5.mono l6
    refine ⟨σ5, W6, G5, d, _, R6, S6, r6, turn i d σ5 G5 hd p5, ⟨fun W7 σ7 G7 τ H7 l7 R7 S7 h7 => ?_⟩⟩
    have up : ∀ W8 σ8 G8 υ H8, W7.le W8 → RepS W8 σ8 υ → Sim X.K W8 G8 H8 → Up X.K (Pv (i + 1)) σ8 G8 → ∃ σ3' W' G', W1.le W' ∧ RepS W' σ3' υ ∧ Sim X.K W' G' H8 ∧ Pv (i + 1) σ3' G' := fun W8 σ8 G8 υ H8 l8 R8 S8 h8 => by
      obtain ⟨σ9, G9, wk9, p9⟩ := h8
      obtain ⟨W9, l9, R9, S9⟩ := wk9 _ _ _ R8 S8
      exact ⟨σ9, W9, G9, l5.trans (l6.trans (l7.trans (l8.trans l9))), R9, S9, p9⟩
    have lk : W.le W7 := l1.trans (l5.trans (l6.trans l7))
    exact ⟨σ7, W7, G7, _, R7, S7, h7, ⟨⟨up⟩, k.rt.mono lk, k.nx.mono lk, ⟨up⟩, k.ex.mono lk⟩⟩
  · have e : i = xs.length := by omega
    subst e
    exact .inl ⟨w.stops W5 G5 H' l5 S5 q, k.nx.run _ _ _ _ _ (l1.trans l5) R5 S5 (done σ5 G5 p5)⟩
theorem e_fnH (F : FnH X.prog X.w X.K X.mg X.base (L2.CX X.prog X.w) k fa fd ps (lowSp X.K sp)) (hr : RoomH k X.A) (hc : HotC X) (hg : Gl X x) (hm : X.mg x = some (.ref fa)) (hk : PySem.W.keepIn X.K (.ref fa) = true) (hb : Binds X.K fd ps []) (tk : Takes X Wx)
    (ha : PA X (e :: es) (lowA X.K Wx tr)) (hdb : (x == ("__debug__" : Str)) = false := by decide) (he : starEach (e :: es) X.env = (false, eval e X.env) :: starEach es X.env := by rfl) (hpl : (backTo pos (starEach es X.env)).any (·.1) = false := by rfl) :
    PE X (.Call (.Name x p) (e :: es) [] pos) (lowE X.K Wx (fn3 sp tr)) := (pe_callH F hr hc hg hm hk hb (fun σ => passAt tk σ) ha hdb he hpl).imp3 fun _ _ _ => low_fn
theorem e_methH {pl : Sem Bool} (ho : PE X o (lowE X.K Wx ta)) (c : Cls X.K C) (hm : Meth X.K C m fa) (F : FnH X.prog X.w X.K X.mg X.base (L2.CX X.prog X.w) k fa fd ps (lowSp X.K sp)) (hr : RoomH k X.A) (hc : HotC X) (hb : Binds X.K fd ps []) (tk : Takes X Wx) (ha : PA X (e :: es) (lowA X.K Wx tr))
    (hst : starEach (e :: es) X.env = (false, eval e X.env) :: starEach es X.env := by rfl) (hpl : (backTo pos (starEach es X.env)).any (·.1) = false := by rfl)
    (ht : eval (.Call (.Attribute o m apos) (e :: es) [] pos) X.env = (do
      let ov ← eval o X.env
      standAt apos.atName
      let (f, first) ← holding [ov] (getMethod ov m pl)
      callWith pos f first (backTo pos (starEach (e :: es) X.env)) (backToKw pos (keywordEach [] X.env))) := by rfl) :
    PE X (.Call (.Attribute o m apos) (e :: es) [] pos) (lowE X.K Wx (meth3 C m sp ta tr)) := (pe_methH ho c hm F hr hc hb (fun σ => passAt tk σ) ha hst hpl ht).imp3 fun _ _ _ => low_meth
theorem e_meth0H {pl : Sem Bool} (ho : PE X o (lowE X.K Wx ta)) (c : Cls X.K C) (hm : Meth X.K C m fa) (F : FnH X.prog X.w X.K X.mg X.base (L2.CX X.prog X.w) k fa fd ps (lowSp X.K sp)) (hr : RoomH k X.A) (hc : HotC X) (hb : Binds X.K fd ps []) (tk : Takes X Wx)
    (ht : eval (.Call (.Attribute o m apos) [] [] pos) X.env = (do
      let ov ← eval o X.env
      standAt apos.atName
      let (f, first) ← holding [ov] (getMethod ov m pl)
      callWith pos f first (backTo pos (starEach [] X.env)) (backToKw pos (keywordEach [] X.env))) := by rfl) :
    PE X (.Call (.Attribute o m apos) [] [] pos) (lowE X.K Wx (meth3 C m sp ta nil3)) := by
  refine (pe_methH0 ho c hm F hr hc hb (fun σ => passAt tk σ) ht).imp3 fun σ H Q h => ?_
  have h2 := low_meth h
  obtain ⟨σ3, W, G, Q3, E3, R, S, h, q, e⟩ := h2
  refine ⟨σ3, W, G, Q3, E3, R, S, h, ⟨fun W1 x G1 x' H1 l1 S1 r1 h1 => ?_⟩, e⟩
  obtain ⟨a, dx, fs, rfl, e1, e2, σ4, W4, G4, Q4, E4, R4, S4, h4, q4, e4⟩ := q.run _ _ _ _ _ l1 S1 r1 h1
  exact ⟨a, dx, fs, rfl, e1, e2, q4.run _ [] _ _ _ (.refl _) S4 rfl h4⟩
theorem e_make0H {f : Addr} (M : Mk X.K C f) (F : FnH X.prog X.w X.K X.mg X.base (L2.CX X.prog X.w) k f fd ps (lowSp X.K sp)) (hr : RoomH (k + 1) X.A) (hc : HotC X) (hg : Gl X x) (hm : X.mg x = some (.ref C)) (hb : Binds X.K fd ps [])
    (hdb : (x == ("__debug__" : Str)) = false := by decide) : PE X (.Call (.Name x p) [] [] pos) (lowE X.K Wx (make3 C sp)) := by
  refine (pe_make0H M F hr hc hg hm hb passL hdb).imp3 ?_
  rintro σ H Q ⟨σ3, W, G, Q3, E3, R, S, h, q, e⟩
  intro x dx hx hdx hne
  have S1 : Sim X.K W G (upd H dx (.own x)) := S.junk hdx
  have hx1 : (upd H dx (.own x)) x = none := by rw [upd_ne (Ne.symm hne)]; exact hx
  have S2 : Sim X.K W ((x, .ins C []) :: G) (upd (upd H dx (.own x)) x (.ins C dx [])) := S1.newO (o := .ins C []) hx1 ⟨dx, [], upd_same, .nil⟩
  refine ⟨[.ref x], W, _, _, _, ⟨_, _, rfl, rfl, rfl⟩, S2, h x, ⟨fun W' d G' v H' l' S' r' h' => ?_⟩, fun _ _ _ _ _ _ h => h.elim⟩
  obtain ⟨rfl, h'⟩ := h'
  cases r'
  exact ⟨rfl, q.run _ (.ref x) _ _ _ l' S' rfl h'⟩
theorem s_raiseH {e : Expr} {pos : Pos} {C : Addr} (hc : HotC X) (tk : Takes X Wx) (hm : L2N.PMk X e (fun _ H Q => Q (.ref C) none H)) : PS X (.Raise (some e) none pos) (lowS X.K Wx (raise3 C)) := by
  refine (ps_raiseH hc tk hm).imp3 ?_
  rintro D σ H ⟨σ3, W, G, D3, R, S, h, k⟩
  exact k.ex.run _ _ _ _ _ _ (.refl _) R S h
theorem s_tryH {body : List Stmt} {h₀ : ExceptHandler} {hds : List ExceptHandler} {l : List (Addr × TS3)} {pos : Pos} {tb : TS3} (hs : X.stack = X.env :: X.outer) (hf : X.env.frame = some X.env.locals) (tk : Takes X Wx)
    (hb : ∀ (W : WX) (pn : List (Addr × Obj)) (xe : Value → Shared → Prop), (∀ q ∈ X.pn, q ∈ pn) → Takes (X.tr pn xe) W → PassesOwn (model X.prog X.w) X.A X.env xe → PSs (X.tr pn xe) body (lowS X.K W tb))
    (hh : HdsOk X (h₀ :: hds) (lowH X.K l)) : PS X (.Try body (h₀ :: hds) [] [] pos) (lowS X.K Wx (try3 X.K tb l)) := by
  refine (ps_try_manyH (Wout := Wx) (tb := fun W => lowS X.K W tb) hs hf tk hb hh).imp3 ?_
  rintro D σ H ⟨σ3, W, G, D3, R, S, h, k⟩
  refine ⟨σ3, W, G, _, R, S, h, ⟨k.nx, k.rt, k.bk, k.ct, ⟨fun C W' σ4 G' σ' H' l' R' S' h' => ?_⟩⟩⟩
  have go : ∀ l : List (Addr × TS3), hd3 X.K D3 l C σ4 G' → wMany X.K Wx D (lowH X.K l) (.ref C) none σ' H' := by
    intro l
    induction l with
    | nil => intro h; exact k.ex.run _ _ _ _ _ _ l' R' S' h
    | cons p r ih =>
      rintro ⟨b, hb, h1, h2⟩
      exact ⟨b, hb, fun e a ha => ⟨σ4, W', G', _, R', S', h1 e, (k.mono l').noex⟩, fun e => ih (h2 e)⟩
  exact go l h'
theorem s_tryAsH {x n : Str} {c : Addr} {i : Nat} {body suite : List Stmt} {b₀ : Stmt} {np pos pos' : Pos} {tb : TS3} {ts : Addr → Addr → TS3} (hs : X.stack = X.env :: X.outer) (hf : X.env.frame = some X.env.locals) (hN : X.N.Nodup) (hi : X.N[i]? = some n) (hln : X.env.kindOf n = some .local) (hc : Names X x (.ref c)) (tk : Takes X Wx)
    (hb : ∀ (W : WX) (pn : List (Addr × Obj)) (xe : Value → Shared → Prop), (∀ q ∈ X.pn, q ∈ pn) → Takes (X.tr pn xe) W → PassesOwn (model X.prog X.w) X.A X.env xe → PSs (X.tr pn xe) body (lowS X.K W tb))
    (hsu : ∀ (a : Addr) (oe : Obj) (C : Addr) (pn : List (Addr × Obj)), Zc (.ref C) none oe → (∃ vs, oe.data = .fields vs) → PSs (X.suite a ((a, oe) :: pn)) (b₀ :: suite) (lowS X.K wF (ts a C))) :
    PS X (.Try body [.ExceptHandler (some (.Name x np)) (some n) (b₀ :: suite) pos'] [] [] pos) (lowS X.K Wx (tryAs3 X.K tb i c ts)) := by
  refine (ps_try_asH (Wout := Wx) (tb := fun W => lowS X.K W tb) (ts := lowAs X.K ts) hs hf hN hi hln hc tk hb (fun a oe cls d pn hz hv => ⟨fun pins s σ H D I q => ?_⟩)).imp3 ?_
  · obtain ⟨C, rfl, rfl, q⟩ := q
    exact (hsu a oe C pn hz hv).run pins s σ H D I q
  · rintro D σ H ⟨σ3, W, G, D3, R, S, h, k⟩
    refine ⟨σ3, W, G, _, R, S, h, ⟨k.nx, k.rt, k.bk, k.ct, ⟨fun C W' σ4 G' σ' H' l' R' S' h' => ?_⟩⟩⟩
    obtain ⟨b, hb, h1, h2⟩ := h'
    refine ⟨b, hb, fun e a ha => ⟨C, rfl, rfl, σ4.set i (some (.ref a)), W', G', _, R'.set i rfl, S', h1 e a, ?_⟩, fun e => k.ex.run _ _ _ _ _ _ l' R' S' (h2 e)⟩
    have k' := k.mono l'
    exact ⟨⟨fun W'' σ5 G5 σ'' H5 l5 R5 S5 h5 => k'.nx.run _ _ _ _ _ l5 (R5.forget i none) S5 h5⟩, k'.rt, ⟨fun W'' σ5 G5 σ'' H5 l5 R5 S5 h5 => k'.bk.run _ _ _ _ _ l5 (R5.forget i none) S5 h5⟩, ⟨fun W'' σ5 G5 σ'' H5 l5 R5 S5 h5 => k'.ct.run _ _ _ _ _ l5 (R5.forget i none) S5 h5⟩, okF⟩
end
/-! ### a def keeps its promise there -/
section
variable {P : Program} {w : World} {K : PySem.W.Frag} {mg : Str → Option Value} {base : Heap}
abbrev OkFnH (P : Program) (w : World) (K : PySem.W.Frag) (mg : Str → Option Value) (base : Heap) (k : Nat) (f : Addr) (fd : FuncData) (ps : List Str) (sp : Sp3) : Prop := FnH P w K mg base (L2.CX P w) k f fd ps (lowSp K sp)
theorem _root_.L2.Fun.ok3H {x qual : Str} {st : Stmt} {f : Addr} {fd : FuncData} {N ps : List Str} {k : Nat} {sp : Sp3} (F : Fun K x qual st f fd) (S : FnScope N ps (defScope st)) (len : ∀ ds G Q E, sp ds G Q E → ds.length = ps.length)
    (hbody : ∀ (cdv : Value) (A : Around) (outer : List Env) (s : Shared) (H : Hp) (E : XK) (p : Addr × Obj), Hot1 A p → RoomH k (A.deeper (PyProof.Rows.envOfC qual (defScope st) s.heap.objs.size f cdv)) →
      ∃ t : TS3, PSs (cxH (L2.CX P w) P w K mg base N qual (defScope st) f cdv A outer s H E p) (defBody st) (lowS K (fun cls d _ H' => E cls d H') t) ∧ ∀ ds G Q3 E3, sp ds G Q3 E3 → t (endD K Q3 E3) (start3 N ds) G) :
    OkFnH P w K mg base (k + 1) f fd ps sp := by
  obtain ⟨oc, od, kV, doc, pm, an, cdv, ct, osl, rfl, lk, hcd⟩ := F.ex
  refine fn_ofH lk hcd S (fun vs H Q E h => ?_) fun A outer s H vs Q E p hot hr h => ?_
  · obtain ⟨ds, W, G, Q3, E3, r, S, hsp, _⟩ := h
    rw [← r.length]
    exact len _ _ _ _ hsp
  · obtain ⟨t, ht, hread⟩ := hbody cdv A outer s H E p hot hr
    obtain ⟨ds, W, G, Q3, E3, r, S, hsp, q, e⟩ := h
    refine ⟨_, ht, start3 N ds, W, G, _, RepS.start N r, S, hread ds G Q3 E3 hsp, ⟨⟨fun W' σ3 G' σ' H' l' R' S' h' => ?_⟩, ⟨fun W' d G' v H' l' S' r' h' => ?_⟩, ⟨fun _ _ _ _ _ _ _ _ h => h.elim⟩, ⟨fun _ _ _ _ _ _ _ _ h => h.elim⟩, ⟨fun C W' σ3 G' σ' H' l' R' S' h' => e C W' G' H' l' S' h'⟩⟩⟩
    · obtain ⟨d2, G2, wk, h2⟩ := h'
      obtain ⟨W2, l2, r2, S2⟩ := wk W' H' .non rfl S'
      exact q.run _ _ _ _ _ (l'.trans l2) S2 r2 h2
    · obtain ⟨d2, G2, wk, h2⟩ := h'
      obtain ⟨W2, l2, r2, S2⟩ := wk W' H' v r' S'
      exact q.run _ _ _ _ _ (l'.trans l2) S2 r2 h2
end
end T3

/-! defs whose exceptions' context is None; what is called from an except suite -/
namespace T3
open PySem L2 L2H
section
variable {X : Cx} {Wx : WX} {e o : Expr} {es : List Expr} {x m f : Str} {p pos apos cpos : Pos} {te ta : TE3} {tr : TA3} {k : Nat} {fa C : Addr} {fd : FuncData} {ps : List Str} {sp : Sp3}
theorem takes0N : L2N.Takes X wF := fun _ _ ⟨_, _, _, _, _, _, _, _, _, _, _, _, _, _, _, _, w⟩ => w.elim
theorem passLN : Passes (L2N.CX X.prog X.w) X E0 := fun _ _ _ _ _ _ _ h => by
  obtain ⟨_, _, _, _, _, _, _, _, _, _, _, _, z⟩ := h
  exact z.elim
theorem e_fnN (F : FnOk X.prog X.w X.K X.mg X.base (L2N.CX X.prog X.w) k fa fd ps (lowSp X.K sp)) (hr : Room k X.A) (hg : Gl X x) (hm : X.mg x = some (.ref fa)) (hk : PySem.W.keepIn X.K (.ref fa) = true) (hb : Binds X.K fd ps []) (tk : L2N.Takes X Wx)
    (ha : PA X (e :: es) (lowA X.K Wx tr)) (hdb : (x == ("__debug__" : Str)) = false := by decide) (he : starEach (e :: es) X.env = (false, eval e X.env) :: starEach es X.env := by rfl) (hpl : (backTo pos (starEach es X.env)).any (·.1) = false := by rfl) :
    PE X (.Call (.Name x p) (e :: es) [] pos) (lowE X.K Wx (fn3 sp tr)) := (pe_callS F hr hg hm hk hb (fun σ => L2N.passAt tk σ) ha hdb he hpl).imp3 fun _ _ _ => low_fn
theorem e_methN {pl : Sem Bool} (ho : PE X o (lowE X.K Wx ta)) (c : Cls X.K C) (hm : Meth X.K C m fa) (F : FnOk X.prog X.w X.K X.mg X.base (L2N.CX X.prog X.w) k fa fd ps (lowSp X.K sp)) (hr : Room k X.A) (hb : Binds X.K fd ps []) (tk : L2N.Takes X Wx) (ha : PA X (e :: es) (lowA X.K Wx tr))
    (hst : starEach (e :: es) X.env = (false, eval e X.env) :: starEach es X.env := by rfl) (hpl : (backTo pos (starEach es X.env)).any (·.1) = false := by rfl)
    (ht : eval (.Call (.Attribute o m apos) (e :: es) [] pos) X.env = (do
      let ov ← eval o X.env
      standAt apos.atName
      let (f, first) ← holding [ov] (getMethod ov m pl)
      callWith pos f first (backTo pos (starEach (e :: es) X.env)) (backToKw pos (keywordEach [] X.env))) := by rfl) :
    PE X (.Call (.Attribute o m apos) (e :: es) [] pos) (lowE X.K Wx (meth3 C m sp ta tr)) := (pe_methW ho c hm F hr hb (fun σ => L2N.passAt tk σ) ha hst hpl ht).imp3 fun _ _ _ => low_meth
theorem e_meth0N {pl : Sem Bool} (ho : PE X o (lowE X.K Wx ta)) (c : Cls X.K C) (hm : Meth X.K C m fa) (F : FnOk X.prog X.w X.K X.mg X.base (L2N.CX X.prog X.w) k fa fd ps (lowSp X.K sp)) (hr : Room k X.A) (hb : Binds X.K fd ps []) (tk : L2N.Takes X Wx)
    (ht : eval (.Call (.Attribute o m apos) [] [] pos) X.env = (do
      let ov ← eval o X.env
      standAt apos.atName
      let (f, first) ← holding [ov] (getMethod ov m pl)
      callWith pos f first (backTo pos (starEach [] X.env)) (backToKw pos (keywordEach [] X.env))) := by rfl) :
    PE X (.Call (.Attribute o m apos) [] [] pos) (lowE X.K Wx (meth3 C m sp ta nil3)) := by
  refine (pe_methW0 ho c hm F hr hb (fun σ => L2N.passAt tk σ) ht).imp3 fun σ H Q h => ?_
  have h2 := low_meth h
  obtain ⟨σ3, W, G, Q3, E3, R, S, h, q, e⟩ := h2
  refine ⟨σ3, W, G, Q3, E3, R, S, h, ⟨fun W1 x G1 x' H1 l1 S1 r1 h1 => ?_⟩, e⟩
  obtain ⟨a, dx, fs, rfl, e1, e2, σ4, W4, G4, Q4, E4, R4, S4, h4, q4, e4⟩ := q.run _ _ _ _ _ l1 S1 r1 h1
  exact ⟨a, dx, fs, rfl, e1, e2, q4.run _ [] _ _ _ (.refl _) S4 rfl h4⟩
theorem e_make0N {f : Addr} (M : Mk X.K C f) (F : FnOk X.prog X.w X.K X.mg X.base (L2N.CX X.prog X.w) k f fd ps (lowSp X.K sp)) (hr : Room (k + 1) X.A) (hg : Gl X x) (hm : X.mg x = some (.ref C)) (hb : Binds X.K fd ps [])
    (hdb : (x == ("__debug__" : Str)) = false := by decide) : PE X (.Call (.Name x p) [] [] pos) (lowE X.K Wx (make3 C sp)) := by
  refine (pe_make0 M F hr hg hm hb .nil passLN hdb).imp3 ?_
  rintro σ H Q ⟨σ3, W, G, Q3, E3, R, S, h, q, e⟩
  intro x dx hx hdx hne
  have S1 : Sim X.K W G (upd H dx (.own x)) := S.junk hdx
  have hx1 : (upd H dx (.own x)) x = none := by rw [upd_ne (Ne.symm hne)]; exact hx
  have S2 : Sim X.K W ((x, .ins C []) :: G) (upd (upd H dx (.own x)) x (.ins C dx [])) := S1.newO (o := .ins C []) hx1 ⟨dx, [], upd_same, .nil⟩
  refine ⟨[.ref x], W, _, _, _, ⟨_, _, rfl, rfl, rfl⟩, S2, h x, ⟨fun W' d G' v H' l' S' r' h' => ?_⟩, fun _ _ _ _ _ _ h => h.elim⟩
  obtain ⟨rfl, h'⟩ := h'
  cases r'
  exact ⟨rfl, q.run _ (.ref x) _ _ _ l' S' rfl h'⟩
theorem s_raiseN {e : Expr} {pos : Pos} {C : Addr} (hc : X.calm = true) (tk : L2N.Takes X Wx) (hm : L2N.PMk X e (fun _ H Q => Q (.ref C) none H)) : PS X (.Raise (some e) none pos) (lowS X.K Wx (raise3 C)) := by
  refine (L2N.ps_raise hc tk hm).imp3 ?_
  rintro D σ H ⟨σ3, W, G, D3, R, S, h, k⟩
  exact k.ex.run _ _ _ _ _ _ (.refl _) R S h
theorem s_tryN {body : List Stmt} {h₀ : ExceptHandler} {hds : List ExceptHandler} {l : List (Addr × TS3)} {pos : Pos} {tb : TS3} (hs : X.stack = X.env :: X.outer) (hf : X.env.frame = some X.env.locals) (tk : L2N.Takes X Wx)
    (hb : ∀ (W : WX) (pn : List (Addr × Obj)) (xe : Value → Shared → Prop), L2N.Takes (X.tr pn xe) W → PassesOwn (model X.prog X.w) X.A X.env xe → PSs (X.tr pn xe) body (lowS X.K W tb))
    (hh : L2N.HdsOk X (h₀ :: hds) (lowH X.K l)) : PS X (.Try body (h₀ :: hds) [] [] pos) (lowS X.K Wx (try3 X.K tb l)) := by
  refine (L2N.ps_try_many (Wout := Wx) (tb := fun W => lowS X.K W tb) hs hf tk hb hh).imp3 ?_
  rintro D σ H ⟨σ3, W, G, D3, R, S, h, k⟩
  refine ⟨σ3, W, G, _, R, S, h, ⟨k.nx, k.rt, k.bk, k.ct, ⟨fun C W' σ4 G' σ' H' l' R' S' h' => ?_⟩⟩⟩
  have go : ∀ l : List (Addr × TS3), hd3 X.K D3 l C σ4 G' → wMany X.K Wx D (lowH X.K l) (.ref C) none σ' H' := by
    intro l
    induction l with
    | nil => intro h; exact k.ex.run _ _ _ _ _ _ l' R' S' h
    | cons p r ih =>
      rintro ⟨b, hb, h1, h2⟩
      exact ⟨b, hb, fun e a ha => ⟨σ4, W', G', _, R', S', h1 e, (k.mono l').noex⟩, fun e => ih (h2 e)⟩
  exact go l h'
theorem hd_nilN : L2N.HdsOk X [] (lowH X.K []) := .nil
theorem hd_consN {x : Str} {c : Addr} {ts : TS3} {b₀ : Stmt} {suite : List Stmt} {np pos' : Pos} {hds : List ExceptHandler} {l : List (Addr × TS3)} (hc : Names X x (.ref c))
    (hsu : ∀ (a : Addr) (oe : Obj) (cls : Value) (d : Option Addr) (pn : List (Addr × Obj)), L2N.Zn cls d oe → (∃ vs, oe.data = .fields vs) → PSs (X.suite a ((a, oe) :: pn)) (b₀ :: suite) (lowS X.K wF ts)) (r : L2N.HdsOk X hds (lowH X.K l)) : L2N.HdsOk X (.ExceptHandler (some (.Name x np)) none (b₀ :: suite) pos' :: hds) (lowH X.K ((c, ts) :: l)) :=
  .cons hc hsu r
/-- a suite of such an exception: it is the one that is handled -/
theorem suite_hot {a : Addr} {oe : Obj} {cls : Value} {d : Option Addr} {pn : List (Addr × Obj)} (hz : L2N.Zn cls d oe) (hf : ∃ vs, oe.data = .fields vs) : HotC (X.suite a ((a, oe) :: pn)) := by
  obtain ⟨vs, e⟩ := hf
  exact ⟨(a, oe), ⟨rfl, vs, e, hz.2.2 vs e⟩, List.mem_cons_self ..⟩
theorem _root_.L2H.HotC.blk {s : Shared} {H : Hp} {scope : Scope} {ce : Env} {fp : List Addr} (hc : HotC X) : HotC (Cx.blkH X s H scope ce fp) := hc
end
section
variable {P : Program} {w : World} {K : PySem.W.Frag} {mg : Str → Option Value} {base : Heap}
abbrev OkFnN (P : Program) (w : World) (K : PySem.W.Frag) (mg : Str → Option Value) (base : Heap) (k : Nat) (f : Addr) (fd : FuncData) (ps : List Str) (sp : Sp3) : Prop := FnOk P w K mg base (L2N.CX P w) k f fd ps (lowSp K sp)
theorem _root_.L2.Fun.ok3N {x qual : Str} {st : Stmt} {f : Addr} {fd : FuncData} {N ps : List Str} {k : Nat} {sp : Sp3} (F : Fun K x qual st f fd) (S : FnScope N ps (defScope st)) (len : ∀ ds G Q E, sp ds G Q E → ds.length = ps.length)
    (hbody : ∀ (cdv : Value) (A : Around) (outer : List Env) (s : Shared) (H : Hp) (E : XK), Room k (A.deeper (PyProof.Rows.envOfC qual (defScope st) s.heap.objs.size f cdv)) →
      ∃ t : TS3, PSs (cxOf (L2N.CX P w) P w K mg base N qual (defScope st) f cdv A outer s H E) (defBody st) (lowS K (fun cls d _ H' => E cls d H') t) ∧ ∀ ds G Q3 E3, sp ds G Q3 E3 → t (endD K Q3 E3) (start3 N ds) G) :
    OkFnN P w K mg base (k + 1) f fd ps sp := by
  obtain ⟨oc, od, kV, doc, pm, an, cdv, ct, osl, rfl, lk, hcd⟩ := F.ex
  refine fn_of lk hcd S (fun vs H Q E h => ?_) fun A outer s H vs Q E hr h => ?_
  · obtain ⟨ds, W, G, Q3, E3, r, S, hsp, _⟩ := h
    rw [← r.length]
    exact len _ _ _ _ hsp
  · obtain ⟨t, ht, hread⟩ := hbody cdv A outer s H E hr
    obtain ⟨ds, W, G, Q3, E3, r, S, hsp, q, e⟩ := h
    refine ⟨_, ht, start3 N ds, W, G, _, RepS.start N r, S, hread ds G Q3 E3 hsp, ⟨⟨fun W' σ3 G' σ' H' l' R' S' h' => ?_⟩, ⟨fun W' d G' v H' l' S' r' h' => ?_⟩, ⟨fun _ _ _ _ _ _ _ _ h => h.elim⟩, ⟨fun _ _ _ _ _ _ _ _ h => h.elim⟩, ⟨fun C W' σ3 G' σ' H' l' R' S' h' => e C W' G' H' l' S' h'⟩⟩⟩
    · obtain ⟨d2, G2, wk, h2⟩ := h'
      obtain ⟨W2, l2, r2, S2⟩ := wk W' H' .non rfl S'
      exact q.run _ _ _ _ _ (l'.trans l2) S2 r2 h2
    · obtain ⟨d2, G2, wk, h2⟩ := h'
      obtain ⟨W2, l2, r2, S2⟩ := wk W' H' v r' S'
      exact q.run _ _ _ _ _ (l'.trans l2) S2 r2 h2
theorem OkFnN.pm {P : Program} {w : World} {K : PySem.W.Frag} {mg : Str → Option Value} {base : Heap} {k : Nat} {f : Addr} {d : FuncData} {ps : List Str} {sp : Sp3} (h : OkFnN P w K mg base k f d ps sp) : OkFnN P w K mg base k f d ps (pm sp) := by
  refine FnOk.imp h fun vs H Q E h => ?_
  obtain ⟨ds, W, G, Q3, E3, r, S, ⟨G1, p, h⟩, q, e⟩ := h
  exact ⟨ds, W, G1, Q3, E3, r, S.perm p, h, q, e⟩
theorem OkFnH.pm {k : Nat} {f : Addr} {d : FuncData} {ps : List Str} {sp : Sp3} (h : OkFnH P w K mg base k f d ps sp) : OkFnH P w K mg base k f d ps (pm sp) := by
  have im : ∀ vs H Q E, lowSp K (T3.pm sp) vs H Q E → lowSp K sp vs H Q E := fun vs H Q E h => by
    obtain ⟨ds, W, G, Q3, E3, r, S, ⟨G1, p, h⟩, q, e⟩ := h
    exact ⟨ds, W, G1, Q3, E3, r, S.perm p, h, q, e⟩
  exact ⟨fun vs H Q E q => h.len vs H Q E (im _ _ _ _ q), fun A outer s H args us vs Q E p hr hot hpin e0 hb r q => h.run A outer s H args us vs Q E p hr hot hpin e0 hb r (im _ _ _ _ q)⟩
theorem walk3N {l : PySem.W.OpenLaw} {k : Nat} {q : Program} {loose : List Str} {XP : (Str → Option Value) → Heap → Prop} {YP : World → Heap → Prop} {d : DefRec} {K : Params → PySem.W.Frag} {sp : PySem.W.Frag → Sp3} {x : Str}
    (hn : l.most = some 63) (hdf : d.params.defaults = []) (hr : Room k callerA)
    (hY : ∀ (w : World) (h : Heap), YP w h → (K w.params).In h)
    (F : ∀ (w : World) (mg : Str → Option Value) (fa : Addr) (h : Heap), (K w.params).In h → h.Ns mainGlobals mg → mg d.name = some (.ref fa) →
      ∃ fd : FuncData, (∀ (s : Shared) (u : Value), BindsTo s fd ⟨[u], []⟩ [(x, u)]) ∧ ∀ base : Heap, (K w.params).In base → base.Ns mainGlobals mg → OkFnN l.prog w (K w.params) mg base k fa fd [x] (sp (K w.params)))
    (hsp : ∀ (K : PySem.W.Frag) (ns : List Int), ScOk ns → sp K [.scr ns] [] (fun d _ => d = .bl true) (fun _ _ => False)) :
    PySem.W.WalkO q loose XP YP l.row.toRowW d [] (fun f vs => PySem.call f vs) :=
  L2.walk_ofB (n := 63) (k := k) (x := x) (CX := fun w => L2N.CX l.prog w) (sp := fun w => lowSp (K w.params) (sp (K w.params))) hn (by decide) hdf hr hY F
    (fun w H a ns hl hb hO hS => law_low hO hS (hsp _ ns ⟨hl, fun z hz => bl_of_bits (hb z hz)⟩)) fun w H s e s' h => by
      obtain ⟨_, _, _, _, _, _, _, _, _, _, _, _, z⟩ := h
      exact z
end
end T3

/-! list(d) while an exception is handled -/
namespace HotX
open PySem PySem.W PySem.Calls PySem.Spec PyProof.Rows PyProof.V
section
variable {prog : Program} {w : World} {A : Around} {E : Value → Shared → Prop} {s : Shared} {x1 d : Addr} {K : Type} [DecidableEq K] {knd : KeyKind prog w K} {kvs : List (K × Value)} {ep : Nat}
theorem walks_keys (I : Addr) (hne : d ≠ I) (hx : x1 ≠ I) : Walks prog w A I [I, d, x1] [I] kvs.length (fun i v => ∃ k x, kvs[i]? = some (k, x) ∧ knd.is k v = true) (fun i h => (h.IsKeyIter I d i kvs.length ep ∧ h.DictAt knd d kvs ep) ∧ HotAt A x1 h) where
  sub := fun b hb => by simp at hb; simp [hb]
  frame := fun _ _ _ st hk => ⟨⟨st.1.1.at fun o e => hk I (by simp) o e, st.1.2.at' fun o e => hk d (by simp) o e⟩, st.2.keep fun o e => hk x1 (by simp) o e⟩
  item := fun i s Q E hi st hQ => by
    obtain ⟨⟨k, x⟩, hkv⟩ : ∃ p, kvs[i]? = some p := ⟨kvs[i], List.getElem?_eq_getElem hi⟩
    refine wpAny_pyNext_dict_item st.1.1 st.1.2 hkv fun key h' hkey hit' hs' => ?_
    exact hQ _ h' s.toks ⟨k, x, hkv, hkey⟩ ⟨⟨hit', st.1.2.at' fun o e => hs'.extBut _ o hne e⟩, st.2.keep fun o e => hs'.extBut _ o hx e⟩ fun b o hb e => hs'.extBut b o (fun h => hb (by simp [h])) e
  done := fun s Q E st hQ => by
    obtain ⟨od, es, hod, hcd, hdd, hk, hp, hn⟩ := id st.1.2
    have hsz : es.size = kvs.length := by rw [← hp.length]; simp
    exact key_end st.2 hx st.1.1 hod hdd hsz (Nat.le_refl _) fun h' he' => hQ h' s.toks fun b o hb e => he' b o (fun h => hb (by simp [h])) e
  self := fun _ _ _ _ st hQ => wpAny_pyIter_keyiter st.1.1 hQ
theorem dict_extend {R : Result → Shared → Prop} (lo : (d == sysModules) = false) (hot : HotAt A x1 s.heap) (hok : s.heap.DictAt knd d kvs ep) (S : Addr) (hSd : S ≠ d) (hSx : S ≠ x1) (res : Value) (c₀ : Nat) (hS : s.heap.get? S = some { cls := .type "list", data := .seq #[] c₀ })
    (hR : ∀ h' tk acc' c', (∀ b o, b ≠ S → s.heap.get? b = some o → h'.get? b = some o) → h'.get? S = some { cls := .type "list", dict := none, data := .seq acc' c', slots := #[] } → ItemsOf (fun i v => ∃ k x, kvs[i]? = some (k, x) ∧ knd.is k v = true) acc' kvs.length → R (.ok (.ret res)) { s with heap := h', toks := tk }) (hn : kvs.length ≤ sizeLine) :
    wpAny (model prog w) A.in1 (Builtin.List.listExtendWith (.ref S) (.ref d) res)
      (fun fin s' => match fin with | .done f => R (.ok f) s' | .again c' => c'.quiet = true ∧ codeAny (model prog w) A c' R s') (fun e s' => R (.error e) s') s := by
  have hSI : S ≠ s.heap.objs.size := Nat.ne_of_lt (Heap.lt_size hS)
  have hSf : S ∉ [s.heap.objs.size, d, x1] := by simp only [List.mem_cons, List.not_mem_nil, or_false, not_or]; exact ⟨hSI, hSd, hSx⟩
  have lx : x1 < s.heap.objs.size := by obtain ⟨_, o, _, eo, _⟩ := hot; exact Heap.lt_size eo
  obtain ⟨oI, St, hit, W, st⟩ : ∃ (oI : Obj) (St : Nat → Heap → Prop), (∀ (E : Value → Shared → Prop) (Q : Value → Shared → Prop), Q (.ref s.heap.objs.size) { s with heap := s.heap.push oI } → wpAny (model prog w) A.in1 (pyIter (.ref d)) Q E s) ∧
      Walks prog w A.in1 s.heap.objs.size [s.heap.objs.size, d, x1] [s.heap.objs.size] kvs.length (fun i v => ∃ k x, kvs[i]? = some (k, x) ∧ knd.is k v = true) St ∧ St 0 (s.heap.push oI) :=
    ⟨_, _, (fun _ _ hq => wpAny_pyIter_dict lo hok hq), walks_keys (A := A.in1) (x1 := x1) _ (Nat.ne_of_lt hok.lt_size) (Nat.ne_of_lt lx), ⟨⟨⟨_, Heap.get?_push_size _ rfl, rfl, rfl⟩, hok.push _⟩, hot.keep fun o e => Heap.get?_push_of_some _ e⟩⟩
  have key : ∀ (h : Heap) (c₁ tk : Nat), St 0 h → (∀ b o, b ≠ S → s.heap.get? b = some o → h.get? b = some o) →
      h.get? S = some { cls := .type "list", data := .seq #[] c₁ } → codeAny (model prog w) A (.builtin "list.extend.loop" ⟨[.ref S, .ref s.heap.objs.size, res], []⟩) R { s with heap := h, toks := tk } := by
    intro h c₁ tk hst hk hS₁
    refine codeAny_extend_loopS W.toS hn S hSf res kvs.length 0 _ #[] c₁ rfl (Nat.zero_le _) hst hS₁ (ItemsOf.nil _) fun s' acc' c' hm hS' hacc => ?_
    rw [Moved.eq_with hm]
    refine hR s'.heap s'.toks acc' c' (fun b o hb e => hm.heap b o (fun hmem => ?_) (hk b o hb e)) hS' hacc
    rcases List.mem_cons.mp hmem with e' | hmem
    · exact hb e'
    · exact absurd (Heap.lt_size e) (by rw [List.mem_singleton.mp hmem]; exact Nat.lt_irrefl _)
  unfold Builtin.List.listExtendWith
  refine wpAny_bind (wpAny_typeOf (T := "dict") hok.dictOf.typeIs ?_)
  have h1 : Builtin.List.listSameRef (.ref S) (.ref d) = false := by simp [Builtin.List.listSameRef, hSd]
  simp only [h1, show (Value.type "dict" == Value.type "list") = false by decide, show (Value.type "dict" == Value.type "tuple") = false by decide, Bool.or_false, Bool.false_eq_true, if_false]
  refine wpAny_bind (hit _ _ ?_)
  have hS₁ := Heap.get?_push_of_some oI hS
  refine wpAny_bind (wpAny_holding (kdl_hint_dict (hok.push _).dictOf.typeIs ?_))
  refine wpAny_ite_split (fun _ => ?_) (fun _ => wpAny_pure ⟨plainId_quiet PySem.F.plain_extend_loop _, key _ c₀ _ st (fun b o _ e => Heap.get?_push_of_some _ e) hS₁⟩)
  refine wpAny_bind (wpAny_rule ?_)
  refine wpAny_bind ?_
  show wpAny _ _ (updateSeq S (·.push .none) >>= fun _ => updateSeq S (·.pop)) _ _ _
  refine wpAny_bind (wpAny_updateSeq hS₁ rfl ?_)
  have hS₂ := Heap.get?_update_self (Obj.mapSeq (·.push Value.none)) hS₁ rfl
  refine wpAny_updateSeq (hz := by seq_fits) hS₂ rfl ?_
  have hS₃ := Heap.get?_update_self (Obj.mapSeq (·.pop)) hS₂ rfl
  refine wpAny_pure ⟨plainId_quiet PySem.F.plain_extend_loop _, key _ _ _ ?_ (fun b o hb e => ?_) hS₃⟩
  · refine W.frame 0 _ _ st fun b hb o e => ?_
    have hbS : b ≠ S := fun h => hSf (h ▸ hb)
    exact (Heap.get?_update_other _ _ (Ne.symm hbS)).trans ((Heap.get?_update_other _ _ (Ne.symm hbS)).trans e)
  · exact (Heap.get?_update_other _ _ (Ne.symm hb)).trans ((Heap.get?_update_other _ _ (Ne.symm hb)).trans (Heap.get?_push_of_some _ e))
theorem dict_init {R : Result → Shared → Prop} (lo : (d == sysModules) = false) (hot : HotAt A x1 s.heap) (hok : s.heap.DictAt knd d kvs ep) (S : Addr) (hSd : S ≠ d) (hSx : S ≠ x1) (hS : s.heap.get? S = some { cls := .type "list", data := .seq #[] })
    (hR : ∀ h' tk acc' c', (∀ b o, b ≠ S → s.heap.get? b = some o → h'.get? b = some o) → h'.get? S = some { cls := .type "list", dict := none, data := .seq acc' c', slots := #[] } → ItemsOf (fun i v => ∃ k x, kvs[i]? = some (k, x) ∧ knd.is k v = true) acc' kvs.length → R (.ok (.ret .none)) { s with heap := h', toks := tk }) (hn : kvs.length ≤ sizeLine) :
    wpAny (model prog w) A.in1 (Builtin.«list.__init__» ⟨[.ref S, .ref d], []⟩)
      (fun fin s' => match fin with | .done f => R (.ok f) s' | .again c' => c'.quiet = true ∧ codeAny (model prog w) A c' R s') (fun e s' => R (.error e) s') s := by
  show wpAny _ _ (do let old ← Builtin.List.listItems (.ref S); Builtin.List.listUpdate (.ref S) (fun _ => #[]); letGo old.toList.reverse; Builtin.List.listExtendWith (.ref S) (.ref d) .none) _ _ s
  refine wpAny_bind ?_
  unfold Builtin.List.listItems
  refine wpAny_bind (wpAny_seqItems hS rfl (wpAny_pure ?_))
  show wpAny _ _ (updateSeq S (fun _ => #[]) >>= fun _ => letGo (#[] : Array Value).toList.reverse >>= fun _ => Builtin.List.listExtendWith (.ref S) (.ref d) .none) _ _ s
  refine wpAny_bind (wpAny_updateSeq hS rfl ?_)
  have hS₂ := Heap.get?_update_self (Obj.mapSeq (fun _ => (#[] : Array Value))) hS rfl
  have oth : ∀ b o, b ≠ S → s.heap.get? b = some o → (s.heap.update S (Obj.mapSeq (fun _ => (#[] : Array Value)))).get? b = some o :=
    fun b o hb e => (Heap.get?_update_other _ _ (Ne.symm hb)).trans e
  refine wpAny_bind (wpAny_letGo ?_)
  refine dict_extend lo (hot.keep fun o e => oth x1 o hSx.symm e) (hok.at' fun o e => oth d o hSd.symm e) S hSd hSx .none _ hS₂ (fun h' tk acc' c' hk hS' hacc => ?_) hn
  exact hR h' tk acc' c' (fun b o hb e => hk b o hb (oth b o hb e)) hS' hacc
theorem call_list_dict {Q : Value → Shared → Prop} (lo : (d == sysModules) = false) (hot : HotAt A x1 s.heap) (hok : s.heap.DictAt knd d kvs ep) (hn : kvs.length ≤ sizeLine)
    (hQ : ∀ h' tk acc' c', (∀ b o, s.heap.get? b = some o → h'.get? b = some o) → h'.get? s.heap.objs.size = some { cls := .type "list", dict := none, data := .seq acc' c', slots := #[] } → ItemsOf (fun i v => ∃ k x, kvs[i]? = some (k, x) ∧ knd.is k v = true) acc' kvs.length → Q (.ref s.heap.objs.size) { s with heap := h', toks := tk }) :
    wpAny (model prog w) A (call (.type "list") [.ref d]) Q E s := by
  refine callType_codes (Q₁ := fun obj s₁ => obj = .ref s.heap.objs.size ∧ s₁ = { s with heap := s.heap.push { cls := .type "list", data := .seq #[] } }) PySem.F.called_list (PySem.F.typeCall_list_1 _) PySem.F.entry_list_init
    (code_list_new _ ⟨rfl, rfl⟩) fun obj s₁ h₁ => ?_
  obtain ⟨rfl, rfl⟩ := h₁
  have hS : (s.heap.push { cls := .type "list", data := .seq #[] }).get? s.heap.objs.size = some { cls := .type "list", data := .seq #[] } := Heap.get?_push_size _ rfl
  have lx : x1 < s.heap.objs.size := by obtain ⟨_, o, _, eo, _⟩ := hot; exact Heap.lt_size eo
  refine ⟨⟨_, hS, rfl⟩, PySem.F.args_list_init_2 _ _, dict_init (A := A.in1) lo (hot.keep fun o e => Heap.get?_push_of_some _ e) (hok.push _) _ (Nat.ne_of_gt hok.lt_size) (Nat.ne_of_gt lx) hS (fun h' tk acc' c' hk hS' hacc => ?_) hn⟩
  exact ⟨rfl, hQ h' tk acc' c' (fun b o e => hk b o (Nat.ne_of_lt (Heap.lt_size e)) (Heap.get?_push_of_some _ e)) hS' hacc⟩

end
end HotX
namespace L2H
open PySem PySem.Spec PyProof.Rows L2 HotX
theorem call_list_dKH {X : Cx} (hc : HotC X) : CallR X (.type "list") rListD := by
  intro pins s σ H xs us Q I r h
  obtain ⟨p, kvs, e, hk, q⟩ := h
  subst e
  obtain ⟨u, eu, rx⟩ := vals1 r
  subst eu
  obtain rfl : u = Value.ref p := rx
  obtain ⟨x1, hot⟩ := hc.at I
  obtain ⟨z, lo, vs, rk, hd⟩ := (show ObjOk X.prog X.w H s.heap p (.dK kvs) from I.hok p _ hk)
  obtain ⟨ep, hat⟩ := hd.dictAt
  have hl : kvs.length = vs.length := Paired.length rk
  refine call_list_dict (knd := mixKind X.prog X.w) (kvs := vs) (ep := ep) lo hot hat (by rw [← hl]; exact z) fun h' tk acc' c' hkeep hS hacc => ?_
  refine ⟨.ref s.heap.objs.size, upd H s.heap.objs.size (.lst (kvs.map fun kv => kV kv.1)), I.laid hkeep (Nat.le_refl _) (show ObjOk X.prog X.w _ _ _ (.lst (kvs.map fun kv => kV kv.1)) from ⟨?_, acc'.toList, c', ?_, ?_⟩), rfl, q _ (I.hok.fresh (Nat.le_refl _))⟩
  · rw [List.length_map]; exact z
  · have el : acc'.toList.length = acc'.size := by simp
    refine vals_of_at (by rw [List.length_map, el, hacc.1, hl]) fun j x w h1 h2 => ?_
    obtain ⟨k, y, hky, hi⟩ := hacc.2 j w (by rw [← Array.getElem?_toList]; exact h2)
    have e1 : (kvs.map (·.1))[j]? = some k := by
      rw [KV.keys rk, List.getElem?_map, hky] <;> rfl
    have e2 : (kvs.map fun kv => kV kv.1)[j]? = some (kV k) := by
      have e3 : (kvs.map fun kv => kV kv.1) = (kvs.map (·.1)).map kV := by rw [List.map_map] <;> rfl
      rw [e3, List.getElem?_map, e1] <;> rfl
    rw [e2] at h1
    cases h1
    exact keyIs_rel hi
  · rw [Array.toArray_toList]; exact hS
end L2H

/-! an exception without context that leaves a list comprehension, a locked dict -/
namespace L2
open PySem PySem.Spec PyProof.Rows
section
variable {X : Cx} {pins : List (Addr × Obj)} {σ : St} {H : Hp} {s : Shared}
theorem blk_leavesN {HY : Hp} {sY s' : Shared} {scope : Scope} {cl : List (Str × Addr)} {fp : List Addr} {Wx : WX} {E : XK} {u : Value} {pY : List (Addr × Obj)} {σY : St} {E1 : Value → Shared → Prop}
    (hs : X.stack = X.env :: X.outer) (hf : X.env.frame = some X.env.locals) (tk : L2N.Takes X Wx) (I : Inv X pins σ H s) (hfp : ∀ b ∈ fp, FpOk X pins H b ∧ b < s.heap.objs.size)
    (IY : Inv (X.blk s H scope (compEnvC scope cl s.heap.objs.size X.env) fp) pY σY HY sY) (hE : ∀ cls d H', E cls d H' → Wx cls d σ H') (c : L2N.CX X.prog X.w X.stack HY sY E u s') :
    wpAny (model X.prog X.w) X.A (noteFrame u (compEnvC scope cl s.heap.objs.size X.env)) (fun _ s'' => postX (model X.prog X.w) X.A X.xe none (fun _ _ => False) .none (compEnvC scope cl s.heap.objs.size X.env) (.error u) s'') E1 s' := by
  obtain ⟨a, B, H', cls, d, rfl, fl, hok, ub, na, os, ag, hEe⟩ := c
  have hfr : X.A.frames = some (X.env :: X.outer) := by rw [I.ok.frames, hs]
  show wpAny _ _ (noteFrame (.ref a) X.env) _ _ _
  refine PXN.looks_onZ L2N.Zn.steady hfr hf (by rw [← hs]; exact fl) fun h1 hh up1 => ?_
  -- the block's variables
  obtain ⟨m, ⟨oC, es, ep, eC, dC, kC, nC⟩, _⟩ := IY.loc
  have eC : sY.heap.get? s.heap.objs.size = some oC := eC
  have fC : HY s.heap.objs.size = none := IY.free
  have old : ∀ b ∈ frs X.stack, b < s.heap.objs.size := fun b hb => by
    obtain ⟨_, o, e, _⟩ := I.stack.mem hb
    exact Heap.lt_size e
  have frC : s.heap.objs.size ∉ frs X.stack := fun hm => absurd (old _ hm) (Nat.lt_irrefl _)
  have BC : B.get? s.heap.objs.size = some oC := ub.keep _ _ eC fC frC
  have fC' : H' s.heap.objs.size = none := ub.free _ _ eC fC
  obtain ⟨slC, hC1⟩ := up1 _ _ (fl.1 _ _ BC) (fun vs e => by rw [dC] at e; cases e)
  refine ⟨m, ⟨_, es, ep, hC1, dC, kC, nC⟩, fun h' sb => ?_⟩
  have hb2 : ∀ b, b ≠ s.heap.objs.size → h'.get? b = h1.get? b := fun b hb => sb.2 b hb
  -- the ground without them
  obtain ⟨B', hB'⟩ : ∃ B', B' = PySem.W.hideAll B [s.heap.objs.size] := ⟨_, rfl⟩
  have ofB : ∀ b o, B'.get? b = some o → B.get? b = some o := fun b o e => PySem.W.of_hideAll _ (by rw [← hB']; exact e)
  have noC : B'.get? s.heap.objs.size = none := by rw [hB']; exact PySem.W.hideAll_none _ (List.mem_singleton.mpr rfl)
  have inB : ∀ b o, B.get? b = some o → b ≠ s.heap.objs.size → B'.get? b = some o := fun b o e hne => by
    rw [hB']; exact PySem.W.hideAll_get _ e (fun hm => hne (List.mem_singleton.mp hm))
  have neB : ∀ b o, B'.get? b = some o → b ≠ s.heap.objs.size := fun b o e z => by rw [z, noC] at e; cases e
  have noneB : ∀ b, B.get? b = none → B'.get? b = none := fun b e => by
    cases q : B'.get? b with
    | none => rfl
    | some o => rw [ofB b o q] at e; cases e
  obtain ⟨x1, x2, x3, oe, vs, Tb, oT, ts, he, hz, hd, hv1, hnT, hTe, hT, hdT, h3⟩ := hh
  have neA : a ≠ s.heap.objs.size := fun z => by rw [z, BC] at x2; cases x2
  have neT : Tb ≠ s.heap.objs.size := fun z => by rw [z, BC] at hnT; cases hnT
  have k1 : B'.StaysIn h' := fun b o e => (hb2 b (neB b o e)).trans (x1 b o (ofB b o e))
  have k3 : h'.FunFrames B' (X.env :: X.outer) := by
    refine frames_move x3 fun L hL => ?_
    rw [← hs] at hL
    exact ⟨noneB L (x3.mem (by rw [← hs]; exact hL)).1, hb2 L (fun z => frC (z ▸ hL))⟩
  have k4 : HandSPX.TracedZ h' B' a (L2N.Zn cls d) (rawInt X.env.locals) := ⟨oe, vs, Tb, oT, ts, (hb2 a neA).trans he, hz, hd, hv1, noneB Tb hnT, hTe, (hb2 Tb neT).trans hT, hdT, h3⟩
  -- the state without the exception
  obtain ⟨G, g1, g2⟩ := restrict s'.heap fun b => (B'.get? b).isSome || decide (b ∈ frs X.stack)
  have st : B.StaysIn s'.heap := fl.1
  have gB : ∀ b o, B'.get? b = some o → G.get? b = some o := fun b o e => by
    rw [g1 b (by simp [e])]
    exact st b o (ofB b o e)
  have gF : ∀ b, b ∈ frs X.stack → G.get? b = s'.heap.get? b := fun b hb => g1 b (by simp [hb])
  have og : ∀ b o, G.get? b = some o → s'.heap.get? b = some o ∧ ((B'.get? b).isSome = true ∨ b ∈ frs X.stack) := fun b o e => by
    cases q : ((B'.get? b).isSome || decide (b ∈ frs X.stack)) with
    | false => rw [g2 b q] at e; cases e
    | true =>
      rw [g1 b q] at e
      exact ⟨e, by simpa [Bool.or_eq_true] using q⟩
  have ogC : ∀ b o, G.get? b = some o → b ≠ s.heap.objs.size := fun b o e z => by
    rcases (og b o e).2 with h | h
    · rw [z, noC] at h; cases h
    · exact frC (z ▸ h)
  have hokG : HOk X.prog X.w H' G := fun b o q => (hok b o q).stay (fun e v hc r => gB e v (inB e v r fun z => by
    rcases hc with hc | hc
    · rw [← hc, z, fC'] at q; cases q
    · rw [z, fC'] at hc; cases hc)) (fun _ r => r) fun _ _ r => r
  have neS : ∀ b o, s.heap.get? b = some o → b ≠ s.heap.objs.size := fun b o e => Nat.ne_of_lt (Heap.lt_size e)
  have J : Inv X pins σ H' { s with heap := G, gens := s'.gens, drawn := s'.drawn, toks := s'.toks } := by
    have bY := IY.base
    refine I.call (ch := fp) ⟨fun b o e n hb hx => gB b o (inB b o (ub.keep b o (bY.keep b o e n hb hx) (bY.free b o e n hx) hb) (neS b o e)), fun b o e n hb hx => ?_, fun b o e n hx => ?_, fun b o e hx => ?_, fun b xs e => ub.tups b xs (bY.tups b xs e), fun b o x e => ub.frzs b o x (bY.frzs b o x e), fun b ps e => ?_⟩ hokG ag (fun b hb => ⟨(hfp b hb).1.2.2.2.1, (hfp b hb).1.2.1, (hfp b hb).1.2.2.2.2.1, (hfp b hb).1.2.2.2.2.2⟩)
    · obtain ⟨sl, q⟩ := bY.slot b o e n hb hx
      obtain ⟨sl2, q2⟩ := ub.slot b _ q hb
      exact ⟨sl2, by rw [gF b hb]; exact q2⟩
    · obtain ⟨o', q⟩ := bY.there b o e hx
      exact ub.free b o' q (bY.free b o e n hx)
    · obtain ⟨o', q⟩ := bY.there b o e hx
      by_cases hb : b ∈ frs X.stack
      · obtain ⟨sl2, q2⟩ := ub.slot b _ q hb
        exact ⟨_, by rw [gF b hb]; exact q2⟩
      · obtain ⟨o2, q2⟩ := ub.there b o' q hb
        exact ⟨o2, gB b o2 (inB b o2 q2 (neS b o e))⟩
    · obtain ⟨m1, q1⟩ := bY.tbls b ps e
      obtain ⟨m2, q2⟩ := ub.tbls b _ q1
      exact ⟨m1 ++ m2, by rw [q2, Array.append_assoc]⟩
  -- passed on
  unfold PySem.passOn
  refine wpAny_bind (wpAny_field ((hb2 a neA).trans he) hd hv1 ?_)
  rw [if_neg (show ¬ ((Value.ref Tb == Value.none) = true) from by simp)]
  have fin : wpAny (model X.prog X.w) X.A (setFlight (.ref a) X.env.frame) (fun _ s4 => wpAny (model X.prog X.w) X.A (throw (.ref a) : Sem Value) (fun _ _ => False) X.xe s4) X.xe { s' with heap := h' } := by
    rw [hf]
    refine HandSPX.setFlight_anyZ k1 k3 k4 fun h2 y1 y2 y3 up2 => wpAny_throw (tk _ _ ?_)
    refine ⟨a, B', { s with heap := G, gens := s'.gens, drawn := s'.drawn, toks := s'.toks }, pins, σ, H', cls, d, rfl, J, fun b o e hb => ?_, fun b o e hnf => ?_, .inr (.inr (by rw [hs]; exact ⟨y1, noneB a x2, y2, y3⟩)), na, os.trans IY.os, ag, hE _ _ _ hEe⟩
    · obtain ⟨e1, h⟩ := og b o e
      rcases h with h | h
      · obtain ⟨o', q⟩ := Option.isSome_iff_exists.mp h
        have z := st b o' (ofB b o' q)
        rw [e1] at z; cases z
        exact q
      · exact absurd h hb
    · obtain ⟨sl, q⟩ := up1 b o (og b o e).1 hnf
      obtain ⟨sl2, q2⟩ := up2 b _ ((hb2 b (ogC b o e)).trans q) hnf
      exact ⟨sl2, q2⟩
  first
    | exact wpAny_bind (wpAny_pure (wpAny_bind fin))
    | exact wpAny_bind fin
end
abbrev Cx.blkEN (X : Cx) (s : Shared) (H : Hp) (scope : Scope) (ce : Env) (fp : List Addr) (E : XK) : Cx :=
  (X.blk s H scope ce fp).wish fun u s' => ∃ pY σY HY sY, Inv (X.blk s H scope ce fp) pY σY HY sY ∧ L2N.CX X.prog X.w X.stack HY sY E u s'
section
variable {X : Cx}
theorem passBlkN {s : Shared} {H : Hp} {scope : Scope} {ce : Env} {fp : List Addr} {E : XK} (σ : St) : PassesAt (L2N.CX X.prog X.w) (X.blkEN s H scope ce fp E) σ E := fun _ _ _ _ _ I c => ⟨_, _, _, _, I.unwish, c⟩
theorem lc_coreXN {Wx : WX} {pins : List (Addr × Obj)} {s : Shared} {σ : St} {H : Hp} {Q : VK} {elt tg iter : Expr} {ifs : List Expr} {scope : Scope} {own : List (Str × Nat)} {pos pos' : Pos} {wi : TI} {g : TG} {tt : TT} {te : XK → TE} {use : Option (Value → Sem Unit)} {Qf : Value → Shared → Prop}
    (hst : X.stack = X.env :: X.outer) (hfr : X.env.frame = some X.env.locals) (tk : L2N.Takes X Wx)
    (hc : X.calm = true) (hN : X.N.Nodup) (I : Inv X pins σ H s) (hi : PI X tg iter wi) (ok : BlkOk X.N X.env.scope scope own)
    (hg : ∀ (s : Shared) (H : Hp) (C : Addr) (cl : List (Str × Addr)) (fp : List Addr), PG (X.blk s H scope (compEnvC scope cl C X.env) fp) tg g) (ht : ∀ (s : Shared) (H : Hp) (C : Addr) (cl : List (Str × Addr)) (fp : List Addr), PTs (X.blk s H scope (compEnvC scope cl C X.env) fp) ifs tt)
    (he : ∀ (s : Shared) (H : Hp) (C : Addr) (cl : List (Str × Addr)) (fp : List Addr) (E : XK), PE (X.blkEN s H scope (compEnvC scope cl C X.env) fp E) elt (te E)) (hs : ∀ x, foldedSetIterable iter X.env x = pure x)
    (h : tLcX Wx wi g tt te (own.map (·.2)) σ H Q)
    (hRR : ∀ D C s' m H', Inv X pins σ H' s' → Q (.ref D) H' → s'.heap.Ns C m → FpOk X pins H' C → compPost (model X.prog X.w) X.A X.xe use Qf (.ref D) C (.ok .next) s') :
    wpAny (model X.prog X.w) X.A (comprehension (.ListComp elt [⟨tg, iter, ifs, 0⟩] scope pos) scope X.env pos' (newList []) false (eval iter X.env) use) Qf X.xe s := by
  have hfree : ∀ y ∈ scope.names, y.2 = .free → ∃ c, X.env.cells.lookup y.1 = some c := fun y hy e => by
    rcases ok.free y hy e with k | k
    · exact I.ok.has _ (.inl k)
    · exact I.ok.has _ (.inr k)
  refine compr_env (use := use) rfl hs (closure_ok hfree) ok.kind (fun y hy e => by rw [ok.uniq y hy, e])
    (thn (hi.run pins s σ H _ I h) fun xv s1 hx => thn hx fun itv s2 h2 => ?_)
  obtain ⟨it, fp, tn, J, H2, e, I2, T, st2, f2, q⟩ := h2
  subst e
  refine wpAny_newObj_type (newEnv_comp ?_) (by show 0 ≤ sizeLine; decide)
  generalize hD : s2.heap.objs.size = D
  have hDn : H2 D = none := I2.hok.fresh (Nat.le_of_eq hD)
  obtain ⟨W, ⟨m0, w0⟩, turn⟩ := q D hDn
  -- the new list
  generalize hs3 : ({ s2 with heap := s2.heap.push { cls := .type "list", data := .seq ([] : List Value).toArray } } : Shared) = s3
  have I3 : Inv X pins σ (upd H2 D (.lst [])) s3 := by
    rw [← hs3]
    refine I2.laid (t' := s2.toks) (fun b o e => Heap.get?_push_of_some _ e) (Nat.le_of_eq hD) ⟨Nat.zero_le _, [], 0, .nil, ?_⟩
    rw [← hD]
    exact Heap.get?_push_size _ rfl
  have h3 : s3.heap = s2.heap.push { cls := .type "list", data := .seq ([] : List Value).toArray } := by rw [← hs3]
  have sz : ∀ b ∈ fp, b < s2.heap.objs.size := fun b hb => by
    obtain ⟨o, e, _⟩ := T.obj _ _ st2 b hb
    exact Heap.lt_size e
  have f3 : ∀ b ∈ fp, FpOk X pins (upd H2 D (.lst [])) b ∧ b < s3.heap.objs.size := fun b hb => by
    have hlt := sz b hb
    refine ⟨⟨?_, (f2 b hb).2⟩, by rw [h3, Heap.size_push]; exact Nat.lt_succ_of_lt hlt⟩
    rw [upd_ne (by rw [← hD]; exact Nat.ne_of_lt hlt)]
    exact (f2 b hb).1
  have st3 : tn 0 s3.heap := T.keep _ _ _ st2 fun b _ o e => by rw [h3]; exact Heap.get?_push_of_some _ e
  have I4 := block_start I3 ok hN f3
  have pg := hg s3 (upd H2 D (.lst [])) s3.heap.objs.size (cellsFrom (s3.heap.objs.size + 1) scope.names (cloFrom X.env.cells scope.names [])) fp
  have pt := ht s3 (upd H2 D (.lst [])) s3.heap.objs.size (cellsFrom (s3.heap.objs.size + 1) scope.names (cloFrom X.env.cells scope.names [])) fp
  have pe := he s3 (upd H2 D (.lst [])) s3.heap.objs.size (cellsFrom (s3.heap.objs.size + 1) scope.names (cloFrom X.env.cells scope.names [])) fp fun cls d H' => Wx cls d σ H'
  have lv : ∀ {HY : Hp} {sY s' : Shared} {u : Value} {pY : List (Addr × Obj)} {σY : St}, Inv (X.blk s3 (upd H2 D (.lst [])) scope (compEnvC scope (cellsFrom (s3.heap.objs.size + 1) scope.names (cloFrom X.env.cells scope.names [])) s3.heap.objs.size X.env) fp) pY σY HY sY →
      L2N.CX X.prog X.w X.stack HY sY (fun cls d H' => Wx cls d σ H') u s' →
      notedBy (model X.prog X.w) X.A (compEnvC scope (cellsFrom (s3.heap.objs.size + 1) scope.names (cloFrom X.env.cells scope.names [])) s3.heap.objs.size X.env) (fun e s' => postX (model X.prog X.w) X.A X.xe use Qf (.ref D) (compEnvC scope (cellsFrom (s3.heap.objs.size + 1) scope.names (cloFrom X.env.cells scope.names [])) s3.heap.objs.size X.env) (.error e) s') u s' := fun IY c => by
    exact blk_leavesN hst hfr tk I3 f3 IY (fun _ _ _ h => h) c
  show codeAny _ _ (.compStart (.ListComp elt [⟨tg, iter, ifs, 0⟩] scope pos) 0 (.ref it) (.ref D) (compEnvC scope (cellsFrom (s3.heap.objs.size + 1) scope.names (cloFrom X.env.cells scope.names [])) s3.heap.objs.size X.env)) (postX (model X.prog X.w) X.A X.xe use Qf (.ref D) (compEnvC scope (cellsFrom (s3.heap.objs.size + 1) scope.names (cloFrom X.env.cells scope.names [])) s3.heap.objs.size X.env)) { s3 with heap := pushCells (s3.heap.push { cls := .type "dict", data := .dict #[] }) scope.names }
  have nfp : ∀ b ∈ fp, (upd H2 D (.lst [])) b = none := fun b hb => (f3 b hb).1.1
  generalize hce : compEnvC scope (cellsFrom (s3.heap.objs.size + 1) scope.names (cloFrom X.env.cells scope.names [])) s3.heap.objs.size X.env = ce at I4 pg pt pe lv ⊢
  have cL : ce.locals = s3.heap.objs.size := by subst hce; rfl
  generalize hH3 : upd H2 D (.lst []) = H3 at I3 I4 pg pt pe lv w0 nfp f3
  generalize hs4 : ({ s3 with heap := pushCells (s3.heap.push { cls := .type "dict", data := .dict #[] }) scope.names } : Shared) = s4 at I4 ⊢
  have st4 : tn 0 s4.heap := T.keep _ _ _ st3 fun b _ o e => by rw [← hs4]; exact pushCells_keeps _ _ _ _ (Heap.get?_push_of_some _ e)
  have stat : ∀ {σ' : St} {H' : Hp} {s' : Shared}, Inv (X.blk s3 H3 scope ce fp) [] σ' H' s' → (∀ b ∈ fp, H' b = none) → ∀ b ∈ fp, FpOk (X.blk s3 H3 scope ce fp) [] H' b := fun {σ' H' s'} I' hn b hb =>
    ⟨hn b hb, (I'.ok.exf b hb).1, I'.ok.exfs b hb, .inl hb, fun x c e => (I'.ok.exf b hb).2 x c e, fun p hp => absurd (show p ∈ ([] : List (Addr × Obj)) ++ [] from hp) (by simp)⟩
  have loop : codeAny (model X.prog X.w) X.A (.compLoop (.ListComp elt [⟨tg, iter, ifs, 0⟩] scope pos) 0 (.ref it) (.ref D) ce) (postX (model X.prog X.w) X.A X.xe use Qf (.ref D) ce) s4 := by
    refine compLoop_any (fun n s' => ∃ i H', Inv (X.blk s3 H3 scope ce fp) [] (wipe σ (own.map (·.2))) H' s' ∧ tn i s'.heap ∧ (∀ b ∈ fp, H' b = none) ∧ W i n H') ?_ m0 ⟨0, H3, I4, st4, nfp, w0⟩
    rintro n s5 ⟨i, H5, I5, st5, n5, w5⟩
    rcases turn i n H5 w5 with ⟨stop, qq⟩ | ⟨go, Nx, hNx, step⟩
    · have td := T.done (X.blk s3 H3 scope ce fp) rfl rfl rfl hc i [] s5 _ H5 (fun _ _ => False) I5 (stat I5 n5) st5 stop
      refine thnF td fun r s6 ⟨hr, I6⟩ => ?_
      subst hr
      -- back in the def's context
      have I7 : Inv X pins σ H5 s6 := I3.call' (ch := fp) I6.os I6.base I6.hok I6.bare fun b hb => ⟨(f3 b hb).1.2.2.2.1, (f3 b hb).1.2.1, (f3 b hb).1.2.2.2.2.1, (f3 b hb).1.2.2.2.2.2⟩
      have nC : H5 s3.heap.objs.size = none := by
        have z : H5 ce.locals = none := I6.free
        rw [cL] at z
        exact z
      obtain ⟨m, hn, _⟩ := I6.loc
      have hn : s6.heap.Ns ce.locals m := hn
      rw [cL] at hn
      show compPost _ _ _ _ _ _ ce.locals _ _
      rw [cL]
      exact hRR D s3.heap.objs.size s6 m H5 I7 qq hn (I3.fpOk (Nat.le_refl _) nC)
    · have ti := T.item (X.blk s3 H3 scope ce fp) rfl rfl rfl hc i [] s5 _ H5 (fun _ _ => False) I5 (stat I5 n5) st5 go
      refine thnF ti fun r s6 ⟨u, hr, h6⟩ => ?_
      subst hr
      refine thnF h6 fun _ s7 ⟨x, H7, I7, r7, y7, st7, n7⟩ => ?_
      have I7' := I7.pinned (stat I7 n7) (T.obj _ _ st7)
      refine thnF (pg.run _ s7 _ H7 x u _ I7' r7 (step x H7 y7)) fun _ s8 ⟨σ8, H8, I8, hw8, q8⟩ => ?_
      refine thnF (pt.run _ s8 σ8 H8 _ I8 q8) fun b s9 ⟨H9, I9, q9⟩ => ?_
      -- the turn's end
      have fin : ∀ {s' : Shared} {H' : Hp}, Inv (X.blk s3 H3 scope ce fp) ([] ++ pinsAt fp s7.heap) σ8 H' s' → Nx H' → ∃ m, m < n ∧ ∃ i H', Inv (X.blk s3 H3 scope ce fp) [] (wipe σ (own.map (·.2))) H' s' ∧ tn i s'.heap ∧ (∀ b ∈ fp, H' b = none) ∧ W i m H' := fun {s' H'} I' nx => by
        obtain ⟨m', hm, w'⟩ := hNx H' nx
        have pin' : ∀ b ∈ fp, ∀ o, s7.heap.get? b = some o → s'.heap.get? b = some o ∧ H' b = none := fun b hb o e =>
          let z := I'.pin (b, o) (List.mem_append_right _ (List.mem_append_right _ (mem_pinsAt hb e)))
          ⟨z.1, z.2.1⟩
        have hl : (wipe σ (own.map (·.2))).length = σ8.length := by rw [← hw8, wipe_length]
        refine ⟨m', hm, i + 1, H', (I'.unpinned (pins := [])).weak hl (fun j v e => ?_), T.keep _ _ _ st7 fun b hb o e => (pin' b hb o e).1, fun b hb => ?_, w'⟩
        · rw [← hw8] at e
          exact (wipe_some e).1
        · obtain ⟨o, e, _⟩ := T.obj _ _ st7 b hb
          exact (pin' b hb o e).2
      cases b with
      | false =>
        simp only [Bool.false_eq_true, if_false] at q9 ⊢
        exact fin I9 q9
      | true =>
        simp only [if_true] at q9 ⊢
        refine wpAny_mono (pe.run _ s9 σ8 H9 _ (I9.wish _) q9) (fun z s10 ⟨yv, H10, I10, r10, acc, hD10, hz10, nx⟩ => ?_) (fun u s' ⟨_, _, _, _, IY, c⟩ => lv IY c)
        exact app_ok (X := X.blk s3 H3 scope ce fp) I10.unwish hD10 hz10 r10 fun s11 I11 => fin I11 nx
  exact codeAny_compStart_list loop (T.self X.A 0 _ _ _ st4 loop)
theorem ps_setLcXN {Wx : WX} {i : Nat} {y : Str} {py : Pos} {elt tg iter : Expr} {ifs : List Expr} {scope : Scope} {own : List (Str × Nat)} {pos spos : Pos} {wi : TI} {g : TG} {tt : TT} {te : XK → TE}
    (hst : X.stack = X.env :: X.outer) (hfr : X.env.frame = some X.env.locals) (tk : L2N.Takes X Wx) (hc : X.calm = true) (hN : X.N.Nodup) (hy : X.N[i]? = some y) (hyl : X.env.scope.names.lookup y = some .local)
    (hsw : swapsWith (.ListComp elt [⟨tg, iter, ifs, 0⟩] scope pos) (some (.Name y py)) spos.line X.env = pure true) (hi : PI X tg iter wi) (ok : BlkOk X.N X.env.scope scope own)
    (hg : ∀ (s : Shared) (H : Hp) (C : Addr) (cl : List (Str × Addr)) (fp : List Addr), PG (X.blk s H scope (compEnvC scope cl C X.env) fp) tg g) (ht : ∀ (s : Shared) (H : Hp) (C : Addr) (cl : List (Str × Addr)) (fp : List Addr), PTs (X.blk s H scope (compEnvC scope cl C X.env) fp) ifs tt)
    (he : ∀ (s : Shared) (H : Hp) (C : Addr) (cl : List (Str × Addr)) (fp : List Addr) (E : XK), PE (X.blkEN s H scope (compEnvC scope cl C X.env) fp E) elt (te E)) (hs : ∀ x, foldedSetIterable iter X.env x = pure x := by intro _; rfl) :
    PS X (.Assign [.Name y py] (.ListComp elt [⟨tg, iter, ifs, 0⟩] scope pos) spos) (tAsg (tLcX Wx wi g tt te (own.map (·.2))) (gName i)) := by
  refine ⟨fun pins s σ H D I h => ?_⟩
  rw [exec_Assign_Name_used _ _ _ _ hsw]
  refine wpAny_bind (wpAny_standAt (wpAny_bind ?_))
  show wpAny _ X.A (do let _ ← comprehension (.ListComp elt [⟨tg, iter, ifs, 0⟩] scope pos) scope X.env (firstIterPos [⟨tg, iter, ifs, 0⟩] pos) (newList []) false (eval iter X.env) (some (assign (.Name y py) X.env))) _ _ s
  have h : tLcX Wx wi g tt te (own.map (·.2)) σ H (fun x H1 => gName i x σ H1 D.nx) := h
  refine wpAny_bind (thn (lc_coreXN (Qf := fun _ s' => SP X pins D .next s') hst hfr tk hc hN I hi ok hg ht he hs h fun L C s' m H' I' q hn f => ?_) fun _ s' hq => wpAny_pure (wpAny_pure hq))
  show wpAny _ _ (assign (.Name y py) X.env (.ref L)) _ _ _
  refine wpAny_assign_Name (store_ok2 (v := V.ref L) I' hN hy (.inl hyl) rfl (fun s2 I2 ⟨a, sb, ha⟩ => ?_) (.inr hyl))
  obtain ⟨f0, f1, f2, f3, f4, f5⟩ := f
  have haC : C ≠ a := by
    rcases ha with z | z
    · rw [z]; exact f1
    · exact fun e => f4 y a z e.symm
  refine ⟨m, hn.sameBut sb haC, fun h3 sb3 => ?_⟩
  exact ⟨_, H', I2.turned (t' := s2.toks) (fun b o hb e => (sb3.2 b hb).trans e) f0 f1 f3 f4 f5, q⟩
theorem takes_unlockN {Wx : WX} {d : Addr} {od : Obj} {u : HO} (tk : L2N.Takes X Wx) (hn : ∀ o' u', X.H_0 d ≠ some (.frz o' u')) : L2N.Takes X (fun cls dd σ' H' => H' d = some (.frz od u) ∧ Wx cls dd σ' (upd H' d u)) := by
  rintro v s' ⟨a, B, sI, pins, σ, H, cls, dd, e, I, nb, up, sky, na, os, ag, eH, w⟩
  refine tk v s' ⟨a, B, sI, pins, σ, _, cls, dd, e, I.unlock eH hn, nb, up, sky, ?_, os, ag, w⟩
  rw [upd_ne (fun z => by rw [z, eH] at na; cases na)]
  exact na
theorem ps_lockXN {Wx : WX} {st : Stmt} {t : WX → TS} (tk : L2N.Takes X Wx) (h : ∀ Wl, L2N.Takes X Wl → PS X st (t Wl)) : PS X st (tLockX Wx t) := by
  refine ⟨fun pins s σ H D I hw => ?_⟩
  obtain ⟨d, u, hd, mu, hw⟩ := hw
  obtain ⟨od, I1⟩ := I.lock hd mu
  refine thn ((h _ (takes_unlockN tk (I.nofrz hd mu))).run pins s σ _ _ I1 (hw od)) fun f s1 q => ?_
  cases f with
  | next => obtain ⟨σ', H', I2, e, q⟩ := q; exact ⟨σ', _, I2.unlock e (I.nofrz hd mu), q⟩
  | brk => obtain ⟨σ', H', I2, e, q⟩ := q; exact ⟨σ', _, I2.unlock e (I.nofrz hd mu), q⟩
  | cont => obtain ⟨σ', H', I2, e, q⟩ := q; exact ⟨σ', _, I2.unlock e (I.nofrz hd mu), q⟩
  | ret v => obtain ⟨x, σ', H', I2, r, e, q⟩ := q; exact ⟨x, σ', _, I2.unlock e (I.nofrz hd mu), r, q⟩
end
end L2
namespace T3
open PySem PySem.Spec PyProof.Rows L2
variable {X : Cx} {Wx : WX}
theorem s_lockXN {st : Stmt} {t : TS3} (tk : L2N.Takes X Wx) (h : ∀ Wl, L2N.Takes X Wl → PS X st (lowS X.K Wl t)) : PS X st (lowS X.K Wx (lockX3 t)) := by
  refine (ps_lockXN (t := fun Wl => lowS X.K Wl t) tk h).imp3 ?_
  rintro D σ H ⟨σ3, W, G, D3, R, S, ⟨d, kvs, l, r, rfl, hk, h⟩, k⟩
  obtain ⟨vs, e1, rk⟩ := S.ob d _ (put_mid (o' := .dict kvs)).mem
  refine ⟨d, .dK vs, e1, trivial, fun od => ?_⟩
  refine ⟨σ3, W, _, _, R, S.put (o' := .lck od kvs) put_mid ⟨vs, upd_same, rk⟩, h od, ?_⟩
  refine ⟨⟨fun W1 σ1 G1 σ' H1 l1 R1 S1 h1 => ?_⟩, ⟨fun W1 v G1 v' H1 l1 S1 r1 h1 => ?_⟩, ⟨fun W1 σ1 G1 σ' H1 l1 R1 S1 h1 => ?_⟩, ⟨fun W1 σ1 G1 σ' H1 l1 R1 S1 h1 => ?_⟩, ⟨fun C W1 σ1 G1 σ' H1 l1 R1 S1 h1 => ?_⟩⟩
  all_goals
    obtain ⟨G2, p, h2⟩ := h1
    obtain ⟨e2, S2⟩ := unlock hk rk S1 p
    refine ⟨e2, ?_⟩
  · exact k.nx.run _ _ _ _ _ l1 R1 S2 h2
  · exact k.rt.run _ _ _ _ _ l1 S2 r1 h2
  · exact k.bk.run _ _ _ _ _ l1 R1 S2 h2
  · exact k.ct.run _ _ _ _ _ l1 R1 S2 h2
  · exact k.ex.run _ _ _ _ _ _ l1 R1 S2 h2
section
variable {k : Nat} {fa C : Addr} {fd : FuncData} {ps : List Str} {sp : Sp3} {x : Str} {e : Expr} {es : List Expr} {tr : TA3} {p pos : Pos}
theorem e_fnXN {E : XK} (hp : ∀ σ, PassesAt (L2N.CX X.prog X.w) X σ E) (F : FnOk X.prog X.w X.K X.mg X.base (L2N.CX X.prog X.w) k fa fd ps (lowSp X.K sp)) (hr : Room k X.A) (hg : Gl X x) (hm : X.mg x = some (.ref fa)) (hk : PySem.W.keepIn X.K (.ref fa) = true) (hb : Binds X.K fd ps [])
    (ha : PA X (e :: es) (lowA X.K (WxE E) tr)) (hdb : (x == ("__debug__" : Str)) = false := by decide) (he : starEach (e :: es) X.env = (false, eval e X.env) :: starEach es X.env := by rfl) (hpl : (backTo pos (starEach es X.env)).any (·.1) = false := by rfl) :
    PE X (.Call (.Name x p) (e :: es) [] pos) (lowE X.K (WxE E) (fn3 sp tr)) :=
  (pe_callS (E := WE (WxE E)) F hr hg hm hk hb hp ha hdb he hpl).imp3 fun _ _ _ => low_fn
end
end T3

namespace Lk
open PySem L2 T3
def top (i : Nat) : Stmt := PySem.Challenge.pw_lotbook_k14_split_and_joined_again.main.body.getD i (.Pass ⟨0, 0, 0, 0⟩)
abbrev s_many_of : Stmt := top 8
abbrev s_widened : Stmt := top 9
abbrev s_narrowed : Stmt := top 10
abbrev s_Holder_init : Stmt := inClass (top 12) 0
abbrev s_Holder_many : Stmt := inClass (top 12) 1
abbrev s_Holder_days_behind : Stmt := inClass (top 12) 2
abbrev s_parts : Stmt := top 14
abbrev s_need_least : Stmt := top 16
abbrev s_Book_init : Stmt := inClass (top 17) 0
abbrev s_Book_need_day : Stmt := inClass (top 17) 1
abbrev s_Book_pass_to : Stmt := inClass (top 17) 2
abbrev s_Book_given : Stmt := inClass (top 17) 3
abbrev s_Book_issue : Stmt := inClass (top 17) 4
abbrev s_Book_split_by : Stmt := inClass (top 17) 8
abbrev s_Book_join_by : Stmt := inClass (top 17) 9
abbrev s_Book_pay : Stmt := inClass (top 17) 10
abbrev s_Book_names : Stmt := inClass (top 17) 11
abbrev s_Book_shares_of : Stmt := inClass (top 17) 13
abbrev s_Book_lots_of : Stmt := inClass (top 17) 14
abbrev s_Book_gain_of : Stmt := inClass (top 17) 15
abbrev s_Book_got_of : Stmt := inClass (top 17) 16
abbrev s_Book_days_of : Stmt := inClass (top 17) 17
abbrev s_law_whole : Stmt := top 19
abbrev s_law_cell_at : Stmt := top 20
abbrev s_law_drawn : Stmt := top 21
abbrev s_law_mixed : Stmt := top 22
abbrev s_law_name : Stmt := top 23
abbrev s_law_names : Stmt := top 24
abbrev s_law_tuples : Stmt := top 25
abbrev s_law_holder : Stmt := top 26
abbrev s_law_all : Stmt := top 27
abbrev s_law_issued : Stmt := top 28
abbrev s_law : Stmt := top 29
/-- where things stand -/
structure Ad where
  f_many_of : Addr
  d_many_of : FuncData
  f_widened : Addr
  d_widened : FuncData
  f_narrowed : Addr
  d_narrowed : FuncData
  f_Holder_init : Addr
  d_Holder_init : FuncData
  f_Holder_many : Addr
  d_Holder_many : FuncData
  f_Holder_days_behind : Addr
  d_Holder_days_behind : FuncData
  f_parts : Addr
  d_parts : FuncData
  f_need_least : Addr
  d_need_least : FuncData
  f_Book_init : Addr
  d_Book_init : FuncData
  f_Book_need_day : Addr
  d_Book_need_day : FuncData
  f_Book_pass_to : Addr
  d_Book_pass_to : FuncData
  f_Book_given : Addr
  d_Book_given : FuncData
  f_Book_issue : Addr
  d_Book_issue : FuncData
  f_Book_split_by : Addr
  d_Book_split_by : FuncData
  f_Book_join_by : Addr
  d_Book_join_by : FuncData
  f_Book_pay : Addr
  d_Book_pay : FuncData
  f_Book_names : Addr
  d_Book_names : FuncData
  f_Book_shares_of : Addr
  d_Book_shares_of : FuncData
  f_Book_lots_of : Addr
  d_Book_lots_of : FuncData
  f_Book_gain_of : Addr
  d_Book_gain_of : FuncData
  f_Book_got_of : Addr
  d_Book_got_of : FuncData
  f_Book_days_of : Addr
  d_Book_days_of : FuncData
  f_law_whole : Addr
  d_law_whole : FuncData
  f_law_cell_at : Addr
  d_law_cell_at : FuncData
  f_law_drawn : Addr
  d_law_drawn : FuncData
  f_law_mixed : Addr
  d_law_mixed : FuncData
  f_law_name : Addr
  d_law_name : FuncData
  f_law_names : Addr
  d_law_names : FuncData
  f_law_tuples : Addr
  d_law_tuples : FuncData
  f_law_holder : Addr
  d_law_holder : FuncData
  f_law_all : Addr
  d_law_all : FuncData
  f_law_issued : Addr
  d_law_issued : FuncData
  f_law : Addr
  d_law : FuncData
  c_Holder : Addr
  c_Book : Addr
  c_ShareError : Addr
  c_BadDay : Addr
  c_BadNumber : Addr
  c_Uneven : Addr
  c_NoDays : Addr
/-- what the top has written -/
structure Txt (K : PySem.W.Frag) (mg : Str → Option Value) (a : Ad) : Prop where
  F_many_of : Fun K "many_of" "many_of" s_many_of a.f_many_of a.d_many_of
  b_many_of : Binds K a.d_many_of ["lots"] []
  g_many_of : mg "many_of" = some (.ref a.f_many_of)
  F_widened : Fun K "widened" "widened" s_widened a.f_widened a.d_widened
  b_widened : Binds K a.d_widened ["lots", "number"] []
  g_widened : mg "widened" = some (.ref a.f_widened)
  F_narrowed : Fun K "narrowed" "narrowed" s_narrowed a.f_narrowed a.d_narrowed
  b_narrowed : Binds K a.d_narrowed ["lots", "number"] []
  g_narrowed : mg "narrowed" = some (.ref a.f_narrowed)
  F_Holder_init : Fun K "__init__" "Holder.__init__" s_Holder_init a.f_Holder_init a.d_Holder_init
  b_Holder_init : Binds K a.d_Holder_init ["self"] []
  F_Holder_many : Fun K "many" "Holder.many" s_Holder_many a.f_Holder_many a.d_Holder_many
  b_Holder_many : Binds K a.d_Holder_many ["self"] []
  m_Holder_many : Meth K a.c_Holder "many" a.f_Holder_many
  F_Holder_days_behind : Fun K "days_behind" "Holder.days_behind" s_Holder_days_behind a.f_Holder_days_behind a.d_Holder_days_behind
  b_Holder_days_behind : Binds K a.d_Holder_days_behind ["self", "passed"] []
  m_Holder_days_behind : Meth K a.c_Holder "days_behind" a.f_Holder_days_behind
  F_parts : Fun K "parts" "parts" s_parts a.f_parts a.d_parts
  b_parts : Binds K a.d_parts ["coins", "weights"] []
  g_parts : mg "parts" = some (.ref a.f_parts)
  F_need_least : Fun K "need_least" "need_least" s_need_least a.f_need_least a.d_need_least
  b_need_least : Binds K a.d_need_least ["number", "least"] []
  g_need_least : mg "need_least" = some (.ref a.f_need_least)
  F_Book_init : Fun K "__init__" "Book.__init__" s_Book_init a.f_Book_init a.d_Book_init
  b_Book_init : Binds K a.d_Book_init ["self"] []
  F_Book_need_day : Fun K "need_day" "Book.need_day" s_Book_need_day a.f_Book_need_day a.d_Book_need_day
  b_Book_need_day : Binds K a.d_Book_need_day ["self", "day"] []
  m_Book_need_day : Meth K a.c_Book "need_day" a.f_Book_need_day
  F_Book_pass_to : Fun K "pass_to" "Book.pass_to" s_Book_pass_to a.f_Book_pass_to a.d_Book_pass_to
  b_Book_pass_to : Binds K a.d_Book_pass_to ["self", "day"] []
  m_Book_pass_to : Meth K a.c_Book "pass_to" a.f_Book_pass_to
  F_Book_given : Fun K "given" "Book.given" s_Book_given a.f_Book_given a.d_Book_given
  b_Book_given : Binds K a.d_Book_given ["self", "day", "who", "count", "cost"] []
  m_Book_given : Meth K a.c_Book "given" a.f_Book_given
  F_Book_issue : Fun K "issue" "Book.issue" s_Book_issue a.f_Book_issue a.d_Book_issue
  b_Book_issue : Binds K a.d_Book_issue ["self", "day", "who", "count", "paid"] []
  m_Book_issue : Meth K a.c_Book "issue" a.f_Book_issue
  F_Book_split_by : Fun K "split_by" "Book.split_by" s_Book_split_by a.f_Book_split_by a.d_Book_split_by
  b_Book_split_by : Binds K a.d_Book_split_by ["self", "day", "number"] []
  m_Book_split_by : Meth K a.c_Book "split_by" a.f_Book_split_by
  F_Book_join_by : Fun K "join_by" "Book.join_by" s_Book_join_by a.f_Book_join_by a.d_Book_join_by
  b_Book_join_by : Binds K a.d_Book_join_by ["self", "day", "number"] []
  m_Book_join_by : Meth K a.c_Book "join_by" a.f_Book_join_by
  F_Book_pay : Fun K "pay" "Book.pay" s_Book_pay a.f_Book_pay a.d_Book_pay
  b_Book_pay : Binds K a.d_Book_pay ["self", "day", "coins"] []
  m_Book_pay : Meth K a.c_Book "pay" a.f_Book_pay
  F_Book_names : Fun K "names" "Book.names" s_Book_names a.f_Book_names a.d_Book_names
  b_Book_names : Binds K a.d_Book_names ["self"] []
  m_Book_names : Meth K a.c_Book "names" a.f_Book_names
  F_Book_shares_of : Fun K "shares_of" "Book.shares_of" s_Book_shares_of a.f_Book_shares_of a.d_Book_shares_of
  b_Book_shares_of : Binds K a.d_Book_shares_of ["self", "who"] []
  m_Book_shares_of : Meth K a.c_Book "shares_of" a.f_Book_shares_of
  F_Book_lots_of : Fun K "lots_of" "Book.lots_of" s_Book_lots_of a.f_Book_lots_of a.d_Book_lots_of
  b_Book_lots_of : Binds K a.d_Book_lots_of ["self", "who"] []
  m_Book_lots_of : Meth K a.c_Book "lots_of" a.f_Book_lots_of
  F_Book_gain_of : Fun K "gain_of" "Book.gain_of" s_Book_gain_of a.f_Book_gain_of a.d_Book_gain_of
  b_Book_gain_of : Binds K a.d_Book_gain_of ["self", "who"] []
  m_Book_gain_of : Meth K a.c_Book "gain_of" a.f_Book_gain_of
  F_Book_got_of : Fun K "got_of" "Book.got_of" s_Book_got_of a.f_Book_got_of a.d_Book_got_of
  b_Book_got_of : Binds K a.d_Book_got_of ["self", "who"] []
  m_Book_got_of : Meth K a.c_Book "got_of" a.f_Book_got_of
  F_Book_days_of : Fun K "days_of" "Book.days_of" s_Book_days_of a.f_Book_days_of a.d_Book_days_of
  b_Book_days_of : Binds K a.d_Book_days_of ["self", "who"] []
  m_Book_days_of : Meth K a.c_Book "days_of" a.f_Book_days_of
  F_law_whole : Fun K "_law_whole" "_law_whole" s_law_whole a.f_law_whole a.d_law_whole
  b_law_whole : Binds K a.d_law_whole ["_law_found"] []
  g_law_whole : mg "_law_whole" = some (.ref a.f_law_whole)
  F_law_cell_at : Fun K "_law_cell_at" "_law_cell_at" s_law_cell_at a.f_law_cell_at a.d_law_cell_at
  b_law_cell_at : Binds K a.d_law_cell_at ["_law_script", "_law_k"] []
  g_law_cell_at : mg "_law_cell_at" = some (.ref a.f_law_cell_at)
  F_law_drawn : Fun K "_law_drawn" "_law_drawn" s_law_drawn a.f_law_drawn a.d_law_drawn
  b_law_drawn : Binds K a.d_law_drawn ["_law_cell", "_law_sizes"] []
  g_law_drawn : mg "_law_drawn" = some (.ref a.f_law_drawn)
  F_law_mixed : Fun K "_law_mixed" "_law_mixed" s_law_mixed a.f_law_mixed a.d_law_mixed
  b_law_mixed : Binds K a.d_law_mixed ["_law_cell", "_law_place"] []
  g_law_mixed : mg "_law_mixed" = some (.ref a.f_law_mixed)
  F_law_name : Fun K "_law_name" "_law_name" s_law_name a.f_law_name a.d_law_name
  b_law_name : Binds K a.d_law_name ["_law_cell"] []
  g_law_name : mg "_law_name" = some (.ref a.f_law_name)
  F_law_names : Fun K "_law_names" "_law_names" s_law_names a.f_law_names a.d_law_names
  b_law_names : Binds K a.d_law_names ["_law_script"] []
  g_law_names : mg "_law_names" = some (.ref a.f_law_names)
  F_law_tuples : Fun K "_law_tuples" "_law_tuples" s_law_tuples a.f_law_tuples a.d_law_tuples
  b_law_tuples : Binds K a.d_law_tuples ["_law_found", "_law_due"] []
  g_law_tuples : mg "_law_tuples" = some (.ref a.f_law_tuples)
  F_law_holder : Fun K "_law_holder" "_law_holder" s_law_holder a.f_law_holder a.d_law_holder
  b_law_holder : Binds K a.d_law_holder ["_law_book", "_law_who", "_law_lots", "_law_days", "_law_got"] []
  g_law_holder : mg "_law_holder" = some (.ref a.f_law_holder)
  F_law_all : Fun K "_law_all" "_law_all" s_law_all a.f_law_all a.d_law_all
  b_law_all : Binds K a.d_law_all ["_law_book", "_law_lots", "_law_days", "_law_got", "_law_number", "_law_over"] []
  g_law_all : mg "_law_all" = some (.ref a.f_law_all)
  F_law_issued : Fun K "_law_issued" "_law_issued" s_law_issued a.f_law_issued a.d_law_issued
  b_law_issued : Binds K a.d_law_issued ["_law_book", "_law_names_here", "_law_script", "_law_many"] []
  g_law_issued : mg "_law_issued" = some (.ref a.f_law_issued)
  F_law : Fun K "law" "law" s_law a.f_law a.d_law
  b_law : Binds K a.d_law ["_law_script"] []
  g_law : mg "law" = some (.ref a.f_law)
  g_Holder : mg "Holder" = some (.ref a.c_Holder)
  K_Holder : Cls K a.c_Holder
  M_Holder : Mk K a.c_Holder a.f_Holder_init
  N_Holder_lots : NoAttr K a.c_Holder "lots"
  N_Holder_days : NoAttr K a.c_Holder "days"
  N_Holder_gain : NoAttr K a.c_Holder "gain"
  N_Holder_got : NoAttr K a.c_Holder "got"
  g_Book : mg "Book" = some (.ref a.c_Book)
  K_Book : Cls K a.c_Book
  M_Book : Mk K a.c_Book a.f_Book_init
  N_Book_day : NoAttr K a.c_Book "day"
  N_Book_people : NoAttr K a.c_Book "people"
  g_ShareError : mg "ShareError" = some (.ref a.c_ShareError)
  x_ShareError : PySem.W.excIn K a.c_ShareError [.type "ValueError", .type "Exception", .type "BaseException", .type "object"] "ValueError.__new__" = true
  k_ShareError : PySem.W.keepIn K (.ref a.c_ShareError) = true
  e_ShareError : PySem.W.subIn K (.ref a.c_ShareError) (.type "BaseException") = some true
  t_ShareError : PySem.W.typeIn K (.ref a.c_ShareError) = some (.type "type")
  g_BadDay : mg "BadDay" = some (.ref a.c_BadDay)
  x_BadDay : PySem.W.excIn K a.c_BadDay [.type "ValueError", .type "Exception", .type "BaseException", .type "object"] "ValueError.__new__" = true
  k_BadDay : PySem.W.keepIn K (.ref a.c_BadDay) = true
  e_BadDay : PySem.W.subIn K (.ref a.c_BadDay) (.type "BaseException") = some true
  t_BadDay : PySem.W.typeIn K (.ref a.c_BadDay) = some (.type "type")
  g_BadNumber : mg "BadNumber" = some (.ref a.c_BadNumber)
  x_BadNumber : PySem.W.excIn K a.c_BadNumber [.type "ValueError", .type "Exception", .type "BaseException", .type "object"] "ValueError.__new__" = true
  k_BadNumber : PySem.W.keepIn K (.ref a.c_BadNumber) = true
  e_BadNumber : PySem.W.subIn K (.ref a.c_BadNumber) (.type "BaseException") = some true
  t_BadNumber : PySem.W.typeIn K (.ref a.c_BadNumber) = some (.type "type")
  g_Uneven : mg "Uneven" = some (.ref a.c_Uneven)
  x_Uneven : PySem.W.excIn K a.c_Uneven [.type "ValueError", .type "Exception", .type "BaseException", .type "object"] "ValueError.__new__" = true
  k_Uneven : PySem.W.keepIn K (.ref a.c_Uneven) = true
  e_Uneven : PySem.W.subIn K (.ref a.c_Uneven) (.type "BaseException") = some true
  t_Uneven : PySem.W.typeIn K (.ref a.c_Uneven) = some (.type "type")
  g_NoDays : mg "NoDays" = some (.ref a.c_NoDays)
  x_NoDays : PySem.W.excIn K a.c_NoDays [.type "ValueError", .type "Exception", .type "BaseException", .type "object"] "ValueError.__new__" = true
  k_NoDays : PySem.W.keepIn K (.ref a.c_NoDays) = true
  e_NoDays : PySem.W.subIn K (.ref a.c_NoDays) (.type "BaseException") = some true
  t_NoDays : PySem.W.typeIn K (.ref a.c_NoDays) = some (.type "type")
  s_ShareError_ShareError : PySem.W.exmOne K (.ref a.c_ShareError) (.ref a.c_ShareError) = some true
  s_ShareError_BadDay : PySem.W.exmOne K (.ref a.c_ShareError) (.ref a.c_BadDay) = some false
  s_ShareError_BadNumber : PySem.W.exmOne K (.ref a.c_ShareError) (.ref a.c_BadNumber) = some false
  s_ShareError_Uneven : PySem.W.exmOne K (.ref a.c_ShareError) (.ref a.c_Uneven) = some false
  s_ShareError_NoDays : PySem.W.exmOne K (.ref a.c_ShareError) (.ref a.c_NoDays) = some false
  s_BadDay_ShareError : PySem.W.exmOne K (.ref a.c_BadDay) (.ref a.c_ShareError) = some true
  s_BadDay_BadDay : PySem.W.exmOne K (.ref a.c_BadDay) (.ref a.c_BadDay) = some true
  s_BadDay_BadNumber : PySem.W.exmOne K (.ref a.c_BadDay) (.ref a.c_BadNumber) = some false
  s_BadDay_Uneven : PySem.W.exmOne K (.ref a.c_BadDay) (.ref a.c_Uneven) = some false
  s_BadDay_NoDays : PySem.W.exmOne K (.ref a.c_BadDay) (.ref a.c_NoDays) = some false
  s_BadNumber_ShareError : PySem.W.exmOne K (.ref a.c_BadNumber) (.ref a.c_ShareError) = some true
  s_BadNumber_BadDay : PySem.W.exmOne K (.ref a.c_BadNumber) (.ref a.c_BadDay) = some false
  s_BadNumber_BadNumber : PySem.W.exmOne K (.ref a.c_BadNumber) (.ref a.c_BadNumber) = some true
  s_BadNumber_Uneven : PySem.W.exmOne K (.ref a.c_BadNumber) (.ref a.c_Uneven) = some false
  s_BadNumber_NoDays : PySem.W.exmOne K (.ref a.c_BadNumber) (.ref a.c_NoDays) = some false
  s_Uneven_ShareError : PySem.W.exmOne K (.ref a.c_Uneven) (.ref a.c_ShareError) = some true
  s_Uneven_BadDay : PySem.W.exmOne K (.ref a.c_Uneven) (.ref a.c_BadDay) = some false
  s_Uneven_BadNumber : PySem.W.exmOne K (.ref a.c_Uneven) (.ref a.c_BadNumber) = some false
  s_Uneven_Uneven : PySem.W.exmOne K (.ref a.c_Uneven) (.ref a.c_Uneven) = some true
  s_Uneven_NoDays : PySem.W.exmOne K (.ref a.c_Uneven) (.ref a.c_NoDays) = some false
  s_NoDays_ShareError : PySem.W.exmOne K (.ref a.c_NoDays) (.ref a.c_ShareError) = some true
  s_NoDays_BadDay : PySem.W.exmOne K (.ref a.c_NoDays) (.ref a.c_BadDay) = some false
  s_NoDays_BadNumber : PySem.W.exmOne K (.ref a.c_NoDays) (.ref a.c_BadNumber) = some false
  s_NoDays_Uneven : PySem.W.exmOne K (.ref a.c_NoDays) (.ref a.c_Uneven) = some false
  s_NoDays_NoDays : PySem.W.exmOne K (.ref a.c_NoDays) (.ref a.c_NoDays) = some true
  z_all : mg "all" = none
  z_any : mg "any" = none
  z_bool : mg "bool" = none
  z_int : mg "int" = none
  z_isinstance : mg "isinstance" = none
  z_len : mg "len" = none
  z_list : mg "list" = none
  z_max : mg "max" = none
  z_range : mg "range" = none
  z_sum : mg "sum" = none
  z_tuple : mg "tuple" = none
  z_zip : mg "zip" = none
/-! ### many_of -/
def sp_many_of : Sp3 := fun ds G Q _ => ∃ (ls : List Lot) (d : D), ds = [d] ∧ Ls G d (ls.map lotD) ∧ ls.length ≤ 1000 ∧ Q (.int ((ls.map Lot.count).sum)) G
theorem sc_many_of : FnScope ["lots", "lot"] ["lots"] (defScope s_many_of) := ⟨rfl, rfl, rfl, by decide +kernel, rfl, by decide +kernel, by decide +kernel⟩
section
variable {P : Program} {w : World} {K : PySem.W.Frag} {mg : Str → Option Value} {base : Heap} {a : Ad}
theorem ok_many_of (T : Txt K mg a) : OkFnN P w K mg base 1 a.f_many_of a.d_many_of ["lots"] sp_many_of := by
  refine T.F_many_of.ok3N sc_many_of (fun ds G Q E h => ?_) (fun cdv A outer s H E hr => ?_)
  · obtain ⟨ls, d, rfl, _⟩ := h
    rfl
  have hu := hr.units
  have hu1 := hu_of hr
  have tk : L2N.Takes (cxOf (L2N.CX P w) P w K mg base ["lots", "lot"] "many_of" (defScope s_many_of) a.f_many_of cdv A outer s H E) (fun cls d _ H' => E cls d H') := L2N.takes_of rfl rfl rfl rfl
  refine ⟨_, (b_one (s_ret (e_callB (cr_sum rfl) cl_sum rfl T.z_sum (by decide +kernel) (a_cons (e_lc (pe_lc (own := [("lot", 1)]) (g := gName 1) rfl sc_many_of.nd (i_list (e_var (pv 0))) (blkOk_by (own := [("lot", 1)]) (N := ["lots", "lot"]) (sc := defScope s_many_of) (by decide +kernel)) (fun _ _ _ _ _ => (pg_name (i := 1) sc_many_of.nd rfl (Or.inl rfl))) (fun _ _ _ _ _ => ts_nil) (fun _ _ _ _ _ => (e_ix (e_var (pv 1)) e_int))) (tl_name (by decide))) a_nil)))), ?_⟩
  intro ds G Q E h
  obtain ⟨ls, d, rfl, hd, hl, k⟩ := h
  have hcons : ∀ p acc, Lw ((p, .lst acc) :: G) d (ls.map lotD) := fun p es => by
    cases d with
    | lst ds => exact hd
    | ref a => exact .tail _ hd
    | _ => exact hd.elim
  refine ⟨_, Ls.lw hd, fun k => (ls[k]?).map fun l => .int l.count, fun p acc => hcons p acc, fun k d p acc hk => ?_, size_le (by simp; omega), ?_⟩
  · obtain ⟨l, h1, rfl⟩ := get_map hk
    exact ⟨rfl, _, rfl, rfl, om h1⟩
  rw [List.length_map, fm_map]
  refine ⟨ls.map Lot.count, by simp [Ls, List.map_map], ?_⟩
  exact UpV.of k
theorem okH_many_of (T : Txt K mg a) : OkFnH P w K mg base 1 a.f_many_of a.d_many_of ["lots"] sp_many_of := by
  refine T.F_many_of.ok3H sc_many_of (fun ds G Q E h => ?_) (fun cdv A outer s H E p hot hr => ?_)
  · obtain ⟨ls, d, rfl, _⟩ := h
    rfl
  have hu := hr.units
  have hu1 := L2H.hu_ofH hr
  have tk : Takes (L2H.cxH (L2.CX P w) P w K mg base ["lots", "lot"] "many_of" (defScope s_many_of) a.f_many_of cdv A outer s H E p) (fun cls d _ H' => E cls d H') := takes_of rfl rfl rfl rfl
  have hc : L2H.HotC (L2H.cxH (L2.CX P w) P w K mg base ["lots", "lot"] "many_of" (defScope s_many_of) a.f_many_of cdv A outer s H E p) := ⟨p, hot, List.mem_singleton.mpr rfl⟩
  refine ⟨_, (b_one (s_ret (e_callB (L2H.cr_sumH hc) cl_sum rfl T.z_sum (by decide +kernel) (a_cons (e_lc (L2H.pe_lcH (own := [("lot", 1)]) (g := gName 1) hc sc_many_of.nd (i_listH (e_var (pv 0))) (blkOk_by (own := [("lot", 1)]) (N := ["lots", "lot"]) (sc := defScope s_many_of) (by decide +kernel)) (fun _ _ _ _ _ => (pg_name (i := 1) sc_many_of.nd rfl (Or.inl rfl))) (fun _ _ _ _ _ => ts_nil) (fun _ _ _ _ _ => (e_ix (e_var (pv 1)) e_int))) (tl_name (by decide))) a_nil)))), ?_⟩
  intro ds G Q E h
  obtain ⟨ls, d, rfl, hd, hl, k⟩ := h
  have hcons : ∀ p acc, Lw ((p, .lst acc) :: G) d (ls.map lotD) := fun p es => by
    cases d with
    | lst ds => exact hd
    | ref a => exact .tail _ hd
    | _ => exact hd.elim
  refine ⟨_, Ls.lw hd, fun k => (ls[k]?).map fun l => .int l.count, fun p acc => hcons p acc, fun k d p acc hk => ?_, size_le (by simp; omega), ?_⟩
  · obtain ⟨l, h1, rfl⟩ := get_map hk
    exact ⟨rfl, _, rfl, rfl, om h1⟩
  rw [List.length_map, fm_map]
  refine ⟨ls.map Lot.count, by simp [Ls, List.map_map], ?_⟩
  exact UpV.of k
end
/-! ### widened -/
def sp_widened : Sp3 := fun ds G Q _ => ∃ (ls : List Lot) (m : Int) (d : D), ds = [d, .int m] ∧ Ls G d (ls.map lotD) ∧ (ls.length ≤ 1000 ∧ ∀ l ∈ ls, CMulX l.count m) ∧ ∀ p, Q (.ref p) ((p, .lst ((ls.map (wide m)).map lotD)) :: G)
theorem sc_widened : FnScope ["lots", "number", "lot"] ["lots", "number"] (defScope s_widened) := ⟨rfl, rfl, rfl, by decide +kernel, rfl, by decide +kernel, by decide +kernel⟩
section
variable {P : Program} {w : World} {K : PySem.W.Frag} {mg : Str → Option Value} {base : Heap} {a : Ad}
theorem ok_widened (T : Txt K mg a) : OkFnN P w K mg base 1 a.f_widened a.d_widened ["lots", "number"] sp_widened := by
  refine T.F_widened.ok3N sc_widened (fun ds G Q E h => ?_) (fun cdv A outer s H E hr => ?_)
  · obtain ⟨ls, m, d, rfl, _⟩ := h
    rfl
  have hu := hr.units
  have hu1 := hu_of hr
  have tk : L2N.Takes (cxOf (L2N.CX P w) P w K mg base ["lots", "number", "lot"] "widened" (defScope s_widened) a.f_widened cdv A outer s H E) (fun cls d _ H' => E cls d H') := L2N.takes_of rfl rfl rfl rfl
  refine ⟨_, (b_one (s_ret (e_lcO (pe_lc (own := [("lot", 2)]) (g := gName 2) rfl sc_widened.nd (i_list (e_var (pv 0))) (blkOk_by (own := [("lot", 2)]) (N := ["lots", "number", "lot"]) (sc := defScope s_widened) (by decide +kernel)) (fun _ _ _ _ _ => (pg_name (i := 2) sc_widened.nd rfl (Or.inl rfl))) (fun _ _ _ _ _ => ts_nil) (fun _ _ _ _ _ => (e_tup (a_cons (e_ix (e_var (pv 2)) e_int) (a_cons (e_mul (e_ix (e_var (pv 2)) e_int) (e_var (pv 1))) (a_cons (e_ix (e_var (pv 2)) e_int) a_nil)))))) (tl_name (by decide))))), ?_⟩
  intro ds G Q E h
  obtain ⟨ls, m, d, rfl, hd, ⟨hl, hm⟩, k⟩ := h
  have hcons : ∀ p acc, Lw ((p, .lst acc) :: G) d (ls.map lotD) := fun p es => by
    cases d with
    | lst ds => exact hd
    | ref a => exact .tail _ hd
    | _ => exact hd.elim
  refine ⟨_, Ls.lw hd, fun k => (ls[k]?).map fun l => lotD (wide m l), fun p acc => hcons p acc, fun k d p acc hk => ?_, size_le (by simp; omega), ?_⟩
  · obtain ⟨l, h1, rfl⟩ := get_map hk
    exact ⟨rfl, _, rfl, _, rfl, hm l (get_mem h1), _, rfl, by show 3 ≤ sizeLine; decide, rfl, om h1⟩
  rw [List.length_map, fm_map]
  rw [List.map_map] at k
  exact fun p => UpV.of (k p)
end
/-! ### narrowed -/
def sp_narrowed (a : Ad) : Sp3 := fun ds G Q E => ∃ (ls : List Lot) (m : Int) (d : D), ds = [d, .int m] ∧ Ls G d (ls.map lotD) ∧ (ls.length ≤ 1000 ∧ 0 < m ∧ m < 2 ^ 8000) ∧ ((∃ l ∈ ls, l.count % m ≠ 0) → E a.c_Uneven G) ∧ ((∀ l ∈ ls, l.count % m = 0) → ∀ p, Q (.ref p) ((p, .lst ((ls.map (slim m)).map lotD)) :: G))
theorem sc_narrowed : FnScope ["lots", "number", "lot"] ["lots", "number"] (defScope s_narrowed) := ⟨rfl, rfl, rfl, by decide +kernel, rfl, by decide +kernel, by decide +kernel⟩
section
variable {P : Program} {w : World} {K : PySem.W.Frag} {mg : Str → Option Value} {base : Heap} {a : Ad}
theorem ok_narrowed (T : Txt K mg a) : OkFnN P w K mg base 1 a.f_narrowed a.d_narrowed ["lots", "number"] (sp_narrowed a) := by
  refine T.F_narrowed.ok3N sc_narrowed (fun ds G Q E h => ?_) (fun cdv A outer s H E hr => ?_)
  · obtain ⟨ls, m, d, rfl, _⟩ := h
    rfl
  have hu := hr.units
  have hu1 := hu_of hr
  have tk : L2N.Takes (cxOf (L2N.CX P w) P w K mg base ["lots", "number", "lot"] "narrowed" (defScope s_narrowed) a.f_narrowed cdv A outer s H E) (fun cls d _ H' => E cls d H') := L2N.takes_of rfl rfl rfl rfl
  refine ⟨_, (b_cons (s_if (t_val (e_callB (cr_any rfl) cl_any rfl T.z_any (by decide +kernel) (a_cons (e_lc (pe_lc (own := [("lot", 2)]) (g := gName 2) rfl sc_narrowed.nd (i_list (e_var (pv 0))) (blkOk_by (own := [("lot", 2)]) (N := ["lots", "number", "lot"]) (sc := defScope s_narrowed) (by decide +kernel)) (fun _ _ _ _ _ => (pg_name (i := 2) sc_narrowed.nd rfl (Or.inl rfl))) (fun _ _ _ _ _ => ts_nil) (fun _ _ _ _ _ => (e_ne hu (e_mod (e_ix (e_var (pv 2)) e_int) (e_var (pv 1))) e_int))) (tl_name (by decide))) a_nil))) (b_one (s_raiseN rfl tk (L2N.pmk_own PySem.F.excBase_ValueError T.x_Uneven T.g_Uneven T.k_Uneven (raises_own T.e_Uneven T.t_Uneven) rfl))) b_nil)
    (b_one (s_ret (e_lcO (pe_lc (own := [("lot", 2)]) (g := gName 2) rfl sc_narrowed.nd (i_list (e_var (pv 0))) (blkOk_by (own := [("lot", 2)]) (N := ["lots", "number", "lot"]) (sc := defScope s_narrowed) (by decide +kernel)) (fun _ _ _ _ _ => (pg_name (i := 2) sc_narrowed.nd rfl (Or.inl rfl))) (fun _ _ _ _ _ => ts_nil) (fun _ _ _ _ _ => (e_tup (a_cons (e_ix (e_var (pv 2)) e_int) (a_cons (e_fdiv (e_ix (e_var (pv 2)) e_int) (e_var (pv 1))) (a_cons (e_ix (e_var (pv 2)) e_int) a_nil)))))) (tl_name (by decide)))))), ?_⟩
  intro ds G Q E h
  obtain ⟨ls, m, d, rfl, hd, ⟨hl, hm0, hm⟩, kE, kQ⟩ := h
  have hcons : ∀ p acc, Lw ((p, .lst acc) :: G) d (ls.map lotD) := fun p es => by
    cases d with
    | lst ds => exact hd
    | ref a => exact .tail _ hd
    | _ => exact hd.elim
  refine ⟨_, Ls.lw hd, fun k => (ls[k]?).map fun l => .bl (!decide (l.count % m = 0)), fun p acc => hcons p acc, fun k d p acc hk => ?_, size_le (by simp; omega), ?_⟩
  · obtain ⟨l, h1, rfl⟩ := get_map hk
    exact ⟨rfl, _, rfl, hm0, rfl, om h1⟩
  rw [List.length_map, fm_map]
  refine ⟨ls.map fun l => !decide (l.count % m = 0), by simp [Ls, List.map_map], ?_⟩
  refine ite2 (fun h0 => ?_) (fun h0 => ?_)
  · obtain ⟨l, h1, h2⟩ := any_map_true h0
    exact kE ⟨l, h1, by simpa using h2⟩
  have hall : ∀ l ∈ ls, l.count % m = 0 := fun l h1 => by
    have := any_map_false (eq_false_of_ne_true h0) l h1
    simpa using this
  refine ⟨_, Ls.lw hd, fun k => (ls[k]?).map fun l => lotD (slim m l), fun p acc => hcons p acc, fun k d p acc hk => ?_, size_le (by simp; omega), ?_⟩
  · obtain ⟨l, h1, rfl⟩ := get_map hk
    exact ⟨rfl, _, rfl, _, rfl, div_lt hm0 hm, _, rfl, by show 3 ≤ sizeLine; decide, rfl, om h1⟩
  rw [List.length_map, fm_map]
  have k := kQ hall
  rw [List.map_map] at k
  exact fun p => UpV.of (k p)
end
/-! ### Holder.__init__ -/
def sp_Holder_init (a : Ad) : Sp3 := fun ds G Q _ => ∃ x G0, ds = [.ref x] ∧ G = (x, .ins a.c_Holder []) :: G0 ∧ ∀ p, Q .non ((p, .lst []) :: (x, .ins a.c_Holder [("lots", .ref p), ("days", .int 0), ("gain", .int 0), ("got", .int 0)]) :: G0)
theorem sc_Holder_init : FnScope ["self"] ["self"] (defScope s_Holder_init) := ⟨rfl, rfl, rfl, by decide +kernel, rfl, by decide +kernel, by decide +kernel⟩
section
variable {P : Program} {w : World} {K : PySem.W.Frag} {mg : Str → Option Value} {base : Heap} {a : Ad}
theorem ok_Holder_init (T : Txt K mg a) : OkFnN P w K mg base 1 a.f_Holder_init a.d_Holder_init ["self"] (sp_Holder_init a) := by
  refine T.F_Holder_init.ok3N sc_Holder_init (fun ds G Q E h => ?_) (fun cdv A outer s H E hr => ?_)
  · obtain ⟨x, G0, rfl, _⟩ := h
    rfl
  have hu := hr.units
  have hu1 := hu_of hr
  have tk : L2N.Takes (cxOf (L2N.CX P w) P w K mg base ["self"] "Holder.__init__" (defScope s_Holder_init) a.f_Holder_init cdv A outer s H E) (fun cls d _ H' => E cls d H') := L2N.takes_of rfl rfl rfl rfl
  refine ⟨_, (b_cons (s_fld (e_var (pv 0)) (e_lstO a_nil))
    (b_cons (s_fld (e_var (pv 0)) e_int)
    (b_cons (s_fld (e_var (pv 0)) e_int)
    (b_one (s_fld (e_var (pv 0)) e_int))))), ?_⟩
  intro ds G Q E h
  obtain ⟨x, G0, rfl, rfl, k⟩ := h
  refine ⟨Nat.zero_le _, fun p => ?_⟩
  refine ⟨_, _, _, .tail .head, ⟨T.K_Holder, T.N_Holder_lots⟩, (by decide : 0 < 1000), ?_⟩
  refine ⟨_, _, _, .tail .head, ⟨T.K_Holder, T.N_Holder_days⟩, (by decide : 1 < 1000), ?_⟩
  refine ⟨_, _, _, .tail .head, ⟨T.K_Holder, T.N_Holder_gain⟩, (by decide : 2 < 1000), ?_⟩
  refine ⟨_, _, _, .tail .head, ⟨T.K_Holder, T.N_Holder_got⟩, (by decide : 3 < 1000), ?_⟩
  exact UpV.of (k p)
end
/-! ### Holder.many -/
def sp_Holder_many (a : Ad) : Sp3 := fun ds G Q _ => ∃ x : Hol, ds = [.ref x.h] ∧ ((x.h, .ins a.c_Holder (holF x)) ∈ G ∧ (x.l, .lst (x.lots.map lotD)) ∈ G) ∧ x.lots.length ≤ 1000 ∧ Q (.int x.many) G
theorem sc_Holder_many : FnScope ["self"] ["self"] (defScope s_Holder_many) := ⟨rfl, rfl, rfl, by decide +kernel, rfl, by decide +kernel, by decide +kernel⟩
section
variable {P : Program} {w : World} {K : PySem.W.Frag} {mg : Str → Option Value} {base : Heap} {a : Ad}
theorem ok_Holder_many (T : Txt K mg a) : OkFnN P w K mg base 2 a.f_Holder_many a.d_Holder_many ["self"] (sp_Holder_many a) := by
  have G_many_of : OkFnN P w K mg base 1 a.f_many_of a.d_many_of ["lots"] sp_many_of := ok_many_of T
  refine T.F_Holder_many.ok3N sc_Holder_many (fun ds G Q E h => ?_) (fun cdv A outer s H E hr => ?_)
  · obtain ⟨x, rfl, _⟩ := h
    rfl
  have hu := hr.units
  have hu1 := hu_of hr
  have tk : L2N.Takes (cxOf (L2N.CX P w) P w K mg base ["self"] "Holder.many" (defScope s_Holder_many) a.f_Holder_many cdv A outer s H E) (fun cls d _ H' => E cls d H') := L2N.takes_of rfl rfl rfl rfl
  refine ⟨_, (b_one (s_ret (e_fnN G_many_of (hr.mono (by decide)) rfl T.g_many_of T.F_many_of.kp T.b_many_of tk (a_cons (e_fld (e_var (pv 0))) a_nil)))), ?_⟩
  intro ds G Q E h
  obtain ⟨x, rfl, ⟨h1, h2⟩, hl, k⟩ := h
  refine ⟨_, _, _, h1, ⟨T.K_Holder, T.N_Holder_lots⟩, rfl, ?_⟩
  exact ⟨x.lots, _, rfl, h2, hl, UpV.of k⟩
theorem okH_Holder_many (T : Txt K mg a) : OkFnH P w K mg base 2 a.f_Holder_many a.d_Holder_many ["self"] (sp_Holder_many a) := by
  have H_many_of : OkFnH P w K mg base 1 a.f_many_of a.d_many_of ["lots"] sp_many_of := okH_many_of T
  refine T.F_Holder_many.ok3H sc_Holder_many (fun ds G Q E h => ?_) (fun cdv A outer s H E p hot hr => ?_)
  · obtain ⟨x, rfl, _⟩ := h
    rfl
  have hu := hr.units
  have hu1 := L2H.hu_ofH hr
  have tk : Takes (L2H.cxH (L2.CX P w) P w K mg base ["self"] "Holder.many" (defScope s_Holder_many) a.f_Holder_many cdv A outer s H E p) (fun cls d _ H' => E cls d H') := takes_of rfl rfl rfl rfl
  have hc : L2H.HotC (L2H.cxH (L2.CX P w) P w K mg base ["self"] "Holder.many" (defScope s_Holder_many) a.f_Holder_many cdv A outer s H E p) := ⟨p, hot, List.mem_singleton.mpr rfl⟩
  refine ⟨_, (b_one (s_ret (e_fnH H_many_of (hr.mono (by decide)) hc rfl T.g_many_of T.F_many_of.kp T.b_many_of tk (a_cons (e_fld (e_var (pv 0))) a_nil)))), ?_⟩
  intro ds G Q E h
  obtain ⟨x, rfl, ⟨h1, h2⟩, hl, k⟩ := h
  refine ⟨_, _, _, h1, ⟨T.K_Holder, T.N_Holder_lots⟩, rfl, ?_⟩
  exact ⟨x.lots, _, rfl, h2, hl, UpV.of k⟩
end
/-! ### Holder.days_behind -/
def sp_Holder_days_behind (a : Ad) : Sp3 := fun ds G Q _ => ∃ (x : Hol) (p : Int), ds = [.ref x.h, .int p] ∧ ((x.h, .ins a.c_Holder (holF x)) ∈ G ∧ (x.l, .lst (x.lots.map lotD)) ∈ G) ∧ (x.lots.length ≤ 1000 ∧ CMulX x.many p) ∧ Q (.int (x.behind p)) G
theorem sc_Holder_days_behind : FnScope ["self", "passed"] ["self", "passed"] (defScope s_Holder_days_behind) := ⟨rfl, rfl, rfl, by decide +kernel, rfl, by decide +kernel, by decide +kernel⟩
section
variable {P : Program} {w : World} {K : PySem.W.Frag} {mg : Str → Option Value} {base : Heap} {a : Ad}
theorem ok_Holder_days_behind (T : Txt K mg a) : OkFnN P w K mg base 3 a.f_Holder_days_behind a.d_Holder_days_behind ["self", "passed"] (sp_Holder_days_behind a) := by
  have G_Holder_many : OkFnN P w K mg base 2 a.f_Holder_many a.d_Holder_many ["self"] (sp_Holder_many a) := ok_Holder_many T
  refine T.F_Holder_days_behind.ok3N sc_Holder_days_behind (fun ds G Q E h => ?_) (fun cdv A outer s H E hr => ?_)
  · obtain ⟨x, p, rfl, _⟩ := h
    rfl
  have hu := hr.units
  have hu1 := hu_of hr
  have tk : L2N.Takes (cxOf (L2N.CX P w) P w K mg base ["self", "passed"] "Holder.days_behind" (defScope s_Holder_days_behind) a.f_Holder_days_behind cdv A outer s H E) (fun cls d _ H' => E cls d H') := L2N.takes_of rfl rfl rfl rfl
  refine ⟨_, (b_one (s_ret (e_add (e_fld (e_var (pv 0))) (e_mul (e_meth0N (e_var (pv 0)) T.K_Holder T.m_Holder_many G_Holder_many (hr.mono (by decide)) T.b_Holder_many tk) (e_var (pv 1)))))), ?_⟩
  intro ds G Q E h
  obtain ⟨x, p, rfl, ⟨h1, h2⟩, ⟨hl, hm⟩, k⟩ := h
  refine ⟨_, _, _, h1, ⟨T.K_Holder, T.N_Holder_days⟩, rfl, ?_⟩
  refine ⟨_, h1, rfl, x, rfl, ⟨h1, h2⟩, hl, ?_⟩
  exact ⟨hm, UpV.of k⟩
end
/-! ### parts -/
def sp_parts (a : Ad) : Sp3 := fun ds G Q E => ∃ (coins : Int) (ws : List Int) (d : D), ds = [.int coins, d] ∧ Ls G d (ws.map .int) ∧ PartsOk coins ws ∧ (ws.sum = 0 → E a.c_NoDays G) ∧ (ws.sum ≠ 0 → Q (.lst ((partsL coins ws.sum 0 ws).map .int)) G)
theorem sc_parts : FnScope ["coins", "weights", "whole", "found", "ahead", "given", "weight", "due"] ["coins", "weights"] (defScope s_parts) := ⟨rfl, rfl, rfl, by decide +kernel, rfl, by decide +kernel, by decide +kernel⟩
section
variable {P : Program} {w : World} {K : PySem.W.Frag} {mg : Str → Option Value} {base : Heap} {a : Ad}
theorem ok_parts (T : Txt K mg a) : OkFnN P w K mg base 1 a.f_parts a.d_parts ["coins", "weights"] (sp_parts a) := by
  refine T.F_parts.ok3N sc_parts (fun ds G Q E h => ?_) (fun cdv A outer s H E hr => ?_)
  · obtain ⟨coins, ws, d, rfl, _⟩ := h
    rfl
  have hu := hr.units
  have hu1 := hu_of hr
  have tk : L2N.Takes (cxOf (L2N.CX P w) P w K mg base ["coins", "weights", "whole", "found", "ahead", "given", "weight", "due"] "parts" (defScope s_parts) a.f_parts cdv A outer s H E) (fun cls d _ H' => E cls d H') := L2N.takes_of rfl rfl rfl rfl
  refine ⟨_, (b_cons (s_asg (ps_set (i := 2) sc_parts.nd rfl (.inl rfl) (e_callB (cr_sum rfl) cl_sum rfl T.z_sum (by decide +kernel) (a_cons (e_var (pv 1)) a_nil))))
    (b_cons (s_if (t_eq hu (e_var (pv 2)) e_int) (b_one (s_raiseN rfl tk (L2N.pmk_own PySem.F.excBase_ValueError T.x_NoDays T.g_NoDays T.k_NoDays (raises_own T.e_NoDays T.t_NoDays) rfl))) b_nil)
    (b_cons (s_asg (ps_set (i := 3) sc_parts.nd rfl (.inl rfl) (e_lstO a_nil)))
    (b_cons (s_asg (ps_set (i := 4) sc_parts.nd rfl (.inl rfl) e_int))
    (b_cons (s_asg (ps_set (i := 5) sc_parts.nd rfl (.inl rfl) e_int))
    (b_cons (s_wk (s_for (passes_of rfl) rfl (i_list (e_var (pv 1))) (g_name (pg_name (i := 6) sc_parts.nd rfl (.inl rfl))) (b_cons (s_asg (ps_set (i := 4) sc_parts.nd rfl (.inl rfl) (e_add (e_var (pv 4)) (e_var (pv 6)))))
    (b_cons (s_asg (ps_set (i := 7) sc_parts.nd rfl (.inl rfl) (e_fdiv (e_mul (e_var (pv 0)) (e_var (pv 4))) (e_var (pv 2)))))
    (b_cons (s_expr (e_append (pe_bm PySem.F.plainAttrs_list PySem.F.slot_list_append PySem.F.type_list_append mt_append (e_var (pv 3)) (pa_cons (e_sub (e_var (pv 7)) (e_var (pv 5))) pa_nil))))
    (b_one (s_asg (ps_set (i := 5) sc_parts.nd rfl (.inl rfl) (e_var (pv 7))))))))))
    (b_one (s_ret (e_var (pv 3)))))))))), ?_⟩
  intro ds G Q E h
  obtain ⟨coins, ws, d, rfl, hd, ⟨hp, hs, hc, hl⟩, k0, k1⟩ := h
  have hs0 := sum_nonneg hp
  refine ⟨ws, hd, ?_⟩
  refine ite2 (fun h0 => ?_) (fun h0 => ?_)
  · exact k0 (by simpa using h0)
  have h0' : ws.sum ≠ 0 := by simpa using h0
  have hsp : 0 < ws.sum := by omega
  refine ⟨Nat.zero_le _, fun p => ?_⟩
  have hcons : ∀ es, Lw ((p, .lst es) :: G) d (ws.map .int) := fun es => by
    cases d with
    | lst ds => exact hd
    | ref a => exact .tail _ hd
    | _ => exact hd.elim
  refine ⟨_, hcons _, ?_⟩
  refine ⟨fun i σ G' => ∃ x y, σ = [some (.int coins), some d, some (.int ws.sum), some (.ref p), some (.int (ws.take i).sum), some (.int (coins * (ws.take i).sum / ws.sum)), x, y] ∧ G' = (p, .lst ((partsL coins ws.sum 0 (ws.take i)).map .int)) :: G, Up.of ⟨none, none, by simp [start3], rfl⟩, fun i σ G' _ h => ?_, ?_, ?_⟩
  · obtain ⟨x, y, _, rfl⟩ := h
    exact hcons _
  · rintro i d σ' G' hd ⟨x, y, rfl, rfl⟩
    obtain ⟨v, h1, rfl⟩ := get_map hd
    have hi := get_lt h1
    have ht := sum_take_le (i + 1) hp
    have ht0 : 0 ≤ (ws.take (i + 1)).sum := sum_nonneg fun w hw => hp w (List.mem_of_mem_take hw)
    have e : (ws.take (i + 1)).sum = (ws.take i).sum + v := by rw [take_snoc h1]; simp
    rw [e] at ht ht0
    have hb : bl ((ws.take i).sum + v) ≤ 7999 := Nat.le_trans (bl_mono ht0 ht) (bl_le hs0 hs)
    refine ⟨mul_ok hc hb, div_lt hsp hs, ⟨_, .head _⟩, _, _, .head, size_lt ?_, ?_⟩
    · simp only [List.length_map, partsL_length, List.length_take]; omega
    refine Up.of ⟨some (.int v), some (.int (coins * ((ws.take i).sum + v) / ws.sum)), ?_, ?_⟩
    · rw [e]; rfl
    · rw [take_snoc h1, partsL_snoc, List.map_append]; simp
  · rintro σ' G' ⟨x, y, rfl, rfl⟩
    rw [List.length_map, List.take_length]
    exact Up.of (UpV.list (k1 h0'))
end
/-! ### need_least -/
def sp_need_least (a : Ad) : Sp3 := fun ds G Q E => ∃ n l : Int, ds = [.int n, .int l] ∧ (n < l → E a.c_BadNumber G) ∧ (l ≤ n → Q .non G)
theorem sc_need_least : FnScope ["number", "least"] ["number", "least"] (defScope s_need_least) := ⟨rfl, rfl, rfl, by decide +kernel, rfl, by decide +kernel, by decide +kernel⟩
section
variable {P : Program} {w : World} {K : PySem.W.Frag} {mg : Str → Option Value} {base : Heap} {a : Ad}
theorem ok_need_least (T : Txt K mg a) : OkFnN P w K mg base 1 a.f_need_least a.d_need_least ["number", "least"] (sp_need_least a) := by
  refine T.F_need_least.ok3N sc_need_least (fun ds G Q E h => ?_) (fun cdv A outer s H E hr => ?_)
  · obtain ⟨n, l, rfl, _⟩ := h
    rfl
  have hu := hr.units
  have hu1 := hu_of hr
  have tk : L2N.Takes (cxOf (L2N.CX P w) P w K mg base ["number", "least"] "need_least" (defScope s_need_least) a.f_need_least cdv A outer s H E) (fun cls d _ H' => E cls d H') := L2N.takes_of rfl rfl rfl rfl
  refine ⟨_, (b_one (s_if (t_lt (e_var (pv 0)) (e_var (pv 1))) (b_one (s_raiseN rfl tk (L2N.pmk_own PySem.F.excBase_ValueError T.x_BadNumber T.g_BadNumber T.k_BadNumber (raises_own T.e_BadNumber T.t_BadNumber) rfl))) b_nil)), ?_⟩
  intro ds G Q E h
  obtain ⟨n, l, rfl, kE, kQ⟩ := h
  refine ite2 (fun h0 => ?_) (fun h0 => ?_)
  · exact kE (of_decide_eq_true h0)
  · exact UpV.of (kQ (Int.not_lt.mp fun e => h0 (decide_eq_true e)))
end
/-! ### Book.__init__ -/
def sp_Book_init (a : Ad) : Sp3 := fun ds G Q _ => ∃ x G0, ds = [.ref x] ∧ G = (x, .ins a.c_Book []) :: G0 ∧ ∀ p, Q .non ((p, .dict []) :: (x, .ins a.c_Book [("day", .int 0), ("people", .ref p)]) :: G0)
theorem sc_Book_init : FnScope ["self"] ["self"] (defScope s_Book_init) := ⟨rfl, rfl, rfl, by decide +kernel, rfl, by decide +kernel, by decide +kernel⟩
section
variable {P : Program} {w : World} {K : PySem.W.Frag} {mg : Str → Option Value} {base : Heap} {a : Ad}
theorem ok_Book_init (T : Txt K mg a) : OkFnN P w K mg base 1 a.f_Book_init a.d_Book_init ["self"] (sp_Book_init a) := by
  refine T.F_Book_init.ok3N sc_Book_init (fun ds G Q E h => ?_) (fun cdv A outer s H E hr => ?_)
  · obtain ⟨x, G0, rfl, _⟩ := h
    rfl
  have hu := hr.units
  have hu1 := hu_of hr
  have tk : L2N.Takes (cxOf (L2N.CX P w) P w K mg base ["self"] "Book.__init__" (defScope s_Book_init) a.f_Book_init cdv A outer s H E) (fun cls d _ H' => E cls d H') := L2N.takes_of rfl rfl rfl rfl
  refine ⟨_, (b_cons (s_fld (e_var (pv 0)) e_int)
    (b_one (s_fld (e_var (pv 0)) e_dnew))), ?_⟩
  intro ds G Q E h
  obtain ⟨x, G0, rfl, rfl, k⟩ := h
  refine ⟨_, _, _, .head, ⟨T.K_Book, T.N_Book_day⟩, (by decide : 0 < 1000), ?_⟩
  refine fun p => ?_
  refine ⟨_, _, _, .tail .head, ⟨T.K_Book, T.N_Book_people⟩, (by decide : 1 < 1000), ?_⟩
  exact UpV.of (k p)
end
/-! ### Book.need_day -/
def sp_Book_need_day (a : Ad) : Sp3 := fun ds G Q E => ∃ (b : Addr) (day d : Int) (pd : D), ds = [.ref b, .int d] ∧ (b, .ins a.c_Book [("day", .int day), ("people", pd)]) ∈ G ∧ (d < day → E a.c_BadDay G) ∧ (day ≤ d → Q .non G)
theorem sc_Book_need_day : FnScope ["self", "day"] ["self", "day"] (defScope s_Book_need_day) := ⟨rfl, rfl, rfl, by decide +kernel, rfl, by decide +kernel, by decide +kernel⟩
section
variable {P : Program} {w : World} {K : PySem.W.Frag} {mg : Str → Option Value} {base : Heap} {a : Ad}
theorem ok_Book_need_day (T : Txt K mg a) : OkFnN P w K mg base 1 a.f_Book_need_day a.d_Book_need_day ["self", "day"] (sp_Book_need_day a) := by
  refine T.F_Book_need_day.ok3N sc_Book_need_day (fun ds G Q E h => ?_) (fun cdv A outer s H E hr => ?_)
  · obtain ⟨b, day, d, pd, rfl, _⟩ := h
    rfl
  have hu := hr.units
  have hu1 := hu_of hr
  have tk : L2N.Takes (cxOf (L2N.CX P w) P w K mg base ["self", "day"] "Book.need_day" (defScope s_Book_need_day) a.f_Book_need_day cdv A outer s H E) (fun cls d _ H' => E cls d H') := L2N.takes_of rfl rfl rfl rfl
  refine ⟨_, (b_one (s_if (t_lt (e_var (pv 1)) (e_fld (e_var (pv 0)))) (b_one (s_raiseN rfl tk (L2N.pmk_own PySem.F.excBase_ValueError T.x_BadDay T.g_BadDay T.k_BadDay (raises_own T.e_BadDay T.t_BadDay) rfl))) b_nil)), ?_⟩
  intro ds G Q E h
  obtain ⟨b, day, d, pd, rfl, hb, kE, kQ⟩ := h
  refine ⟨_, _, _, hb, ⟨T.K_Book, T.N_Book_day⟩, rfl, ?_⟩
  refine ite2 (fun h0 => ?_) (fun h0 => ?_)
  · exact kE (of_decide_eq_true h0)
  · exact UpV.of (kQ (Int.not_lt.mp fun e => h0 (decide_eq_true e)))
end
/-! ### Book.pass_to -/
def sp_Book_pass_to (a : Ad) : Sp3 := fun ds G Q _ => ∃ (B : Bk) (d : Int) (G0 : G3), ds = [.ref B.b, .int d] ∧ G = bkG a.c_Book a.c_Holder B ++ G0 ∧ (∀ x ∈ B.ppl, x.lots.length ≤ 1000 ∧ CMulX x.many (d - B.day)) ∧ Q .non (bkG a.c_Book a.c_Holder { B with day := d, ppl := passH (d - B.day) B.ppl } ++ G0)
theorem sc_Book_pass_to : FnScope ["self", "day", "one"] ["self", "day"] (defScope s_Book_pass_to) := ⟨rfl, rfl, rfl, by decide +kernel, rfl, by decide +kernel, by decide +kernel⟩
section
variable {P : Program} {w : World} {K : PySem.W.Frag} {mg : Str → Option Value} {base : Heap} {a : Ad}
theorem ok_Book_pass_to (T : Txt K mg a) : OkFnN P w K mg base 4 a.f_Book_pass_to a.d_Book_pass_to ["self", "day"] (sp_Book_pass_to a) := by
  have G_Holder_days_behind : OkFnN P w K mg base 3 a.f_Holder_days_behind a.d_Holder_days_behind ["self", "passed"] (sp_Holder_days_behind a) := ok_Holder_days_behind T
  refine T.F_Book_pass_to.ok3N sc_Book_pass_to (fun ds G Q E h => ?_) (fun cdv A outer s H E hr => ?_)
  · obtain ⟨B, d, G0, rfl, _⟩ := h
    rfl
  have hu := hr.units
  have hu1 := hu_of hr
  have tk : L2N.Takes (cxOf (L2N.CX P w) P w K mg base ["self", "day", "one"] "Book.pass_to" (defScope s_Book_pass_to) a.f_Book_pass_to cdv A outer s H E) (fun cls d _ H' => E cls d H') := L2N.takes_of rfl rfl rfl rfl
  refine ⟨_, (b_cons (s_wk (s_lock (s_for (passes_of rfl) rfl (i_vals (e_fld (e_var (pv 0)))) (g_name (pg_name (i := 2) sc_Book_pass_to.nd rfl (.inl rfl))) (b_one (s_fld (e_var (pv 2)) (e_methN (e_var (pv 2)) T.K_Holder T.m_Holder_days_behind G_Holder_days_behind (hr.mono (by decide)) T.b_Holder_days_behind tk (a_cons (e_sub (e_var (pv 1)) (e_fld (e_var (pv 0)))) a_nil)))))))
    (b_one (s_fld (e_var (pv 0)) (e_var (pv 1))))), ?_⟩
  intro ds G Q E h
  obtain ⟨B, d, G0, rfl, rfl, hm, k⟩ := h
  have hv : (pplK B.ppl).map (·.2) = B.ppl.map (fun x => D.ref x.h) := by simp [pplK, Function.comp_def]
  refine ⟨B.pd, pplK B.ppl, [(B.b, .ins a.c_Book [("day", .int B.day), ("people", .ref B.pd)])], pplG a.c_Holder B.ppl ++ G0, rfl, detK_ppl _, fun od => ?_⟩
  refine ⟨_, _, _, .head _, ⟨T.K_Book, T.N_Book_people⟩, rfl, ?_⟩
  refine ⟨od, pplK B.ppl, .tail _ (.head _), detK_ppl _, ?_⟩
  refine ⟨fun i σ G' => ∃ x, σ = [some (.ref B.b), some (.int d), x] ∧ G' = (B.b, .ins a.c_Book [("day", .int B.day), ("people", .ref B.pd)]) :: (B.pd, .lck od (pplK B.ppl)) :: (pplG a.c_Holder (passH (d - B.day) (B.ppl.take i) ++ B.ppl.drop i) ++ G0), Up.of ⟨none, rfl, by simp [passH]⟩, fun i σ G' _ h => ?_, ?_, ?_⟩
  · obtain ⟨_, _, rfl⟩ := h
    exact .tail _ (.head _)
  · rintro i d' σ' G' hd ⟨y, rfl, rfl⟩
    rw [hv] at hd
    obtain ⟨x, h1, rfl⟩ := get_map hd
    have hi := get_lt h1
    have hdrop : B.ppl.drop i = x :: B.ppl.drop (i + 1) := by rw [List.drop_eq_getElem_cons hi]; congr 1; rw [List.getElem?_eq_getElem hi] at h1; injection h1
    rw [hdrop]
    generalize hA : passH (d - B.day) (B.ppl.take i) = A
    obtain ⟨m1, m2⟩ := hm x (get_mem h1)
    have mh : (x.h, DO.ins a.c_Holder (holF x)) ∈ (B.b, DO.ins a.c_Book [("day", .int B.day), ("people", .ref B.pd)]) :: (B.pd, .lck od (pplK B.ppl)) :: (pplG a.c_Holder (A ++ x :: B.ppl.drop (i + 1)) ++ G0) := .tail _ (.tail _ (List.mem_append_left _ (pplG_h (by simp))))
    have ml : (x.l, DO.lst (x.lots.map lotD)) ∈ (B.b, DO.ins a.c_Book [("day", .int B.day), ("people", .ref B.pd)]) :: (B.pd, .lck od (pplK B.ppl)) :: (pplG a.c_Holder (A ++ x :: B.ppl.drop (i + 1)) ++ G0) := .tail _ (.tail _ (List.mem_append_left _ (pplG_l (by simp))))
    refine ⟨_, mh, rfl, _, _, _, .head _, ⟨T.K_Book, T.N_Book_day⟩, rfl, ?_⟩
    refine ⟨x, d - B.day, rfl, ⟨mh, ml⟩, ⟨m1, m2⟩, ?_⟩
    refine ⟨_, _, _, .tail (.tail (.left put_h)), ⟨T.K_Holder, T.N_Holder_days⟩, (by decide : 4 < 1000), ?_⟩
    refine Up.of ⟨some (.ref x.h), rfl, ?_⟩
    have e : passH (d - B.day) (B.ppl.take (i + 1)) ++ B.ppl.drop (i + 1) = A ++ { x with days := x.behind (d - B.day) } :: B.ppl.drop (i + 1) := by
      rw [take_snoc h1, passH, List.map_append, ← passH, hA]; simp
    rw [e, pplG_append, pplG_cons]
    rfl
  · rintro σ' G' ⟨x, rfl, rfl⟩
    refine ⟨_, .tail .head, ?_⟩
    rw [hv, List.length_map, List.take_length, List.drop_length, List.append_nil]
    refine Up.of ?_
    refine ⟨_, _, _, .head, ⟨T.K_Book, T.N_Book_day⟩, (by decide : 2 < 1000), ?_⟩
    refine UpV.of ?_
    have e : bkG a.c_Book a.c_Holder { B with day := d, ppl := passH (d - B.day) B.ppl } ++ G0 = (B.b, .ins a.c_Book [("day", .int d), ("people", .ref B.pd)]) :: (B.pd, .dict (pplK B.ppl)) :: (pplG a.c_Holder (passH (d - B.day) B.ppl) ++ G0) := by
      simp [bkG, passH_K]
    rw [e] at k
    exact k
end
/-! ### Book.given -/
def sp_Book_given (a : Ad) : Sp3 := fun ds G Q _ => ∃ (B : Bk) (day : Int) (who : Str) (count cost : Int) (G0 : G3), ds = [.ref B.b, .int day, .str who, .int count, .int cost] ∧ G = bkG a.c_Book a.c_Holder B ++ G0 ∧ (B.ppl.length ≤ 1000 ∧ ∀ x ∈ B.ppl, x.lots.length ≤ 1000) ∧ ∀ h l, Q .non (bkG a.c_Book a.c_Holder { B with ppl := addLot B.ppl who ⟨day, count, cost⟩ h l } ++ G0)
theorem sc_Book_given : FnScope ["self", "day", "who", "count", "cost"] ["self", "day", "who", "count", "cost"] (defScope s_Book_given) := ⟨rfl, rfl, rfl, by decide +kernel, rfl, by decide +kernel, by decide +kernel⟩
section
variable {P : Program} {w : World} {K : PySem.W.Frag} {mg : Str → Option Value} {base : Heap} {a : Ad}
theorem ok_Book_given (T : Txt K mg a) : OkFnN P w K mg base 3 a.f_Book_given a.d_Book_given ["self", "day", "who", "count", "cost"] (sp_Book_given a) := by
  have G_Holder_init : OkFnN P w K mg base 1 a.f_Holder_init a.d_Holder_init ["self"] (sp_Holder_init a) := ok_Holder_init T
  refine T.F_Book_given.ok3N sc_Book_given (fun ds G Q E h => ?_) (fun cdv A outer s H E hr => ?_)
  · obtain ⟨B, day, who, count, cost, G0, rfl, _⟩ := h
    rfl
  have hu := hr.units
  have hu1 := hu_of hr
  have tk : L2N.Takes (cxOf (L2N.CX P w) P w K mg base ["self", "day", "who", "count", "cost"] "Book.given" (defScope s_Book_given) a.f_Book_given cdv A outer s H E) (fun cls d _ H' => E cls d H') := L2N.takes_of rfl rfl rfl rfl
  refine ⟨_, (b_cut (s_if (t_ninD hu1 (e_var (pv 2)) (e_fld (e_var (pv 0)))) (b_one (s_dput hu1 (e_fld (e_var (pv 0))) (e_var (pv 2)) (e_make0N T.M_Holder G_Holder_init (hr.mono (by decide)) rfl T.g_Holder T.b_Holder_init))) b_nil)
    (b_one (s_expr (e_append (pe_bm PySem.F.plainAttrs_list PySem.F.slot_list_append PySem.F.type_list_append mt_append (e_fld (e_dget hu1 (e_fld (e_var (pv 0))) (e_var (pv 2)))) (pa_cons (e_tup (a_cons (e_var (pv 1)) (a_cons (e_var (pv 3)) (a_cons (e_var (pv 4)) a_nil)))) pa_nil)))))), ?_⟩
  intro ds G Q E h
  obtain ⟨B, day, who, count, cost, G0, rfl, rfl, ⟨hl1, hl2⟩, k⟩ := h
  refine ⟨fun σ' G' => ∃ A x R, σ' = [some (.ref B.b), some (.int day), some (.str who), some (.int count), some (.int cost)] ∧ G' = bkG a.c_Book a.c_Holder { B with ppl := A ++ x :: R } ++ G0 ∧ x.name = who ∧ who ∉ names A ∧ x.lots.length ≤ 1000 ∧ ∃ h l, A ++ { x with lots := x.lots ++ [⟨day, count, cost⟩] } :: R = addLot B.ppl who ⟨day, count, cost⟩ h l, ?_, ?_⟩
  · refine ⟨_, _, _, .head _, ⟨T.K_Book, T.N_Book_people⟩, rfl, ?_⟩
    refine ⟨_, _, .tail _ (.head _), rfl, ?_⟩
    rcases find_hol who B.ppl with hn | ⟨A, x, R, e1, e2, e3⟩
    · rw [valD_none hn]
      refine ite2 (fun _ => ?_) (fun h0 => absurd rfl h0)
      refine fun h => ⟨h, _, rfl, rfl, fun l => ⟨rfl, ?_⟩⟩
      refine ⟨_, _, _, .tail _ (.tail _ (.head _)), ⟨T.K_Book, T.N_Book_people⟩, rfl, ?_⟩
      refine ⟨_, _, _, .tail (.tail (.tail .head)), rfl, size_lt (by simp [pplK]; omega), ?_⟩
      rw [putD_new hn]
      refine Up.perm (G' := bkG a.c_Book a.c_Holder { B with ppl := B.ppl ++ [⟨h, l, who, [], 0, 0, 0⟩] } ++ G0) ?_ (Up.of ⟨B.ppl, _, [], rfl, rfl, rfl, hn, Nat.zero_le _, h, l, ?_⟩)
      · have e : bkG a.c_Book a.c_Holder { B with ppl := B.ppl ++ [⟨h, l, who, [], 0, 0, 0⟩] } ++ G0 = (B.b, .ins a.c_Book [("day", .int B.day), ("people", .ref B.pd)]) :: (B.pd, .dict (pplK B.ppl ++ [(.inr who, .ref h)])) :: ((pplG a.c_Holder B.ppl ++ [(h, .ins a.c_Holder [("lots", .ref l), ("days", .int 0), ("gain", .int 0), ("got", .int 0)]), (l, .lst [])]) ++ G0) := by
          simp [bkG, pplK, pplG, holG, holF]
        rw [e]
        exact perm_new
      · rw [addLot, if_neg hn]; rfl
    · rw [e1, ← e2, valD_at (e2 ▸ e3)]
      refine ite2 (fun h0 => nomatch h0) (fun _ => ?_)
      refine Up.of ⟨A, x, R, rfl, ?_, rfl, e2 ▸ e3, hl2 x (by rw [e1]; simp), 0, 0, ?_⟩
      · rw [← e1]
      · rw [addLot, if_pos (by simp [names]), updH_at (e2 ▸ e3) rfl]
  rintro σ' G' ⟨A, x, R, rfl, rfl, rfl, hA, hxl, h, l, e⟩
  have mh : (x.h, DO.ins a.c_Holder (holF x)) ∈ bkG a.c_Book a.c_Holder { B with ppl := A ++ x :: R } ++ G0 := .tail _ (.tail _ (List.mem_append_left _ (pplG_h (by simp))))
  have ml : (x.l, DO.lst (x.lots.map lotD)) ∈ bkG a.c_Book a.c_Holder { B with ppl := A ++ x :: R } ++ G0 := .tail _ (.tail _ (List.mem_append_left _ (pplG_l (by simp))))
  refine ⟨_, _, _, .head _, ⟨T.K_Book, T.N_Book_people⟩, rfl, ?_⟩
  refine ⟨_, _, _, .tail _ (.head _), rfl, valD_at hA, ?_⟩
  refine ⟨_, _, _, mh, ⟨T.K_Holder, T.N_Holder_lots⟩, rfl, ?_⟩
  refine ⟨⟨_, ml⟩, by show 3 ≤ sizeLine; decide, _, _, .tail (.tail (.left put_l)), size_lt (by simp; omega), ?_⟩
  refine UpV.of ?_
  have k := k h l
  rw [← e] at k
  have e2 : bkG a.c_Book a.c_Holder { B with ppl := A ++ { x with lots := x.lots ++ [⟨day, count, cost⟩] } :: R } ++ G0 = (B.b, .ins a.c_Book [("day", .int B.day), ("people", .ref B.pd)]) :: (B.pd, .dict (pplK (A ++ x :: R))) :: ((pplG a.c_Holder A ++ ((x.h, .ins a.c_Holder (holF x)) :: (x.l, .lst (x.lots.map lotD ++ [lotD ⟨day, count, cost⟩])) :: pplG a.c_Holder R)) ++ G0) := by
    simp [bkG, pplK, pplG_append, pplG_cons, holG, holF]
  rw [e2] at k
  exact k
end
/-! ### Book.issue -/
def sp_Book_issue (a : Ad) : Sp3 := fun ds G Q E => ∃ (B : Bk) (day : Int) (who : Str) (count paid : Int) (G0 : G3), ds = [.ref B.b, .int day, .str who, .int count, .int paid] ∧ G = bkG a.c_Book a.c_Holder B ++ G0 ∧
  (day < B.day → E a.c_BadDay G) ∧ (B.day ≤ day → (count < 1 ∨ paid < 0) → E a.c_BadNumber G) ∧
  (B.day ≤ day → 1 ≤ count → 0 ≤ paid → Fit B day ∧ After a.c_Book a.c_Holder B G0 Q .non day (aAdd (aPass (day - B.day) (absH B.ppl)) who ⟨day, count, paid⟩))
theorem sc_Book_issue : FnScope ["self", "day", "who", "count", "paid"] ["self", "day", "who", "count", "paid"] (defScope s_Book_issue) := ⟨rfl, rfl, rfl, by decide +kernel, rfl, by decide +kernel, by decide +kernel⟩
section
variable {P : Program} {w : World} {K : PySem.W.Frag} {mg : Str → Option Value} {base : Heap} {a : Ad}
theorem ok_Book_issue (T : Txt K mg a) : OkFnN P w K mg base 5 a.f_Book_issue a.d_Book_issue ["self", "day", "who", "count", "paid"] (sp_Book_issue a) := by
  have G_need_least : OkFnN P w K mg base 1 a.f_need_least a.d_need_least ["number", "least"] (sp_need_least a) := ok_need_least T
  have G_Book_need_day : OkFnN P w K mg base 1 a.f_Book_need_day a.d_Book_need_day ["self", "day"] (sp_Book_need_day a) := ok_Book_need_day T
  have G_Book_pass_to : OkFnN P w K mg base 4 a.f_Book_pass_to a.d_Book_pass_to ["self", "day"] (pm (sp_Book_pass_to a)) := OkFnN.pm (ok_Book_pass_to T)
  have G_Book_given : OkFnN P w K mg base 3 a.f_Book_given a.d_Book_given ["self", "day", "who", "count", "cost"] (pm (sp_Book_given a)) := OkFnN.pm (ok_Book_given T)
  refine T.F_Book_issue.ok3N sc_Book_issue (fun ds G Q E h => ?_) (fun cdv A outer s H E hr => ?_)
  · obtain ⟨B, day, who, count, paid, G0, rfl, _⟩ := h
    rfl
  have hu := hr.units
  have hu1 := hu_of hr
  have tk : L2N.Takes (cxOf (L2N.CX P w) P w K mg base ["self", "day", "who", "count", "paid"] "Book.issue" (defScope s_Book_issue) a.f_Book_issue cdv A outer s H E) (fun cls d _ H' => E cls d H') := L2N.takes_of rfl rfl rfl rfl
  refine ⟨_, (b_cons (s_expr (e_methN (e_var (pv 0)) T.K_Book T.m_Book_need_day G_Book_need_day (hr.mono (by decide)) T.b_Book_need_day tk (a_cons (e_var (pv 1)) a_nil)))
    (b_cons (s_expr (e_fnN G_need_least (hr.mono (by decide)) rfl T.g_need_least T.F_need_least.kp T.b_need_least tk (a_cons (e_var (pv 3)) (a_cons e_int a_nil))))
    (b_cons (s_expr (e_fnN G_need_least (hr.mono (by decide)) rfl T.g_need_least T.F_need_least.kp T.b_need_least tk (a_cons (e_var (pv 4)) (a_cons e_int a_nil))))
    (b_cons (s_expr (e_methN (e_var (pv 0)) T.K_Book T.m_Book_pass_to G_Book_pass_to (hr.mono (by decide)) T.b_Book_pass_to tk (a_cons (e_var (pv 1)) a_nil)))
    (b_one (s_expr (e_methN (e_var (pv 0)) T.K_Book T.m_Book_given G_Book_given (hr.mono (by decide)) T.b_Book_given tk (a_cons (e_var (pv 1)) (a_cons (e_var (pv 2)) (a_cons (e_var (pv 3)) (a_cons (e_var (pv 4)) a_nil))))))))))), ?_⟩
  intro ds G Q E h
  obtain ⟨B, day, who, count, paid, G0, rfl, rfl, k1, k2, k3⟩ := h
  refine ⟨_, .head _, rfl, B.b, B.day, day, _, rfl, .head _, fun h => k1 h, fun hd => ?_⟩
  refine ⟨count, 1, rfl, fun h => k2 hd (.inl h), fun hc => ?_⟩
  refine ⟨paid, 0, rfl, fun h => k2 hd (.inr h), fun hp => ?_⟩
  obtain ⟨hF, k⟩ := k3 hd hc hp
  have hm := hF.hol
  have hl := hF.len
  refine ⟨_, .head _, rfl, _, .refl _, B, day, G0, rfl, rfl, fun x hx => ⟨by have := (hm x hx).1; omega, (hm x hx).2⟩, ?_⟩
  refine ⟨_, .head _, rfl, _, .refl _, { B with day := day, ppl := passH (day - B.day) B.ppl }, day, who, count, paid, G0, rfl, rfl, ⟨by simp [passH]; omega, fun x hx => ?_⟩, fun h l => UpV.of (k _ [] rfl rfl ?_)⟩
  · obtain ⟨y, hy, rfl⟩ := List.mem_map.mp hx
    have := (hm y hy).1
    exact Nat.le_trans this (by decide)
  · rw [aAdd_abs, aPass_abs]
end
/-! ### Book.split_by -/
def sp_Book_split_by (a : Ad) : Sp3 := fun ds G Q E => ∃ (B : Bk) (day m : Int) (G0 : G3), ds = [.ref B.b, .int day, .int m] ∧ G = bkG a.c_Book a.c_Holder B ++ G0 ∧
  (day < B.day → E a.c_BadDay G) ∧ (B.day ≤ day → m < 2 → E a.c_BadNumber G) ∧
  (B.day ≤ day → 2 ≤ m → (Fit B day ∧ ∀ x ∈ absH B.ppl, (∀ l ∈ x.lots, CMulX l.count m) ∧ CMulX (x.behind (day - B.day)) m) ∧ After a.c_Book a.c_Holder B G0 Q .non day (aSplit m (aPass (day - B.day) (absH B.ppl))))
theorem sc_Book_split_by : FnScope ["self", "day", "number", "one"] ["self", "day", "number"] (defScope s_Book_split_by) := ⟨rfl, rfl, rfl, by decide +kernel, rfl, by decide +kernel, by decide +kernel⟩
section
variable {P : Program} {w : World} {K : PySem.W.Frag} {mg : Str → Option Value} {base : Heap} {a : Ad}
theorem ok_Book_split_by (T : Txt K mg a) : OkFnN P w K mg base 5 a.f_Book_split_by a.d_Book_split_by ["self", "day", "number"] (sp_Book_split_by a) := by
  have G_widened : OkFnN P w K mg base 1 a.f_widened a.d_widened ["lots", "number"] sp_widened := ok_widened T
  have G_need_least : OkFnN P w K mg base 1 a.f_need_least a.d_need_least ["number", "least"] (sp_need_least a) := ok_need_least T
  have G_Book_need_day : OkFnN P w K mg base 1 a.f_Book_need_day a.d_Book_need_day ["self", "day"] (sp_Book_need_day a) := ok_Book_need_day T
  have G_Book_pass_to : OkFnN P w K mg base 4 a.f_Book_pass_to a.d_Book_pass_to ["self", "day"] (pm (sp_Book_pass_to a)) := OkFnN.pm (ok_Book_pass_to T)
  refine T.F_Book_split_by.ok3N sc_Book_split_by (fun ds G Q E h => ?_) (fun cdv A outer s H E hr => ?_)
  · obtain ⟨B, day, m, G0, rfl, _⟩ := h
    rfl
  have hu := hr.units
  have hu1 := hu_of hr
  have tk : L2N.Takes (cxOf (L2N.CX P w) P w K mg base ["self", "day", "number", "one"] "Book.split_by" (defScope s_Book_split_by) a.f_Book_split_by cdv A outer s H E) (fun cls d _ H' => E cls d H') := L2N.takes_of rfl rfl rfl rfl
  refine ⟨_, (b_cons (s_expr (e_methN (e_var (pv 0)) T.K_Book T.m_Book_need_day G_Book_need_day (hr.mono (by decide)) T.b_Book_need_day tk (a_cons (e_var (pv 1)) a_nil)))
    (b_cons (s_expr (e_fnN G_need_least (hr.mono (by decide)) rfl T.g_need_least T.F_need_least.kp T.b_need_least tk (a_cons (e_var (pv 2)) (a_cons e_int a_nil))))
    (b_cons (s_expr (e_methN (e_var (pv 0)) T.K_Book T.m_Book_pass_to G_Book_pass_to (hr.mono (by decide)) T.b_Book_pass_to tk (a_cons (e_var (pv 1)) a_nil)))
    (b_one (s_wk (s_lock (s_for (passes_of rfl) rfl (i_vals (e_fld (e_var (pv 0)))) (g_name (pg_name (i := 3) sc_Book_split_by.nd rfl (.inl rfl))) (b_cons (s_fld (e_var (pv 3)) (e_fnN G_widened (hr.mono (by decide)) rfl T.g_widened T.F_widened.kp T.b_widened tk (a_cons (e_fld (e_var (pv 3))) (a_cons (e_var (pv 2)) a_nil))))
    (b_one (s_fld (e_var (pv 3)) (e_mul (e_fld (e_var (pv 3))) (e_var (pv 2))))))))))))), ?_⟩
  intro ds G Q E h
  obtain ⟨B, day, m, G0, rfl, rfl, k1, k2, k3⟩ := h
  refine ⟨_, .head _, rfl, B.b, B.day, day, _, rfl, .head _, fun h => k1 h, fun hd => ?_⟩
  refine ⟨m, 2, rfl, fun h => k2 hd h, fun hc => ?_⟩
  obtain ⟨⟨hF, hm⟩, k⟩ := k3 hd hc
  refine ⟨_, .head _, rfl, _, .refl _, B, day, G0, rfl, rfl, fun y hy => ⟨by have := (hF.hol y hy).1; omega, (hF.hol y hy).2⟩, ?_⟩
  have hl := hF.len
  obtain ⟨xs, hxs⟩ : ∃ xs, xs = passH (day - B.day) B.ppl := ⟨_, rfl⟩
  have hx1 : ∀ x ∈ xs, x.lots.length ≤ 900 ∧ (∀ l ∈ x.lots, CMulX l.count m) ∧ CMulX x.days m := fun x hx => by
    rw [hxs] at hx
    obtain ⟨y, hy, rfl⟩ := List.mem_map.mp hx
    obtain ⟨h1, h2⟩ := hm y.ab (List.mem_map_of_mem hy)
    exact ⟨(hF.hol y hy).1, h1, h2⟩
  have hk : absH xs = aPass (day - B.day) (absH B.ppl) := by rw [hxs, aPass_abs]
  rw [← hk] at k
  rw [← hxs]
  have hlen : xs.length ≤ 900 := by rw [hxs]; simpa [passH] using hl
  clear hxs hk hm hF
  have hv : (pplK xs).map (·.2) = xs.map (fun x => D.ref x.h) := by simp [pplK, Function.comp_def]
  refine ⟨B.pd, pplK xs, [(B.b, .ins a.c_Book [("day", .int day), ("people", .ref B.pd)])], pplG a.c_Holder xs ++ G0, rfl, detK_ppl _, fun od => ?_⟩
  refine ⟨_, _, _, .head _, ⟨T.K_Book, T.N_Book_people⟩, rfl, ?_⟩
  refine ⟨od, pplK xs, .tail _ (.head _), detK_ppl _, ?_⟩
  refine ⟨fun i σ G' => ∃ y ys J, σ = [some (.ref B.b), some (.int day), some (.int m), y] ∧ G' = (B.b, .ins a.c_Book [("day", .int day), ("people", .ref B.pd)]) :: (B.pd, .lck od (pplK xs)) :: (pplG a.c_Holder (ys ++ xs.drop i) ++ (J ++ G0)) ∧ absH ys = aSplit m (absH (xs.take i)) ∧ pplK (ys ++ xs.drop i) = pplK xs, Up.of ⟨none, [], [], rfl, by simp, by simp [aSplit], by simp⟩, fun i σ G' _ h => ?_, ?_, ?_⟩
  · obtain ⟨_, _, _, _, rfl, _⟩ := h
    exact .tail _ (.head _)
  · rintro i d' σ' G' hd ⟨y, A, J, rfl, rfl, hA, hK⟩
    rw [hv] at hd
    obtain ⟨x, h1, rfl⟩ := get_map hd
    have hi := get_lt h1
    have hdrop : xs.drop i = x :: xs.drop (i + 1) := by rw [List.drop_eq_getElem_cons hi]; congr 1; rw [List.getElem?_eq_getElem hi] at h1; injection h1
    rw [hdrop] at hK ⊢
    obtain ⟨m1, m2, m3⟩ := hx1 x (get_mem h1)
    have mh : (x.h, DO.ins a.c_Holder (holF x)) ∈ (B.b, DO.ins a.c_Book [("day", .int day), ("people", .ref B.pd)]) :: (B.pd, .lck od (pplK xs)) :: (pplG a.c_Holder (A ++ x :: xs.drop (i + 1)) ++ (J ++ G0)) := .tail _ (.tail _ (List.mem_append_left _ (pplG_h (by simp))))
    have ml : (x.l, DO.lst (x.lots.map lotD)) ∈ (B.b, DO.ins a.c_Book [("day", .int day), ("people", .ref B.pd)]) :: (B.pd, .lck od (pplK xs)) :: (pplG a.c_Holder (A ++ x :: xs.drop (i + 1)) ++ (J ++ G0)) := .tail _ (.tail _ (List.mem_append_left _ (pplG_l (by simp))))
    refine ⟨_, _, _, mh, ⟨T.K_Holder, T.N_Holder_lots⟩, rfl, ?_⟩
    refine ⟨x.lots, m, _, rfl, ml, ⟨by omega, m2⟩, fun p => ?_⟩
    refine ⟨_, _, _, .tail (.tail (.tail (.left put_h))), ⟨T.K_Holder, T.N_Holder_lots⟩, (by decide : 4 < 1000), ?_⟩
    refine ⟨_, _, _, .tail _ (.tail _ (.tail _ (List.mem_append_left _ (List.mem_append_right _ (.head _))))), ⟨T.K_Holder, T.N_Holder_days⟩, rfl, m3, ?_⟩
    refine ⟨_, _, _, .tail (.tail (.tail (.left (.right .head)))), ⟨T.K_Holder, T.N_Holder_days⟩, (by decide : 4 < 1000), ?_⟩
    refine Up.perm ?_ (Up.of ⟨some (.ref x.h), A ++ [{ x with l := p, lots := x.lots.map (wide m), days := x.days * m }], (x.l, .lst (x.lots.map lotD)) :: J, rfl, rfl, ?_, ?_⟩)
    · have e : pplG a.c_Holder (A ++ [{ x with l := p, lots := x.lots.map (wide m), days := x.days * m }] ++ xs.drop (i + 1)) ++ ((x.l, .lst (x.lots.map lotD)) :: J ++ G0) = (pplG a.c_Holder A ++ ((x.h, .ins a.c_Holder [("lots", .ref p), ("days", .int (x.days * m)), ("gain", .int x.gain), ("got", .int x.got)]) :: (p, .lst ((x.lots.map (wide m)).map lotD)) :: pplG a.c_Holder (xs.drop (i + 1)))) ++ ((x.l, .lst (x.lots.map lotD)) :: (J ++ G0)) := by
        simp [pplG_append, pplG_cons, holG, holF, pplG]
      rw [e]
      exact perm_take
    · rw [take_snoc h1]
      simp only [absH, List.map_append, aSplit] at hA ⊢
      rw [hA]
      rfl
    · rw [← hK]
      simp [pplK]
  · rintro σ' G' ⟨x, ys, J, rfl, rfl, hA, hK⟩
    refine ⟨_, .tail .head, ?_⟩
    rw [hv, List.length_map, List.take_length] at hA
    rw [hv, List.length_map, List.drop_length, List.append_nil] at hK ⊢
    refine Up.of (UpV.of ?_)
    have k := k ⟨B.b, B.pd, day, ys⟩ J rfl rfl hA
    have e : bkG a.c_Book a.c_Holder ⟨B.b, B.pd, day, ys⟩ ++ (J ++ G0) = (B.b, .ins a.c_Book [("day", .int day), ("people", .ref B.pd)]) :: (B.pd, .dict (pplK xs)) :: (pplG a.c_Holder ys ++ (J ++ G0)) := by
      simp [bkG, hK]
    rw [e] at k
    exact k
end
/-! ### Book.join_by -/
theorem even_days {p m : Int} {xs : List Hol} (h : ∃ x ∈ xs, x.behind p % m ≠ 0) : (aPass p (absH xs)).all (evenH m) = false := by
  obtain ⟨x, hx, h⟩ := h
  rw [List.all_eq_false]
  refine ⟨{ x.ab with days := x.ab.behind p }, List.mem_map.mpr ⟨x.ab, List.mem_map_of_mem hx, rfl⟩, ?_⟩
  unfold evenH
  rw [decide_eq_false (show ¬ (x.ab.behind p % m = 0) from h)]
  simp
theorem even_lots {p m : Int} {xs : List Hol} (h : ∃ x ∈ xs, ∃ l ∈ x.lots, l.count % m ≠ 0) : (aPass p (absH xs)).all (evenH m) = false := by
  obtain ⟨x, hx, l, hl, h⟩ := h
  rw [List.all_eq_false]
  refine ⟨{ x.ab with days := x.ab.behind p }, List.mem_map.mpr ⟨x.ab, List.mem_map_of_mem hx, rfl⟩, ?_⟩
  unfold evenH
  rw [Bool.and_eq_true, List.all_eq_true]
  rintro ⟨_, h2⟩
  exact h (by simpa using h2 l hl)
theorem even_all {p m : Int} {xs : List Hol} (h1 : ∀ x ∈ xs, x.behind p % m = 0) (h2 : ∀ x ∈ xs, ∀ l ∈ x.lots, l.count % m = 0) : (aPass p (absH xs)).all (evenH m) = true := by
  rw [List.all_eq_true]
  intro y hy
  obtain ⟨z, hz, rfl⟩ := List.mem_map.mp hy
  obtain ⟨x, hx, rfl⟩ := List.mem_map.mp hz
  unfold evenH
  rw [Bool.and_eq_true, List.all_eq_true]
  exact ⟨decide_eq_true (h1 x hx), fun l hl => decide_eq_true (h2 x hx l hl)⟩
theorem perm_rows {α : Type} {R P G : List α} {l X Y : α} : (R.reverse ++ l :: X :: Y :: (P ++ G)).Perm (X :: Y :: P ++ (R ++ l :: G)) := by
  classical
  rw [List.perm_iff_count]; intro x
  simp only [List.count_append, List.count_cons, List.count_reverse]; omega
theorem perm_lots {α : Type} {A B N J : List α} {X Y h l n L : α} : (X :: Y :: ((A ++ (h :: l :: B)) ++ (n :: (N ++ L :: J)))).Perm (X :: Y :: ((A ++ (h :: n :: B)) ++ (N ++ (L :: (l :: J))))) := by
  classical
  rw [List.perm_iff_count]; intro x
  simp only [List.count_append, List.count_cons]; omega
theorem Up.dropL {K : PySem.W.Frag} {P : St3 → G3 → Prop} {σ : St3} {G : G3} (h : Up K P σ G) : ∀ l : G3, Up K P σ (l ++ G)
  | [] => h
  | _ :: l => Up.drop (Up.dropL h l)
def sp_Book_join_by (a : Ad) : Sp3 := fun ds G Q E => ∃ (B : Bk) (day m : Int) (G0 : G3), ds = [.ref B.b, .int day, .int m] ∧ G = bkG a.c_Book a.c_Holder B ++ G0 ∧
  (day < B.day → E a.c_BadDay G) ∧ (B.day ≤ day → m < 2 → E a.c_BadNumber G) ∧
  (B.day ≤ day → 2 ≤ m → (Fit B day ∧ m < 2 ^ 8000) ∧ ((aPass (day - B.day) (absH B.ppl)).all (evenH m) = false → E a.c_Uneven G) ∧
    ((aPass (day - B.day) (absH B.ppl)).all (evenH m) = true → After a.c_Book a.c_Holder B G0 Q .non day (aJoin m (aPass (day - B.day) (absH B.ppl)))))
theorem sc_Book_join_by : FnScope ["self", "day", "number", "passed", "one", "rows", "lots"] ["self", "day", "number"] (defScope s_Book_join_by) := ⟨rfl, rfl, rfl, by decide +kernel, rfl, by decide +kernel, by decide +kernel⟩
section
variable {P : Program} {w : World} {K : PySem.W.Frag} {mg : Str → Option Value} {base : Heap} {a : Ad}
theorem ok_Book_join_by (T : Txt K mg a) : OkFnN P w K mg base 5 a.f_Book_join_by a.d_Book_join_by ["self", "day", "number"] (sp_Book_join_by a) := by
  have G_narrowed : OkFnN P w K mg base 1 a.f_narrowed a.d_narrowed ["lots", "number"] (sp_narrowed a) := ok_narrowed T
  have G_Holder_days_behind : OkFnN P w K mg base 3 a.f_Holder_days_behind a.d_Holder_days_behind ["self", "passed"] (sp_Holder_days_behind a) := ok_Holder_days_behind T
  have G_need_least : OkFnN P w K mg base 1 a.f_need_least a.d_need_least ["number", "least"] (sp_need_least a) := ok_need_least T
  have G_Book_need_day : OkFnN P w K mg base 1 a.f_Book_need_day a.d_Book_need_day ["self", "day"] (sp_Book_need_day a) := ok_Book_need_day T
  have G_Book_pass_to : OkFnN P w K mg base 4 a.f_Book_pass_to a.d_Book_pass_to ["self", "day"] (pm (sp_Book_pass_to a)) := OkFnN.pm (ok_Book_pass_to T)
  refine T.F_Book_join_by.ok3N sc_Book_join_by (fun ds G Q E h => ?_) (fun cdv A outer s H E hr => ?_)
  · obtain ⟨B, day, m, G0, rfl, _⟩ := h
    rfl
  have hu := hr.units
  have hu1 := hu_of hr
  have tk : L2N.Takes (cxOf (L2N.CX P w) P w K mg base ["self", "day", "number", "passed", "one", "rows", "lots"] "Book.join_by" (defScope s_Book_join_by) a.f_Book_join_by cdv A outer s H E) (fun cls d _ H' => E cls d H') := L2N.takes_of rfl rfl rfl rfl
  refine ⟨_, (b_cons (s_expr (e_methN (e_var (pv 0)) T.K_Book T.m_Book_need_day G_Book_need_day (hr.mono (by decide)) T.b_Book_need_day tk (a_cons (e_var (pv 1)) a_nil)))
    (b_cons (s_expr (e_fnN G_need_least (hr.mono (by decide)) rfl T.g_need_least T.F_need_least.kp T.b_need_least tk (a_cons (e_var (pv 2)) (a_cons e_int a_nil))))
    (b_cons (s_asg (ps_set (i := 3) sc_Book_join_by.nd rfl (.inr rfl) (e_sub (e_var (pv 1)) (e_fld (e_var (pv 0))))))
    (b_cons (s_if (t_val (e_callB (cr_any rfl) cl_any rfl T.z_any (by decide +kernel) (a_cons (e_lcD (pe_lock (pe_lc (own := [("one", 4)]) (g := gName 4) rfl sc_Book_join_by.nd (i_vals (e_fld (e_var (pv 0)))) (blkOk_by (own := [("one", 4)]) (N := ["self", "day", "number", "passed", "one", "rows", "lots"]) (sc := defScope s_Book_join_by) (by decide +kernel)) (fun _ _ _ _ _ => (pg_name (i := 4) sc_Book_join_by.nd rfl (Or.inl rfl))) (fun _ _ _ _ _ => ts_nil) (fun _ _ _ _ _ => (e_ne hu (e_mod (e_methN (e_var (pv 4)) T.K_Holder T.m_Holder_days_behind G_Holder_days_behind (hr.mono (by decide)) T.b_Holder_days_behind takes0N (a_cons (e_var (pv 3)) a_nil)) (e_var (pv 2))) e_int)))) (tl_name (by decide))) a_nil))) (b_one (s_raiseN rfl tk (L2N.pmk_own PySem.F.excBase_ValueError T.x_Uneven T.g_Uneven T.k_Uneven (raises_own T.e_Uneven T.t_Uneven) rfl))) b_nil)
    (b_cons (s_lockXN tk (fun Wl tk' => (s_lcX (ps_setLcXN (i := 5) (own := [("one", 4)]) (g := gName 4) rfl rfl tk' rfl sc_Book_join_by.nd rfl rfl (sw_true rfl rfl rfl (by decide +kernel)) (i_vals (e_fld (e_var (pv 0)))) (blkOk_by (own := [("one", 4)]) (N := ["self", "day", "number", "passed", "one", "rows", "lots"]) (sc := defScope s_Book_join_by) (by decide +kernel)) (fun _ _ _ _ _ => (pg_name (i := 4) sc_Book_join_by.nd rfl (Or.inl rfl))) (fun _ _ _ _ _ => pts_nil) (fun _ _ _ _ _ _ => (e_fnXN passBlkN G_narrowed (hr.mono (by decide)) rfl T.g_narrowed T.F_narrowed.kp T.b_narrowed (a_cons (e_fldK (K := K) rfl (e_var (pv 4))) (a_cons (e_var (pv 2)) a_nil))))) (tl_name (by decide)))))
    (b_cons (s_expr (e_methN (e_var (pv 0)) T.K_Book T.m_Book_pass_to G_Book_pass_to (hr.mono (by decide)) T.b_Book_pass_to tk (a_cons (e_var (pv 1)) a_nil)))
    (b_one (s_wk (s_lock (s_for (passes_of rfl) rfl (i_zipV rfl T.z_zip (e_fld (e_var (pv 0))) (e_var (pv 5))) (g_pair (pg_tup rfl (pgs_cons (pg_name (i := 4) sc_Book_join_by.nd rfl (.inl rfl)) (pgs_cons (pg_name (i := 6) sc_Book_join_by.nd rfl (.inl rfl)) pgs_nil)))) (b_cons (s_fld (e_var (pv 4)) (e_var (pv 6)))
    (b_one (s_fld (e_var (pv 4)) (e_fdiv (e_fld (e_var (pv 4))) (e_var (pv 2)))))))))))))))), ?_⟩
  intro ds G Q E h
  obtain ⟨B, day, m, G0, rfl, rfl, k1, k2, k3⟩ := h
  refine ⟨_, .head _, rfl, B.b, B.day, day, _, rfl, .head _, fun h => k1 h, fun hd => ?_⟩
  refine ⟨m, 2, rfl, fun h => k2 hd h, fun hc => ?_⟩
  obtain ⟨⟨hF, hm⟩, kE, kQ⟩ := k3 hd hc
  refine ⟨_, _, _, .head _, ⟨T.K_Book, T.N_Book_day⟩, rfl, ?_⟩
  have hv : (pplK B.ppl).map (·.2) = B.ppl.map (fun x => D.ref x.h) := by simp [pplK, Function.comp_def]
  have hl := hF.len
  -- the days
  refine ⟨B.pd, pplK B.ppl, [(B.b, .ins a.c_Book [("day", .int B.day), ("people", .ref B.pd)])], pplG a.c_Holder B.ppl ++ G0, rfl, detK_ppl _, fun od => ?_⟩
  refine ⟨_, _, _, .head _, ⟨T.K_Book, T.N_Book_people⟩, rfl, ?_⟩
  refine ⟨od, pplK B.ppl, .tail _ (.head _), detK_ppl _, ?_⟩
  rw [hv]
  refine ⟨fun k => (B.ppl[k]?).map fun x => .bl (!decide (x.behind (day - B.day) % m = 0)), fun p acc => .tail _ (.tail _ (.head _)), fun k d p acc hk => ?_, size_le (by simp; omega), ?_⟩
  · obtain ⟨x, h1, rfl⟩ := get_map hk
    have hx := get_mem h1
    obtain ⟨m1, m2⟩ := hF.hol x hx
    have mh : (x.h, DO.ins a.c_Holder (holF x)) ∈ (p, DO.lst acc) :: ([(B.b, DO.ins a.c_Book [("day", .int B.day), ("people", .ref B.pd)])] ++ (B.pd, DO.lck od (pplK B.ppl)) :: (pplG a.c_Holder B.ppl ++ G0)) := .tail _ (.tail _ (.tail _ (List.mem_append_left _ (pplG_h hx))))
    have ml : (x.l, DO.lst (x.lots.map lotD)) ∈ (p, DO.lst acc) :: ([(B.b, DO.ins a.c_Book [("day", .int B.day), ("people", .ref B.pd)])] ++ (B.pd, DO.lck od (pplK B.ppl)) :: (pplG a.c_Holder B.ppl ++ G0)) := .tail _ (.tail _ (.tail _ (List.mem_append_left _ (pplG_l hx))))
    refine ⟨rfl, _, mh, rfl, x, day - B.day, rfl, ⟨mh, ml⟩, ⟨by omega, m2⟩, ?_⟩
    exact ⟨by omega, rfl, om h1⟩
  rw [List.length_map, fm_map]
  refine ⟨_, put_mid, ?_⟩
  refine ⟨B.ppl.map fun x => !decide (x.behind (day - B.day) % m = 0), by simp [Ls, List.map_map, Function.comp_def], ?_⟩
  refine ite2 (fun h0 => ?_) (fun h0 => ?_)
  · obtain ⟨x, h1, h2⟩ := any_map_true h0
    exact kE (even_days ⟨x, h1, by simpa using h2⟩)
  have hday : ∀ x ∈ B.ppl, x.behind (day - B.day) % m = 0 := fun x h1 => by
    have := any_map_false (eq_false_of_ne_true h0) x h1
    simpa using this
  -- the rows
  refine ⟨B.pd, pplK B.ppl, [(B.b, .ins a.c_Book [("day", .int B.day), ("people", .ref B.pd)])], pplG a.c_Holder B.ppl ++ G0, rfl, detK_ppl _, fun od => ?_⟩
  refine ⟨_, _, _, .head _, ⟨T.K_Book, T.N_Book_people⟩, rfl, ?_⟩
  refine ⟨od, pplK B.ppl, .tail _ (.head _), detK_ppl _, ?_⟩
  rw [hv]
  let ob : Addr × List Lot → Addr × DO := fun z => (z.1, .lst (z.2.map lotD))
  let bs : G3 := (B.b, .ins a.c_Book [("day", .int B.day), ("people", .ref B.pd)]) :: (B.pd, .lck od (pplK B.ppl)) :: (pplG a.c_Holder B.ppl ++ G0)
  refine ⟨fun k p G' => ∃ ns : List (Addr × List Lot), G' = (ns.map ob).reverse ++ (p, .lst (ns.map fun z => .ref z.1)) :: bs ∧ ns.map (·.2) = (B.ppl.take k).map (fun x => x.lots.map (slim m)) ∧ ∀ x ∈ B.ppl.take k, ∀ l ∈ x.lots, l.count % m = 0, ?_, fun p => ⟨[], rfl, by simp, by simp⟩, ?_, ?_⟩
  · rintro k p G' ⟨ns, rfl, _⟩
    exact List.mem_append_right _ (.tail _ (.tail _ (.head _)))
  · rintro k d p G' hd ⟨ns, rfl, hn, hev⟩
    obtain ⟨x, h1, rfl⟩ := get_map hd
    have hx := get_mem h1
    obtain ⟨m1, m2⟩ := hF.hol x hx
    have mh : (x.h, DO.ins a.c_Holder (holF x)) ∈ (ns.map ob).reverse ++ (p, DO.lst (ns.map fun z => .ref z.1)) :: bs := List.mem_append_right _ (.tail _ (.tail _ (.tail _ (List.mem_append_left _ (pplG_h hx)))))
    have ml : (x.l, DO.lst (x.lots.map lotD)) ∈ (ns.map ob).reverse ++ (p, DO.lst (ns.map fun z => .ref z.1)) :: bs := List.mem_append_right _ (.tail _ (.tail _ (.tail _ (List.mem_append_left _ (pplG_l hx)))))
    refine ⟨_, _, _, mh, ⟨T.K_Holder, T.N_Holder_lots⟩, rfl, ?_⟩
    refine ⟨x.lots, m, _, rfl, ml, ⟨by omega, by omega, hm⟩, fun h => ?_, fun h q => ?_⟩
    · refine Up.dropL (Up.drop (Up.of ⟨_, .tail .head, ?_⟩)) _
      exact kE (even_lots ⟨x, hx, h⟩)
    · have hnl := congrArg List.length hn
      simp only [List.length_map, List.length_take] at hnl
      refine ⟨_, _, .tail put_mid, size_lt (by simp; omega), ns ++ [(q, x.lots.map (slim m))], ?_, ?_, ?_⟩
      · simp [ob]
      · rw [take_snoc h1, List.map_append, List.map_append, hn]
        rfl
      · rw [take_snoc h1]
        intro y hy
        rcases List.mem_append.mp hy with hy | hy
        · exact hev y hy
        · rw [List.mem_singleton.mp hy]; exact h
  rintro p G' ⟨ns, rfl, hn, hev⟩
  rw [List.length_map, List.take_length] at hn hev
  have kQ := kQ (even_all hday hev)
  refine ⟨_, .right (.tail (.tail .head)), ?_⟩
  -- the days pass
  obtain ⟨xs, hxs⟩ : ∃ xs, xs = passH (day - B.day) B.ppl := ⟨_, rfl⟩
  have hk : absH xs = aPass (day - B.day) (absH B.ppl) := by rw [hxs, aPass_abs]
  have hlen : xs.length ≤ 900 := by rw [hxs]; simpa [passH] using hl
  have hlots : ns.map (·.2) = xs.map (fun x => x.lots.map (slim m)) := by rw [hn, hxs]; simp [passH, List.map_map, Function.comp_def]
  let L : Addr × DO := (p, .lst (ns.map fun z => .ref z.1))
  refine ⟨_, List.mem_append_right _ (.tail _ (.head _)), rfl, _, ?_, B, day, (ns.map ob) ++ L :: G0, rfl, rfl, fun y hy => ⟨by have := (hF.hol y hy).1; omega, (hF.hol y hy).2⟩, ?_⟩
  · exact perm_rows
  rw [← hxs]
  rw [← hk] at kQ
  clear hxs hk hF hday hev
  have hv : (pplK xs).map (·.2) = xs.map (fun x => D.ref x.h) := by simp [pplK, Function.comp_def]
  refine ⟨B.pd, pplK xs, [(B.b, .ins a.c_Book [("day", .int day), ("people", .ref B.pd)])], pplG a.c_Holder xs ++ (ns.map ob ++ L :: G0), rfl, detK_ppl _, fun od => ?_⟩
  refine ⟨_, _, _, .head _, ⟨T.K_Book, T.N_Book_people⟩, rfl, ?_⟩
  refine ⟨od, pplK xs, .tail _ (.head _), detK_ppl _, ?_⟩
  refine ⟨ns.map fun z => .ref z.1, .tail _ (.head _), .tail _ (.tail _ (List.mem_append_right _ (List.mem_append_right _ (.head _)))), ?_⟩
  have hnl : ns.length = xs.length := by simpa using congrArg List.length hlots
  let pr : Hol × (Addr × List Lot) → D := fun z => .tup [.ref z.1.h, .ref z.2.1]
  obtain ⟨zs, hzs⟩ : ∃ zs, zs = xs.zip ns := ⟨_, rfl⟩
  have hzl : zs.length = xs.length := by rw [hzs, List.length_zip]; omega
  have hz : List.zipWith (fun a b => D.tup [a, b]) ((pplK xs).map (·.2)) (ns.map fun z => .ref z.1) = zs.map pr := by
    rw [hv, hzs, List.zip, List.map_zipWith, List.zipWith_map]
  rw [hz]
  refine ⟨fun i σ G' => ∃ x4 x6 ys J, σ = [some (.ref B.b), some (.int day), some (.int m), some (.int (day - B.day)), x4, some (.ref p), x6] ∧ G' = (B.b, .ins a.c_Book [("day", .int day), ("people", .ref B.pd)]) :: (B.pd, .lck od (pplK xs)) :: (pplG a.c_Holder (ys ++ xs.drop i) ++ ((ns.drop i).map ob ++ L :: (J ++ G0))) ∧ absH ys = aJoin m (absH (xs.take i)) ∧ pplK (ys ++ xs.drop i) = pplK xs, Up.of ⟨none, none, [], [], rfl, by simp, by simp [aJoin], by simp⟩, fun i σ G' _ h => ?_, ?_, ?_⟩
  · obtain ⟨_, _, _, _, rfl, rfl, _⟩ := h
    exact ⟨.tail _ (.head _), .tail _ (.tail _ (List.mem_append_right _ (List.mem_append_right _ (.head _))))⟩
  · rintro i d' σ' G' hd ⟨x4, x6, A, J, rfl, rfl, hA, hK⟩
    obtain ⟨z, h1, rfl⟩ := get_map hd
    rw [hzs, List.getElem?_zip_eq_some] at h1
    obtain ⟨hx, hp⟩ := h1
    obtain ⟨x, q, ls⟩ := z
    simp only at hx hp
    have hi := get_lt hx
    have hi2 := get_lt hp
    have hls : ls = x.lots.map (slim m) := by
      have e := congrArg (·[i]?) hlots
      simp only [List.getElem?_map, hx, hp, Option.map_some] at e
      injection e
    have hdrop : xs.drop i = x :: xs.drop (i + 1) := by rw [List.drop_eq_getElem_cons hi]; congr 1; rw [List.getElem?_eq_getElem hi] at hx; injection hx
    have hdrop2 : ns.drop i = (q, ls) :: ns.drop (i + 1) := by rw [List.drop_eq_getElem_cons hi2]; congr 1; rw [List.getElem?_eq_getElem hi2] at hp; injection hp
    rw [hdrop] at hK ⊢
    rw [hdrop2]
    refine ⟨_, _, _, .tail (.tail (.left put_h)), ⟨T.K_Holder, T.N_Holder_lots⟩, (by decide : 4 < 1000), ?_⟩
    refine ⟨_, _, _, .tail _ (.tail _ (List.mem_append_left _ (List.mem_append_right _ (.head _)))), ⟨T.K_Holder, T.N_Holder_days⟩, rfl, div_lt (by omega) hm, ?_⟩
    refine ⟨_, _, _, .tail (.tail (.left (.right .head))), ⟨T.K_Holder, T.N_Holder_days⟩, (by decide : 4 < 1000), ?_⟩
    refine Up.perm perm_lots (Up.of ⟨some (.ref x.h), some (.ref q), A ++ [{ x with l := q, lots := x.lots.map (slim m), days := x.days / m }], (x.l, .lst (x.lots.map lotD)) :: J, rfl, ?_, ?_, ?_⟩)
    · have e : pplG a.c_Holder (A ++ [{ x with l := q, lots := x.lots.map (slim m), days := x.days / m }] ++ xs.drop (i + 1)) = pplG a.c_Holder A ++ ((x.h, .ins a.c_Holder [("lots", .ref q), ("days", .int (x.days / m)), ("gain", .int x.gain), ("got", .int x.got)]) :: (q, .lst ((x.lots.map (slim m)).map lotD)) :: pplG a.c_Holder (xs.drop (i + 1))) := by
        simp [pplG_append, pplG_cons, holG, holF, pplG]
      rw [e, ← hls]
      rfl
    · rw [take_snoc hx]
      simp only [absH, List.map_append, aJoin] at hA ⊢
      rw [hA]
      rfl
    · rw [← hK]
      simp [pplK]
  · rintro σ' G' ⟨x4, x6, ys, J, rfl, rfl, hA, hK⟩
    refine ⟨_, .tail .head, ?_⟩
    rw [List.length_map, hzl, List.take_length] at hA
    rw [List.length_map, hzl, List.drop_length, List.append_nil] at hK ⊢
    have hd0 : ns.drop xs.length = [] := by rw [← hnl, List.drop_length]
    rw [hd0]
    refine Up.of (UpV.of ?_)
    have k := kQ ⟨B.b, B.pd, day, ys⟩ (L :: J) rfl rfl hA
    have e : bkG a.c_Book a.c_Holder ⟨B.b, B.pd, day, ys⟩ ++ ((L :: J) ++ G0) = (B.b, .ins a.c_Book [("day", .int day), ("people", .ref B.pd)]) :: (B.pd, .dict (pplK xs)) :: (pplG a.c_Holder ys ++ (L :: (J ++ G0))) := by
      simp [bkG, hK]
    rw [e] at k
    exact k
end
/-! ### Book.pay -/
def sp_Book_pay (a : Ad) : Sp3 := fun ds G Q E => ∃ (B : Bk) (day coins : Int) (G0 : G3), ds = [.ref B.b, .int day, .int coins] ∧ G = bkG a.c_Book a.c_Holder B ++ G0 ∧
  (day < B.day → E a.c_BadDay G) ∧ (B.day ≤ day → coins < 0 → E a.c_BadNumber G) ∧
  (B.day ≤ day → 0 ≤ coins → (Fit B day ∧ (names B.ppl).Nodup ∧ PartsOk coins ((absH B.ppl).map fun x => x.behind (day - B.day))) ∧
    (((absH B.ppl).map fun x => x.behind (day - B.day)).sum = 0 → E a.c_NoDays G) ∧
    (((absH B.ppl).map fun x => x.behind (day - B.day)).sum ≠ 0 → ∀ B' J p, B'.b = B.b → B'.day = day →
      absH B'.ppl = payH (aPass (day - B.day) (absH B.ppl)) (partsL coins ((absH B.ppl).map fun x => x.behind (day - B.day)).sum 0 ((absH B.ppl).map fun x => x.behind (day - B.day))) →
      Q (.ref p) ((p, .lst (payD (absH B.ppl) (partsL coins ((absH B.ppl).map fun x => x.behind (day - B.day)).sum 0 ((absH B.ppl).map fun x => x.behind (day - B.day))))) :: (bkG a.c_Book a.c_Holder B' ++ (J ++ G0)))))
theorem sc_Book_pay : FnScope ["self", "day", "coins", "passed", "some", "one", "found", "who", "part"] ["self", "day", "coins"] (defScope s_Book_pay) := ⟨rfl, rfl, rfl, by decide +kernel, rfl, by decide +kernel, by decide +kernel⟩
section
variable {P : Program} {w : World} {K : PySem.W.Frag} {mg : Str → Option Value} {base : Heap} {a : Ad}
theorem ok_Book_pay (T : Txt K mg a) : OkFnN P w K mg base 5 a.f_Book_pay a.d_Book_pay ["self", "day", "coins"] (sp_Book_pay a) := by
  have G_Holder_days_behind : OkFnN P w K mg base 3 a.f_Holder_days_behind a.d_Holder_days_behind ["self", "passed"] (sp_Holder_days_behind a) := ok_Holder_days_behind T
  have G_parts : OkFnN P w K mg base 1 a.f_parts a.d_parts ["coins", "weights"] (sp_parts a) := ok_parts T
  have G_need_least : OkFnN P w K mg base 1 a.f_need_least a.d_need_least ["number", "least"] (sp_need_least a) := ok_need_least T
  have G_Book_need_day : OkFnN P w K mg base 1 a.f_Book_need_day a.d_Book_need_day ["self", "day"] (sp_Book_need_day a) := ok_Book_need_day T
  have G_Book_pass_to : OkFnN P w K mg base 4 a.f_Book_pass_to a.d_Book_pass_to ["self", "day"] (pm (sp_Book_pass_to a)) := OkFnN.pm (ok_Book_pass_to T)
  refine T.F_Book_pay.ok3N sc_Book_pay (fun ds G Q E h => ?_) (fun cdv A outer s H E hr => ?_)
  · obtain ⟨B, day, coins, G0, rfl, _⟩ := h
    rfl
  have hu := hr.units
  have hu1 := hu_of hr
  have tk : L2N.Takes (cxOf (L2N.CX P w) P w K mg base ["self", "day", "coins", "passed", "some", "one", "found", "who", "part"] "Book.pay" (defScope s_Book_pay) a.f_Book_pay cdv A outer s H E) (fun cls d _ H' => E cls d H') := L2N.takes_of rfl rfl rfl rfl
  refine ⟨_, (b_cons (s_expr (e_methN (e_var (pv 0)) T.K_Book T.m_Book_need_day G_Book_need_day (hr.mono (by decide)) T.b_Book_need_day tk (a_cons (e_var (pv 1)) a_nil)))
    (b_cons (s_expr (e_fnN G_need_least (hr.mono (by decide)) rfl T.g_need_least T.F_need_least.kp T.b_need_least tk (a_cons (e_var (pv 2)) (a_cons e_int a_nil))))
    (b_cons (s_asg (ps_set (i := 3) sc_Book_pay.nd rfl (.inr rfl) (e_sub (e_var (pv 1)) (e_fld (e_var (pv 0))))))
    (b_cons (s_asg (ps_set (i := 4) sc_Book_pay.nd rfl (.inl rfl) (e_fnN G_parts (hr.mono (by decide)) rfl T.g_parts T.F_parts.kp T.b_parts tk (a_cons (e_var (pv 2)) (a_cons (e_lcD (pe_lock (pe_lc (own := [("one", 5)]) (g := gName 5) rfl sc_Book_pay.nd (i_vals (e_fld (e_var (pv 0)))) (blkOk_by (own := [("one", 5)]) (N := ["self", "day", "coins", "passed", "some", "one", "found", "who", "part"]) (sc := defScope s_Book_pay) (by decide +kernel)) (fun _ _ _ _ _ => (pg_name (i := 5) sc_Book_pay.nd rfl (Or.inl rfl))) (fun _ _ _ _ _ => ts_nil) (fun _ _ _ _ _ => (e_methN (e_var (pv 5)) T.K_Holder T.m_Holder_days_behind G_Holder_days_behind (hr.mono (by decide)) T.b_Holder_days_behind takes0N (a_cons (e_var (pv 3)) a_nil))))) (tl_name (by decide))) a_nil)))))
    (b_cons (s_expr (e_methN (e_var (pv 0)) T.K_Book T.m_Book_pass_to G_Book_pass_to (hr.mono (by decide)) T.b_Book_pass_to tk (a_cons (e_var (pv 1)) a_nil)))
    (b_cons (s_asg (ps_set (i := 6) sc_Book_pay.nd rfl (.inl rfl) (e_lstO a_nil)))
    (b_cons (s_wk (s_for (passes_of rfl) rfl (i_zip rfl T.z_zip (e_callTy (call_list_dK rfl) cl_listD rfl T.z_list (by decide +kernel) (a_cons (e_fld (e_var (pv 0))) a_nil)) (e_var (pv 4))) (g_pair (pg_tup rfl (pgs_cons (pg_name (i := 7) sc_Book_pay.nd rfl (.inl rfl)) (pgs_cons (pg_name (i := 8) sc_Book_pay.nd rfl (.inl rfl)) pgs_nil)))) (b_cons (s_asg (ps_set (i := 5) sc_Book_pay.nd rfl (.inl rfl) (e_dget hu1 (e_fld (e_var (pv 0))) (e_var (pv 7)))))
    (b_cons (s_fld (e_var (pv 5)) (e_add (e_fld (e_var (pv 5))) (e_var (pv 8))))
    (b_cons (s_fld (e_var (pv 5)) e_int)
    (b_one (s_expr (e_append (pe_bm PySem.F.plainAttrs_list PySem.F.slot_list_append PySem.F.type_list_append mt_append (e_var (pv 6)) (pa_cons (e_tup (a_cons (e_var (pv 7)) (a_cons (e_var (pv 8)) a_nil))) pa_nil))))))))))
    (b_one (s_ret (e_var (pv 6))))))))))), ?_⟩
  intro ds G Q E h
  obtain ⟨B, day, coins, G0, rfl, rfl, k1, k2, k3⟩ := h
  refine ⟨_, .head _, rfl, B.b, B.day, day, _, rfl, .head _, fun h => k1 h, fun hd => ?_⟩
  refine ⟨coins, 0, rfl, fun h => k2 hd h, fun hc => ?_⟩
  obtain ⟨⟨hF, hnd, hok⟩, kE, kQ⟩ := k3 hd hc
  have hB : Has a.c_Book a.c_Holder B (bkG a.c_Book a.c_Holder B ++ G0) := Has.app
  refine ⟨_, _, _, .head _, ⟨T.K_Book, T.N_Book_day⟩, rfl, ?_⟩
  have hv : (pplK B.ppl).map (·.2) = B.ppl.map (fun x => D.ref x.h) := by simp [pplK, Function.comp_def]
  -- the parts
  refine ⟨B.pd, pplK B.ppl, [(B.b, .ins a.c_Book [("day", .int B.day), ("people", .ref B.pd)])], pplG a.c_Holder B.ppl ++ G0, rfl, detK_ppl _, fun od => ?_⟩
  refine ⟨_, _, _, .head _, ⟨T.K_Book, T.N_Book_people⟩, rfl, ?_⟩
  refine ⟨od, pplK B.ppl, .tail _ (.head _), detK_ppl _, ?_⟩
  rw [hv]
  have hl := hF.len
  refine ⟨fun k => (B.ppl[k]?).map fun x => .int (x.behind (day - B.day)), fun p acc => .tail _ (.tail _ (.head _)), fun k d p acc hk => ?_, size_le (by simp; omega), ?_⟩
  · obtain ⟨x, h1, rfl⟩ := get_map hk
    have hx := get_mem h1
    obtain ⟨m1, m2⟩ := hF.hol x hx
    have mh : (x.h, DO.ins a.c_Holder (holF x)) ∈ (p, DO.lst acc) :: ([(B.b, DO.ins a.c_Book [("day", .int B.day), ("people", .ref B.pd)])] ++ (B.pd, DO.lck od (pplK B.ppl)) :: (pplG a.c_Holder B.ppl ++ G0)) := .tail _ (.tail _ (.tail _ (List.mem_append_left _ (pplG_h hx))))
    have ml : (x.l, DO.lst (x.lots.map lotD)) ∈ (p, DO.lst acc) :: ([(B.b, DO.ins a.c_Book [("day", .int B.day), ("people", .ref B.pd)])] ++ (B.pd, DO.lck od (pplK B.ppl)) :: (pplG a.c_Holder B.ppl ++ G0)) := .tail _ (.tail _ (.tail _ (List.mem_append_left _ (pplG_l hx))))
    exact ⟨rfl, _, mh, rfl, x, day - B.day, rfl, ⟨mh, ml⟩, ⟨by omega, m2⟩, rfl, om h1⟩
  rw [List.length_map, fm_map]
  refine ⟨_, put_mid, ?_⟩
  let ws : List Int := (absH B.ppl).map fun x => x.behind (day - B.day)
  have hws : (B.ppl.map fun x => D.int (x.behind (day - B.day))) = ws.map .int := by simp [ws, absH, List.map_map, Function.comp_def, Hol.behind, Ho.behind, Hol.many, Ho.many, Hol.ab]
  rw [hws]
  refine ⟨coins, ws, _, rfl, rfl, hok, fun h => kE h, fun h => ?_⟩
  have kQ := kQ h
  -- the days
  refine ⟨_, .head _, rfl, _, .refl _, B, day, G0, rfl, rfl, fun y hy => ⟨by have := (hF.hol y hy).1; omega, (hF.hol y hy).2⟩, ?_⟩
  refine ⟨Nat.zero_le _, fun q => ?_⟩
  obtain ⟨xs, hxs⟩ : ∃ xs, xs = passH (day - B.day) B.ppl := ⟨_, rfl⟩
  have hk : absH xs = aPass (day - B.day) (absH B.ppl) := by rw [hxs, aPass_abs]
  have hnm : names xs = names B.ppl := by rw [hxs, passH_names]
  have hnh : nmH (absH B.ppl) = names xs := by rw [absH_names, hnm]
  rw [← hnm] at hnd
  rw [← hk] at kQ
  rw [← hxs]
  have hlen : xs.length ≤ 900 := by rw [hxs]; simpa [passH] using hl
  generalize hps : partsL coins ws.sum 0 ws = ps
  have hps' : partsL coins (List.map (fun x => x.behind (day - B.day)) (absH B.ppl)).sum 0 (List.map (fun x => x.behind (day - B.day)) (absH B.ppl)) = ps := hps
  rw [hps'] at kQ
  have hpl : ps.length = xs.length := by rw [← hps, partsL_length, hxs]; simp [ws, passH]
  let pf : Hol × Int → Hol := fun z => { z.1 with days := 0, got := z.1.got + z.2 }
  let pr : Hol × Int → D := fun z => .tup [.str z.1.name, .int z.2]
  obtain ⟨zs, hzs⟩ : ∃ zs, zs = xs.zip ps := ⟨_, rfl⟩
  have hzl : zs.length = xs.length := by rw [hzs, List.length_zip]; omega
  have hz : List.zipWith (fun a b => D.tup [a, b]) ((pplK xs).map fun kv => dKey kv.1) (ps.map .int) = zs.map pr := by
    rw [hzs, List.zip, List.map_zipWith, List.zipWith_map, pplK, List.zipWith_map_left]
    rfl
  refine ⟨_, _, _, .tail _ (.head _), ⟨T.K_Book, T.N_Book_people⟩, rfl, ?_⟩
  refine ⟨_, .tail _ (.tail _ (.head _)), ?_⟩
  refine ⟨_, _, rfl, rfl, ?_⟩
  rw [hz]
  have hK : ∀ i, pplK ((zs.take i).map pf ++ xs.drop i) = pplK xs := fun i => by
    have h1 : pplK ((zs.take i).map pf) = pplK (xs.take i) := by
      have h2 : (zs.take i).map (·.1) = xs.take i := by rw [hzs, List.map_take, zip_fst hpl.symm]
      rw [← h2]
      simp [pplK, pf, List.map_map, Function.comp_def]
    have h3 : pplK ((zs.take i).map pf ++ xs.drop i) = pplK ((zs.take i).map pf) ++ pplK (xs.drop i) := by simp [pplK]
    rw [h3, h1]
    have : pplK (xs.take i) ++ pplK (xs.drop i) = pplK (xs.take i ++ xs.drop i) := by simp [pplK]
    rw [this, List.take_append_drop]
  refine ⟨fun i σ G' => ∃ x5 x7 x8, σ = [some (.ref B.b), some (.int day), some (.int coins), some (.int (day - B.day)), some (.lst (ps.map .int)), x5, some (.ref q), x7, x8] ∧ G' = (q, .lst ((zs.take i).map pr)) :: (bkG a.c_Book a.c_Holder ⟨B.b, B.pd, day, (zs.take i).map pf ++ xs.drop i⟩ ++ G0), Up.of ⟨none, none, none, rfl, rfl⟩, fun _ _ _ _ _ => ⟨rfl, rfl⟩, ?_, ?_⟩
  · rintro i d' σ' G' hd ⟨x5, x7, x8, rfl, rfl⟩
    obtain ⟨z, h1, rfl⟩ := get_map hd
    have hi := get_lt h1
    have h1' := h1
    rw [hzs, List.getElem?_zip_eq_some] at h1'
    obtain ⟨hx, hp⟩ := h1'
    obtain ⟨x, part⟩ := z
    simp only at hx hp
    have hi2 := get_lt hx
    have hdrop : xs.drop i = x :: xs.drop (i + 1) := by rw [List.drop_eq_getElem_cons hi2]; congr 1; rw [List.getElem?_eq_getElem hi2] at hx; injection hx
    have hKi := hK i
    have hK1 := hK (i + 1)
    rw [take_snoc h1, List.map_append] at hK1
    rw [hdrop] at hKi ⊢
    have hA : x.name ∉ names ((zs.take i).map pf) := by
      have h2 : names ((zs.take i).map pf) = names (xs.take i) := by
        have h2 : (zs.take i).map (·.1) = xs.take i := by rw [hzs, List.map_take, zip_fst hpl.symm]
        rw [← h2]; simp [names, pf, List.map_map, Function.comp_def]
      rw [h2]
      intro hm
      have h3 : names xs = names (xs.take i) ++ x.name :: names (xs.drop (i + 1)) := by
        conv => lhs; rw [← List.take_append_drop i xs, hdrop]
        simp [names]
      rw [h3] at hnd
      exact (List.nodup_append.mp hnd).2.2 _ hm _ (List.mem_cons_self ..) rfl
    generalize hAA : (zs.take i).map pf = A at *
    have hval := valD_at (B := xs.drop (i + 1)) hA
    refine ⟨_, _, _, .tail _ (.head _), ⟨T.K_Book, T.N_Book_people⟩, rfl, ?_⟩
    refine ⟨_, _, _, .tail _ (.tail _ (.head _)), rfl, hval, ?_⟩
    have mh : (x.h, DO.ins a.c_Holder (holF x)) ∈ (q, DO.lst ((zs.take i).map pr)) :: (bkG a.c_Book a.c_Holder ⟨B.b, B.pd, day, A ++ x :: xs.drop (i + 1)⟩ ++ G0) := .tail _ (.tail _ (.tail _ (List.mem_append_left _ (pplG_h (by simp)))))
    refine ⟨_, _, _, mh, ⟨T.K_Holder, T.N_Holder_got⟩, rfl, ?_⟩
    refine ⟨_, _, _, .tail (.tail (.tail (.left put_h))), ⟨T.K_Holder, T.N_Holder_got⟩, (by decide : 4 < 1000), ?_⟩
    refine ⟨_, _, _, .tail (.tail (.tail (.left (.right .head)))), ⟨T.K_Holder, T.N_Holder_days⟩, (by decide : 4 < 1000), ?_⟩
    refine ⟨⟨_, .head _⟩, by show 2 ≤ sizeLine; decide, _, _, .head, size_lt (by simp; omega), ?_⟩
    refine Up.of ⟨some (.ref x.h), some (.str x.name), some (.int part), rfl, ?_⟩
    have e : bkG a.c_Book a.c_Holder ⟨B.b, B.pd, day, (zs.take (i + 1)).map pf ++ xs.drop (i + 1)⟩ ++ G0 = (B.b, .ins a.c_Book [("day", .int day), ("people", .ref B.pd)]) :: (B.pd, .dict (pplK (A ++ x :: xs.drop (i + 1)))) :: ((pplG a.c_Holder A ++ ((x.h, .ins a.c_Holder [("lots", .ref x.l), ("days", .int 0), ("gain", .int x.gain), ("got", .int (x.got + part))]) :: (x.l, .lst (x.lots.map lotD)) :: pplG a.c_Holder (xs.drop (i + 1)))) ++ G0) := by
      rw [take_snoc h1, List.map_append, hAA]
      simp [bkG, pplK, pplG_append, pplG_cons, holG, holF, pf]
    rw [e, take_snoc h1, List.map_append]
    rfl
  · rintro σ' G' ⟨x5, x7, x8, rfl, rfl⟩
    have hL : (zs.map pr).length = zs.length := by simp
    rw [hL, List.take_length, hzl, List.drop_length, List.append_nil]
    refine Up.of (UpV.of ?_)
    have k := kQ ⟨B.b, B.pd, day, zs.map pf⟩ [] q rfl rfl ?_
    · have e1 : payD (absH B.ppl) ps = zs.map pr := by
        rw [payD, hzs]
        have e2 : (absH B.ppl).zip ps = (xs.zip ps).map fun z => ((⟨z.1.name, z.1.lots, z.1.days - z.1.many * (day - B.day), z.1.gain, z.1.got⟩ : Ho), z.2) := by
          rw [hxs, passH, absH, List.zip_map_left, List.zip_map_left, List.map_map]
          apply List.map_congr_left
          intro z _
          simp [Hol.ab, Hol.behind, Hol.many, Prod.map]
        rw [e2, List.map_map]
        rfl
      rw [← e1]
      exact k
    · rw [hzs]
      simp only [payH, absH, List.zip_map_left, List.map_map]
      apply List.map_congr_left
      intro z _
      rfl
end
/-! ### Book.names -/
def sp_Book_names (a : Ad) : Sp3 := fun ds G Q _ => ∃ (B : Bk), ds = [.ref B.b] ∧ Has a.c_Book a.c_Holder B G ∧ Q (.lst ((nmH (absH B.ppl)).map .str)) G
theorem sc_Book_names : FnScope ["self"] ["self"] (defScope s_Book_names) := ⟨rfl, rfl, rfl, by decide +kernel, rfl, by decide +kernel, by decide +kernel⟩
section
variable {P : Program} {w : World} {K : PySem.W.Frag} {mg : Str → Option Value} {base : Heap} {a : Ad}
theorem ok_Book_names (T : Txt K mg a) : OkFnN P w K mg base 1 a.f_Book_names a.d_Book_names ["self"] (sp_Book_names a) := by
  refine T.F_Book_names.ok3N sc_Book_names (fun ds G Q E h => ?_) (fun cdv A outer s H E hr => ?_)
  · obtain ⟨B, rfl, _⟩ := h
    rfl
  have hu := hr.units
  have hu1 := hu_of hr
  have tk : L2N.Takes (cxOf (L2N.CX P w) P w K mg base ["self"] "Book.names" (defScope s_Book_names) a.f_Book_names cdv A outer s H E) (fun cls d _ H' => E cls d H') := L2N.takes_of rfl rfl rfl rfl
  refine ⟨_, (b_one (s_ret (e_callTy (call_list_dK rfl) cl_listD rfl T.z_list (by decide +kernel) (a_cons (e_fld (e_var (pv 0))) a_nil)))), ?_⟩
  intro ds G Q E h
  obtain ⟨B, rfl, hB, k⟩ := h
  refine ⟨_, _, _, hB.b, ⟨T.K_Book, T.N_Book_people⟩, rfl, ?_⟩
  refine ⟨_, hB.p, UpV.of ?_⟩
  rw [absH_names] at k
  rw [show ((pplK B.ppl).map fun kv => dKey kv.1) = (names B.ppl).map .str by simp [pplK, names, Function.comp_def, dKey]]
  exact k
theorem okH_Book_names (T : Txt K mg a) : OkFnH P w K mg base 1 a.f_Book_names a.d_Book_names ["self"] (sp_Book_names a) := by
  refine T.F_Book_names.ok3H sc_Book_names (fun ds G Q E h => ?_) (fun cdv A outer s H E p hot hr => ?_)
  · obtain ⟨B, rfl, _⟩ := h
    rfl
  have hu := hr.units
  have hu1 := L2H.hu_ofH hr
  have tk : Takes (L2H.cxH (L2.CX P w) P w K mg base ["self"] "Book.names" (defScope s_Book_names) a.f_Book_names cdv A outer s H E p) (fun cls d _ H' => E cls d H') := takes_of rfl rfl rfl rfl
  have hc : L2H.HotC (L2H.cxH (L2.CX P w) P w K mg base ["self"] "Book.names" (defScope s_Book_names) a.f_Book_names cdv A outer s H E p) := ⟨p, hot, List.mem_singleton.mpr rfl⟩
  refine ⟨_, (b_one (s_ret (e_callTy (L2H.call_list_dKH hc) cl_listD rfl T.z_list (by decide +kernel) (a_cons (e_fld (e_var (pv 0))) a_nil)))), ?_⟩
  intro ds G Q E h
  obtain ⟨B, rfl, hB, k⟩ := h
  refine ⟨_, _, _, hB.b, ⟨T.K_Book, T.N_Book_people⟩, rfl, ?_⟩
  refine ⟨_, hB.p, UpV.of ?_⟩
  rw [absH_names] at k
  rw [show ((pplK B.ppl).map fun kv => dKey kv.1) = (names B.ppl).map .str by simp [pplK, names, Function.comp_def, dKey]]
  exact k
end
/-! ### Book.shares_of -/
def sp_Book_shares_of (a : Ad) : Sp3 := fun ds G Q _ => ∃ (B : Bk) (who : Str), ds = [.ref B.b, .str who] ∧ Has a.c_Book a.c_Holder B G ∧ (∀ x ∈ absH B.ppl, x.lots.length ≤ 1000) ∧ Q (.int (((aFind who (absH B.ppl)).map Ho.many).getD 0)) G
theorem sc_Book_shares_of : FnScope ["self", "who"] ["self", "who"] (defScope s_Book_shares_of) := ⟨rfl, rfl, rfl, by decide +kernel, rfl, by decide +kernel, by decide +kernel⟩
section
variable {P : Program} {w : World} {K : PySem.W.Frag} {mg : Str → Option Value} {base : Heap} {a : Ad}
theorem ok_Book_shares_of (T : Txt K mg a) : OkFnN P w K mg base 3 a.f_Book_shares_of a.d_Book_shares_of ["self", "who"] (sp_Book_shares_of a) := by
  have G_Holder_many : OkFnN P w K mg base 2 a.f_Holder_many a.d_Holder_many ["self"] (sp_Holder_many a) := ok_Holder_many T
  refine T.F_Book_shares_of.ok3N sc_Book_shares_of (fun ds G Q E h => ?_) (fun cdv A outer s H E hr => ?_)
  · obtain ⟨B, who, rfl, _⟩ := h
    rfl
  have hu := hr.units
  have hu1 := hu_of hr
  have tk : L2N.Takes (cxOf (L2N.CX P w) P w K mg base ["self", "who"] "Book.shares_of" (defScope s_Book_shares_of) a.f_Book_shares_of cdv A outer s H E) (fun cls d _ H' => E cls d H') := L2N.takes_of rfl rfl rfl rfl
  refine ⟨_, (b_cons (s_if (t_inD hu1 (e_var (pv 1)) (e_fld (e_var (pv 0)))) (b_one (s_ret (e_meth0N (e_dget hu1 (e_fld (e_var (pv 0))) (e_var (pv 1))) T.K_Holder T.m_Holder_many G_Holder_many (hr.mono (by decide)) T.b_Holder_many tk))) b_nil)
    (b_one (s_ret e_int))), ?_⟩
  intro ds G Q E h
  obtain ⟨B, who, rfl, hB, hl, k⟩ := h
  refine ⟨_, _, _, hB.b, ⟨T.K_Book, T.N_Book_people⟩, rfl, ?_⟩
  refine ⟨_, _, hB.p, rfl, ?_⟩
  rcases find_hol who B.ppl with hn | ⟨A, x, R, e1, e2, e3⟩
  · rw [valD_none hn]
    refine ite2 (fun h0 => nomatch h0) (fun _ => ?_)
    rw [aFind_none (by rw [absH_names]; exact hn)] at k
    exact UpV.of k
  · have hval : valD (pplK B.ppl) (.inr who) = some (.ref x.h) := by rw [e1, ← e2]; exact valD_at (e2 ▸ e3)
    have hx : x ∈ B.ppl := by rw [e1]; simp
    have hf : aFind who (absH B.ppl) = some x.ab := by
      rw [e1, absH, List.map_append, List.map_cons]
      exact aFind_at (by rw [absH_names]; exact e3) e2
    rw [hf] at k
    rw [hval]
    refine ite2 (fun _ => ?_) (fun h0 => absurd rfl h0)
    refine ⟨_, _, _, hB.b, ⟨T.K_Book, T.N_Book_people⟩, rfl, ?_⟩
    refine ⟨_, _, _, hB.p, rfl, hval, ?_⟩
    exact ⟨_, hB.h hx, rfl, x, rfl, ⟨hB.h hx, hB.l hx⟩, hl _ (List.mem_map_of_mem hx), UpV.of k⟩
theorem okH_Book_shares_of (T : Txt K mg a) : OkFnH P w K mg base 3 a.f_Book_shares_of a.d_Book_shares_of ["self", "who"] (sp_Book_shares_of a) := by
  have H_Holder_many : OkFnH P w K mg base 2 a.f_Holder_many a.d_Holder_many ["self"] (sp_Holder_many a) := okH_Holder_many T
  refine T.F_Book_shares_of.ok3H sc_Book_shares_of (fun ds G Q E h => ?_) (fun cdv A outer s H E p hot hr => ?_)
  · obtain ⟨B, who, rfl, _⟩ := h
    rfl
  have hu := hr.units
  have hu1 := L2H.hu_ofH hr
  have tk : Takes (L2H.cxH (L2.CX P w) P w K mg base ["self", "who"] "Book.shares_of" (defScope s_Book_shares_of) a.f_Book_shares_of cdv A outer s H E p) (fun cls d _ H' => E cls d H') := takes_of rfl rfl rfl rfl
  have hc : L2H.HotC (L2H.cxH (L2.CX P w) P w K mg base ["self", "who"] "Book.shares_of" (defScope s_Book_shares_of) a.f_Book_shares_of cdv A outer s H E p) := ⟨p, hot, List.mem_singleton.mpr rfl⟩
  refine ⟨_, (b_cons (s_if (t_inD hu1 (e_var (pv 1)) (e_fld (e_var (pv 0)))) (b_one (s_ret (e_meth0H (e_dget hu1 (e_fld (e_var (pv 0))) (e_var (pv 1))) T.K_Holder T.m_Holder_many H_Holder_many (hr.mono (by decide)) hc T.b_Holder_many tk))) b_nil)
    (b_one (s_ret e_int))), ?_⟩
  intro ds G Q E h
  obtain ⟨B, who, rfl, hB, hl, k⟩ := h
  refine ⟨_, _, _, hB.b, ⟨T.K_Book, T.N_Book_people⟩, rfl, ?_⟩
  refine ⟨_, _, hB.p, rfl, ?_⟩
  rcases find_hol who B.ppl with hn | ⟨A, x, R, e1, e2, e3⟩
  · rw [valD_none hn]
    refine ite2 (fun h0 => nomatch h0) (fun _ => ?_)
    rw [aFind_none (by rw [absH_names]; exact hn)] at k
    exact UpV.of k
  · have hval : valD (pplK B.ppl) (.inr who) = some (.ref x.h) := by rw [e1, ← e2]; exact valD_at (e2 ▸ e3)
    have hx : x ∈ B.ppl := by rw [e1]; simp
    have hf : aFind who (absH B.ppl) = some x.ab := by
      rw [e1, absH, List.map_append, List.map_cons]
      exact aFind_at (by rw [absH_names]; exact e3) e2
    rw [hf] at k
    rw [hval]
    refine ite2 (fun _ => ?_) (fun h0 => absurd rfl h0)
    refine ⟨_, _, _, hB.b, ⟨T.K_Book, T.N_Book_people⟩, rfl, ?_⟩
    refine ⟨_, _, _, hB.p, rfl, hval, ?_⟩
    exact ⟨_, hB.h hx, rfl, x, rfl, ⟨hB.h hx, hB.l hx⟩, hl _ (List.mem_map_of_mem hx), UpV.of k⟩
end
/-! ### Book.lots_of -/
def sp_Book_lots_of (a : Ad) : Sp3 := fun ds G Q _ => ∃ (B : Bk) (who : Str), ds = [.ref B.b, .str who] ∧ Has a.c_Book a.c_Holder B G ∧ (∀ x ∈ absH B.ppl, x.lots.length ≤ 1000) ∧ Q (.lst ((((aFind who (absH B.ppl)).map Ho.lots).getD []).map lotD)) G
theorem sc_Book_lots_of : FnScope ["self", "who"] ["self", "who"] (defScope s_Book_lots_of) := ⟨rfl, rfl, rfl, by decide +kernel, rfl, by decide +kernel, by decide +kernel⟩
section
variable {P : Program} {w : World} {K : PySem.W.Frag} {mg : Str → Option Value} {base : Heap} {a : Ad}
theorem ok_Book_lots_of (T : Txt K mg a) : OkFnN P w K mg base 1 a.f_Book_lots_of a.d_Book_lots_of ["self", "who"] (sp_Book_lots_of a) := by
  refine T.F_Book_lots_of.ok3N sc_Book_lots_of (fun ds G Q E h => ?_) (fun cdv A outer s H E hr => ?_)
  · obtain ⟨B, who, rfl, _⟩ := h
    rfl
  have hu := hr.units
  have hu1 := hu_of hr
  have tk : L2N.Takes (cxOf (L2N.CX P w) P w K mg base ["self", "who"] "Book.lots_of" (defScope s_Book_lots_of) a.f_Book_lots_of cdv A outer s H E) (fun cls d _ H' => E cls d H') := L2N.takes_of rfl rfl rfl rfl
  refine ⟨_, (b_cons (s_if (t_inD hu1 (e_var (pv 1)) (e_fld (e_var (pv 0)))) (b_one (s_ret (e_callTy call_list_of cl_list rfl T.z_list (by decide +kernel) (a_cons (e_fld (e_dget hu1 (e_fld (e_var (pv 0))) (e_var (pv 1)))) a_nil)))) b_nil)
    (b_one (s_ret (e_lst a_nil)))), ?_⟩
  intro ds G Q E h
  obtain ⟨B, who, rfl, hB, hl, k⟩ := h
  refine ⟨_, _, _, hB.b, ⟨T.K_Book, T.N_Book_people⟩, rfl, ?_⟩
  refine ⟨_, _, hB.p, rfl, ?_⟩
  rcases find_hol who B.ppl with hn | ⟨A, x, R, e1, e2, e3⟩
  · rw [valD_none hn]
    refine ite2 (fun h0 => nomatch h0) (fun _ => ?_)
    rw [aFind_none (by rw [absH_names]; exact hn)] at k
    exact ⟨Nat.zero_le _, UpV.of k⟩
  · have hval : valD (pplK B.ppl) (.inr who) = some (.ref x.h) := by rw [e1, ← e2]; exact valD_at (e2 ▸ e3)
    have hx : x ∈ B.ppl := by rw [e1]; simp
    have hf : aFind who (absH B.ppl) = some x.ab := by
      rw [e1, absH, List.map_append, List.map_cons]
      exact aFind_at (by rw [absH_names]; exact e3) e2
    rw [hf] at k
    rw [hval]
    refine ite2 (fun _ => ?_) (fun h0 => absurd rfl h0)
    refine ⟨_, _, _, hB.b, ⟨T.K_Book, T.N_Book_people⟩, rfl, ?_⟩
    refine ⟨_, _, _, hB.p, rfl, hval, ?_⟩
    exact ⟨_, _, _, hB.h hx, ⟨T.K_Holder, T.N_Holder_lots⟩, rfl, _, hB.l hx, UpV.of k⟩
theorem okH_Book_lots_of (T : Txt K mg a) : OkFnH P w K mg base 1 a.f_Book_lots_of a.d_Book_lots_of ["self", "who"] (sp_Book_lots_of a) := by
  refine T.F_Book_lots_of.ok3H sc_Book_lots_of (fun ds G Q E h => ?_) (fun cdv A outer s H E p hot hr => ?_)
  · obtain ⟨B, who, rfl, _⟩ := h
    rfl
  have hu := hr.units
  have hu1 := L2H.hu_ofH hr
  have tk : Takes (L2H.cxH (L2.CX P w) P w K mg base ["self", "who"] "Book.lots_of" (defScope s_Book_lots_of) a.f_Book_lots_of cdv A outer s H E p) (fun cls d _ H' => E cls d H') := takes_of rfl rfl rfl rfl
  have hc : L2H.HotC (L2H.cxH (L2.CX P w) P w K mg base ["self", "who"] "Book.lots_of" (defScope s_Book_lots_of) a.f_Book_lots_of cdv A outer s H E p) := ⟨p, hot, List.mem_singleton.mpr rfl⟩
  refine ⟨_, (b_cons (s_if (t_inD hu1 (e_var (pv 1)) (e_fld (e_var (pv 0)))) (b_one (s_ret (e_callTy call_list_of cl_list rfl T.z_list (by decide +kernel) (a_cons (e_fld (e_dget hu1 (e_fld (e_var (pv 0))) (e_var (pv 1)))) a_nil)))) b_nil)
    (b_one (s_ret (e_lst a_nil)))), ?_⟩
  intro ds G Q E h
  obtain ⟨B, who, rfl, hB, hl, k⟩ := h
  refine ⟨_, _, _, hB.b, ⟨T.K_Book, T.N_Book_people⟩, rfl, ?_⟩
  refine ⟨_, _, hB.p, rfl, ?_⟩
  rcases find_hol who B.ppl with hn | ⟨A, x, R, e1, e2, e3⟩
  · rw [valD_none hn]
    refine ite2 (fun h0 => nomatch h0) (fun _ => ?_)
    rw [aFind_none (by rw [absH_names]; exact hn)] at k
    exact ⟨Nat.zero_le _, UpV.of k⟩
  · have hval : valD (pplK B.ppl) (.inr who) = some (.ref x.h) := by rw [e1, ← e2]; exact valD_at (e2 ▸ e3)
    have hx : x ∈ B.ppl := by rw [e1]; simp
    have hf : aFind who (absH B.ppl) = some x.ab := by
      rw [e1, absH, List.map_append, List.map_cons]
      exact aFind_at (by rw [absH_names]; exact e3) e2
    rw [hf] at k
    rw [hval]
    refine ite2 (fun _ => ?_) (fun h0 => absurd rfl h0)
    refine ⟨_, _, _, hB.b, ⟨T.K_Book, T.N_Book_people⟩, rfl, ?_⟩
    refine ⟨_, _, _, hB.p, rfl, hval, ?_⟩
    exact ⟨_, _, _, hB.h hx, ⟨T.K_Holder, T.N_Holder_lots⟩, rfl, _, hB.l hx, UpV.of k⟩
end
/-! ### Book.gain_of -/
def sp_Book_gain_of (a : Ad) : Sp3 := fun ds G Q _ => ∃ (B : Bk) (who : Str), ds = [.ref B.b, .str who] ∧ Has a.c_Book a.c_Holder B G ∧ (∀ x ∈ absH B.ppl, x.lots.length ≤ 1000) ∧ Q (.int (((aFind who (absH B.ppl)).map Ho.gain).getD 0)) G
theorem sc_Book_gain_of : FnScope ["self", "who"] ["self", "who"] (defScope s_Book_gain_of) := ⟨rfl, rfl, rfl, by decide +kernel, rfl, by decide +kernel, by decide +kernel⟩
section
variable {P : Program} {w : World} {K : PySem.W.Frag} {mg : Str → Option Value} {base : Heap} {a : Ad}
theorem ok_Book_gain_of (T : Txt K mg a) : OkFnN P w K mg base 1 a.f_Book_gain_of a.d_Book_gain_of ["self", "who"] (sp_Book_gain_of a) := by
  refine T.F_Book_gain_of.ok3N sc_Book_gain_of (fun ds G Q E h => ?_) (fun cdv A outer s H E hr => ?_)
  · obtain ⟨B, who, rfl, _⟩ := h
    rfl
  have hu := hr.units
  have hu1 := hu_of hr
  have tk : L2N.Takes (cxOf (L2N.CX P w) P w K mg base ["self", "who"] "Book.gain_of" (defScope s_Book_gain_of) a.f_Book_gain_of cdv A outer s H E) (fun cls d _ H' => E cls d H') := L2N.takes_of rfl rfl rfl rfl
  refine ⟨_, (b_cons (s_if (t_inD hu1 (e_var (pv 1)) (e_fld (e_var (pv 0)))) (b_one (s_ret (e_fld (e_dget hu1 (e_fld (e_var (pv 0))) (e_var (pv 1)))))) b_nil)
    (b_one (s_ret e_int))), ?_⟩
  intro ds G Q E h
  obtain ⟨B, who, rfl, hB, hl, k⟩ := h
  refine ⟨_, _, _, hB.b, ⟨T.K_Book, T.N_Book_people⟩, rfl, ?_⟩
  refine ⟨_, _, hB.p, rfl, ?_⟩
  rcases find_hol who B.ppl with hn | ⟨A, x, R, e1, e2, e3⟩
  · rw [valD_none hn]
    refine ite2 (fun h0 => nomatch h0) (fun _ => ?_)
    rw [aFind_none (by rw [absH_names]; exact hn)] at k
    exact UpV.of k
  · have hval : valD (pplK B.ppl) (.inr who) = some (.ref x.h) := by rw [e1, ← e2]; exact valD_at (e2 ▸ e3)
    have hx : x ∈ B.ppl := by rw [e1]; simp
    have hf : aFind who (absH B.ppl) = some x.ab := by
      rw [e1, absH, List.map_append, List.map_cons]
      exact aFind_at (by rw [absH_names]; exact e3) e2
    rw [hf] at k
    rw [hval]
    refine ite2 (fun _ => ?_) (fun h0 => absurd rfl h0)
    refine ⟨_, _, _, hB.b, ⟨T.K_Book, T.N_Book_people⟩, rfl, ?_⟩
    refine ⟨_, _, _, hB.p, rfl, hval, ?_⟩
    exact ⟨_, _, _, hB.h hx, ⟨T.K_Holder, T.N_Holder_gain⟩, rfl, UpV.of k⟩
theorem okH_Book_gain_of (T : Txt K mg a) : OkFnH P w K mg base 1 a.f_Book_gain_of a.d_Book_gain_of ["self", "who"] (sp_Book_gain_of a) := by
  refine T.F_Book_gain_of.ok3H sc_Book_gain_of (fun ds G Q E h => ?_) (fun cdv A outer s H E p hot hr => ?_)
  · obtain ⟨B, who, rfl, _⟩ := h
    rfl
  have hu := hr.units
  have hu1 := L2H.hu_ofH hr
  have tk : Takes (L2H.cxH (L2.CX P w) P w K mg base ["self", "who"] "Book.gain_of" (defScope s_Book_gain_of) a.f_Book_gain_of cdv A outer s H E p) (fun cls d _ H' => E cls d H') := takes_of rfl rfl rfl rfl
  have hc : L2H.HotC (L2H.cxH (L2.CX P w) P w K mg base ["self", "who"] "Book.gain_of" (defScope s_Book_gain_of) a.f_Book_gain_of cdv A outer s H E p) := ⟨p, hot, List.mem_singleton.mpr rfl⟩
  refine ⟨_, (b_cons (s_if (t_inD hu1 (e_var (pv 1)) (e_fld (e_var (pv 0)))) (b_one (s_ret (e_fld (e_dget hu1 (e_fld (e_var (pv 0))) (e_var (pv 1)))))) b_nil)
    (b_one (s_ret e_int))), ?_⟩
  intro ds G Q E h
  obtain ⟨B, who, rfl, hB, hl, k⟩ := h
  refine ⟨_, _, _, hB.b, ⟨T.K_Book, T.N_Book_people⟩, rfl, ?_⟩
  refine ⟨_, _, hB.p, rfl, ?_⟩
  rcases find_hol who B.ppl with hn | ⟨A, x, R, e1, e2, e3⟩
  · rw [valD_none hn]
    refine ite2 (fun h0 => nomatch h0) (fun _ => ?_)
    rw [aFind_none (by rw [absH_names]; exact hn)] at k
    exact UpV.of k
  · have hval : valD (pplK B.ppl) (.inr who) = some (.ref x.h) := by rw [e1, ← e2]; exact valD_at (e2 ▸ e3)
    have hx : x ∈ B.ppl := by rw [e1]; simp
    have hf : aFind who (absH B.ppl) = some x.ab := by
      rw [e1, absH, List.map_append, List.map_cons]
      exact aFind_at (by rw [absH_names]; exact e3) e2
    rw [hf] at k
    rw [hval]
    refine ite2 (fun _ => ?_) (fun h0 => absurd rfl h0)
    refine ⟨_, _, _, hB.b, ⟨T.K_Book, T.N_Book_people⟩, rfl, ?_⟩
    refine ⟨_, _, _, hB.p, rfl, hval, ?_⟩
    exact ⟨_, _, _, hB.h hx, ⟨T.K_Holder, T.N_Holder_gain⟩, rfl, UpV.of k⟩
end
/-! ### Book.got_of -/
def sp_Book_got_of (a : Ad) : Sp3 := fun ds G Q _ => ∃ (B : Bk) (who : Str), ds = [.ref B.b, .str who] ∧ Has a.c_Book a.c_Holder B G ∧ (∀ x ∈ absH B.ppl, x.lots.length ≤ 1000) ∧ Q (.int (((aFind who (absH B.ppl)).map Ho.got).getD 0)) G
theorem sc_Book_got_of : FnScope ["self", "who"] ["self", "who"] (defScope s_Book_got_of) := ⟨rfl, rfl, rfl, by decide +kernel, rfl, by decide +kernel, by decide +kernel⟩
section
variable {P : Program} {w : World} {K : PySem.W.Frag} {mg : Str → Option Value} {base : Heap} {a : Ad}
theorem ok_Book_got_of (T : Txt K mg a) : OkFnN P w K mg base 1 a.f_Book_got_of a.d_Book_got_of ["self", "who"] (sp_Book_got_of a) := by
  refine T.F_Book_got_of.ok3N sc_Book_got_of (fun ds G Q E h => ?_) (fun cdv A outer s H E hr => ?_)
  · obtain ⟨B, who, rfl, _⟩ := h
    rfl
  have hu := hr.units
  have hu1 := hu_of hr
  have tk : L2N.Takes (cxOf (L2N.CX P w) P w K mg base ["self", "who"] "Book.got_of" (defScope s_Book_got_of) a.f_Book_got_of cdv A outer s H E) (fun cls d _ H' => E cls d H') := L2N.takes_of rfl rfl rfl rfl
  refine ⟨_, (b_cons (s_if (t_inD hu1 (e_var (pv 1)) (e_fld (e_var (pv 0)))) (b_one (s_ret (e_fld (e_dget hu1 (e_fld (e_var (pv 0))) (e_var (pv 1)))))) b_nil)
    (b_one (s_ret e_int))), ?_⟩
  intro ds G Q E h
  obtain ⟨B, who, rfl, hB, hl, k⟩ := h
  refine ⟨_, _, _, hB.b, ⟨T.K_Book, T.N_Book_people⟩, rfl, ?_⟩
  refine ⟨_, _, hB.p, rfl, ?_⟩
  rcases find_hol who B.ppl with hn | ⟨A, x, R, e1, e2, e3⟩
  · rw [valD_none hn]
    refine ite2 (fun h0 => nomatch h0) (fun _ => ?_)
    rw [aFind_none (by rw [absH_names]; exact hn)] at k
    exact UpV.of k
  · have hval : valD (pplK B.ppl) (.inr who) = some (.ref x.h) := by rw [e1, ← e2]; exact valD_at (e2 ▸ e3)
    have hx : x ∈ B.ppl := by rw [e1]; simp
    have hf : aFind who (absH B.ppl) = some x.ab := by
      rw [e1, absH, List.map_append, List.map_cons]
      exact aFind_at (by rw [absH_names]; exact e3) e2
    rw [hf] at k
    rw [hval]
    refine ite2 (fun _ => ?_) (fun h0 => absurd rfl h0)
    refine ⟨_, _, _, hB.b, ⟨T.K_Book, T.N_Book_people⟩, rfl, ?_⟩
    refine ⟨_, _, _, hB.p, rfl, hval, ?_⟩
    exact ⟨_, _, _, hB.h hx, ⟨T.K_Holder, T.N_Holder_got⟩, rfl, UpV.of k⟩
theorem okH_Book_got_of (T : Txt K mg a) : OkFnH P w K mg base 1 a.f_Book_got_of a.d_Book_got_of ["self", "who"] (sp_Book_got_of a) := by
  refine T.F_Book_got_of.ok3H sc_Book_got_of (fun ds G Q E h => ?_) (fun cdv A outer s H E p hot hr => ?_)
  · obtain ⟨B, who, rfl, _⟩ := h
    rfl
  have hu := hr.units
  have hu1 := L2H.hu_ofH hr
  have tk : Takes (L2H.cxH (L2.CX P w) P w K mg base ["self", "who"] "Book.got_of" (defScope s_Book_got_of) a.f_Book_got_of cdv A outer s H E p) (fun cls d _ H' => E cls d H') := takes_of rfl rfl rfl rfl
  have hc : L2H.HotC (L2H.cxH (L2.CX P w) P w K mg base ["self", "who"] "Book.got_of" (defScope s_Book_got_of) a.f_Book_got_of cdv A outer s H E p) := ⟨p, hot, List.mem_singleton.mpr rfl⟩
  refine ⟨_, (b_cons (s_if (t_inD hu1 (e_var (pv 1)) (e_fld (e_var (pv 0)))) (b_one (s_ret (e_fld (e_dget hu1 (e_fld (e_var (pv 0))) (e_var (pv 1)))))) b_nil)
    (b_one (s_ret e_int))), ?_⟩
  intro ds G Q E h
  obtain ⟨B, who, rfl, hB, hl, k⟩ := h
  refine ⟨_, _, _, hB.b, ⟨T.K_Book, T.N_Book_people⟩, rfl, ?_⟩
  refine ⟨_, _, hB.p, rfl, ?_⟩
  rcases find_hol who B.ppl with hn | ⟨A, x, R, e1, e2, e3⟩
  · rw [valD_none hn]
    refine ite2 (fun h0 => nomatch h0) (fun _ => ?_)
    rw [aFind_none (by rw [absH_names]; exact hn)] at k
    exact UpV.of k
  · have hval : valD (pplK B.ppl) (.inr who) = some (.ref x.h) := by rw [e1, ← e2]; exact valD_at (e2 ▸ e3)
    have hx : x ∈ B.ppl := by rw [e1]; simp
    have hf : aFind who (absH B.ppl) = some x.ab := by
      rw [e1, absH, List.map_append, List.map_cons]
      exact aFind_at (by rw [absH_names]; exact e3) e2
    rw [hf] at k
    rw [hval]
    refine ite2 (fun _ => ?_) (fun h0 => absurd rfl h0)
    refine ⟨_, _, _, hB.b, ⟨T.K_Book, T.N_Book_people⟩, rfl, ?_⟩
    refine ⟨_, _, _, hB.p, rfl, hval, ?_⟩
    exact ⟨_, _, _, hB.h hx, ⟨T.K_Holder, T.N_Holder_got⟩, rfl, UpV.of k⟩
end
/-! ### Book.days_of -/
def sp_Book_days_of (a : Ad) : Sp3 := fun ds G Q _ => ∃ (B : Bk) (who : Str), ds = [.ref B.b, .str who] ∧ Has a.c_Book a.c_Holder B G ∧ (∀ x ∈ absH B.ppl, x.lots.length ≤ 1000) ∧ Q (.int (((aFind who (absH B.ppl)).map Ho.days).getD 0)) G
theorem sc_Book_days_of : FnScope ["self", "who"] ["self", "who"] (defScope s_Book_days_of) := ⟨rfl, rfl, rfl, by decide +kernel, rfl, by decide +kernel, by decide +kernel⟩
section
variable {P : Program} {w : World} {K : PySem.W.Frag} {mg : Str → Option Value} {base : Heap} {a : Ad}
theorem ok_Book_days_of (T : Txt K mg a) : OkFnN P w K mg base 1 a.f_Book_days_of a.d_Book_days_of ["self", "who"] (sp_Book_days_of a) := by
  refine T.F_Book_days_of.ok3N sc_Book_days_of (fun ds G Q E h => ?_) (fun cdv A outer s H E hr => ?_)
  · obtain ⟨B, who, rfl, _⟩ := h
    rfl
  have hu := hr.units
  have hu1 := hu_of hr
  have tk : L2N.Takes (cxOf (L2N.CX P w) P w K mg base ["self", "who"] "Book.days_of" (defScope s_Book_days_of) a.f_Book_days_of cdv A outer s H E) (fun cls d _ H' => E cls d H') := L2N.takes_of rfl rfl rfl rfl
  refine ⟨_, (b_cons (s_if (t_inD hu1 (e_var (pv 1)) (e_fld (e_var (pv 0)))) (b_one (s_ret (e_fld (e_dget hu1 (e_fld (e_var (pv 0))) (e_var (pv 1)))))) b_nil)
    (b_one (s_ret e_int))), ?_⟩
  intro ds G Q E h
  obtain ⟨B, who, rfl, hB, hl, k⟩ := h
  refine ⟨_, _, _, hB.b, ⟨T.K_Book, T.N_Book_people⟩, rfl, ?_⟩
  refine ⟨_, _, hB.p, rfl, ?_⟩
  rcases find_hol who B.ppl with hn | ⟨A, x, R, e1, e2, e3⟩
  · rw [valD_none hn]
    refine ite2 (fun h0 => nomatch h0) (fun _ => ?_)
    rw [aFind_none (by rw [absH_names]; exact hn)] at k
    exact UpV.of k
  · have hval : valD (pplK B.ppl) (.inr who) = some (.ref x.h) := by rw [e1, ← e2]; exact valD_at (e2 ▸ e3)
    have hx : x ∈ B.ppl := by rw [e1]; simp
    have hf : aFind who (absH B.ppl) = some x.ab := by
      rw [e1, absH, List.map_append, List.map_cons]
      exact aFind_at (by rw [absH_names]; exact e3) e2
    rw [hf] at k
    rw [hval]
    refine ite2 (fun _ => ?_) (fun h0 => absurd rfl h0)
    refine ⟨_, _, _, hB.b, ⟨T.K_Book, T.N_Book_people⟩, rfl, ?_⟩
    refine ⟨_, _, _, hB.p, rfl, hval, ?_⟩
    exact ⟨_, _, _, hB.h hx, ⟨T.K_Holder, T.N_Holder_days⟩, rfl, UpV.of k⟩
theorem okH_Book_days_of (T : Txt K mg a) : OkFnH P w K mg base 1 a.f_Book_days_of a.d_Book_days_of ["self", "who"] (sp_Book_days_of a) := by
  refine T.F_Book_days_of.ok3H sc_Book_days_of (fun ds G Q E h => ?_) (fun cdv A outer s H E p hot hr => ?_)
  · obtain ⟨B, who, rfl, _⟩ := h
    rfl
  have hu := hr.units
  have hu1 := L2H.hu_ofH hr
  have tk : Takes (L2H.cxH (L2.CX P w) P w K mg base ["self", "who"] "Book.days_of" (defScope s_Book_days_of) a.f_Book_days_of cdv A outer s H E p) (fun cls d _ H' => E cls d H') := takes_of rfl rfl rfl rfl
  have hc : L2H.HotC (L2H.cxH (L2.CX P w) P w K mg base ["self", "who"] "Book.days_of" (defScope s_Book_days_of) a.f_Book_days_of cdv A outer s H E p) := ⟨p, hot, List.mem_singleton.mpr rfl⟩
  refine ⟨_, (b_cons (s_if (t_inD hu1 (e_var (pv 1)) (e_fld (e_var (pv 0)))) (b_one (s_ret (e_fld (e_dget hu1 (e_fld (e_var (pv 0))) (e_var (pv 1)))))) b_nil)
    (b_one (s_ret e_int))), ?_⟩
  intro ds G Q E h
  obtain ⟨B, who, rfl, hB, hl, k⟩ := h
  refine ⟨_, _, _, hB.b, ⟨T.K_Book, T.N_Book_people⟩, rfl, ?_⟩
  refine ⟨_, _, hB.p, rfl, ?_⟩
  rcases find_hol who B.ppl with hn | ⟨A, x, R, e1, e2, e3⟩
  · rw [valD_none hn]
    refine ite2 (fun h0 => nomatch h0) (fun _ => ?_)
    rw [aFind_none (by rw [absH_names]; exact hn)] at k
    exact UpV.of k
  · have hval : valD (pplK B.ppl) (.inr who) = some (.ref x.h) := by rw [e1, ← e2]; exact valD_at (e2 ▸ e3)
    have hx : x ∈ B.ppl := by rw [e1]; simp
    have hf : aFind who (absH B.ppl) = some x.ab := by
      rw [e1, absH, List.map_append, List.map_cons]
      exact aFind_at (by rw [absH_names]; exact e3) e2
    rw [hf] at k
    rw [hval]
    refine ite2 (fun _ => ?_) (fun h0 => absurd rfl h0)
    refine ⟨_, _, _, hB.b, ⟨T.K_Book, T.N_Book_people⟩, rfl, ?_⟩
    refine ⟨_, _, _, hB.p, rfl, hval, ?_⟩
    exact ⟨_, _, _, hB.h hx, ⟨T.K_Holder, T.N_Holder_days⟩, rfl, UpV.of k⟩
end
/-! ### _law_whole -/
/-- a whole number or not -/
def sp_law_whole : Sp3 := fun ds G Q _ => ∃ d, ds = [d] ∧ (∀ a, d ≠ .ref a) ∧ Q (.bl (isInt3 d && !isBool3 d)) G
theorem sc_law_whole : FnScope ["_law_found"] ["_law_found"] (defScope s_law_whole) := ⟨rfl, rfl, rfl, by decide +kernel, rfl, by decide +kernel, by decide +kernel⟩
section
variable {P : Program} {w : World} {K : PySem.W.Frag} {mg : Str → Option Value} {base : Heap} {a : Ad}
theorem ok_law_whole (T : Txt K mg a) : OkFnN P w K mg base 1 a.f_law_whole a.d_law_whole ["_law_found"] sp_law_whole := by
  refine T.F_law_whole.ok3N sc_law_whole (fun ds G Q E h => ?_) (fun cdv A outer s H E hr => ?_)
  · obtain ⟨d, rfl, _⟩ := h
    rfl
  have hu := hr.units
  have hu1 := hu_of hr
  have tk : L2N.Takes (cxOf (L2N.CX P w) P w K mg base ["_law_found"] "_law_whole" (defScope s_law_whole) a.f_law_whole cdv A outer s H E) (fun cls d _ H' => E cls d H') := L2N.takes_of rfl rfl rfl rfl
  refine ⟨_, (b_one (s_ret (e_and (e_isi isT_int rfl T.z_isinstance rfl T.z_int (by decide +kernel) (e_var (pv 0))) (e_one (e_not (e_isi isT_bool rfl T.z_isinstance rfl T.z_bool (by decide +kernel) (e_var (pv 0)))))))), ?_⟩
  intro ds G Q E h
  obtain ⟨d, rfl, hd, k⟩ := h
  cases d with
  | ref a => exact absurd rfl (hd a)
  | _ => exact UpV.of k
theorem okH_law_whole (T : Txt K mg a) : OkFnH P w K mg base 1 a.f_law_whole a.d_law_whole ["_law_found"] sp_law_whole := by
  refine T.F_law_whole.ok3H sc_law_whole (fun ds G Q E h => ?_) (fun cdv A outer s H E p hot hr => ?_)
  · obtain ⟨d, rfl, _⟩ := h
    rfl
  have hu := hr.units
  have hu1 := L2H.hu_ofH hr
  have tk : Takes (L2H.cxH (L2.CX P w) P w K mg base ["_law_found"] "_law_whole" (defScope s_law_whole) a.f_law_whole cdv A outer s H E p) (fun cls d _ H' => E cls d H') := takes_of rfl rfl rfl rfl
  have hc : L2H.HotC (L2H.cxH (L2.CX P w) P w K mg base ["_law_found"] "_law_whole" (defScope s_law_whole) a.f_law_whole cdv A outer s H E p) := ⟨p, hot, List.mem_singleton.mpr rfl⟩
  refine ⟨_, (b_one (s_ret (e_and (e_isi isT_int rfl T.z_isinstance rfl T.z_int (by decide +kernel) (e_var (pv 0))) (e_one (e_not (e_isi isT_bool rfl T.z_isinstance rfl T.z_bool (by decide +kernel) (e_var (pv 0)))))))), ?_⟩
  intro ds G Q E h
  obtain ⟨d, rfl, hd, k⟩ := h
  cases d with
  | ref a => exact absurd rfl (hd a)
  | _ => exact UpV.of k
end
/-! ### _law_cell_at -/
/-- the script's number at a place, nought behind its end -/
def cellAt (ns : List Int) (k : Int) : Int := ns.getD k.toNat 0
theorem cell_bl {ns : List Int} (hs : ScOk ns) (k : Int) : bl (cellAt ns k) ≤ 1048576 := by
  unfold cellAt
  by_cases h : k.toNat < ns.length
  · exact hs.bits _ (by simp [List.getD, h])
  · rw [List.getD, List.getElem?_eq_none (Nat.le_of_not_lt h)]; decide +kernel
def sp_law_cell_at : Sp3 := fun ds G Q _ => ∃ (ns : List Int) (k : Int), ds = [.scr ns, .int k] ∧ 0 ≤ k ∧ Q (.int (cellAt ns k)) G
theorem sc_law_cell_at : FnScope ["_law_script", "_law_k"] ["_law_script", "_law_k"] (defScope s_law_cell_at) := ⟨rfl, rfl, rfl, by decide +kernel, rfl, by decide +kernel, by decide +kernel⟩
section
variable {P : Program} {w : World} {K : PySem.W.Frag} {mg : Str → Option Value} {base : Heap} {a : Ad}
theorem ok_law_cell_at (T : Txt K mg a) : OkFnN P w K mg base 1 a.f_law_cell_at a.d_law_cell_at ["_law_script", "_law_k"] sp_law_cell_at := by
  refine T.F_law_cell_at.ok3N sc_law_cell_at (fun ds G Q E h => ?_) (fun cdv A outer s H E hr => ?_)
  · obtain ⟨ns, k, rfl, _⟩ := h
    rfl
  have hu := hr.units
  have hu1 := hu_of hr
  have tk : L2N.Takes (cxOf (L2N.CX P w) P w K mg base ["_law_script", "_law_k"] "_law_cell_at" (defScope s_law_cell_at) a.f_law_cell_at cdv A outer s H E) (fun cls d _ H' => E cls d H') := L2N.takes_of rfl rfl rfl rfl
  refine ⟨_, (b_cons (s_if (t_lt (e_var (pv 1)) (e_callB call_len cl_len rfl T.z_len (by decide +kernel) (a_cons (e_var (pv 0)) a_nil))) (b_one (s_ret (e_ix (e_var (pv 0)) (e_var (pv 1))))) b_nil)
    (b_one (s_ret e_int))), ?_⟩
  intro ds G Q E h
  obtain ⟨ns, k, rfl, h0, q⟩ := h
  obtain ⟨k, rfl⟩ := Int.eq_ofNat_of_zero_le h0
  refine ite2 (fun hlt => ?_) (fun hlt => ?_)
  · have hk : k < ns.length := by simpa using hlt
    refine ⟨ns[k], atI_nat (by simp [hk]), UpV.of ?_⟩
    have e : cellAt ns k = ns[k] := by simp [cellAt, List.getD, hk]
    rw [← e]; exact q
  · have hk : ¬ k < ns.length := by simpa using hlt
    have e : cellAt ns k = 0 := by simp [cellAt, List.getD, List.getElem?_eq_none (Nat.le_of_not_lt hk)]
    refine UpV.of ?_
    rw [e] at q; exact q
end
/-! ### _law_drawn -/
def drawn (c : Int) : List Int → List Int
  | [] => []
  | s :: r => c % s :: drawn (c / s) r
/-- what is left of the cell -/
def rest (c : Int) : List Int → Int
  | [] => c
  | s :: r => rest (c / s) r
theorem drawn_snoc (c : Int) : ∀ (ss : List Int) (s : Int), drawn c (ss ++ [s]) = drawn c ss ++ [rest c ss % s]
  | [], s => rfl
  | t :: r, s => by simp only [List.cons_append, drawn, rest, drawn_snoc (c / t) r s]
theorem rest_snoc (c : Int) : ∀ (ss : List Int) (s : Int), rest c (ss ++ [s]) = rest c ss / s
  | [], s => rfl
  | t :: r, s => by simp only [List.cons_append, rest, rest_snoc (c / t) r s]
theorem drawn_length (c : Int) : ∀ ss : List Int, (drawn c ss).length = ss.length
  | [] => rfl
  | t :: r => by simp [drawn, drawn_length (c / t) r]
def sp_law_drawn : Sp3 := fun ds G Q _ => ∃ (c : Int) (ss : List Int), ds = [.int c, .lst (ss.map .int)] ∧ (ss.length ≤ 1000 ∧ ∀ s ∈ ss, 0 < s ∧ s < 2 ^ 8000) ∧ Q (.lst ((drawn c ss).map .int)) G
theorem sc_law_drawn : FnScope ["_law_cell", "_law_sizes", "_law_found", "_law_size"] ["_law_cell", "_law_sizes"] (defScope s_law_drawn) := ⟨rfl, rfl, rfl, by decide +kernel, rfl, by decide +kernel, by decide +kernel⟩
section
variable {P : Program} {w : World} {K : PySem.W.Frag} {mg : Str → Option Value} {base : Heap} {a : Ad}
theorem ok_law_drawn (T : Txt K mg a) : OkFnN P w K mg base 1 a.f_law_drawn a.d_law_drawn ["_law_cell", "_law_sizes"] sp_law_drawn := by
  refine T.F_law_drawn.ok3N sc_law_drawn (fun ds G Q E h => ?_) (fun cdv A outer s H E hr => ?_)
  · obtain ⟨c, ss, rfl, _⟩ := h
    rfl
  have hu := hr.units
  have hu1 := hu_of hr
  have tk : L2N.Takes (cxOf (L2N.CX P w) P w K mg base ["_law_cell", "_law_sizes", "_law_found", "_law_size"] "_law_drawn" (defScope s_law_drawn) a.f_law_drawn cdv A outer s H E) (fun cls d _ H' => E cls d H') := L2N.takes_of rfl rfl rfl rfl
  refine ⟨_, (b_cons (s_asg (ps_set (i := 2) sc_law_drawn.nd rfl (.inl rfl) (e_lstO a_nil)))
    (b_cons (s_wk (s_for (passes_of rfl) rfl (i_list (e_var (pv 1))) (g_name (pg_name (i := 3) sc_law_drawn.nd rfl (.inl rfl))) (b_cons (s_expr (e_append (pe_bm PySem.F.plainAttrs_list PySem.F.slot_list_append PySem.F.type_list_append mt_append (e_var (pv 2)) (pa_cons (e_mod (e_var (pv 0)) (e_var (pv 3))) pa_nil))))
    (b_one (s_asg (ps_set (i := 0) sc_law_drawn.nd rfl (.inl rfl) (e_fdiv (e_var (pv 0)) (e_var (pv 3)))))))))
    (b_one (s_ret (e_var (pv 2)))))), ?_⟩
  intro ds G Q E h
  obtain ⟨c, ss, rfl, ⟨hl, hs⟩, q⟩ := h
  refine ⟨Nat.zero_le _, fun p => ?_⟩
  refine ⟨_, rfl, ?_⟩
  refine ⟨fun i σ G' => ∃ x, σ = [some (.int (rest c (ss.take i))), some (.lst (ss.map .int)), some (.ref p), x] ∧ G' = (p, .lst ((drawn c (ss.take i)).map .int)) :: G, Up.of ⟨_, rfl, rfl⟩, fun _ _ _ _ _ => rfl, ?_, ?_⟩
  · rintro i d σ' G' hd ⟨x, rfl, rfl⟩
    obtain ⟨s, h1, rfl⟩ := get_map hd
    have hi := get_lt h1
    obtain ⟨p1, p2⟩ := hs s (get_mem h1)
    refine ⟨⟨_, .head _⟩, p1, _, _, .head, size_lt ?_, div_lt p1 p2, Up.of ⟨some (.int s), ?_, ?_⟩⟩
    · simp only [List.length_map, drawn_length, List.length_take]; omega
    · rw [take_snoc h1, rest_snoc]; rfl
    · rw [take_snoc h1, drawn_snoc, List.map_append]; rfl
  · rintro σ' G' ⟨x, rfl, rfl⟩
    rw [List.length_map, List.take_length]
    exact Up.of (UpV.list q)
end
/-! ### _law_mixed -/
def sp_law_mixed : Sp3 := fun ds G Q _ => ∃ (c p : Int), ds = [.int c, .int p] ∧ (bl c ≤ 2000000 ∧ 0 ≤ p ∧ p < 2 ^ 60) ∧ Q (.int (mixed c p)) G
theorem sc_law_mixed : FnScope ["_law_cell", "_law_place"] ["_law_cell", "_law_place"] (defScope s_law_mixed) := ⟨rfl, rfl, rfl, by decide +kernel, rfl, by decide +kernel, by decide +kernel⟩
section
variable {P : Program} {w : World} {K : PySem.W.Frag} {mg : Str → Option Value} {base : Heap} {a : Ad}
theorem ok_law_mixed (T : Txt K mg a) : OkFnN P w K mg base 1 a.f_law_mixed a.d_law_mixed ["_law_cell", "_law_place"] sp_law_mixed := by
  refine T.F_law_mixed.ok3N sc_law_mixed (fun ds G Q E h => ?_) (fun cdv A outer s H E hr => ?_)
  · obtain ⟨c, p, rfl, _⟩ := h
    rfl
  have hu := hr.units
  have hu1 := hu_of hr
  have tk : L2N.Takes (cxOf (L2N.CX P w) P w K mg base ["_law_cell", "_law_place"] "_law_mixed" (defScope s_law_mixed) a.f_law_mixed cdv A outer s H E) (fun cls d _ H' => E cls d H') := L2N.takes_of rfl rfl rfl rfl
  refine ⟨_, (b_one (s_ret (e_mul (e_add (e_var (pv 0)) (e_mul e_int (e_var (pv 1)))) (e_pow e_int e_int)))), ?_⟩
  intro ds G Q E h
  obtain ⟨c, p, rfl, ⟨hc, h0, hp⟩, k⟩ := h
  refine ⟨mul_small (by decide) (by decide) h0 (Int.lt_trans hp (by decide)), ⟨by decide, by decide, by decide⟩, ?_, UpV.of k⟩
  have h1 := bl_61 h0 hp
  have h2 := bl_add c (61 * p)
  exact mul_ok (a := 2000001) (b := 99) (by omega) (by show bl ((1000003 : Int) ^ 5) ≤ 99; decide +kernel)
end
/-! ### _law_name -/
def sp_law_name : Sp3 := fun ds G Q _ => ∃ (c : Int), ds = [.int c] ∧ ∀ s : Str, (s.length ≤ 200 ∧ sOk s) → Q (.str s) G
theorem sc_law_name : FnScope ["_law_cell", "_law_some", "_law_size", "_law_k"] ["_law_cell"] (defScope s_law_name) := ⟨rfl, rfl, rfl, by decide +kernel, rfl, by decide +kernel, by decide +kernel⟩
section
variable {P : Program} {w : World} {K : PySem.W.Frag} {mg : Str → Option Value} {base : Heap} {a : Ad}
theorem ok_law_name (T : Txt K mg a) : OkFnN P w K mg base 1 a.f_law_name a.d_law_name ["_law_cell"] sp_law_name := by
  refine T.F_law_name.ok3N sc_law_name (fun ds G Q E h => ?_) (fun cdv A outer s H E hr => ?_)
  · obtain ⟨c, rfl, _⟩ := h
    rfl
  have hu := hr.units
  have hu1 := hu_of hr
  have tk : L2N.Takes (cxOf (L2N.CX P w) P w K mg base ["_law_cell", "_law_some", "_law_size", "_law_k"] "_law_name" (defScope s_law_name) a.f_law_name cdv A outer s H E) (fun cls d _ H' => E cls d H') := L2N.takes_of rfl rfl rfl rfl
  refine ⟨_, (b_cons (s_asg (ps_set (i := 1) sc_law_name.nd rfl (.inr rfl) e_str))
    (b_cons (s_asg (ps_set (i := 1) sc_law_name.nd rfl (.inr rfl) (e_add (e_var (pv 1)) e_str)))
    (b_cons (s_asg (ps_set (i := 2) sc_law_name.nd rfl (.inl rfl) (e_ix (e_lst (a_cons e_int (a_cons e_int (a_cons e_int (a_cons e_int (a_cons e_int (a_cons e_int (a_cons e_int (a_cons e_int a_nil))))))))) (e_mod (e_var (pv 0)) e_int))))
    (b_one (s_ret (e_join e_str (e_lc (pe_lc (own := [("_law_k", 3)]) (g := gName 3) rfl sc_law_name.nd (i_range1 rfl T.z_range (e_var (pv 2))) (blkOk_by (own := [("_law_k", 3)]) (N := ["_law_cell", "_law_some", "_law_size", "_law_k"]) (sc := defScope s_law_name) (by decide +kernel)) (fun _ _ _ _ _ => (pg_name (i := 3) sc_law_name.nd rfl (Or.inl rfl))) (fun _ _ _ _ _ => ts_nil) (fun _ _ _ _ _ => (e_ix (e_var (pv 1)) (e_mod (e_add (e_fdiv (e_var (pv 0)) (e_add e_int (e_mod (e_var (pv 3)) e_int))) (e_mul e_int (e_var (pv 3)))) e_int)))) (tl_name (by decide))))))))), ?_⟩
  intro ds G Q E h
  obtain ⟨c, rfl, k⟩ := h
  refine ⟨by decide +kernel, ?_⟩
  refine ⟨by show 8 ≤ sizeLine; decide, by decide, ?_⟩
  have p1 := atI_pick (xs := [0, 1, 2, 5, 7, 12, 40, 200]) (i := c % 8) (by omega) (by simp; omega)
  refine ⟨_, p1, ?_⟩
  have hsz : 0 ≤ [(0 : Int), 1, 2, 5, 7, 12, 40, 200].getD (c % 8).toNat 0 ∧ [(0 : Int), 1, 2, 5, 7, 12, 40, 200].getD (c % 8).toNat 0 ≤ 200 := by
    have hm : [(0 : Int), 1, 2, 5, 7, 12, 40, 200].getD (c % 8).toNat 0 ∈ [(0 : Int), 1, 2, 5, 7, 12, 40, 200] := T3.getD_mem (by simp; omega)
    simp only [List.mem_cons, List.not_mem_nil, or_false] at hm
    omega
  generalize [(0 : Int), 1, 2, 5, 7, 12, 40, 200].getD (c % 8).toNat 0 = n at *
  refine ⟨⟨by omega, by omega⟩, ?_⟩
  let tb : Str := Str.ofString " !\"#$&'()*+,-./0123456789:;<=>?@ABCDEFGHIJKLMNOPQRSTUVWXYZ[\\]^_`" ++ Str.ofString "abcdefghijklmnopqrstuvwxyz{|}~\n\t"
  have htb : tb.cps.toList.length = 96 := by decide +kernel
  let ch : Nat → Str := fun i => ⟨#[tb.cps.toList.getD ((c / (8 + (i : Int) % 9) + 5 * (i : Int)) % 96).toNat 0]⟩
  refine ⟨fun k => ((List.range n.toNat)[k]?).map fun i => .str (ch i), fun p acc => trivial, fun k d p acc hk => ?_, ?_, ?_⟩
  · obtain ⟨hi, rfl⟩ := nats_get hk
    refine ⟨rfl, ?_⟩
    refine ⟨by decide, div_lt (by omega) (Int.lt_trans (show 8 + (k : Int) % 9 < 100 by omega) (by decide)), mul_small (by decide) (by decide) (by omega) (by omega), by decide, ?_⟩
    refine ⟨by decide +kernel, _, atI_pickN (xs := tb.cps.toList) (by omega) (by rw [htb]; omega), rfl, ?_⟩
    exact om (by simp [hi])
  · rw [nats_len]; exact size_le (by omega)
  rw [nats_len]
  have e : (List.range n.toNat).filterMap (fun k => ((List.range n.toNat)[k]?).map fun i => D.str (ch i)) = (List.range n.toNat).map fun i => D.str (ch i) := by
    have := fm_map (List.range n.toNat) fun i => D.str (ch i)
    rwa [List.length_range] at this
  rw [e]
  have h1 : ∀ y ∈ (List.range n.toNat).map ch, y.length ≤ 1 := fun y hy => by
    obtain ⟨i, _, rfl⟩ := List.mem_map.mp hy
    exact Nat.le_refl 1
  refine ⟨(List.range n.toNat).map ch, by simp [Ls, List.map_map], ?_, UpV.of (k _ ⟨?_, sOk_join (by decide +kernel) _ fun y hy => ?_⟩)⟩
  · rw [sum_ones (fun y hy => by obtain ⟨i, _, rfl⟩ := List.mem_map.mp hy; rfl)]
    rw [show (Str.ofString "").length = 0 from rfl]
    simp; omega
  · have := join_len (n := 1) (a := Str.ofString "") rfl _ h1
    simp at this
    omega
  · obtain ⟨i, _, rfl⟩ := List.mem_map.mp hy
    rw [sOk_iff]
    intro cc hcc
    have hall : ∀ cc ∈ tb.cps.toList, cc < 0x110000 := by decide +kernel
    have e : cc = tb.cps.toList.getD ((c / (8 + (i : Int) % 9) + 5 * (i : Int)) % 96).toNat 0 := by
      simpa [ch, TL.tl] using hcc
    rw [e]
    refine hall _ ?_
    have hlt : ((c / (8 + (i : Int) % 9) + 5 * (i : Int)) % 96).toNat < tb.cps.toList.length := by rw [htb]; omega
    rw [List.getD_eq_getElem?_getD, List.getElem?_eq_getElem hlt]
    exact List.getElem_mem _
end
/-! ### _law_names -/
def sp_law_names : Sp3 := fun ds G Q _ => ∃ (ns : List Int), ds = [.scr ns] ∧ ScOk ns ∧ ∀ ss : List Str, (4 ≤ ss.length ∧ ss.length ≤ 12 ∧ ∀ s ∈ ss, s.length ≤ 10000 ∧ sOk s) → Q (.lst (ss.map .str)) G
theorem sc_law_names : FnScope ["_law_script", "_law_names_here", "_law_k", "_law_cell", "_law_name_here", "_law_last", "_law_at", "_law_one"] ["_law_script"] (defScope s_law_names) := ⟨rfl, rfl, rfl, by decide +kernel, rfl, by decide +kernel, by decide +kernel⟩
section
variable {P : Program} {w : World} {K : PySem.W.Frag} {mg : Str → Option Value} {base : Heap} {a : Ad}
theorem ok_law_names (T : Txt K mg a) : OkFnN P w K mg base 2 a.f_law_names a.d_law_names ["_law_script"] sp_law_names := by
  have G_law_cell_at : OkFnN P w K mg base 1 a.f_law_cell_at a.d_law_cell_at ["_law_script", "_law_k"] sp_law_cell_at := ok_law_cell_at T
  have G_law_mixed : OkFnN P w K mg base 1 a.f_law_mixed a.d_law_mixed ["_law_cell", "_law_place"] sp_law_mixed := ok_law_mixed T
  have G_law_name : OkFnN P w K mg base 1 a.f_law_name a.d_law_name ["_law_cell"] sp_law_name := ok_law_name T
  refine T.F_law_names.ok3N sc_law_names (fun ds G Q E h => ?_) (fun cdv A outer s H E hr => ?_)
  · obtain ⟨ns, rfl, _⟩ := h
    rfl
  have hu := hr.units
  have hu1 := hu_of hr
  have tk : L2N.Takes (cxOf (L2N.CX P w) P w K mg base ["_law_script", "_law_names_here", "_law_k", "_law_cell", "_law_name_here", "_law_last", "_law_at", "_law_one"] "_law_names" (defScope s_law_names) a.f_law_names cdv A outer s H E) (fun cls d _ H' => E cls d H') := L2N.takes_of rfl rfl rfl rfl
  refine ⟨_, (b_cons (s_asg (ps_set (i := 1) sc_law_names.nd rfl (.inl rfl) (e_lstO a_nil)))
    (b_cons (s_wk (s_for (passes_of rfl) rfl (i_range1 rfl T.z_range (e_ix (e_lst (a_cons e_int (a_cons e_int (a_cons e_int (a_cons e_int a_nil))))) (e_mod (e_fnN G_law_cell_at (hr.mono (by decide)) rfl T.g_law_cell_at T.F_law_cell_at.kp T.b_law_cell_at tk (a_cons (e_var (pv 0)) (a_cons e_int a_nil))) e_int))) (g_name (pg_name (i := 2) sc_law_names.nd rfl (.inl rfl))) (b_cons (s_asg (ps_set (i := 3) sc_law_names.nd rfl (.inl rfl) (e_fnN G_law_mixed (hr.mono (by decide)) rfl T.g_law_mixed T.F_law_mixed.kp T.b_law_mixed tk (a_cons (e_fnN G_law_cell_at (hr.mono (by decide)) rfl T.g_law_cell_at T.F_law_cell_at.kp T.b_law_cell_at tk (a_cons (e_var (pv 0)) (a_cons (e_mod (e_var (pv 2)) e_int) a_nil))) (a_cons (e_var (pv 2)) a_nil)))))
    (b_cons (s_asg (ps_set (i := 4) sc_law_names.nd rfl (.inl rfl) (e_fnN G_law_name (hr.mono (by decide)) rfl T.g_law_name T.F_law_name.kp T.b_law_name tk (a_cons (e_fdiv (e_var (pv 3)) e_int) a_nil))))
    (b_cut (s_if (PW.pt (w_and (t_eq hu (e_mod (e_var (pv 3)) e_int) e_int) (w_one (t_gt (e_var (pv 2)) e_int)))) (b_cons (s_asg (ps_set (i := 5) sc_law_names.nd rfl (.inl rfl) (e_ix (e_var (pv 1)) (e_sub (e_var (pv 2)) e_int))))
    (b_cons (s_asg (ps_set (i := 6) sc_law_names.nd rfl (.inl rfl) (e_mod (e_fdiv (e_var (pv 3)) e_int) (e_add (e_callB call_len cl_len rfl T.z_len (by decide +kernel) (a_cons (e_var (pv 5)) a_nil)) e_int))))
    (b_cons (s_asg (ps_set (i := 7) sc_law_names.nd rfl (.inl rfl) (e_fnN G_law_name (hr.mono (by decide)) rfl T.g_law_name T.F_law_name.kp T.b_law_name tk (a_cons (e_add e_int (e_mul (e_fdiv (e_var (pv 3)) e_int) e_int)) a_nil))))
    (b_one (s_asg (ps_set (i := 4) sc_law_names.nd rfl (.inl rfl) (e_add (e_add (e_slice (e_var (pv 5)) o_none (o_some (e_var (pv 6)))) (e_var (pv 7))) (e_slice (e_var (pv 5)) (o_some (e_add e_int (e_var (pv 6)))) o_none)))))))) b_nil)
    (b_one (s_expr (e_append (pe_bm PySem.F.plainAttrs_list PySem.F.slot_list_append PySem.F.type_list_append mt_append (e_var (pv 1)) (pa_cons (e_var (pv 4)) pa_nil))))))))))
    (b_one (s_ret (e_var (pv 1)))))), ?_⟩
  intro ds G Q E h
  obtain ⟨ns, rfl, hsc, k⟩ := h
  refine ⟨Nat.zero_le _, fun p => ?_⟩
  refine ⟨by show 4 ≤ sizeLine; decide, ns, 0, rfl, by decide, by decide, ?_⟩
  have p1 := atI_pick (xs := [4, 4, 4, 12]) (i := cellAt ns 0 % 4) (by omega) (by simp; omega)
  refine ⟨_, p1, ?_⟩
  have hmem : [(4 : Int), 4, 4, 12].getD (cellAt ns 0 % 4).toNat 0 ∈ [(4 : Int), 4, 4, 12] := T3.getD_mem (by simp; omega)
  generalize [(4 : Int), 4, 4, 12].getD (cellAt ns 0 % 4).toNat 0 = n at *
  simp only [List.mem_cons, List.not_mem_nil, or_false] at hmem
  refine ⟨⟨by omega, by omega⟩, ?_⟩
  refine ⟨fun i σ G' => ∃ (ss : List Str) (x2 x3 x4 x5 x6 x7 : Option D), σ = [some (.scr ns), some (.ref p), x2, x3, x4, x5, x6, x7] ∧ G' = (p, .lst (ss.map .str)) :: G ∧ ss.length = i ∧ ∀ s ∈ ss, s.length ≤ 700 * i ∧ sOk s, Up.of ⟨[], none, none, none, none, none, none, rfl, rfl, rfl, fun _ h => by cases h⟩, fun _ _ _ _ _ => trivial, ?_, ?_⟩
  · rintro i d σ' G' hd ⟨ss, x2, x3, x4, x5, x6, x7, rfl, rfl, hl, hs⟩
    obtain ⟨hi, rfl⟩ := nats_get hd
    have hb := mixed_bl (p := (i : Int)) (cell_bl hsc ((i : Int) % 4)) (by omega) (by omega) (by decide)
    refine ⟨by decide, ns, _, rfl, by omega, ?_⟩
    refine ⟨_, _, rfl, ⟨Nat.le_trans (cell_bl hsc _) (by decide), by omega, by omega⟩, ?_⟩
    generalize mixed (cellAt ns ((i : Int) % 4)) (i : Int) = c at *
    refine ⟨div_lt (by decide) (by decide), _, rfl, fun s0 ⟨hs0, ho0⟩ => ?_⟩
    refine ⟨fun σ' G' => ∃ (s : Str) (x5 x6 x7 : Option D), σ' = [some (.scr ns), some (.ref p), some (.int (i : Int)), some (.int c), some (.str s), x5, x6, x7] ∧ (p, DO.lst (ss.map .str)) :: G = G' ∧ (s.length ≤ 700 * (i + 1) ∧ sOk s), ?_, ?_⟩
    · have same : Up K (fun σ' G' => ∃ (s : Str) (x5 x6 x7 : Option D), σ' = [some (.scr ns), some (.ref p), some (.int (i : Int)), some (.int c), some (.str s), x5, x6, x7] ∧ (p, DO.lst (ss.map .str)) :: G = G' ∧ (s.length ≤ 700 * (i + 1) ∧ sOk s)) [some (.scr ns), some (.ref p), some (.int (i : Int)), some (.int c), some (.str s0), x5, x6, x7] ((p, DO.lst (ss.map .str)) :: G) := Up.of ⟨s0, x5, x6, x7, rfl, rfl, by omega, ho0⟩
      refine ⟨by decide, ?_⟩
      refine ite2 (fun h1 => ?_) (fun h1 => ?_)
      · refine ite2 (fun h2 => ?_) (fun h2 => same)
        have h2' : 0 < (i : Int) := of_decide_eq_true h2
        obtain ⟨s1, hs1⟩ : ∃ s1, ss[i - 1]? = some s1 := ⟨ss[i - 1]'(by omega), by simp⟩
        obtain ⟨hs1l, ho1⟩ := hs s1 (get_mem hs1)
        have gi : atI (ss.map D.str) ((i : Int) - 1) = some (.str s1) := by
          rw [show (i : Int) - 1 = ((i - 1 : Nat) : Int) by omega]
          exact atI_nat (by simp [hs1])
        refine ⟨_, _, .head _, gi, ?_⟩
        refine ⟨div_lt (by decide) (by decide), size_le (by omega), by show (0 : Int) < (s1.length : Int) + 1; omega, ?_⟩
        refine ⟨div_lt (by decide) (by decide), mul_ok (Nat.le_trans (bl_div c (by decide)) hb) (show bl 8 ≤ 10 by decide +kernel) (by decide), _, rfl, fun s2 ⟨hs2, ho2⟩ => ?_⟩
        refine ⟨size_le (by omega), ?_⟩
        have l1 := cutS_length s1 none (some (c / 32 % ((s1.length : Int) + 1)))
        have l2 := cutS_length s1 (some (1 + c / 32 % ((s1.length : Int) + 1))) none
        have l3 := cut_two s1 (a := c / 32 % ((s1.length : Int) + 1)) (Int.emod_nonneg _ (by omega))
        refine ⟨size_le (by omega), size_le (by omega), size_le (by rw [str_app]; omega), ?_⟩
        refine Up.of ⟨_, _, _, _, rfl, rfl, ?_, sOk_app (sOk_app (sOk_cut ho1 _ _) ho2) (sOk_cut ho1 _ _)⟩
        rw [str_app, str_app]
        omega
      · exact same
    rintro σ' G' ⟨s, x5, x6, x7, rfl, rfl, hsl, hso⟩
    refine ⟨⟨_, .head _⟩, _, _, .head, size_lt (by simp; omega), ?_⟩
    refine Up.of ⟨ss ++ [s], _, _, _, _, _, _, rfl, by simp, by simp [hl], fun t ht => ?_⟩
    rcases List.mem_append.mp ht with h | h
    · have := hs t h; exact ⟨by omega, this.2⟩
    · rw [List.mem_singleton] at h; subst h; exact ⟨by omega, hso⟩
  · rintro σ' G' ⟨ss, x2, x3, x4, x5, x6, x7, rfl, rfl, hl, hs⟩
    rw [nats_len] at hl hs
    exact Up.of (UpV.list (k ss ⟨by omega, by omega, fun s h => by have := hs s h; exact ⟨by omega, this.2⟩⟩))
end
/-! ### _law_tuples -/
def sp_law_tuples : Sp3 := fun ds G Q _ => ∃ (xs ys : List (List Int)), ds = [.lst (xs.map tupD), .lst (ys.map tupD)] ∧ (ys.length ≤ 1000 ∧ ∀ x ∈ xs, x.length ≤ 1000) ∧ Q (.bl (decide (xs = ys))) G
theorem sc_law_tuples : FnScope ["_law_found", "_law_due", "_law_k", "_law_one"] ["_law_found", "_law_due"] (defScope s_law_tuples) := ⟨rfl, rfl, rfl, by decide +kernel, rfl, by decide +kernel, by decide +kernel⟩
section
variable {P : Program} {w : World} {K : PySem.W.Frag} {mg : Str → Option Value} {base : Heap} {a : Ad}
theorem ok_law_tuples (T : Txt K mg a) : OkFnN P w K mg base 2 a.f_law_tuples a.d_law_tuples ["_law_found", "_law_due"] sp_law_tuples := by
  have G_law_whole : OkFnN P w K mg base 1 a.f_law_whole a.d_law_whole ["_law_found"] sp_law_whole := ok_law_whole T
  refine T.F_law_tuples.ok3N sc_law_tuples (fun ds G Q E h => ?_) (fun cdv A outer s H E hr => ?_)
  · obtain ⟨xs, ys, rfl, _⟩ := h
    rfl
  have hu := hr.units
  have hu1 := hu_of hr
  have tk : L2N.Takes (cxOf (L2N.CX P w) P w K mg base ["_law_found", "_law_due", "_law_k", "_law_one"] "_law_tuples" (defScope s_law_tuples) a.f_law_tuples cdv A outer s H E) (fun cls d _ H' => E cls d H') := L2N.takes_of rfl rfl rfl rfl
  refine ⟨_, (b_cons (s_if (PW.pt (w_or (t_not (t_val (e_isi isT_list rfl T.z_isinstance rfl T.z_list (by decide +kernel) (e_var (pv 0))))) (w_one' (t_ne hu (e_callB call_len cl_len rfl T.z_len (by decide +kernel) (a_cons (e_var (pv 0)) a_nil)) (e_callB call_len cl_len rfl T.z_len (by decide +kernel) (a_cons (e_var (pv 1)) a_nil)))))) (b_one (s_ret e_bl)) b_nil)
    (b_cons (s_wk (s_for (passes_of rfl) rfl (i_range1 rfl T.z_range (e_callB call_len cl_len rfl T.z_len (by decide +kernel) (a_cons (e_var (pv 1)) a_nil))) (g_name (pg_name (i := 2) sc_law_tuples.nd rfl (.inl rfl))) (b_cons (s_if (PW.pt (w_or (t_not (t_val (e_isi isT_tup rfl T.z_isinstance rfl T.z_tuple (by decide +kernel) (e_ix (e_var (pv 0)) (e_var (pv 2)))))) (w_one' (t_ne hu (e_callB call_len cl_len rfl T.z_len (by decide +kernel) (a_cons (e_ix (e_var (pv 0)) (e_var (pv 2))) a_nil)) (e_callB call_len cl_len rfl T.z_len (by decide +kernel) (a_cons (e_ix (e_var (pv 1)) (e_var (pv 2))) a_nil)))))) (b_one (s_ret e_bl)) b_nil)
    (b_one (s_if (PW.pt (w_or (t_not (t_val (e_callB (cr_all rfl) cl_all rfl T.z_all (by decide +kernel) (a_cons (e_lc (pe_lc (own := [("_law_one", 3)]) (g := gName 3) rfl sc_law_tuples.nd (i_tup (e_ix (e_var (pv 0)) (e_var (pv 2)))) (blkOk_by (own := [("_law_one", 3)]) (N := ["_law_found", "_law_due", "_law_k", "_law_one"]) (sc := defScope s_law_tuples) (by decide +kernel)) (fun _ _ _ _ _ => (pg_name (i := 3) sc_law_tuples.nd rfl (Or.inl rfl))) (fun _ _ _ _ _ => ts_nil) (fun _ _ _ _ _ => (e_fnN G_law_whole (hr.mono (by decide)) rfl T.g_law_whole T.F_law_whole.kp T.b_law_whole takes0N (a_cons (e_var (pv 3)) a_nil)))) (tl_name (by decide))) a_nil)))) (w_one' (t_ne hu (e_ix (e_var (pv 0)) (e_var (pv 2))) (e_ix (e_var (pv 1)) (e_var (pv 2))))))) (b_one (s_ret e_bl)) b_nil)))))
    (b_one (s_ret e_bl)))), ?_⟩
  intro ds G Q E h
  obtain ⟨xs, ys, rfl, ⟨hl, hx1⟩, k⟩ := h
  refine ite2 (fun h0 => ?_) (fun h0 => ?_)
  · have h1 : xs.length ≠ ys.length := fun e => by simp [e] at h0
    have e : decide (xs = ys) = false := decide_eq_false fun e => h1 (by rw [e])
    rw [e] at k
    exact UpV.of k
  have hlen : xs.length = ys.length := by
    have h1 : (xs.length : Int) = (ys.length : Int) := by simpa using h0
    omega
  refine ⟨⟨by omega, by simp only [List.length_map]; omega⟩, ?_⟩
  refine ⟨fun i σ G' => ∃ x y, σ = [some (.lst (xs.map tupD)), some (.lst (ys.map tupD)), x, y] ∧ G = G' ∧ xs.take i = ys.take i, Up.of ⟨none, none, rfl, rfl, by simp⟩, fun _ _ _ _ _ => trivial, ?_, ?_⟩
  · rintro i d σ' G' hd ⟨x, y, rfl, rfl, ht⟩
    obtain ⟨hi, rfl⟩ := nats_get hd
    simp only [Int.toNat_natCast, List.length_map] at hi
    have hx : i < xs.length := by omega
    have gx : atI (xs.map tupD) (i : Int) = some (tupD xs[i]) := atI_nat (by simp [hx])
    have gy : atI (ys.map tupD) (i : Int) = some (tupD ys[i]) := atI_nat (by simp [hi])
    have bad : xs[i] ≠ ys[i] → UpV K Q (.bl false) G := fun hne => by
      have e : decide (xs = ys) = false := decide_eq_false fun e => by subst e; exact hne rfl
      rw [e] at k
      exact UpV.of k
    refine ⟨_, gx, ?_⟩
    refine ⟨_, gx, _, gy, ?_⟩
    refine ite2 (fun h1 => bad fun e => ?_) (fun h1 => ?_)
    · rw [e] at h1; simp at h1
    refine ⟨_, gx, ?_⟩
    refine ⟨fun k => (xs[i][k]?).map fun _ => .bl true, fun p acc => trivial, fun k d p acc hk => ?_, size_le (by simp; exact Nat.le_trans (hx1 _ (List.getElem_mem hx)) (by decide)), ?_⟩
    · obtain ⟨l, h1, rfl⟩ := get_map hk
      exact ⟨rfl, _, rfl, fun a h => (nomatch h), rfl, om h1⟩
    rw [List.length_map, fm_map]
    refine ⟨xs[i].map fun _ => true, by simp [Ls, List.map_map], ?_⟩
    rw [all_true]
    refine iteF ?_
    refine ⟨_, gx, _, gy, ?_⟩
    refine ⟨_, _, rfl, rfl, ⟨plain_tup _, plain_tup _, dep_tup _, dep_tup _⟩, ?_⟩
    rw [beq_tup]
    refine ite2 (fun h1 => bad fun e => ?_) (fun h1 => ?_)
    · rw [e] at h1; simp at h1
    have : xs[i] = ys[i] := by simpa using h1
    refine Up.of ⟨_, _, rfl, rfl, ?_⟩
    rw [take_snoc (by simp [hx] : xs[i]? = some xs[i]), take_snoc (by simp [hi] : ys[i]? = some ys[i]), ht, this]
  · rintro σ' G' ⟨x, y, rfl, rfl, ht⟩
    have e : decide (xs = ys) = true := decide_eq_true (by
      rw [nats_len] at ht
      simp only [Int.toNat_natCast, List.length_map] at ht
      rw [← hlen, List.take_length, hlen, List.take_length] at ht
      exact ht)
    rw [e] at k
    exact Up.of (UpV.of k)
theorem okH_law_tuples (T : Txt K mg a) : OkFnH P w K mg base 2 a.f_law_tuples a.d_law_tuples ["_law_found", "_law_due"] sp_law_tuples := by
  have H_law_whole : OkFnH P w K mg base 1 a.f_law_whole a.d_law_whole ["_law_found"] sp_law_whole := okH_law_whole T
  refine T.F_law_tuples.ok3H sc_law_tuples (fun ds G Q E h => ?_) (fun cdv A outer s H E p hot hr => ?_)
  · obtain ⟨xs, ys, rfl, _⟩ := h
    rfl
  have hu := hr.units
  have hu1 := L2H.hu_ofH hr
  have tk : Takes (L2H.cxH (L2.CX P w) P w K mg base ["_law_found", "_law_due", "_law_k", "_law_one"] "_law_tuples" (defScope s_law_tuples) a.f_law_tuples cdv A outer s H E p) (fun cls d _ H' => E cls d H') := takes_of rfl rfl rfl rfl
  have hc : L2H.HotC (L2H.cxH (L2.CX P w) P w K mg base ["_law_found", "_law_due", "_law_k", "_law_one"] "_law_tuples" (defScope s_law_tuples) a.f_law_tuples cdv A outer s H E p) := ⟨p, hot, List.mem_singleton.mpr rfl⟩
  refine ⟨_, (b_cons (s_if (PW.pt (w_or (t_not (t_val (e_isi isT_list rfl T.z_isinstance rfl T.z_list (by decide +kernel) (e_var (pv 0))))) (w_one' (t_ne hu (e_callB call_len cl_len rfl T.z_len (by decide +kernel) (a_cons (e_var (pv 0)) a_nil)) (e_callB call_len cl_len rfl T.z_len (by decide +kernel) (a_cons (e_var (pv 1)) a_nil)))))) (b_one (s_ret e_bl)) b_nil)
    (b_cons (s_wk (s_forH (passes_of rfl) hc (i_range1H rfl T.z_range (e_callB call_len cl_len rfl T.z_len (by decide +kernel) (a_cons (e_var (pv 1)) a_nil))) (g_name (pg_name (i := 2) sc_law_tuples.nd rfl (.inl rfl))) (b_cons (s_if (PW.pt (w_or (t_not (t_val (e_isi isT_tup rfl T.z_isinstance rfl T.z_tuple (by decide +kernel) (e_ix (e_var (pv 0)) (e_var (pv 2)))))) (w_one' (t_ne hu (e_callB call_len cl_len rfl T.z_len (by decide +kernel) (a_cons (e_ix (e_var (pv 0)) (e_var (pv 2))) a_nil)) (e_callB call_len cl_len rfl T.z_len (by decide +kernel) (a_cons (e_ix (e_var (pv 1)) (e_var (pv 2))) a_nil)))))) (b_one (s_ret e_bl)) b_nil)
    (b_one (s_if (PW.pt (w_or (t_not (t_val (e_callB (L2H.cr_allH hc) cl_all rfl T.z_all (by decide +kernel) (a_cons (e_lc (L2H.pe_lcH (own := [("_law_one", 3)]) (g := gName 3) hc sc_law_tuples.nd (i_tupH (e_ix (e_var (pv 0)) (e_var (pv 2)))) (blkOk_by (own := [("_law_one", 3)]) (N := ["_law_found", "_law_due", "_law_k", "_law_one"]) (sc := defScope s_law_tuples) (by decide +kernel)) (fun _ _ _ _ _ => (pg_name (i := 3) sc_law_tuples.nd rfl (Or.inl rfl))) (fun _ _ _ _ _ => ts_nil) (fun _ _ _ _ _ => (e_fnH H_law_whole (hr.mono (by decide)) hc.blk rfl T.g_law_whole T.F_law_whole.kp T.b_law_whole takes0 (a_cons (e_var (pv 3)) a_nil)))) (tl_name (by decide))) a_nil)))) (w_one' (t_ne hu (e_ix (e_var (pv 0)) (e_var (pv 2))) (e_ix (e_var (pv 1)) (e_var (pv 2))))))) (b_one (s_ret e_bl)) b_nil)))))
    (b_one (s_ret e_bl)))), ?_⟩
  intro ds G Q E h
  obtain ⟨xs, ys, rfl, ⟨hl, hx1⟩, k⟩ := h
  refine ite2 (fun h0 => ?_) (fun h0 => ?_)
  · have h1 : xs.length ≠ ys.length := fun e => by simp [e] at h0
    have e : decide (xs = ys) = false := decide_eq_false fun e => h1 (by rw [e])
    rw [e] at k
    exact UpV.of k
  have hlen : xs.length = ys.length := by
    have h1 : (xs.length : Int) = (ys.length : Int) := by simpa using h0
    omega
  refine ⟨⟨by omega, by simp only [List.length_map]; omega⟩, ?_⟩
  refine ⟨fun i σ G' => ∃ x y, σ = [some (.lst (xs.map tupD)), some (.lst (ys.map tupD)), x, y] ∧ G = G' ∧ xs.take i = ys.take i, Up.of ⟨none, none, rfl, rfl, by simp⟩, fun _ _ _ _ _ => trivial, ?_, ?_⟩
  · rintro i d σ' G' hd ⟨x, y, rfl, rfl, ht⟩
    obtain ⟨hi, rfl⟩ := nats_get hd
    simp only [Int.toNat_natCast, List.length_map] at hi
    have hx : i < xs.length := by omega
    have gx : atI (xs.map tupD) (i : Int) = some (tupD xs[i]) := atI_nat (by simp [hx])
    have gy : atI (ys.map tupD) (i : Int) = some (tupD ys[i]) := atI_nat (by simp [hi])
    have bad : xs[i] ≠ ys[i] → UpV K Q (.bl false) G := fun hne => by
      have e : decide (xs = ys) = false := decide_eq_false fun e => by subst e; exact hne rfl
      rw [e] at k
      exact UpV.of k
    refine ⟨_, gx, ?_⟩
    refine ⟨_, gx, _, gy, ?_⟩
    refine ite2 (fun h1 => bad fun e => ?_) (fun h1 => ?_)
    · rw [e] at h1; simp at h1
    refine ⟨_, gx, ?_⟩
    refine ⟨fun k => (xs[i][k]?).map fun _ => .bl true, fun p acc => trivial, fun k d p acc hk => ?_, size_le (by simp; exact Nat.le_trans (hx1 _ (List.getElem_mem hx)) (by decide)), ?_⟩
    · obtain ⟨l, h1, rfl⟩ := get_map hk
      exact ⟨rfl, _, rfl, fun a h => (nomatch h), rfl, om h1⟩
    rw [List.length_map, fm_map]
    refine ⟨xs[i].map fun _ => true, by simp [Ls, List.map_map], ?_⟩
    rw [all_true]
    refine iteF ?_
    refine ⟨_, gx, _, gy, ?_⟩
    refine ⟨_, _, rfl, rfl, ⟨plain_tup _, plain_tup _, dep_tup _, dep_tup _⟩, ?_⟩
    rw [beq_tup]
    refine ite2 (fun h1 => bad fun e => ?_) (fun h1 => ?_)
    · rw [e] at h1; simp at h1
    have : xs[i] = ys[i] := by simpa using h1
    refine Up.of ⟨_, _, rfl, rfl, ?_⟩
    rw [take_snoc (by simp [hx] : xs[i]? = some xs[i]), take_snoc (by simp [hi] : ys[i]? = some ys[i]), ht, this]
  · rintro σ' G' ⟨x, y, rfl, rfl, ht⟩
    have e : decide (xs = ys) = true := decide_eq_true (by
      rw [nats_len] at ht
      simp only [Int.toNat_natCast, List.length_map] at ht
      rw [← hlen, List.take_length, hlen, List.take_length] at ht
      exact ht)
    rw [e] at k
    exact Up.of (UpV.of k)
end
/-! ### _law_holder -/
def lotT (l : Lot) : List Int := [l.day, l.count, l.cost]
theorem lotT_map (ls : List Lot) : ls.map lotD = (ls.map lotT).map tupD := by rw [List.map_map]; rfl
/-- the law's own table: a name, its list's place, its lots -/
structure Tb where
  name : Str
  p : Addr
  lots : List Lot
def tbK (t : List Tb) : List (Key × D) := t.map fun x => (.inr x.name, .ref x.p)
def tbG (t : List Tb) : G3 := t.map fun x => (x.p, .lst (x.lots.map lotD))
def tNm (t : List Tb) : List Str := t.map Tb.name
theorem detK_tb (t : List Tb) : detK (tbK t) := fun kv h => by
  obtain ⟨x, _, rfl⟩ := List.mem_map.mp h
  rfl
theorem find_tb (who : Str) : ∀ t : List Tb, who ∉ tNm t ∨ ∃ A x R, t = A ++ x :: R ∧ x.name = who ∧ who ∉ tNm A
  | [] => .inl (by simp [tNm])
  | x :: r => by
    by_cases e : x.name = who
    · exact .inr ⟨[], x, r, rfl, e, by simp [tNm]⟩
    · rcases find_tb who r with h | ⟨A, y, R, e1, e2, e3⟩
      · exact .inl (by simp only [tNm, List.map_cons, List.mem_cons, not_or]; exact ⟨fun h => e h.symm, h⟩)
      · exact .inr ⟨x :: A, y, R, by rw [e1]; rfl, e2, by simp only [tNm, List.map_cons, List.mem_cons, not_or]; exact ⟨fun h => e h.symm, e3⟩⟩
theorem tb_none {who : Str} : ∀ {t : List Tb}, who ∉ tNm t → valD (tbK t) (.inr who) = none
  | [], _ => rfl
  | x :: r, h => by
    simp only [tNm, List.map_cons, List.mem_cons, not_or] at h
    have ih := tb_none (who := who) (t := r) h.2
    have e : ¬ x.name = who := fun z => h.1 z.symm
    have h1 : valD (tbK (x :: r)) (.inr who) = valD (tbK r) (.inr who) := by simp [tbK, valD, e]
    rw [h1, ih]
theorem tb_at {who : Str} : ∀ {A : List Tb} {x : Tb} {R : List Tb}, x.name = who → who ∉ tNm A → valD (tbK (A ++ x :: R)) (.inr who) = some (.ref x.p)
  | [], x, R, e, _ => by simp [tbK, valD, e]
  | y :: A, x, R, e, h => by
    simp only [tNm, List.map_cons, List.mem_cons, not_or] at h
    have ih := tb_at (A := A) (R := R) e h.2
    have e2 : ¬ y.name = who := fun z => h.1 z.symm
    have h1 : valD (tbK ((y :: A) ++ x :: R)) (.inr who) = valD (tbK (A ++ x :: R)) (.inr who) := by simp [tbK, valD, e2]
    rw [h1, ih]
theorem tb_new {who : Str} {t : List Tb} (p : Addr) (l : Lot) (h : who ∉ tNm t) : putD (tbK t) (.inr who) (.ref p) = tbK (t ++ [⟨who, p, [l]⟩]) := by
  unfold putD
  rw [if_neg]
  · simp [tbK]
  · intro hh
    obtain ⟨kv, h1, h2⟩ := List.any_eq_true.mp hh
    obtain ⟨x, hx, rfl⟩ := List.mem_map.mp h1
    have h2 : (Sum.inr x.name : Key) = .inr who := of_decide_eq_true h2
    injection h2 with h2
    exact h (by rw [← h2]; exact List.mem_map_of_mem hx)
theorem tb_put {who : Str} {A R : List Tb} {x : Tb} (p : Addr) (l : Lot) (e : x.name = who) (hn : (tNm (A ++ x :: R)).Nodup) : putD (tbK (A ++ x :: R)) (.inr who) (.ref p) = tbK (A ++ ⟨x.name, p, x.lots ++ [l]⟩ :: R) := by
  rw [tNm, List.map_append, List.map_cons] at hn
  obtain ⟨h1, h2, h3⟩ := List.nodup_append.mp hn
  have hA : ∀ y ∈ A, ¬ y.name = who := fun y hy z => h3 _ (List.mem_map_of_mem hy) _ (List.mem_cons_self ..) (by rw [z, e])
  have hR : ∀ y ∈ R, ¬ y.name = who := fun y hy z => (List.nodup_cons.mp h2).1 (by rw [e, ← z]; exact List.mem_map_of_mem hy)
  unfold putD
  rw [if_pos (by simp [tbK, e])]
  simp only [tbK, List.map_append, List.map_cons, List.map_map]
  congr 1
  · apply List.map_congr_left
    intro y hy
    show (if (Sum.inr y.name : Key) = .inr who then _ else _) = _
    rw [if_neg (fun z => by injection z with z; exact hA y hy z)]
  · congr 1
    · rw [if_pos (by rw [e])]
    · apply List.map_congr_left
      intro y hy
      show (if (Sum.inr y.name : Key) = .inr who then _ else _) = _
      rw [if_neg (fun z => by injection z with z; exact hR y hy z)]
theorem tbG_append (A B : List Tb) : tbG (A ++ B) = tbG A ++ tbG B := by simp [tbG]
def sp_law_holder (a : Ad) : Sp3 := fun ds G Q _ => ∃ (B : Bk) (who : Str) (ls : List Lot) (dy gt : Int), ds = [.ref B.b, .str who, .lst (ls.map lotD), .int dy, .int gt] ∧ Has a.c_Book a.c_Holder B G ∧ (aFind who (absH B.ppl) = some ⟨who, ls, dy, 0, gt⟩ ∧ ls.length ≤ 900 ∧ ∀ x ∈ absH B.ppl, x.lots.length ≤ 1000) ∧ Q (.bl true) G
theorem sc_law_holder : FnScope ["_law_book", "_law_who", "_law_lots", "_law_days", "_law_got", "_law_due", "_law_lot", "_law_found", "_law_one"] ["_law_book", "_law_who", "_law_lots", "_law_days", "_law_got"] (defScope s_law_holder) := ⟨rfl, rfl, rfl, by decide +kernel, rfl, by decide +kernel, by decide +kernel⟩
section
variable {P : Program} {w : World} {K : PySem.W.Frag} {mg : Str → Option Value} {base : Heap} {a : Ad}
theorem ok_law_holder (T : Txt K mg a) : OkFnN P w K mg base 4 a.f_law_holder a.d_law_holder ["_law_book", "_law_who", "_law_lots", "_law_days", "_law_got"] (sp_law_holder a) := by
  have G_Book_shares_of : OkFnN P w K mg base 3 a.f_Book_shares_of a.d_Book_shares_of ["self", "who"] (sp_Book_shares_of a) := ok_Book_shares_of T
  have G_Book_lots_of : OkFnN P w K mg base 1 a.f_Book_lots_of a.d_Book_lots_of ["self", "who"] (sp_Book_lots_of a) := ok_Book_lots_of T
  have G_Book_gain_of : OkFnN P w K mg base 1 a.f_Book_gain_of a.d_Book_gain_of ["self", "who"] (sp_Book_gain_of a) := ok_Book_gain_of T
  have G_Book_got_of : OkFnN P w K mg base 1 a.f_Book_got_of a.d_Book_got_of ["self", "who"] (sp_Book_got_of a) := ok_Book_got_of T
  have G_Book_days_of : OkFnN P w K mg base 1 a.f_Book_days_of a.d_Book_days_of ["self", "who"] (sp_Book_days_of a) := ok_Book_days_of T
  have G_law_whole : OkFnN P w K mg base 1 a.f_law_whole a.d_law_whole ["_law_found"] sp_law_whole := ok_law_whole T
  have G_law_tuples : OkFnN P w K mg base 2 a.f_law_tuples a.d_law_tuples ["_law_found", "_law_due"] sp_law_tuples := ok_law_tuples T
  refine T.F_law_holder.ok3N sc_law_holder (fun ds G Q E h => ?_) (fun cdv A outer s H E hr => ?_)
  · obtain ⟨B, who, ls, dy, gt, rfl, _⟩ := h
    rfl
  have hu := hr.units
  have hu1 := hu_of hr
  have tk : L2N.Takes (cxOf (L2N.CX P w) P w K mg base ["_law_book", "_law_who", "_law_lots", "_law_days", "_law_got", "_law_due", "_law_lot", "_law_found", "_law_one"] "_law_holder" (defScope s_law_holder) a.f_law_holder cdv A outer s H E) (fun cls d _ H' => E cls d H') := L2N.takes_of rfl rfl rfl rfl
  refine ⟨_, (b_cons (s_asg (ps_set (i := 5) sc_law_holder.nd rfl (.inl rfl) (e_lst (a_cons (e_callB (cr_sum rfl) cl_sum rfl T.z_sum (by decide +kernel) (a_cons (e_lc (pe_lc (own := [("_law_lot", 6)]) (g := gName 6) rfl sc_law_holder.nd (i_list (e_var (pv 2))) (blkOk_by (own := [("_law_lot", 6)]) (N := ["_law_book", "_law_who", "_law_lots", "_law_days", "_law_got", "_law_due", "_law_lot", "_law_found", "_law_one"]) (sc := defScope s_law_holder) (by decide +kernel)) (fun _ _ _ _ _ => (pg_name (i := 6) sc_law_holder.nd rfl (Or.inl rfl))) (fun _ _ _ _ _ => ts_nil) (fun _ _ _ _ _ => (e_ix (e_var (pv 6)) e_int))) (tl_name (by decide))) a_nil)) (a_cons (e_var (pv 3)) (a_cons e_int (a_cons (e_var (pv 4)) a_nil)))))))
    (b_cons (s_asg (ps_set (i := 7) sc_law_holder.nd rfl (.inl rfl) (e_lst (a_cons (e_methN (e_var (pv 0)) T.K_Book T.m_Book_shares_of G_Book_shares_of (hr.mono (by decide)) T.b_Book_shares_of tk (a_cons (e_var (pv 1)) a_nil)) (a_cons (e_methN (e_var (pv 0)) T.K_Book T.m_Book_days_of G_Book_days_of (hr.mono (by decide)) T.b_Book_days_of tk (a_cons (e_var (pv 1)) a_nil)) (a_cons (e_methN (e_var (pv 0)) T.K_Book T.m_Book_gain_of G_Book_gain_of (hr.mono (by decide)) T.b_Book_gain_of tk (a_cons (e_var (pv 1)) a_nil)) (a_cons (e_methN (e_var (pv 0)) T.K_Book T.m_Book_got_of G_Book_got_of (hr.mono (by decide)) T.b_Book_got_of tk (a_cons (e_var (pv 1)) a_nil)) a_nil)))))))
    (b_cons (s_if (PW.pt (w_or (t_not (t_val (e_callB (cr_all rfl) cl_all rfl T.z_all (by decide +kernel) (a_cons (e_lc (pe_lc (own := [("_law_one", 8)]) (g := gName 8) rfl sc_law_holder.nd (i_list (e_var (pv 7))) (blkOk_by (own := [("_law_one", 8)]) (N := ["_law_book", "_law_who", "_law_lots", "_law_days", "_law_got", "_law_due", "_law_lot", "_law_found", "_law_one"]) (sc := defScope s_law_holder) (by decide +kernel)) (fun _ _ _ _ _ => (pg_name (i := 8) sc_law_holder.nd rfl (Or.inl rfl))) (fun _ _ _ _ _ => ts_nil) (fun _ _ _ _ _ => (e_fnN G_law_whole (hr.mono (by decide)) rfl T.g_law_whole T.F_law_whole.kp T.b_law_whole takes0N (a_cons (e_var (pv 8)) a_nil)))) (tl_name (by decide))) a_nil)))) (w_one' (t_ne hu (e_var (pv 7)) (e_var (pv 5)))))) (b_one (s_ret e_bl)) b_nil)
    (b_one (s_ret (e_fnN G_law_tuples (hr.mono (by decide)) rfl T.g_law_tuples T.F_law_tuples.kp T.b_law_tuples tk (a_cons (e_methN (e_var (pv 0)) T.K_Book T.m_Book_lots_of G_Book_lots_of (hr.mono (by decide)) T.b_Book_lots_of tk (a_cons (e_var (pv 1)) a_nil)) (a_cons (e_var (pv 2)) a_nil)))))))), ?_⟩
  intro ds G Q E h
  obtain ⟨B, who, ls, dy, gt, rfl, hB, ⟨hf, hls, hl⟩, k⟩ := h
  refine ⟨_, rfl, fun k => (ls[k]?).map fun l => .int l.count, fun p acc => rfl, fun k d p acc hk => ?_, size_le (by simp only [List.length_map]; omega), ?_⟩
  · obtain ⟨l, h1, rfl⟩ := get_map hk
    exact ⟨rfl, _, rfl, rfl, om h1⟩
  rw [List.length_map, fm_map]
  refine ⟨ls.map Lot.count, by simp [Ls, List.map_map], by show 4 ≤ sizeLine; decide, ?_⟩
  refine ⟨_, hB.b, rfl, B, who, rfl, hB, hl, ?_⟩
  refine ⟨_, hB.b, rfl, B, who, rfl, hB, hl, ?_⟩
  refine ⟨_, hB.b, rfl, B, who, rfl, hB, hl, ?_⟩
  refine ⟨_, hB.b, rfl, B, who, rfl, hB, hl, ?_⟩
  rw [hf]
  refine ⟨by show 4 ≤ sizeLine; decide, ?_⟩
  let ns : List Int := [(ls.map Lot.count).sum, dy, 0, gt]
  refine ⟨ns.map .int, rfl, fun k => (ns[k]?).map fun _ => .bl true, fun p acc => rfl, fun k d p acc hk => ?_, by show 4 ≤ sizeLine; decide, ?_⟩
  · obtain ⟨l, h1, rfl⟩ := get_map hk
    exact ⟨rfl, _, rfl, fun a h => (nomatch h), rfl, om h1⟩
  refine ⟨[true, true, true, true], rfl, ?_⟩
  have hp : plain (D.lst (ns.map .int)) = true := plainL_ints ns
  have hd : dep (D.lst (ns.map .int)) ≤ 64 := by show depL _ + 1 ≤ 64; rw [depL_ints]; decide
  refine ⟨D.lst (ns.map .int), D.lst (ns.map .int), rfl, rfl, ⟨hp, hp, hd, hd⟩, ?_⟩
  refine ite2 (fun h => absurd h (by rw [beqD_refl hp]; decide)) (fun _ => ?_)
  refine ⟨_, hB.b, rfl, B, who, rfl, hB, hl, ?_⟩
  rw [hf]
  have h3 : ∀ x ∈ ls.map lotT, x.length ≤ 1000 := fun x hx => by
    obtain ⟨l, _, rfl⟩ := List.mem_map.mp hx
    exact (by decide : 3 ≤ 1000)
  refine ⟨ls.map lotT, ls.map lotT, by rw [← lotT_map]; rfl, ⟨by simp only [List.length_map]; omega, h3⟩, ?_⟩
  rw [decide_eq_true rfl]
  exact UpV.of k
theorem okH_law_holder (T : Txt K mg a) : OkFnH P w K mg base 4 a.f_law_holder a.d_law_holder ["_law_book", "_law_who", "_law_lots", "_law_days", "_law_got"] (sp_law_holder a) := by
  have H_Book_shares_of : OkFnH P w K mg base 3 a.f_Book_shares_of a.d_Book_shares_of ["self", "who"] (sp_Book_shares_of a) := okH_Book_shares_of T
  have H_Book_lots_of : OkFnH P w K mg base 1 a.f_Book_lots_of a.d_Book_lots_of ["self", "who"] (sp_Book_lots_of a) := okH_Book_lots_of T
  have H_Book_gain_of : OkFnH P w K mg base 1 a.f_Book_gain_of a.d_Book_gain_of ["self", "who"] (sp_Book_gain_of a) := okH_Book_gain_of T
  have H_Book_got_of : OkFnH P w K mg base 1 a.f_Book_got_of a.d_Book_got_of ["self", "who"] (sp_Book_got_of a) := okH_Book_got_of T
  have H_Book_days_of : OkFnH P w K mg base 1 a.f_Book_days_of a.d_Book_days_of ["self", "who"] (sp_Book_days_of a) := okH_Book_days_of T
  have H_law_whole : OkFnH P w K mg base 1 a.f_law_whole a.d_law_whole ["_law_found"] sp_law_whole := okH_law_whole T
  have H_law_tuples : OkFnH P w K mg base 2 a.f_law_tuples a.d_law_tuples ["_law_found", "_law_due"] sp_law_tuples := okH_law_tuples T
  refine T.F_law_holder.ok3H sc_law_holder (fun ds G Q E h => ?_) (fun cdv A outer s H E p hot hr => ?_)
  · obtain ⟨B, who, ls, dy, gt, rfl, _⟩ := h
    rfl
  have hu := hr.units
  have hu1 := L2H.hu_ofH hr
  have tk : Takes (L2H.cxH (L2.CX P w) P w K mg base ["_law_book", "_law_who", "_law_lots", "_law_days", "_law_got", "_law_due", "_law_lot", "_law_found", "_law_one"] "_law_holder" (defScope s_law_holder) a.f_law_holder cdv A outer s H E p) (fun cls d _ H' => E cls d H') := takes_of rfl rfl rfl rfl
  have hc : L2H.HotC (L2H.cxH (L2.CX P w) P w K mg base ["_law_book", "_law_who", "_law_lots", "_law_days", "_law_got", "_law_due", "_law_lot", "_law_found", "_law_one"] "_law_holder" (defScope s_law_holder) a.f_law_holder cdv A outer s H E p) := ⟨p, hot, List.mem_singleton.mpr rfl⟩
  refine ⟨_, (b_cons (s_asg (ps_set (i := 5) sc_law_holder.nd rfl (.inl rfl) (e_lst (a_cons (e_callB (L2H.cr_sumH hc) cl_sum rfl T.z_sum (by decide +kernel) (a_cons (e_lc (L2H.pe_lcH (own := [("_law_lot", 6)]) (g := gName 6) hc sc_law_holder.nd (i_listH (e_var (pv 2))) (blkOk_by (own := [("_law_lot", 6)]) (N := ["_law_book", "_law_who", "_law_lots", "_law_days", "_law_got", "_law_due", "_law_lot", "_law_found", "_law_one"]) (sc := defScope s_law_holder) (by decide +kernel)) (fun _ _ _ _ _ => (pg_name (i := 6) sc_law_holder.nd rfl (Or.inl rfl))) (fun _ _ _ _ _ => ts_nil) (fun _ _ _ _ _ => (e_ix (e_var (pv 6)) e_int))) (tl_name (by decide))) a_nil)) (a_cons (e_var (pv 3)) (a_cons e_int (a_cons (e_var (pv 4)) a_nil)))))))
    (b_cons (s_asg (ps_set (i := 7) sc_law_holder.nd rfl (.inl rfl) (e_lst (a_cons (e_methH (e_var (pv 0)) T.K_Book T.m_Book_shares_of H_Book_shares_of (hr.mono (by decide)) hc T.b_Book_shares_of tk (a_cons (e_var (pv 1)) a_nil)) (a_cons (e_methH (e_var (pv 0)) T.K_Book T.m_Book_days_of H_Book_days_of (hr.mono (by decide)) hc T.b_Book_days_of tk (a_cons (e_var (pv 1)) a_nil)) (a_cons (e_methH (e_var (pv 0)) T.K_Book T.m_Book_gain_of H_Book_gain_of (hr.mono (by decide)) hc T.b_Book_gain_of tk (a_cons (e_var (pv 1)) a_nil)) (a_cons (e_methH (e_var (pv 0)) T.K_Book T.m_Book_got_of H_Book_got_of (hr.mono (by decide)) hc T.b_Book_got_of tk (a_cons (e_var (pv 1)) a_nil)) a_nil)))))))
    (b_cons (s_if (PW.pt (w_or (t_not (t_val (e_callB (L2H.cr_allH hc) cl_all rfl T.z_all (by decide +kernel) (a_cons (e_lc (L2H.pe_lcH (own := [("_law_one", 8)]) (g := gName 8) hc sc_law_holder.nd (i_listH (e_var (pv 7))) (blkOk_by (own := [("_law_one", 8)]) (N := ["_law_book", "_law_who", "_law_lots", "_law_days", "_law_got", "_law_due", "_law_lot", "_law_found", "_law_one"]) (sc := defScope s_law_holder) (by decide +kernel)) (fun _ _ _ _ _ => (pg_name (i := 8) sc_law_holder.nd rfl (Or.inl rfl))) (fun _ _ _ _ _ => ts_nil) (fun _ _ _ _ _ => (e_fnH H_law_whole (hr.mono (by decide)) hc.blk rfl T.g_law_whole T.F_law_whole.kp T.b_law_whole takes0 (a_cons (e_var (pv 8)) a_nil)))) (tl_name (by decide))) a_nil)))) (w_one' (t_ne hu (e_var (pv 7)) (e_var (pv 5)))))) (b_one (s_ret e_bl)) b_nil)
    (b_one (s_ret (e_fnH H_law_tuples (hr.mono (by decide)) hc rfl T.g_law_tuples T.F_law_tuples.kp T.b_law_tuples tk (a_cons (e_methH (e_var (pv 0)) T.K_Book T.m_Book_lots_of H_Book_lots_of (hr.mono (by decide)) hc T.b_Book_lots_of tk (a_cons (e_var (pv 1)) a_nil)) (a_cons (e_var (pv 2)) a_nil)))))))), ?_⟩
  intro ds G Q E h
  obtain ⟨B, who, ls, dy, gt, rfl, hB, ⟨hf, hls, hl⟩, k⟩ := h
  refine ⟨_, rfl, fun k => (ls[k]?).map fun l => .int l.count, fun p acc => rfl, fun k d p acc hk => ?_, size_le (by simp only [List.length_map]; omega), ?_⟩
  · obtain ⟨l, h1, rfl⟩ := get_map hk
    exact ⟨rfl, _, rfl, rfl, om h1⟩
  rw [List.length_map, fm_map]
  refine ⟨ls.map Lot.count, by simp [Ls, List.map_map], by show 4 ≤ sizeLine; decide, ?_⟩
  refine ⟨_, hB.b, rfl, B, who, rfl, hB, hl, ?_⟩
  refine ⟨_, hB.b, rfl, B, who, rfl, hB, hl, ?_⟩
  refine ⟨_, hB.b, rfl, B, who, rfl, hB, hl, ?_⟩
  refine ⟨_, hB.b, rfl, B, who, rfl, hB, hl, ?_⟩
  rw [hf]
  refine ⟨by show 4 ≤ sizeLine; decide, ?_⟩
  let ns : List Int := [(ls.map Lot.count).sum, dy, 0, gt]
  refine ⟨ns.map .int, rfl, fun k => (ns[k]?).map fun _ => .bl true, fun p acc => rfl, fun k d p acc hk => ?_, by show 4 ≤ sizeLine; decide, ?_⟩
  · obtain ⟨l, h1, rfl⟩ := get_map hk
    exact ⟨rfl, _, rfl, fun a h => (nomatch h), rfl, om h1⟩
  refine ⟨[true, true, true, true], rfl, ?_⟩
  have hp : plain (D.lst (ns.map .int)) = true := plainL_ints ns
  have hd : dep (D.lst (ns.map .int)) ≤ 64 := by show depL _ + 1 ≤ 64; rw [depL_ints]; decide
  refine ⟨D.lst (ns.map .int), D.lst (ns.map .int), rfl, rfl, ⟨hp, hp, hd, hd⟩, ?_⟩
  refine ite2 (fun h => absurd h (by rw [beqD_refl hp]; decide)) (fun _ => ?_)
  refine ⟨_, hB.b, rfl, B, who, rfl, hB, hl, ?_⟩
  rw [hf]
  have h3 : ∀ x ∈ ls.map lotT, x.length ≤ 1000 := fun x hx => by
    obtain ⟨l, _, rfl⟩ := List.mem_map.mp hx
    exact (by decide : 3 ≤ 1000)
  refine ⟨ls.map lotT, ls.map lotT, by rw [← lotT_map]; rfl, ⟨by simp only [List.length_map]; omega, h3⟩, ?_⟩
  rw [decide_eq_true rfl]
  exact UpV.of k
end
/-! ### _law_all -/
/-- a lot's count so many times as many, over so many -/
def scL (n o : Int) (l : Lot) : Lot := ⟨l.day, l.count * n / o, l.cost⟩
def folkS (n o : Int) (ds gs : List (Str × Int)) (t : List Tb) : List Ho := t.map fun x => ⟨x.name, x.lots.map (scL n o), getP x.name ds * n / o, 0, getP x.name gs⟩
theorem folkS_names (n o : Int) (ds gs : List (Str × Int)) (t : List Tb) : nmH (folkS n o ds gs t) = tNm t := by simp [nmH, folkS, tNm, Function.comp_def]
theorem folkS_find {n o : Int} {ds gs : List (Str × Int)} : ∀ {t : List Tb} {x : Tb}, (tNm t).Nodup → x ∈ t → aFind x.name (folkS n o ds gs t) = some ⟨x.name, x.lots.map (scL n o), getP x.name ds * n / o, 0, getP x.name gs⟩
  | y :: r, x, hn, hx => by
    have hn' := List.nodup_cons.mp (show (y.name :: tNm r).Nodup from hn)
    have ih := folkS_find (n := n) (o := o) (ds := ds) (gs := gs) (t := r) (x := x) hn'.2
    show aFind x.name (⟨y.name, _, _, _, _⟩ :: folkS n o ds gs r) = _
    rw [aFind_cons]
    rcases List.mem_cons.mp hx with rfl | hx
    · rw [if_pos rfl]
    · rw [if_neg (fun e : y.name = x.name => hn'.1 (by rw [e]; exact List.mem_map_of_mem hx)), ih hx]
structure AllP (B : Bk) (t : List Tb) (ds gs : List (Str × Int)) (n o : Int) : Prop where
  ov : 0 < o ∧ o < 2 ^ 8000
  nd : (tNm t).Nodup
  ok : ∀ s ∈ tNm t, sOk s
  len : t.length ≤ 900
  lots : ∀ x ∈ t, x.lots.length ≤ 900 ∧ (∀ l ∈ x.lots, CMulX l.count n) ∧ CMulX (getP x.name ds) n ∧ x.name ∈ ds.map (·.1)
  ab : absH B.ppl = folkS n o ds gs t
def sp_law_all (a : Ad) : Sp3 := fun ds G Q _ => ∃ (B : Bk) (t : List Tb) (pl qd qg : Addr) (dd gs : List (Str × Int)) (n o : Int) (G0 : G3), ds = [.ref B.b, .ref pl, .ref qd, .ref qg, .int n, .int o] ∧ G = (pl, .dict (tbK t)) :: G0 ∧ (Has a.c_Book a.c_Holder B G0 ∧ (qd, .dict (pairsK dd)) ∈ G0 ∧ (qg, .dict (pairsK gs)) ∈ G0 ∧ ∀ x ∈ t, (x.p, .lst (x.lots.map lotD)) ∈ G0) ∧ AllP B t dd gs n o ∧ Q (.bl true) G
theorem sc_law_all : FnScope ["_law_book", "_law_lots", "_law_days", "_law_got", "_law_number", "_law_over", "_law_who", "_law_some", "_law_lot"] ["_law_book", "_law_lots", "_law_days", "_law_got", "_law_number", "_law_over"] (defScope s_law_all) := ⟨rfl, rfl, rfl, by decide +kernel, rfl, by decide +kernel, by decide +kernel⟩
section
variable {P : Program} {w : World} {K : PySem.W.Frag} {mg : Str → Option Value} {base : Heap} {a : Ad}
theorem ok_law_all (T : Txt K mg a) : OkFnN P w K mg base 5 a.f_law_all a.d_law_all ["_law_book", "_law_lots", "_law_days", "_law_got", "_law_number", "_law_over"] (sp_law_all a) := by
  have G_Book_names : OkFnN P w K mg base 1 a.f_Book_names a.d_Book_names ["self"] (sp_Book_names a) := ok_Book_names T
  have G_law_holder : OkFnN P w K mg base 4 a.f_law_holder a.d_law_holder ["_law_book", "_law_who", "_law_lots", "_law_days", "_law_got"] (sp_law_holder a) := ok_law_holder T
  refine T.F_law_all.ok3N sc_law_all (fun ds G Q E h => ?_) (fun cdv A outer s H E hr => ?_)
  · obtain ⟨B, t, pl, qd, qg, dd, gs, n, o, G0, rfl, _⟩ := h
    rfl
  have hu := hr.units
  have hu1 := hu_of hr
  have tk : L2N.Takes (cxOf (L2N.CX P w) P w K mg base ["_law_book", "_law_lots", "_law_days", "_law_got", "_law_number", "_law_over", "_law_who", "_law_some", "_law_lot"] "_law_all" (defScope s_law_all) a.f_law_all cdv A outer s H E) (fun cls d _ H' => E cls d H') := L2N.takes_of rfl rfl rfl rfl
  refine ⟨_, (b_cons (s_wk (s_lock (s_for (passes_of rfl) rfl (i_keys (e_var (pv 1))) (g_name (pg_name (i := 6) sc_law_all.nd rfl (.inl rfl))) (b_cons (s_lc (ps_setLc (i := 7) (own := [("_law_lot", 8)]) (g := gName 8) rfl sc_law_all.nd rfl rfl (sw_true rfl rfl rfl (by decide +kernel)) (i_list (e_dgetK hu1 (e_var (pv 1)) (e_var (pv 6)))) (blkOk_by (own := [("_law_lot", 8)]) (N := ["_law_book", "_law_lots", "_law_days", "_law_got", "_law_number", "_law_over", "_law_who", "_law_some", "_law_lot"]) (sc := defScope s_law_all) (by decide +kernel)) (fun _ _ _ _ _ => (pg_name (i := 8) sc_law_all.nd rfl (Or.inl rfl))) (fun _ _ _ _ _ => ts_nil) (fun _ _ _ _ _ => (e_tup (a_cons (e_ix (e_var (pv 8)) e_int) (a_cons (e_fdiv (e_mul (e_ix (e_var (pv 8)) e_int) (e_var (pv 4))) (e_var (pv 5))) (a_cons (e_ix (e_var (pv 8)) e_int) a_nil)))))) (tl_name (by decide)))
    (b_one (s_if (t_not (t_val (e_fnN G_law_holder (hr.mono (by decide)) rfl T.g_law_holder T.F_law_holder.kp T.b_law_holder tk (a_cons (e_var (pv 0)) (a_cons (e_var (pv 6)) (a_cons (e_var (pv 7)) (a_cons (e_fdiv (e_mul (e_dget hu1 (e_var (pv 2)) (e_var (pv 6))) (e_var (pv 4))) (e_var (pv 5))) (a_cons (e_dgetD hu1 (e_var (pv 3)) (e_var (pv 6)) e_int) a_nil)))))))) (b_one (s_ret e_bl)) b_nil))))))
    (b_one (s_ret (e_eq hu (e_meth0N (e_var (pv 0)) T.K_Book T.m_Book_names G_Book_names (hr.mono (by decide)) T.b_Book_names tk) (e_callTy (call_list_dK rfl) cl_listD rfl T.z_list (by decide +kernel) (a_cons (e_var (pv 1)) a_nil)))))), ?_⟩
  intro ds G Q E h
  obtain ⟨B, t, pl, qd, qg, dd, gs, n, o, G0, rfl, rfl, ⟨hB, md, mg, ml⟩, hP, k⟩ := h
  have hlB : ∀ x ∈ absH B.ppl, x.lots.length ≤ 1000 := fun x hx => by
    rw [hP.ab] at hx
    obtain ⟨y, hy, rfl⟩ := List.mem_map.mp hx
    show (y.lots.map (scL n o)).length ≤ 1000
    have := (hP.lots y hy).1
    rw [List.length_map]; omega
  have htK : (tbK t).map (fun kv => dKey kv.1) = (tNm t).map .str := by simp [tbK, tNm, Function.comp_def, dKey]
  refine ⟨pl, tbK t, [], G0, rfl, detK_tb t, fun od => ?_⟩
  refine ⟨od, tbK t, .head _, detK_tb t, ?_⟩
  rw [htK]
  refine ⟨fun i σ G' => ∃ x6 x7 x8, σ = [some (.ref B.b), some (.ref pl), some (.ref qd), some (.ref qg), some (.int n), some (.int o), x6, x7, x8] ∧ (pl, DO.lck od (tbK t)) :: G0 = G', Up.of ⟨none, none, none, rfl, rfl⟩, fun i σ G' _ h => ?_, ?_, ?_⟩
  · obtain ⟨_, _, _, _, rfl⟩ := h
    exact .head _
  · rintro i d' σ' G' hd ⟨x6, x7, x8, rfl, rfl⟩
    obtain ⟨w, hw, rfl⟩ := get_map hd
    obtain ⟨x, h1, rfl⟩ := get_map hw
    have hxm := get_mem h1
    obtain ⟨g1, g2, g3, g4⟩ := hP.lots x hxm
    have mx := ml x hxm
    have hval : valD (tbK t) (.inr x.name) = some (.ref x.p) := by
      obtain ⟨A, R, e⟩ := List.append_of_mem hxm
      rw [e]
      refine tb_at rfl fun hm => ?_
      have hn := hP.nd
      rw [e, tNm, List.map_append, List.map_cons] at hn
      exact (List.nodup_append.mp hn).2.2 _ hm _ (List.mem_cons_self ..) rfl
    refine ⟨od, _, _, _, .head _, rfl, hval, ?_⟩
    refine ⟨_, .tail _ mx, fun k => (x.lots[k]?).map fun l => lotD (scL n o l), fun p acc => .tail _ (.tail _ mx), fun k d p acc hk => ?_, size_le (by simp only [List.length_map]; omega), ?_⟩
    · obtain ⟨l, h2, rfl⟩ := get_map hk
      exact ⟨rfl, _, rfl, _, rfl, g2 l (get_mem h2), div_lt hP.ov.1 hP.ov.2, _, rfl, by show 3 ≤ sizeLine; decide, rfl, om h2⟩
    rw [List.length_map, fm_map, show (x.lots.map fun l => lotD (scL n o l)) = (x.lots.map (scL n o)).map lotD by rw [List.map_map]; rfl]
    refine ⟨_, _, _, .tail _ md, rfl, pairsK_at g4, g3, div_lt hP.ov.1 hP.ov.2, ?_⟩
    refine ⟨⟨_, .tail _ mg⟩, _, _, .tail _ mg, rfl, ?_⟩
    rw [pairsK_get]
    refine ⟨B, x.name, x.lots.map (scL n o), getP x.name dd * n / o, getP x.name gs, rfl, hB.cons, ⟨by rw [hP.ab]; exact folkS_find hP.nd hxm, by rw [List.length_map]; exact g1, hlB⟩, ?_⟩
    exact Up.of ⟨_, _, _, rfl, rfl⟩
  rintro σ' G' ⟨x6, x7, x8, rfl, rfl⟩
  have hnm : nmH (absH B.ppl) = tNm t := by rw [hP.ab, folkS_names]
  have hpn := plain_texts (tNm t) hP.ok
  have hpp : plain (D.lst ((tNm t).map .str)) = true := hpn.1
  have hpd : dep (D.lst ((tNm t).map .str)) ≤ 64 := by show depL _ + 1 ≤ 64; have := hpn.2; omega
  refine ⟨_, .head, Up.of ?_⟩
  refine ⟨_, hB.cons.b, rfl, B, rfl, hB.cons, ?_⟩
  rw [hnm]
  refine ⟨_, .head _, ?_⟩
  rw [htK]
  refine ⟨_, _, rfl, rfl, ⟨hpp, hpp, hpd, hpd⟩, ?_⟩
  rw [beqD_refl hpp]
  exact UpV.of k
theorem okH_law_all (T : Txt K mg a) : OkFnH P w K mg base 5 a.f_law_all a.d_law_all ["_law_book", "_law_lots", "_law_days", "_law_got", "_law_number", "_law_over"] (sp_law_all a) := by
  have H_Book_names : OkFnH P w K mg base 1 a.f_Book_names a.d_Book_names ["self"] (sp_Book_names a) := okH_Book_names T
  have H_law_holder : OkFnH P w K mg base 4 a.f_law_holder a.d_law_holder ["_law_book", "_law_who", "_law_lots", "_law_days", "_law_got"] (sp_law_holder a) := okH_law_holder T
  refine T.F_law_all.ok3H sc_law_all (fun ds G Q E h => ?_) (fun cdv A outer s H E p hot hr => ?_)
  · obtain ⟨B, t, pl, qd, qg, dd, gs, n, o, G0, rfl, _⟩ := h
    rfl
  have hu := hr.units
  have hu1 := L2H.hu_ofH hr
  have tk : Takes (L2H.cxH (L2.CX P w) P w K mg base ["_law_book", "_law_lots", "_law_days", "_law_got", "_law_number", "_law_over", "_law_who", "_law_some", "_law_lot"] "_law_all" (defScope s_law_all) a.f_law_all cdv A outer s H E p) (fun cls d _ H' => E cls d H') := takes_of rfl rfl rfl rfl
  have hc : L2H.HotC (L2H.cxH (L2.CX P w) P w K mg base ["_law_book", "_law_lots", "_law_days", "_law_got", "_law_number", "_law_over", "_law_who", "_law_some", "_law_lot"] "_law_all" (defScope s_law_all) a.f_law_all cdv A outer s H E p) := ⟨p, hot, List.mem_singleton.mpr rfl⟩
  refine ⟨_, (b_cons (s_wk (s_lock (s_forH (passes_of rfl) hc (i_keysH (e_var (pv 1))) (g_name (pg_name (i := 6) sc_law_all.nd rfl (.inl rfl))) (b_cons (s_lc (L2H.ps_setLcH (i := 7) (own := [("_law_lot", 8)]) (g := gName 8) hc sc_law_all.nd rfl rfl (sw_true rfl rfl rfl (by decide +kernel)) (i_listH (e_dgetK hu1 (e_var (pv 1)) (e_var (pv 6)))) (blkOk_by (own := [("_law_lot", 8)]) (N := ["_law_book", "_law_lots", "_law_days", "_law_got", "_law_number", "_law_over", "_law_who", "_law_some", "_law_lot"]) (sc := defScope s_law_all) (by decide +kernel)) (fun _ _ _ _ _ => (pg_name (i := 8) sc_law_all.nd rfl (Or.inl rfl))) (fun _ _ _ _ _ => ts_nil) (fun _ _ _ _ _ => (e_tup (a_cons (e_ix (e_var (pv 8)) e_int) (a_cons (e_fdiv (e_mul (e_ix (e_var (pv 8)) e_int) (e_var (pv 4))) (e_var (pv 5))) (a_cons (e_ix (e_var (pv 8)) e_int) a_nil)))))) (tl_name (by decide)))
    (b_one (s_if (t_not (t_val (e_fnH H_law_holder (hr.mono (by decide)) hc rfl T.g_law_holder T.F_law_holder.kp T.b_law_holder tk (a_cons (e_var (pv 0)) (a_cons (e_var (pv 6)) (a_cons (e_var (pv 7)) (a_cons (e_fdiv (e_mul (e_dget hu1 (e_var (pv 2)) (e_var (pv 6))) (e_var (pv 4))) (e_var (pv 5))) (a_cons (e_dgetD hu1 (e_var (pv 3)) (e_var (pv 6)) e_int) a_nil)))))))) (b_one (s_ret e_bl)) b_nil))))))
    (b_one (s_ret (e_eq hu (e_meth0H (e_var (pv 0)) T.K_Book T.m_Book_names H_Book_names (hr.mono (by decide)) hc T.b_Book_names tk) (e_callTy (L2H.call_list_dKH hc) cl_listD rfl T.z_list (by decide +kernel) (a_cons (e_var (pv 1)) a_nil)))))), ?_⟩
  intro ds G Q E h
  obtain ⟨B, t, pl, qd, qg, dd, gs, n, o, G0, rfl, rfl, ⟨hB, md, mg, ml⟩, hP, k⟩ := h
  have hlB : ∀ x ∈ absH B.ppl, x.lots.length ≤ 1000 := fun x hx => by
    rw [hP.ab] at hx
    obtain ⟨y, hy, rfl⟩ := List.mem_map.mp hx
    show (y.lots.map (scL n o)).length ≤ 1000
    have := (hP.lots y hy).1
    rw [List.length_map]; omega
  have htK : (tbK t).map (fun kv => dKey kv.1) = (tNm t).map .str := by simp [tbK, tNm, Function.comp_def, dKey]
  refine ⟨pl, tbK t, [], G0, rfl, detK_tb t, fun od => ?_⟩
  refine ⟨od, tbK t, .head _, detK_tb t, ?_⟩
  rw [htK]
  refine ⟨fun i σ G' => ∃ x6 x7 x8, σ = [some (.ref B.b), some (.ref pl), some (.ref qd), some (.ref qg), some (.int n), some (.int o), x6, x7, x8] ∧ (pl, DO.lck od (tbK t)) :: G0 = G', Up.of ⟨none, none, none, rfl, rfl⟩, fun i σ G' _ h => ?_, ?_, ?_⟩
  · obtain ⟨_, _, _, _, rfl⟩ := h
    exact .head _
  · rintro i d' σ' G' hd ⟨x6, x7, x8, rfl, rfl⟩
    obtain ⟨w, hw, rfl⟩ := get_map hd
    obtain ⟨x, h1, rfl⟩ := get_map hw
    have hxm := get_mem h1
    obtain ⟨g1, g2, g3, g4⟩ := hP.lots x hxm
    have mx := ml x hxm
    have hval : valD (tbK t) (.inr x.name) = some (.ref x.p) := by
      obtain ⟨A, R, e⟩ := List.append_of_mem hxm
      rw [e]
      refine tb_at rfl fun hm => ?_
      have hn := hP.nd
      rw [e, tNm, List.map_append, List.map_cons] at hn
      exact (List.nodup_append.mp hn).2.2 _ hm _ (List.mem_cons_self ..) rfl
    refine ⟨od, _, _, _, .head _, rfl, hval, ?_⟩
    refine ⟨_, .tail _ mx, fun k => (x.lots[k]?).map fun l => lotD (scL n o l), fun p acc => .tail _ (.tail _ mx), fun k d p acc hk => ?_, size_le (by simp only [List.length_map]; omega), ?_⟩
    · obtain ⟨l, h2, rfl⟩ := get_map hk
      exact ⟨rfl, _, rfl, _, rfl, g2 l (get_mem h2), div_lt hP.ov.1 hP.ov.2, _, rfl, by show 3 ≤ sizeLine; decide, rfl, om h2⟩
    rw [List.length_map, fm_map, show (x.lots.map fun l => lotD (scL n o l)) = (x.lots.map (scL n o)).map lotD by rw [List.map_map]; rfl]
    refine ⟨_, _, _, .tail _ md, rfl, pairsK_at g4, g3, div_lt hP.ov.1 hP.ov.2, ?_⟩
    refine ⟨⟨_, .tail _ mg⟩, _, _, .tail _ mg, rfl, ?_⟩
    rw [pairsK_get]
    refine ⟨B, x.name, x.lots.map (scL n o), getP x.name dd * n / o, getP x.name gs, rfl, hB.cons, ⟨by rw [hP.ab]; exact folkS_find hP.nd hxm, by rw [List.length_map]; exact g1, hlB⟩, ?_⟩
    exact Up.of ⟨_, _, _, rfl, rfl⟩
  rintro σ' G' ⟨x6, x7, x8, rfl, rfl⟩
  have hnm : nmH (absH B.ppl) = tNm t := by rw [hP.ab, folkS_names]
  have hpn := plain_texts (tNm t) hP.ok
  have hpp : plain (D.lst ((tNm t).map .str)) = true := hpn.1
  have hpd : dep (D.lst ((tNm t).map .str)) ≤ 64 := by show depL _ + 1 ≤ 64; have := hpn.2; omega
  refine ⟨_, .head, Up.of ?_⟩
  refine ⟨_, hB.cons.b, rfl, B, rfl, hB.cons, ?_⟩
  rw [hnm]
  refine ⟨_, .head _, ?_⟩
  rw [htK]
  refine ⟨_, _, rfl, rfl, ⟨hpp, hpp, hpd, hpd⟩, ?_⟩
  rw [beqD_refl hpp]
  exact UpV.of k
end
/-! ### _law_issued -/
def dsum (day : Int) (ls : List Lot) : Int := (ls.map fun l => l.count * (day - l.day)).sum
theorem dsum_pass (day p : Int) : ∀ ls : List Lot, dsum day ls + (ls.map Lot.count).sum * p = dsum (day + p) ls
  | [] => by simp [dsum]
  | l :: r => by
    have ih := dsum_pass day p r
    simp only [dsum, List.map_cons, List.sum_cons] at ih ⊢
    rw [show day + p - l.day = (day - l.day) + p by omega, Int.mul_add, Int.add_mul]
    omega
theorem dsum_snoc (day : Int) (ls : List Lot) (l : Lot) : dsum day (ls ++ [l]) = dsum day ls + l.count * (day - l.day) := by simp [dsum]
/-- the book's people out of the table -/
def folkT (day : Int) (t : List Tb) : List Ho := t.map fun x => ⟨x.name, x.lots, dsum day x.lots, 0, 0⟩
theorem folkT_names (day : Int) (t : List Tb) : nmH (folkT day t) = tNm t := by simp [nmH, folkT, tNm, Function.comp_def]
theorem folkT_pass (day p : Int) (t : List Tb) : aPass p (folkT day t) = folkT (day + p) t := by
  unfold aPass folkT
  rw [List.map_map]
  apply List.map_congr_left
  intro x _
  show (⟨x.name, x.lots, dsum day x.lots + (x.lots.map Lot.count).sum * p, 0, 0⟩ : Ho) = _
  rw [dsum_pass]
theorem folkT_new {day : Int} {who : Str} {t : List Tb} (p : Addr) {n c : Int} (h : who ∉ tNm t) : aAdd (folkT day t) who ⟨day, n, c⟩ = folkT day (t ++ [⟨who, p, [⟨day, n, c⟩]⟩]) := by
  unfold aAdd
  rw [if_neg (by rw [folkT_names]; exact h)]
  simp [folkT, dsum]
theorem folkT_put {day : Int} {who : Str} {A R : List Tb} {x : Tb} (p : Addr) {n c : Int} (e : x.name = who) (h : who ∉ tNm A) : aAdd (folkT day (A ++ x :: R)) who ⟨day, n, c⟩ = folkT day (A ++ ⟨x.name, p, x.lots ++ [⟨day, n, c⟩]⟩ :: R) := by
  unfold aAdd
  rw [if_pos (by rw [folkT_names]; simp [tNm, e])]
  unfold folkT
  rw [List.map_append, List.map_cons, aUpd_at (by rw [← folkT, folkT_names]; exact h) e]
  simp [dsum_snoc]
/-- so it stands behind so many issues -/
structure Inv14 (i : Nat) (ss : List Str) (D0 : Int) (t : List Tb) (B : Bk) : Prop where
  day : B.day = D0
  ab : absH B.ppl = folkT D0 t
  gr : Grade i (folkT D0 t)
  nm : ∀ n ∈ tNm t, n ∈ ss
  pos : 0 ≤ D0 ∧ D0 ≤ i * 10 ^ 28
  lots : ∀ x ∈ t, x.lots ≠ [] ∧ ∀ l ∈ x.lots, 0 ≤ l.day ∧ l.day ≤ D0
  some : i = 0 ∨ t ≠ []
theorem perm_tb1 {α : Type} {p pl : α} {T P J' J G : List α} : (p :: (P ++ (J' ++ ((pl :: T) ++ (J ++ G))))).Perm (pl :: ((T ++ [p]) ++ (P ++ ((J' ++ J) ++ G)))) := by
  classical
  rw [List.perm_iff_count]
  intro z
  simp only [List.count_cons, List.count_append, List.count_nil]
  omega
theorem perm_tb2 {α : Type} {p pl x : α} {A C P J' J G : List α} : (p :: (P ++ (J' ++ ((pl :: (A ++ x :: C)) ++ (J ++ G))))).Perm (x :: pl :: ((A ++ p :: C) ++ (P ++ ((J' ++ J) ++ G)))) := by
  classical
  rw [List.perm_iff_count]
  intro z
  simp only [List.count_cons, List.count_append, List.count_nil]
  omega
def sp_law_issued (a : Ad) : Sp3 := fun ds G Q _ => ∃ (B : Bk) (ss : List Str) (ns : List Int) (n : Nat) (G0 : G3), ds = [.ref B.b, .lst (ss.map .str), .scr ns, .int (n : Int)] ∧ G = bkG a.c_Book a.c_Holder B ++ G0 ∧ (B.day = 0 ∧ B.ppl = []) ∧ ScOk ns ∧ (1 ≤ n ∧ n ≤ 8 ∧ 4 ≤ ss.length ∧ ss.length ≤ 12) ∧
  ∀ B' J t D0 pl, B'.b = B.b → Inv14 n ss D0 t B' → Q (.lst [.ref pl, .int D0]) ((pl, .dict (tbK t)) :: (tbG t ++ (bkG a.c_Book a.c_Holder B' ++ (J ++ G0))))
theorem sc_law_issued : FnScope ["_law_book", "_law_names_here", "_law_script", "_law_many", "_law_lots", "_law_day", "_law_k", "_law_number", "_law_some", "_law_great", "_law_lot"] ["_law_book", "_law_names_here", "_law_script", "_law_many"] (defScope s_law_issued) := ⟨rfl, rfl, rfl, by decide +kernel, rfl, by decide +kernel, by decide +kernel⟩
section
variable {P : Program} {w : World} {K : PySem.W.Frag} {mg : Str → Option Value} {base : Heap} {a : Ad}
theorem ok_law_issued (T : Txt K mg a) : OkFnN P w K mg base 6 a.f_law_issued a.d_law_issued ["_law_book", "_law_names_here", "_law_script", "_law_many"] (sp_law_issued a) := by
  have G_Book_issue : OkFnN P w K mg base 5 a.f_Book_issue a.d_Book_issue ["self", "day", "who", "count", "paid"] (pm (sp_Book_issue a)) := OkFnN.pm (ok_Book_issue T)
  have G_law_cell_at : OkFnN P w K mg base 1 a.f_law_cell_at a.d_law_cell_at ["_law_script", "_law_k"] sp_law_cell_at := ok_law_cell_at T
  have G_law_drawn : OkFnN P w K mg base 1 a.f_law_drawn a.d_law_drawn ["_law_cell", "_law_sizes"] sp_law_drawn := ok_law_drawn T
  have G_law_mixed : OkFnN P w K mg base 1 a.f_law_mixed a.d_law_mixed ["_law_cell", "_law_place"] sp_law_mixed := ok_law_mixed T
  refine T.F_law_issued.ok3N sc_law_issued (fun ds G Q E h => ?_) (fun cdv A outer s H E hr => ?_)
  · obtain ⟨B, ss, ns, n, G0, rfl, _⟩ := h
    rfl
  have hu := hr.units
  have hu1 := hu_of hr
  have tk : L2N.Takes (cxOf (L2N.CX P w) P w K mg base ["_law_book", "_law_names_here", "_law_script", "_law_many", "_law_lots", "_law_day", "_law_k", "_law_number", "_law_some", "_law_great", "_law_lot"] "_law_issued" (defScope s_law_issued) a.f_law_issued cdv A outer s H E) (fun cls d _ H' => E cls d H') := L2N.takes_of rfl rfl rfl rfl
  refine ⟨_, (b_cons (s_asg (ps_set (i := 4) sc_law_issued.nd rfl (.inl rfl) e_dnew))
    (b_cons (s_asg (ps_set (i := 5) sc_law_issued.nd rfl (.inl rfl) e_int))
    (b_cons (s_wk (s_for (passes_of rfl) rfl (i_range1 rfl T.z_range (e_var (pv 3))) (g_name (pg_name (i := 6) sc_law_issued.nd rfl (.inl rfl))) (b_cons (s_asg (ps_set (i := 7) sc_law_issued.nd rfl (.inl rfl) (e_fnN G_law_mixed (hr.mono (by decide)) rfl T.g_law_mixed T.F_law_mixed.kp T.b_law_mixed tk (a_cons (e_fnN G_law_cell_at (hr.mono (by decide)) rfl T.g_law_cell_at T.F_law_cell_at.kp T.b_law_cell_at tk (a_cons (e_var (pv 2)) (a_cons (e_add e_int (e_var (pv 6))) a_nil))) (a_cons (e_var (pv 6)) a_nil)))))
    (b_cons (s_asg (ps_set (i := 8) sc_law_issued.nd rfl (.inl rfl) (e_fnN G_law_drawn (hr.mono (by decide)) rfl T.g_law_drawn T.F_law_drawn.kp T.b_law_drawn tk (a_cons (e_var (pv 7)) (a_cons (e_lst (a_cons (e_callB call_len cl_len rfl T.z_len (by decide +kernel) (a_cons (e_var (pv 1)) a_nil)) (a_cons e_int (a_cons e_int (a_cons e_int (a_cons e_int a_nil)))))) a_nil)))))
    (b_cut (s_asg (ps_set (i := 9) sc_law_issued.nd rfl (.inl rfl) (e_lst (a_cons (e_mod (e_mul (e_var (pv 7)) (e_pow e_int e_int)) (e_pow e_int e_int)) (a_cons (e_mod (e_mul (e_var (pv 7)) (e_pow e_int e_int)) (e_sub (e_pow e_int e_int) e_int)) a_nil)))))
    (b_cut (s_asg (ps_set (i := 5) sc_law_issued.nd rfl (.inl rfl) (e_add (e_var (pv 5)) (e_ix (e_lst (a_cons e_int (a_cons e_int (a_cons e_int (a_cons e_int (a_cons e_int (a_cons e_int (a_cons e_int (a_cons e_int (a_cons (e_mod (e_ix (e_var (pv 9)) e_int) e_int) (a_cons (e_mod (e_ix (e_var (pv 9)) e_int) (e_pow e_int e_int)) a_nil))))))))))) (e_ix (e_var (pv 8)) e_int)))))
    (b_cut (s_asg (ps_set (i := 10) sc_law_issued.nd rfl (.inl rfl) (e_tup (a_cons (e_var (pv 5)) (a_cons (e_ix (e_lst (a_cons (e_add e_int (e_ix (e_var (pv 8)) e_int)) (a_cons (e_mul e_int (e_add e_int (e_ix (e_var (pv 8)) e_int))) (a_cons (e_add e_int (e_ix (e_var (pv 9)) e_int)) (a_cons (e_add e_int (e_ix (e_var (pv 9)) e_int)) a_nil))))) (e_ix (e_var (pv 8)) e_int)) (a_cons (e_ix (e_var (pv 8)) e_int) a_nil))))))
    (b_cons (s_expr (e_methN (e_var (pv 0)) T.K_Book T.m_Book_issue G_Book_issue (hr.mono (by decide)) T.b_Book_issue tk (a_cons (e_var (pv 5)) (a_cons (e_ix (e_var (pv 1)) (e_ix (e_var (pv 8)) e_int)) (a_cons (e_ix (e_var (pv 10)) e_int) (a_cons (e_ix (e_var (pv 10)) e_int) a_nil))))))
    (b_one (s_dput hu1 (e_var (pv 4)) (e_ix (e_var (pv 1)) (e_ix (e_var (pv 8)) e_int)) (e_addO (e_dgetD hu1 (e_var (pv 4)) (e_ix (e_var (pv 1)) (e_ix (e_var (pv 8)) e_int)) (e_lst a_nil)) (e_lst (a_cons (e_var (pv 10)) a_nil)))))))))))))
    (b_one (s_ret (e_lst (a_cons (e_var (pv 4)) (a_cons (e_var (pv 5)) a_nil)))))))), ?_⟩
  intro ds G Q E h
  obtain ⟨B, ss, ns, n, G0, rfl, rfl, ⟨hd0, hp0⟩, hsc, ⟨hn1, hn8, hs4, hs12⟩, k⟩ := h
  refine fun pl => ?_
  refine ⟨⟨by omega, Int.lt_of_le_of_lt (show (n : Int) ≤ 8 by omega) (by decide)⟩, ?_⟩
  let L := fun (b : Addr) (D0 : Int) (x6 x7 x8 x9 x10 : Option D) => ([some (.ref b), some (.lst (ss.map .str)), some (.scr ns), some (.int (n : Int)), some (.ref pl), some (.int D0), x6, x7, x8, x9, x10] : St3)
  refine ⟨fun i σ G' => ∃ (B' : Bk) (J : G3) (t : List Tb) (D0 : Int) (x6 x7 x8 x9 x10 : Option D), σ = L B'.b D0 x6 x7 x8 x9 x10 ∧ G' = (pl, DO.dict (tbK t)) :: (tbG t ++ (bkG a.c_Book a.c_Holder B' ++ (J ++ G0))) ∧ B'.b = B.b ∧ Inv14 i ss D0 t B', ?_, fun _ _ _ _ _ => trivial, ?_, ?_⟩
  · exact Up.of ⟨B, [], [], 0, none, none, none, none, none, rfl, rfl, rfl, ⟨hd0, by rw [hp0]; rfl, ⟨List.nodup_nil, Nat.le_refl _, (fun x hx => nomatch hx), Int.le_of_lt (Int.pow_pos (by decide)), Int.le_of_lt (Int.pow_pos (by decide))⟩, (fun n hn => nomatch hn), ⟨Int.le_refl _, by simp⟩, (fun x hx => nomatch hx), .inl rfl⟩⟩
  · rintro i d σ' G' hd ⟨B1, J, t, D0, x6, x7, x8, x9, x10, rfl, rfl, hbB, hI⟩
    obtain ⟨hi, rfl⟩ := nats_get hd
    have hi : i < n := hi
    have hcb := cell_bl hsc (5 + (i : Int))
    have hb := mixed_bl (p := (i : Int)) hcb (by omega) (by omega) (by decide)
    refine ⟨ns, _, rfl, by omega, ?_⟩
    refine ⟨_, _, rfl, ⟨Nat.le_trans hcb (by decide), by omega, by omega⟩, ?_⟩
    generalize mixed (cellAt ns (5 + (i : Int))) (i : Int) = nm at *
    refine ⟨by show 5 ≤ sizeLine; decide, ?_⟩
    let sz : List Int := [((ss.map D.str).length : Int), 10, 4, 10, 100]
    refine ⟨nm, sz, rfl, ⟨by show 5 ≤ 1000; decide, ?_⟩, ?_⟩
    · intro s hs
      simp [sz] at hs
      rcases hs with rfl | rfl | rfl | rfl | rfl
      · exact ⟨by omega, Int.lt_trans (show (ss.length : Int) < 100 by omega) (by decide)⟩
      all_goals exact ⟨by decide, by decide⟩
    obtain ⟨s0, s1, s2, s3, s4, hs, h0, h1, h2, h3, h4⟩ : ∃ s0 s1 s2 s3 s4 : Int, (drawn nm sz).map D.int = [.int s0, .int s1, .int s2, .int s3, .int s4] ∧ (0 ≤ s0 ∧ s0 < ss.length) ∧ (0 ≤ s1 ∧ s1 < 10) ∧ (0 ≤ s2 ∧ s2 < 4) ∧ (0 ≤ s3 ∧ s3 < 10) ∧ (0 ≤ s4 ∧ s4 < 100) := by
      refine ⟨_, _, _, _, _, rfl, ?_, ?_, ?_, ?_, ?_⟩
      · rw [List.length_map]
        exact ⟨Int.emod_nonneg _ (by omega), Int.emod_lt_of_pos _ (by omega)⟩
      all_goals exact ⟨Int.emod_nonneg _ (by decide), Int.emod_lt_of_pos _ (by decide)⟩
    rw [hs]
    have m1 : CMulX nm (48271 ^ 7) := mul_ok hb (show bl ((48271 : Int) ^ 7) ≤ 200 by decide +kernel) (by decide)
    have m2 : CMulX nm (69621 ^ 7) := mul_ok hb (show bl ((69621 : Int) ^ 7) ≤ 200 by decide +kernel) (by decide)
    let GG : G3 := (pl, DO.dict (tbK t)) :: (tbG t ++ (bkG a.c_Book a.c_Holder B1 ++ (J ++ G0)))
    let SM : Option D := some (.lst [.int s0, .int s1, .int s2, .int s3, .int s4])
    let I0 : Option D := some (.int (i : Int))
    refine ⟨fun σ' G' => ∃ g0 g1, σ' = L B1.b D0 I0 (some (.int nm)) SM (some (.lst [.int g0, .int g1])) x10 ∧ GG = G' ∧ (0 ≤ g0 ∧ g0 < 10 ^ 12) ∧ 0 ≤ g1 ∧ g1 < 10 ^ 30 - 1, ?_, ?_⟩
    · refine ⟨⟨by decide, by decide, by decide⟩, m1, ⟨by decide, by decide, by decide⟩, by decide, ⟨by decide, by decide, by decide⟩, m2, ⟨by decide, by decide, by decide⟩, by decide, by show 2 ≤ sizeLine; decide, ?_⟩
      have g0 := Int.emod_nonneg (nm * 48271 ^ 7) (show (10 ^ 12 : Int) ≠ 0 by decide)
      have g0' := Int.emod_lt_of_pos (nm * 48271 ^ 7) (show (0 : Int) < 10 ^ 12 by decide)
      have g1 := Int.emod_nonneg (nm * 69621 ^ 7) (show (10 ^ 30 - 1 : Int) ≠ 0 by decide)
      have g1' := Int.emod_lt_of_pos (nm * 69621 ^ 7) (show (0 : Int) < 10 ^ 30 - 1 by decide)
      exact Up.of ⟨_, _, rfl, rfl, ⟨g0, g0'⟩, g1, g1'⟩
    rintro σ' G' ⟨g0, g1, rfl, rfl, ⟨g0p, g0l⟩, g1p, g1l⟩
    let GR : Option D := some (.lst [.int g0, .int g1])
    refine ⟨fun σ' G' => ∃ D1, σ' = L B1.b D1 I0 (some (.int nm)) SM GR x10 ∧ GG = G' ∧ D0 ≤ D1 ∧ D1 ≤ D0 + 10 ^ 28, ?_, ?_⟩
    · refine ⟨_, rfl, by decide, _, rfl, ⟨by decide, by decide, by decide⟩, by decide, by show 10 ≤ sizeLine; decide, _, rfl, ?_⟩
      have p1 := atI_pick (xs := [0, 0, 1, 1, 2, 3, 30, 400, g0 % 500, g1 % 10 ^ 27]) (i := s1) h1.1 h1.2
      refine ⟨_, p1, ?_⟩
      have hmem : [0, 0, 1, 1, 2, 3, 30, 400, g0 % 500, g1 % 10 ^ 27].getD s1.toNat 0 ∈ [0, 0, 1, 1, 2, 3, 30, 400, g0 % 500, g1 % 10 ^ 27] := T3.getD_mem (by simp; omega)
      generalize [0, 0, 1, 1, 2, 3, 30, 400, g0 % 500, g1 % 10 ^ 27].getD s1.toNat 0 = v at *
      refine Up.of ⟨_, rfl, rfl, ?_⟩
      simp only [List.mem_cons, List.not_mem_nil, or_false] at hmem
      omega
    rintro σ' G' ⟨D1, rfl, rfl, hD1, hD2⟩
    refine ⟨fun σ' G' => ∃ c, σ' = L B1.b D1 I0 (some (.int nm)) SM GR (some (.tup [.int D1, .int c, .int s4])) ∧ GG = G' ∧ 1 ≤ c ∧ c ≤ 10 ^ 30, ?_, ?_⟩
    · refine ⟨.int s3, rfl, .int s3, rfl, mul_small (by decide) (by decide) (by omega) (by omega), _, rfl, _, rfl, by show 4 ≤ sizeLine; decide, .int s2, rfl, ?_⟩
      have p1 := atI_pick (xs := [1 + s3, 12 * (1 + s3), 1 + g0, 1 + g1]) (i := s2) h2.1 h2.2
      refine ⟨_, p1, _, rfl, by show 3 ≤ sizeLine; decide, ?_⟩
      have hmem : [1 + s3, 12 * (1 + s3), 1 + g0, 1 + g1].getD s2.toNat 0 ∈ [1 + s3, 12 * (1 + s3), 1 + g0, 1 + g1] := T3.getD_mem (by simp; omega)
      generalize [1 + s3, 12 * (1 + s3), 1 + g0, 1 + g1].getD s2.toNat 0 = v at *
      refine Up.of ⟨_, rfl, rfl, ?_⟩
      simp only [List.mem_cons, List.not_mem_nil, or_false] at hmem
      omega
    rintro σ' G' ⟨c, rfl, rfl, hc1, hc2⟩
    -- who
    obtain ⟨wi, hwi⟩ := Int.eq_ofNat_of_zero_le h0.1
    have hwl : wi < ss.length := by omega
    have gw : atI (ss.map D.str) s0 = some (.str ss[wi]) := by rw [hwi]; exact atI_nat (by simp [hwl])
    have hwm : ss[wi] ∈ ss := List.getElem_mem hwl
    generalize ss[wi] = who at gw hwm
    obtain ⟨hday, hab, hgr, hnm, hpos, hlots, hsome⟩ := hI
    have hD1' : 0 ≤ D1 := by omega
    have hok : DeedOk D0 (.issue D1 who c s4) := ⟨Int.le_trans (show D1 - D0 ≤ 10 ^ 28 by omega) (by decide), Int.lt_of_lt_of_le (show s4 < 100 by omega) (by decide), Int.le_trans hc2 (by decide)⟩
    have hS : Safe D0 (folkT D0 t) (.issue D1 who c s4) := hgr.safe (by omega) hok
    have hyes := aDo_issue (xs := folkT D0 t) (w := who) hD1 hc1 h4.1
    have hgr2 := hgr.step (by omega) hok hyes
    rw [folkT_pass, show D0 + (D1 - D0) = D1 by omega] at hgr2
    refine ⟨_, .tail _ (List.mem_append_right _ (List.mem_append_left _ (.head _))), rfl, _, rfl, _, gw, _, rfl, _, rfl, ?_⟩
    refine ⟨_, perm_front (L := (pl, DO.dict (tbK t)) :: tbG t) (P := bkG a.c_Book a.c_Holder B1) (R := J ++ G0), B1, D1, who, c, s4, _, rfl, rfl, fun h => absurd h (by omega), fun _ h => absurd h (by omega), fun _ _ _ => ⟨by rw [← hab, ← hday] at hS; exact hS.fit (by show B1.day ≤ D1; omega), fun B2 J2 e1 e2 e3 => ?_⟩⟩
    rw [hab, hday, folkT_pass, show D0 + (D1 - D0) = D1 by omega] at e3
    -- the table
    have mq : (pl, DO.dict (tbK t)) ∈ bkG a.c_Book a.c_Holder B2 ++ (J2 ++ (((pl, DO.dict (tbK t)) :: tbG t) ++ (J ++ G0))) := List.mem_append_right _ (List.mem_append_right _ (.head _))
    refine ⟨⟨_, mq⟩, _, rfl, _, gw, Nat.zero_le _, _, _, mq, rfl, ?_⟩
    have htl : t.length ≤ 63 := by have := hgr.len; simp [folkT] at this; omega
    have hpos2 : D1 ≤ ((i + 1 : Nat) : Int) * 10 ^ 28 := by
      have := hpos.2
      rw [Int.natCast_succ, Int.add_mul]
      omega
    rcases find_tb who t with hno | ⟨A, x, R, f1, f2, f3⟩
    · rw [tb_none hno]
      refine ⟨by show 1 ≤ sizeLine; decide, [], [lotD ⟨D1, c, s4⟩], rfl, rfl, by show 0 + 1 ≤ sizeLine; decide, fun p => ?_⟩
      refine ⟨_, rfl, _, gw, _, _, _, .tail (.right (.right (.left .head))), rfl, size_lt (by simp [tbK]; omega), ?_⟩
      rw [tb_new p ⟨D1, c, s4⟩ hno]
      refine Up.perm perm_tb1 (Up.of ⟨B2, J2 ++ J, t ++ [⟨who, p, [⟨D1, c, s4⟩]⟩], D1, _, _, _, _, _, by rw [e1]; first | done | rfl, by rw [tbG_append]; rfl, e1.trans hbB, ⟨e2, ?_, ?_, fun m hm => ?_, ⟨hD1', hpos2⟩, fun y hy => ?_, .inr (by simp)⟩⟩)
      · rw [e3, folkT_new p hno]
      · rw [← folkT_new p hno]; exact hgr2
      · rw [tNm, List.map_append, List.mem_append] at hm
        rcases hm with hm | hm
        · exact hnm m hm
        · rw [List.mem_singleton.mp hm]; exact hwm
      · rcases List.mem_append.mp hy with hy | hy
        · exact ⟨(hlots y hy).1, fun l hl => by have := (hlots y hy).2 l hl; omega⟩
        · rw [List.mem_singleton.mp hy]
          exact ⟨by simp, fun l hl => by rw [List.mem_singleton.mp hl]; exact ⟨hD1', Int.le_refl _⟩⟩
    · have hnd : (tNm (A ++ x :: R)).Nodup := by rw [← f1, ← folkT_names D0]; exact hgr.nd
      have hxm : x ∈ t := by rw [f1]; simp
      have mx : (x.p, DO.lst (x.lots.map lotD)) ∈ bkG a.c_Book a.c_Holder B2 ++ (J2 ++ (((pl, DO.dict (tbK t)) :: tbG t) ++ (J ++ G0))) := List.mem_append_right _ (List.mem_append_right _ (.tail _ (List.mem_append_left _ (List.mem_map_of_mem (f := fun x : Tb => (x.p, DO.lst (x.lots.map lotD))) hxm))))
      have hxl := (hgr.lots ⟨x.name, x.lots, dsum D0 x.lots, 0, 0⟩ (List.mem_map.mpr ⟨x, hxm, rfl⟩)).1
      rw [show valD (tbK t) (.inr who) = some (.ref x.p) by rw [f1]; exact tb_at f2 f3]
      refine ⟨by show 1 ≤ sizeLine; decide, x.lots.map lotD, [lotD ⟨D1, c, s4⟩], mx, rfl, size_le (by simp only [List.length_map, List.length_singleton]; have h9 : x.lots.length ≤ i := hxl; omega), fun p => ?_⟩
      refine ⟨_, rfl, _, gw, _, _, _, .tail (.right (.right (.left .head))), rfl, size_lt (by simp [tbK]; omega), ?_⟩
      rw [show putD (tbK t) (.inr who) (.ref p) = tbK (A ++ ⟨x.name, p, x.lots ++ [⟨D1, c, s4⟩]⟩ :: R) by rw [f1]; exact tb_put p ⟨D1, c, s4⟩ f2 hnd]
      rw [show tbG t = tbG A ++ (x.p, DO.lst (x.lots.map lotD)) :: tbG R by rw [f1, tbG_append]; rfl]
      have hnew : folkT D1 (A ++ ⟨x.name, p, x.lots ++ [⟨D1, c, s4⟩]⟩ :: R) = aAdd (folkT D1 t) who ⟨D1, c, s4⟩ := by rw [f1]; exact (folkT_put p f2 f3).symm
      refine Up.perm perm_tb2 (Up.drop (Up.of ⟨B2, J2 ++ J, A ++ ⟨x.name, p, x.lots ++ [⟨D1, c, s4⟩]⟩ :: R, D1, _, _, _, _, _, by rw [e1]; first | done | rfl, ?_, e1.trans hbB, ⟨e2, ?_, ?_, fun m hm => ?_, ⟨hD1', hpos2⟩, fun y hy => ?_, .inr (by simp)⟩⟩))
      · rw [tbG_append]
        have e : tbG (⟨x.name, p, x.lots ++ [⟨D1, c, s4⟩]⟩ :: R) = (p, DO.lst (x.lots.map lotD ++ [lotD ⟨D1, c, s4⟩])) :: tbG R := by simp [tbG]
        rw [e]
      · rw [e3, hnew]
      · rw [hnew]; exact hgr2
      · refine hnm m ?_
        rw [f1]
        rw [tNm, List.map_append, List.map_cons] at hm ⊢
        exact hm
      · rcases List.mem_append.mp hy with hy | hy
        · have hym : y ∈ t := by rw [f1]; exact List.mem_append_left _ hy
          exact ⟨(hlots y hym).1, fun l hl => by have := (hlots y hym).2 l hl; omega⟩
        · rcases List.mem_cons.mp hy with rfl | hy
          · refine ⟨by simp, fun l hl => ?_⟩
            rcases List.mem_append.mp hl with hl | hl
            · have := (hlots x hxm).2 l hl; omega
            · rw [List.mem_singleton.mp hl]; exact ⟨hD1', Int.le_refl _⟩
          · have hym : y ∈ t := by rw [f1]; exact List.mem_append_right _ (.tail _ hy)
            exact ⟨(hlots y hym).1, fun l hl => by have := (hlots y hym).2 l hl; omega⟩
  · rintro σ' G' ⟨B1, J, t, D0, x6, x7, x8, x9, x10, rfl, rfl, hb, hI⟩
    rw [nats_len]  at hI
    exact Up.of ⟨by show 2 ≤ sizeLine; decide, UpV.of (k B1 J t D0 pl hb (by simpa using hI))⟩
end
/-! ### law -/
def mxL (start : Int) (l : Lot) : Int := if start > l.day then start else l.day
def dueL (day start : Int) (ls : List Lot) : Int := (ls.map fun l => l.count * (day - mxL start l)).sum
theorem dueL_pass (day start p : Int) : ∀ ls : List Lot, dueL day start ls + (ls.map Lot.count).sum * p = dueL (day + p) start ls
  | [] => by simp [dueL]
  | l :: r => by
    have ih := dueL_pass day start p r
    simp only [dueL, List.map_cons, List.sum_cons] at ih ⊢
    rw [show day + p - mxL start l = (day - mxL start l) + p by omega, Int.mul_add, Int.add_mul]
    omega
/-- the book's people, from a day on, with what each got -/
def folkD (day start : Int) (gs : List (Str × Int)) (t : List Tb) : List Ho := t.map fun x => ⟨x.name, x.lots, dueL day start x.lots, 0, getP x.name gs⟩
theorem folkD_names (day start : Int) (gs : List (Str × Int)) (t : List Tb) : nmH (folkD day start gs t) = tNm t := by simp [nmH, folkD, tNm, Function.comp_def]
theorem folkD_pass (day start p : Int) (gs : List (Str × Int)) (t : List Tb) : aPass p (folkD day start gs t) = folkD (day + p) start gs t := by
  unfold aPass folkD
  rw [List.map_map]
  apply List.map_congr_left
  intro x _
  show (⟨x.name, x.lots, dueL day start x.lots + (x.lots.map Lot.count).sum * p, 0, _⟩ : Ho) = _
  rw [dueL_pass]
theorem getP_nil (who : Str) : getP who [] = 0 := rfl
theorem folkT_D {D0 : Int} {t : List Tb} (h : ∀ x ∈ t, ∀ l ∈ x.lots, 0 ≤ l.day) : folkT D0 t = folkD D0 0 [] t := by
  unfold folkT folkD
  apply List.map_congr_left
  intro x hx
  rw [getP_nil]
  congr 1
  unfold dsum dueL
  congr 1
  apply List.map_congr_left
  intro l hl
  have := h x hx l hl
  unfold mxL
  rw [if_neg (by omega)]
theorem getP_cons (who : Str) (z : Str × Int) (r : List (Str × Int)) : getP who (z :: r) = if z.1 = who then z.2 else getP who r := by
  unfold getP
  rw [List.find?_cons]
  by_cases e : z.1 = who
  · rw [decide_eq_true e, if_pos e]; rfl
  · rw [decide_eq_false e, if_neg e]
theorem paid_tb {D1 : Int} : ∀ {t : List Tb} {ps : List Int}, t.length = ps.length → (tNm t).Nodup → (∀ x ∈ t, ∀ l ∈ x.lots, l.day ≤ D1) → payH (folkT D1 t) ps = folkD D1 D1 ((tNm t).zip ps) t
  | [], [], _, _, _ => rfl
  | x :: r, p :: q, hl, hn, hd => by
    have hn' := List.nodup_cons.mp (show (x.name :: tNm r).Nodup from hn)
    have ih := paid_tb (D1 := D1) (t := r) (ps := q) (by simpa using hl) hn'.2 fun y hy => hd y (List.mem_cons_of_mem _ hy)
    have e1 : folkD D1 D1 ((tNm (x :: r)).zip (p :: q)) r = folkD D1 D1 ((tNm r).zip q) r := by
      unfold folkD
      apply List.map_congr_left
      intro y hy
      congr 1
      show getP y.name ((x.name, p) :: (tNm r).zip q) = _
      rw [getP_cons, if_neg (fun e : x.name = y.name => hn'.1 (by rw [e]; exact List.mem_map_of_mem hy))]
    have e2 : folkD D1 D1 ((tNm (x :: r)).zip (p :: q)) (x :: r) = ⟨x.name, x.lots, dueL D1 D1 x.lots, 0, getP x.name ((tNm (x :: r)).zip (p :: q))⟩ :: folkD D1 D1 ((tNm (x :: r)).zip (p :: q)) r := rfl
    have e3 : payH (folkT D1 (x :: r)) (p :: q) = ⟨x.name, x.lots, 0, 0, 0 + p⟩ :: payH (folkT D1 r) q := rfl
    rw [e2, e1, ← ih, e3]
    congr 1
    have d0 : dueL D1 D1 x.lots = 0 := by
      have hx := hd x (List.mem_cons_self ..)
      generalize x.lots = ls at hx
      unfold dueL
      induction ls with
      | nil => rfl
      | cons l s ih =>
        rw [List.map_cons, List.sum_cons, ih fun z hz => hx z (List.mem_cons_of_mem _ hz)]
        have := hx l (List.mem_cons_self ..)
        unfold mxL
        split
        · simp
        · rw [show D1 - l.day = 0 by omega]; simp
    rw [d0]
    have : getP x.name ((x.name, p) :: (tNm r).zip q) = p := by rw [getP_cons, if_pos rfl]
    show (⟨x.name, x.lots, 0, 0, 0 + p⟩ : Ho) = ⟨x.name, x.lots, 0, 0, getP x.name ((x.name, p) :: (tNm r).zip q)⟩
    rw [this, Int.zero_add]
/-- the share-days by names -/
def daysT (later start : Int) (t : List Tb) : List (Str × Int) := t.map fun x => (x.name, dueL later start x.lots)
theorem daysT_names (later start : Int) (t : List Tb) : (daysT later start t).map (·.1) = tNm t := by simp [daysT, tNm, Function.comp_def]
theorem daysT_get {later start : Int} : ∀ {t : List Tb} {x : Tb}, (tNm t).Nodup → x ∈ t → getP x.name (daysT later start t) = dueL later start x.lots
  | y :: r, x, hn, hx => by
    have hn' := List.nodup_cons.mp (show (y.name :: tNm r).Nodup from hn)
    have ih := daysT_get (later := later) (start := start) (t := r) (x := x) hn'.2
    show getP x.name ((y.name, _) :: daysT later start r) = _
    rw [getP_cons]
    rcases List.mem_cons.mp hx with rfl | hx
    · rw [if_pos rfl]
    · rw [if_neg (fun e : y.name = x.name => hn'.1 (by rw [e]; exact List.mem_map_of_mem hx)), ih hx]
theorem putP_app {who : Str} {v : Int} : ∀ {ps : List (Str × Int)}, who ∉ ps.map (·.1) → putP who v ps = ps ++ [(who, v)]
  | [], _ => rfl
  | z :: r, h => by
    simp only [List.map_cons, List.mem_cons, not_or] at h
    have ih := putP_app (who := who) (v := v) (ps := r) h.2
    show (if z.1 = who then _ else _) = _
    rw [if_neg (fun e => h.1 e.symm), ih]
    rfl
theorem sc_one (n : Int) : scL n 1 = wide n := by funext l; simp [scL, wide]
theorem split_tb {D1 later start n : Int} {gs : List (Str × Int)} {t : List Tb} (hn : (tNm t).Nodup) : aSplit n (aPass (later - D1) (folkD D1 start gs t)) = folkS n 1 (daysT later start t) gs t := by
  rw [folkD_pass, show D1 + (later - D1) = later by omega]
  unfold aSplit folkD folkS
  rw [List.map_map]
  apply List.map_congr_left
  intro x hx
  show (⟨x.name, x.lots.map (wide n), dueL later start x.lots * n, 0, getP x.name gs⟩ : Ho) = _
  rw [daysT_get hn hx, Int.ediv_one, sc_one]
theorem join_tb {n o : Int} {dd gs : List (Str × Int)} {t : List Tb} : aJoin o (aPass 0 (folkS n 1 dd gs t)) = folkS n o dd gs t := by
  unfold aJoin aPass folkS
  rw [List.map_map, List.map_map]
  apply List.map_congr_left
  intro x hx
  have e1 : (x.lots.map (scL n 1)).map (slim o) = x.lots.map (scL n o) := by
    rw [List.map_map]
    apply List.map_congr_left
    intro l _
    simp [scL, slim]
  show (⟨x.name, (x.lots.map (scL n 1)).map (slim o), (getP x.name dd * n / 1 + ((x.lots.map (scL n 1)).map Lot.count).sum * 0) / o, 0, getP x.name gs⟩ : Ho) = _
  rw [e1, Int.mul_zero, Int.add_zero, Int.ediv_one]
/-- does all part evenly? -/
def ev1 (n o : Int) (dd : List (Str × Int)) (x : Tb) : Bool := decide (getP x.name dd * n % o = 0)
def ev2 (n o : Int) (x : Tb) : Bool := x.lots.all fun l => decide (l.count * n % o = 0)
theorem all_and {α : Type} (f g : α → Bool) : ∀ l : List α, (l.all fun x => f x && g x) = (l.all f && l.all g)
  | [] => rfl
  | x :: r => by
    rw [List.all_cons, List.all_cons, List.all_cons, all_and f g r]
    cases f x <;> cases g x <;> cases r.all f <;> cases r.all g <;> rfl
theorem even_tb {n o : Int} {dd gs : List (Str × Int)} {t : List Tb} : (aPass 0 (folkS n 1 dd gs t)).all (evenH o) = (t.all (ev1 n o dd) && t.all (ev2 n o)) := by
  rw [← all_and]
  unfold aPass folkS
  rw [List.map_map, List.all_map]
  congr 1
  funext x
  show (decide ((getP x.name dd * n / 1 + ((x.lots.map (scL n 1)).map Lot.count).sum * 0) % o = 0) && (x.lots.map (scL n 1)).all fun l => decide (l.count % o = 0)) = _
  rw [Int.mul_zero, Int.add_zero, Int.ediv_one, List.all_map]
  unfold ev1 ev2
  congr 1
  congr 1
  funext l
  simp [scL, Function.comp_def]
theorem mem_sum_le : ∀ {ws : List Int} {w : Int}, (∀ v ∈ ws, 0 ≤ v) → w ∈ ws → w ≤ ws.sum
  | v :: r, w, h, hw => by
    have h0 := h v (List.mem_cons_self ..)
    have hr := sum_nonneg fun z hz => h z (List.mem_cons_of_mem _ hz)
    rw [List.sum_cons]
    rcases List.mem_cons.mp hw with rfl | hw
    · omega
    · have := mem_sum_le (fun z hz => h z (List.mem_cons_of_mem _ hz)) hw
      omega
theorem perm_out3 {α : Type} {x y pl : α} {P J' T Z : List α} : (P ++ (J' ++ ((x :: y :: pl :: T) ++ Z))).Perm (pl :: (P ++ (J' ++ ((x :: y :: T) ++ Z)))) := by
  classical
  rw [List.perm_iff_count]
  intro z
  simp only [List.count_cons, List.count_append]
  omega
theorem perm_in3 {α : Type} {x y pl : α} {T P Z : List α} : (x :: y :: pl :: (T ++ (P ++ Z))).Perm (P ++ ((x :: y :: pl :: T) ++ Z)) := by
  classical
  rw [List.perm_iff_count]
  intro z
  simp only [List.count_cons, List.count_append]
  omega
theorem perm_out {α : Type} {pl : α} {P J' L' Z : List α} : (P ++ (J' ++ ((pl :: L') ++ Z))).Perm (pl :: (P ++ (J' ++ (L' ++ Z)))) := by
  classical
  rw [List.perm_iff_count]
  intro z
  simp only [List.count_cons, List.count_append]
  omega
def sp_law : Sp3 := fun ds G Q _ => ∃ ns : List Int, ds = [.scr ns] ∧ ScOk ns ∧ Q (.bl true) G
theorem law_true (_ : PySem.W.Frag) (ns : List Int) (h : ScOk ns) : sp_law [.scr ns] [] (fun d _ => d = .bl true) (fun _ _ => False) := ⟨ns, rfl, h, rfl⟩
theorem sc_law : FnScope ["_law_script", "_law_names_here", "_law_book", "_law_first", "_law_begun", "_law_lots", "_law_day", "_law_start", "_law_got", "_law_who", "_law_part", "_law_later", "_law_number", "_law_days", "_law_lot", "_law_over", "_law_even"] ["_law_script"] (defScope s_law) := ⟨rfl, rfl, rfl, by decide +kernel, rfl, by decide +kernel, by decide +kernel⟩
section
variable {P : Program} {w : World} {K : PySem.W.Frag} {mg : Str → Option Value} {base : Heap} {a : Ad}
theorem ok_law (T : Txt K mg a) : OkFnN P w K mg base 7 a.f_law a.d_law ["_law_script"] sp_law := by
  have G_Book_init : OkFnN P w K mg base 1 a.f_Book_init a.d_Book_init ["self"] (sp_Book_init a) := ok_Book_init T
  have G_Book_split_by : OkFnN P w K mg base 5 a.f_Book_split_by a.d_Book_split_by ["self", "day", "number"] (pm (sp_Book_split_by a)) := OkFnN.pm (ok_Book_split_by T)
  have G_Book_join_by : OkFnN P w K mg base 5 a.f_Book_join_by a.d_Book_join_by ["self", "day", "number"] (pm (sp_Book_join_by a)) := OkFnN.pm (ok_Book_join_by T)
  have G_Book_pay : OkFnN P w K mg base 5 a.f_Book_pay a.d_Book_pay ["self", "day", "coins"] (pm (sp_Book_pay a)) := OkFnN.pm (ok_Book_pay T)
  have G_law_cell_at : OkFnN P w K mg base 1 a.f_law_cell_at a.d_law_cell_at ["_law_script", "_law_k"] sp_law_cell_at := ok_law_cell_at T
  have G_law_drawn : OkFnN P w K mg base 1 a.f_law_drawn a.d_law_drawn ["_law_cell", "_law_sizes"] sp_law_drawn := ok_law_drawn T
  have G_law_names : OkFnN P w K mg base 2 a.f_law_names a.d_law_names ["_law_script"] sp_law_names := ok_law_names T
  have G_law_all : OkFnN P w K mg base 5 a.f_law_all a.d_law_all ["_law_book", "_law_lots", "_law_days", "_law_got", "_law_number", "_law_over"] (pm (sp_law_all a)) := OkFnN.pm (ok_law_all T)
  have G_law_issued : OkFnN P w K mg base 6 a.f_law_issued a.d_law_issued ["_law_book", "_law_names_here", "_law_script", "_law_many"] (pm (sp_law_issued a)) := OkFnN.pm (ok_law_issued T)
  have H_law_all : OkFnH P w K mg base 5 a.f_law_all a.d_law_all ["_law_book", "_law_lots", "_law_days", "_law_got", "_law_number", "_law_over"] (pm (sp_law_all a)) := OkFnH.pm (okH_law_all T)
  refine T.F_law.ok3N sc_law (fun ds G Q E h => ?_) (fun cdv A outer s H E hr => ?_)
  · obtain ⟨ns, rfl, _⟩ := h
    rfl
  have hu := hr.units
  have hu1 := hu_of hr
  have tk : L2N.Takes (cxOf (L2N.CX P w) P w K mg base ["_law_script", "_law_names_here", "_law_book", "_law_first", "_law_begun", "_law_lots", "_law_day", "_law_start", "_law_got", "_law_who", "_law_part", "_law_later", "_law_number", "_law_days", "_law_lot", "_law_over", "_law_even"] "law" (defScope s_law) a.f_law cdv A outer s H E) (fun cls d _ H' => E cls d H') := L2N.takes_of rfl rfl rfl rfl
  refine ⟨_, (b_cons (s_asg (ps_set (i := 1) sc_law.nd rfl (.inl rfl) (e_fnN G_law_names (hr.mono (by decide)) rfl T.g_law_names T.F_law_names.kp T.b_law_names tk (a_cons (e_var (pv 0)) a_nil))))
    (b_cons (s_asg (ps_set (i := 2) sc_law.nd rfl (.inl rfl) (e_make0N T.M_Book G_Book_init (hr.mono (by decide)) rfl T.g_Book T.b_Book_init)))
    (b_cons (s_asg (ps_set (i := 3) sc_law.nd rfl (.inl rfl) (e_fnN G_law_drawn (hr.mono (by decide)) rfl T.g_law_drawn T.F_law_drawn.kp T.b_law_drawn tk (a_cons (e_fnN G_law_cell_at (hr.mono (by decide)) rfl T.g_law_cell_at T.F_law_cell_at.kp T.b_law_cell_at tk (a_cons (e_var (pv 0)) (a_cons e_int a_nil))) (a_cons (e_lst (a_cons e_int (a_cons e_int (a_cons e_int (a_cons e_int (a_cons e_int (a_cons e_int a_nil))))))) a_nil)))))
    (b_cons (s_asg (ps_set (i := 4) sc_law.nd rfl (.inl rfl) (e_fnN G_law_issued (hr.mono (by decide)) rfl T.g_law_issued T.F_law_issued.kp T.b_law_issued tk (a_cons (e_var (pv 2)) (a_cons (e_var (pv 1)) (a_cons (e_var (pv 0)) (a_cons (e_add e_int (e_ix (e_var (pv 3)) e_int)) a_nil)))))))
    (b_cons (s_asg (ps_set (i := 5) sc_law.nd rfl (.inl rfl) (e_ix (e_var (pv 4)) e_int)))
    (b_cons (s_asg (ps_set (i := 6) sc_law.nd rfl (.inl rfl) (e_ix (e_var (pv 4)) e_int)))
    (b_cons (s_asg (ps_set (i := 7) sc_law.nd rfl (.inr rfl) e_int))
    (b_cons (s_asg (ps_set (i := 8) sc_law.nd rfl (.inl rfl) e_dnew))
    (b_cut (s_if (t_eq hu (e_ix (e_var (pv 3)) e_int) e_int) (b_cons (s_asg (ps_set (i := 6) sc_law.nd rfl (.inl rfl) (e_add (e_var (pv 6)) e_int)))
    (b_cons (s_wk (s_for (passes_of rfl) rfl (i_list (e_methN (e_var (pv 2)) T.K_Book T.m_Book_pay G_Book_pay (hr.mono (by decide)) T.b_Book_pay tk (a_cons (e_var (pv 6)) (a_cons e_int a_nil)))) (g_pair (pg_tup rfl (pgs_cons (pg_name (i := 9) sc_law.nd rfl (.inl rfl)) (pgs_cons (pg_name (i := 10) sc_law.nd rfl (.inl rfl)) pgs_nil)))) (b_one (s_dput hu1 (e_var (pv 8)) (e_var (pv 9)) (e_var (pv 10))))))
    (b_one (s_asg (ps_set (i := 7) sc_law.nd rfl (.inr rfl) (e_var (pv 6))))))) b_nil)
    (b_cut (s_asg (ps_set (i := 11) sc_law.nd rfl (.inr rfl) (e_add (e_var (pv 6)) (e_ix (e_lst (a_cons e_int (a_cons e_int (a_cons e_int (a_cons e_int (a_cons e_int (a_cons e_int (a_cons e_int (a_cons e_int (a_cons e_int (a_cons (e_mod (e_fnN G_law_cell_at (hr.mono (by decide)) rfl T.g_law_cell_at T.F_law_cell_at.kp T.b_law_cell_at tk (a_cons (e_var (pv 0)) (a_cons e_int a_nil))) e_int) a_nil))))))))))) (e_ix (e_var (pv 3)) e_int)))))
    (b_cons (s_asg (ps_set (i := 12) sc_law.nd rfl (.inr rfl) (e_add e_int (e_ix (e_var (pv 3)) e_int))))
    (b_cut (s_if (t_eq hu (e_ix (e_var (pv 3)) e_int) e_int) (b_one (s_asg (ps_set (i := 12) sc_law.nd rfl (.inr rfl) (e_add e_int (e_mod (e_mul (e_fnN G_law_cell_at (hr.mono (by decide)) rfl T.g_law_cell_at T.F_law_cell_at.kp T.b_law_cell_at tk (a_cons (e_var (pv 0)) (a_cons e_int a_nil))) (e_pow e_int e_int)) (e_pow e_int e_int)))))) b_nil)
    (b_cons (s_asg (ps_set (i := 13) sc_law.nd rfl (.inr rfl) e_dnew))
    (b_cons (s_wk (s_lock (s_for (passes_of rfl) rfl (i_keys (e_var (pv 5))) (g_name (pg_name (i := 9) sc_law.nd rfl (.inl rfl))) (b_one (s_dput hu1 (e_var (pv 13)) (e_var (pv 9)) (e_callB (cr_sum rfl) cl_sum rfl T.z_sum (by decide +kernel) (a_cons (e_lc (pe_lc (own := [("_law_lot", 14)]) (g := gName 14) rfl sc_law.nd (i_list (e_dgetK hu1 (e_var (pv 5)) (e_var (pv 9)))) (blkOk_by (own := [("_law_lot", 14)]) (N := ["_law_script", "_law_names_here", "_law_book", "_law_first", "_law_begun", "_law_lots", "_law_day", "_law_start", "_law_got", "_law_who", "_law_part", "_law_later", "_law_number", "_law_days", "_law_lot", "_law_over", "_law_even"]) (sc := defScope s_law) (by decide +kernel)) (fun _ _ _ _ _ => (pg_name (i := 14) sc_law.nd rfl (Or.inl rfl))) (fun _ _ _ _ _ => ts_nil) (fun _ _ _ _ _ => (e_mul (e_ix (e_var (pv 14)) e_int) (e_sub (e_var (pv 11)) (e_callB (call_max2 rfl) cl_max rfl T.z_max (by decide +kernel) (a_cons (e_ix (e_var (pv 14)) e_int) (a_cons (e_var (pv 7)) a_nil))))))) (tl_name (by decide))) a_nil)))))))
    (b_cons (s_if (PW.pt (w_or (t_isnNone (e_methN (e_var (pv 2)) T.K_Book T.m_Book_split_by G_Book_split_by (hr.mono (by decide)) T.b_Book_split_by tk (a_cons (e_var (pv 11)) (a_cons (e_var (pv 12)) a_nil)))) (w_one' (t_not (t_val (e_fnN G_law_all (hr.mono (by decide)) rfl T.g_law_all T.F_law_all.kp T.b_law_all tk (a_cons (e_var (pv 2)) (a_cons (e_var (pv 5)) (a_cons (e_var (pv 13)) (a_cons (e_var (pv 8)) (a_cons (e_var (pv 12)) (a_cons e_int a_nil)))))))))))) (b_one (s_ret e_bl)) b_nil)
    (b_cons (s_asg (ps_set (i := 15) sc_law.nd rfl (.inr rfl) (e_add (e_var (pv 12)) (e_mul e_int (e_callTy call_int1 cl_int rfl T.z_int (by decide +kernel) (a_cons (e_eq hu (e_ix (e_var (pv 3)) e_int) e_int) a_nil))))))
    (b_cons (s_asg (ps_set (i := 16) sc_law.nd rfl (.inl rfl) (e_callB (cr_all rfl) cl_all rfl T.z_all (by decide +kernel) (a_cons (e_lcD (pe_lock (pe_lc (own := [("_law_who", 9)]) (g := gName 9) rfl sc_law.nd (i_keys (e_var (pv 5))) (blkOk_by (own := [("_law_who", 9)]) (N := ["_law_script", "_law_names_here", "_law_book", "_law_first", "_law_begun", "_law_lots", "_law_day", "_law_start", "_law_got", "_law_who", "_law_part", "_law_later", "_law_number", "_law_days", "_law_lot", "_law_over", "_law_even"]) (sc := defScope s_law) (by decide +kernel)) (fun _ _ _ _ _ => (pg_name (i := 9) sc_law.nd rfl (Or.inl rfl))) (fun _ _ _ _ _ => ts_nil) (fun _ _ _ _ _ => (e_eq hu (e_mod (e_mul (e_dget hu1 (e_var (pv 13)) (e_var (pv 9))) (e_var (pv 12))) (e_var (pv 15))) e_int)))) (tl_name (by decide))) a_nil))))
    (b_cons (s_wk (s_lock (s_for (passes_of rfl) rfl (i_keys (e_var (pv 5))) (g_name (pg_name (i := 9) sc_law.nd rfl (.inl rfl))) (b_one (s_asg (ps_set (i := 16) sc_law.nd rfl (.inl rfl) (e_and (e_var (pv 16)) (e_one (e_callB (cr_all rfl) cl_all rfl T.z_all (by decide +kernel) (a_cons (e_lc (pe_lc (own := [("_law_lot", 14)]) (g := gName 14) rfl sc_law.nd (i_list (e_dgetK hu1 (e_var (pv 5)) (e_var (pv 9)))) (blkOk_by (own := [("_law_lot", 14)]) (N := ["_law_script", "_law_names_here", "_law_book", "_law_first", "_law_begun", "_law_lots", "_law_day", "_law_start", "_law_got", "_law_who", "_law_part", "_law_later", "_law_number", "_law_days", "_law_lot", "_law_over", "_law_even"]) (sc := defScope s_law) (by decide +kernel)) (fun _ _ _ _ _ => (pg_name (i := 14) sc_law.nd rfl (Or.inl rfl))) (fun _ _ _ _ _ => ts_nil) (fun _ _ _ _ _ => (e_eq hu (e_mod (e_mul (e_ix (e_var (pv 14)) e_int) (e_var (pv 12))) (e_var (pv 15))) e_int))) (tl_name (by decide))) a_nil))))))))))
    (b_cut (s_tryN rfl rfl tk (fun W pn xe tk _ => (b_one (s_expr (e_methN (e_var (pv 2)) T.K_Book T.m_Book_join_by G_Book_join_by (hr.mono (by decide)) T.b_Book_join_by tk (a_cons (e_var (pv 11)) (a_cons (e_var (pv 15)) a_nil)))))) (hd_consN ⟨rfl, by decide, .inl T.g_Uneven⟩ (fun a oe cls d pn hz hf => (b_one (s_ret (e_and (e_not (e_var (pv 16))) (e_one (e_fnH H_law_all (L2H.roomH_mark (hr.mono (by decide)) _) (suite_hot hz hf) rfl T.g_law_all T.F_law_all.kp T.b_law_all takes0 (a_cons (e_var (pv 2)) (a_cons (e_var (pv 5)) (a_cons (e_var (pv 13)) (a_cons (e_var (pv 8)) (a_cons (e_var (pv 12)) (a_cons e_int a_nil)))))))))))) hd_nilN))
    (b_one (s_ret (e_and (e_var (pv 16)) (e_one (e_fnN G_law_all (hr.mono (by decide)) rfl T.g_law_all T.F_law_all.kp T.b_law_all tk (a_cons (e_var (pv 2)) (a_cons (e_var (pv 5)) (a_cons (e_var (pv 13)) (a_cons (e_var (pv 8)) (a_cons (e_var (pv 12)) (a_cons (e_var (pv 15)) a_nil)))))))))))))))))))))))))))))), ?_⟩
  intro ds G Q E h
  obtain ⟨ns, rfl, hsc, k⟩ := h
  refine ⟨ns, rfl, hsc, fun ss ⟨hs4, hs12, hsl⟩ => ?_⟩
  refine fun b => ⟨b, _, rfl, rfl, fun pd => ⟨rfl, ?_⟩⟩
  refine ⟨ns, 4, rfl, by decide, ?_⟩
  refine ⟨by show 6 ≤ sizeLine; decide, ?_⟩
  refine ⟨cellAt ns 4, [8, 3, 4, 8, 10, 3], rfl, ⟨by decide, ?_⟩, ?_⟩
  · intro s hs
    simp at hs
    rcases hs with rfl | rfl | rfl | rfl | rfl | rfl <;> exact ⟨by decide, by decide⟩
  obtain ⟨s0, s1, s2, s3, s4, s5, hs, h0, h1, h2, h3, h4, h5⟩ : ∃ s0 s1 s2 s3 s4 s5 : Int, (drawn (cellAt ns 4) [8, 3, 4, 8, 10, 3]).map D.int = [.int s0, .int s1, .int s2, .int s3, .int s4, .int s5] ∧ (0 ≤ s0 ∧ s0 < 8) ∧ (0 ≤ s1 ∧ s1 < 3) ∧ (0 ≤ s2 ∧ s2 < 4) ∧ (0 ≤ s3 ∧ s3 < 8) ∧ (0 ≤ s4 ∧ s4 < 10) ∧ (0 ≤ s5 ∧ s5 < 3) := by
    refine ⟨_, _, _, _, _, _, rfl, ?_, ?_, ?_, ?_, ?_, ?_⟩
    all_goals exact ⟨Int.emod_nonneg _ (by decide), Int.emod_lt_of_pos _ (by decide)⟩
  rw [hs]
  obtain ⟨m, hm⟩ := Int.eq_ofNat_of_zero_le h0.1
  subst hm
  let FF : Option D := some (.lst [.int (m : Int), .int s1, .int s2, .int s3, .int s4, .int s5])
  refine ⟨_, rfl, ?_⟩
  refine ⟨_, List.Perm.swap .., ⟨b, pd, 0, []⟩, ss, ns, m + 1, G, by rw [show (1 + (m : Int)) = ((m + 1 : Nat) : Int) by omega], rfl, ⟨rfl, rfl⟩, hsc, ⟨by omega, by omega, hs4, hs12⟩, fun B0 J0 t D0 pl hb0 hI => ?_⟩
  refine ⟨_, rfl, ?_⟩
  refine ⟨_, rfl, ?_⟩
  refine fun qg => ?_
  obtain ⟨hday, hab, hgr, hnm, hpos, hlots, hsome⟩ := hI
  have hm8 : m + 1 ≤ 8 := by omega
  have hD0 : D0 ≤ 8 * 10 ^ 28 := Int.le_trans hpos.2 (Int.mul_le_mul_of_nonneg_right (by omega) (by decide))
  have hnd : (tNm t).Nodup := by rw [← folkT_names D0]; exact hgr.nd
  have hsok : ∀ s ∈ tNm t, sOk s := fun s hs => (hsl s (hnm s hs)).2
  have htn : t ≠ [] := by rcases hsome with h | h; · omega
                          · exact h
  have htl : t.length ≤ 8 := by have := hgr.len; simp [folkT] at this; omega
  have hbb : B0.b = b := hb0
  clear hb0
  subst hbb
  let BG : Option D := some (.lst [.ref pl, .int D0])
  let V := fun (bb : Addr) (D1 start : Int) (x9 x10 x11 x12 x13 x14 x15 x16 : Option D) => ([some (.scr ns), some (.lst (ss.map .str)), some (.ref bb), FF, BG, some (.ref pl), some (.int D1), some (.int start), some (.ref qg), x9, x10, x11, x12, x13, x14, x15, x16] : St3)
  refine ⟨fun σ' G' => ∃ (B : Bk) (J : G3) (D1 start : Int) (gs : List (Str × Int)) (x9 x10 : Option D), σ' = V B.b D1 start x9 x10 none none none none none none ∧ G' = (qg, DO.dict (pairsK gs)) :: (pl, .dict (tbK t)) :: (tbG t ++ (bkG a.c_Book a.c_Holder B ++ (J ++ G))) ∧
    (B.day = D1 ∧ absH B.ppl = folkD D1 start gs t ∧ Grade 10 (folkD D1 start gs t)) ∧ (D0 ≤ D1 ∧ D1 ≤ 9 * 10 ^ 28) ∧ (0 ≤ start ∧ start ≤ D1), ?_, ?_⟩
  · refine ⟨_, rfl, ?_⟩
    have hTD : folkT D0 t = folkD D0 0 [] t := folkT_D fun x hx l hl => ((hlots x hx).2 l hl).1
    refine ite2 (fun _ => ?_) (fun _ => Up.of ⟨B0, J0, D0, 0, [], none, none, rfl, rfl, ⟨hday, hab.trans hTD, ?_⟩, ⟨Int.le_refl _, by omega⟩, ⟨Int.le_refl _, hpos.1⟩⟩)
    · let M : G3 := (qg, DO.dict []) :: (pl, .dict (tbK t)) :: tbG t
      have hok : DeedOk D0 (.pay (D0 + 1) 1000) := ⟨Int.le_trans (show D0 + 1 - D0 ≤ 1 by omega) (by decide), (by decide : (1000 : Int) < 2 ^ 200), trivial⟩
      have hS : Safe D0 (folkT D0 t) (.pay (D0 + 1) 1000) := hgr.safe (by omega) hok
      have hsum : (behinds (D0 + 1 - D0) (folkT D0 t)).sum ≠ 0 := by
        have hpos2 : ∀ w ∈ behinds (D0 + 1 - D0) (folkT D0 t), 1 ≤ w := fun w hw => by
          obtain ⟨y, hy, rfl⟩ := List.mem_map.mp hw
          obtain ⟨x, hx, rfl⟩ := List.mem_map.mp hy
          obtain ⟨g1, g2, g3⟩ := hgr.lots _ hy
          obtain ⟨q1, q2⟩ := lots_many g2
          obtain ⟨l, hl⟩ := List.exists_mem_of_ne_nil _ (hlots x hx).1
          have q3 : l.count ≤ (x.lots.map Lot.count).sum := q2 l hl
          have q4 := (g2 l hl).1
          show 1 ≤ dsum D0 x.lots + (x.lots.map Lot.count).sum * (D0 + 1 - D0)
          rw [show D0 + 1 - D0 = 1 by omega, Int.mul_one]
          have g3 : 0 ≤ dsum D0 x.lots := g3
          omega
        obtain ⟨x, hx⟩ := List.exists_mem_of_ne_nil _ htn
        have hb1 : (⟨x.name, x.lots, dsum D0 x.lots, 0, 0⟩ : Ho).behind (D0 + 1 - D0) ∈ behinds (D0 + 1 - D0) (folkT D0 t) := List.mem_map_of_mem (List.mem_map.mpr ⟨x, hx, rfl⟩)
        have hle := mem_sum_le (fun w hw => Int.le_trans (by decide) (hpos2 w hw)) hb1
        have := hpos2 _ hb1
        omega
      obtain ⟨parts, hparts⟩ : ∃ parts, parts = partsL 1000 (behinds (D0 + 1 - D0) (folkT D0 t)).sum 0 (behinds (D0 + 1 - D0) (folkT D0 t)) := ⟨_, rfl⟩
      have hpl : parts.length = t.length := by rw [hparts, partsL_length]; simp [behinds, folkT]
      have hyes := (aDo_pay (xs := folkT D0 t) (show D0 ≤ D0 + 1 by omega) (show (0 : Int) ≤ 1000 by decide)).trans (if_neg hsum)
      have hgr2 := hgr.step (by omega) hok hyes
      rw [← hparts, folkT_pass, show D0 + (D0 + 1 - D0) = D0 + 1 by omega, paid_tb hpl.symm hnd fun x hx l hl => by have := ((hlots x hx).2 l hl).2; omega] at hgr2
      refine ⟨_, .tail _ (.tail _ (List.mem_append_right _ (List.mem_append_left _ (.head _)))), rfl, ?_⟩
      refine ⟨_, perm_front (L := M) (P := bkG a.c_Book a.c_Holder B0) (R := J0 ++ G), B0, D0 + 1, 1000, M ++ (J0 ++ G), rfl, rfl, fun h => absurd h (by omega), fun _ h => absurd h (by decide), fun g1 _ => ⟨⟨?_, ?_, ?_⟩, fun hz => ?_, fun _ B2 J2 p e1 e2 e3 => ?_⟩⟩
      · have hS2 : Safe B0.day (absH B0.ppl) (.pay (D0 + 1) 1000) := by rw [hday, hab]; exact hS
        exact hS2.fit (by rw [hday]; show D0 ≤ D0 + 1; omega)
      · rw [← absH_names, hab, folkT_names]; exact hnd
      · rw [hab, hday]; exact hS.parts (by show D0 ≤ D0 + 1; omega) rfl (by show (0 : Int) ≤ 1000; decide)
      · rw [hab, hday] at hz; exact absurd hz hsum
      · have hzp : payD (absH B0.ppl) (partsL 1000 ((absH B0.ppl).map fun x => x.behind (D0 + 1 - B0.day)).sum 0 ((absH B0.ppl).map fun x => x.behind (D0 + 1 - B0.day))) = ((tNm t).zip parts).map pairD := by
          rw [payD_eq, hab, folkT_names, hday, hparts]; rfl
        rw [hzp]
        have hxs2 : absH B2.ppl = folkD (D0 + 1) (D0 + 1) ((tNm t).zip parts) t := by
          rw [e3, hab, hday, ← paid_tb hpl.symm hnd fun x hx l hl => by have := ((hlots x hx).2 l hl).2; omega, hparts, folkT_pass, show D0 + (D0 + 1 - D0) = D0 + 1 by omega]; rfl
        obtain ⟨zs, hzs⟩ : ∃ zs, zs = (tNm t).zip parts := ⟨_, rfl⟩
        rw [← hzs] at hxs2 hgr2 ⊢
        have hz1 : zs.map (·.1) = tNm t := by rw [hzs]; exact zip_fst (by rw [hpl]; simp [tNm])
        have hzl : zs.length = t.length := by have := congrArg List.length hz1; simpa [tNm] using this
        have hzn : (zs.map (·.1)).Nodup := by rw [hz1]; exact hnd
        refine ⟨_, .head _, ?_⟩
        refine ⟨fun i σ' G' => ∃ x9 x10, σ' = V B2.b (D0 + 1) 0 x9 x10 none none none none none none ∧ G' = (p, DO.lst (zs.map pairD)) :: (bkG a.c_Book a.c_Holder B2 ++ (J2 ++ (((qg, DO.dict (pairsK (zs.take i))) :: (pl, .dict (tbK t)) :: tbG t) ++ (J0 ++ G)))), Up.of ⟨none, none, by rw [e1]; first | done | rfl, rfl⟩, fun i σ' G' _ h => ?_, ?_, ?_⟩
        · obtain ⟨_, _, _, rfl⟩ := h
          exact .head _
        · rintro i d σ' G' hd ⟨x9, x10, rfl, rfl⟩
          obtain ⟨z, hz, rfl⟩ := get_map hd
          have hnew : z.1 ∉ (zs.take i).map (·.1) := by
            have h1 : ((zs.take (i + 1)).map (·.1)).Nodup := hzn.sublist ((List.take_sublist _ _).map _)
            rw [take_snoc hz, List.map_append, List.map_cons, List.map_nil] at h1
            intro hm
            exact (List.nodup_append.mp h1).2.2 _ hm _ (List.mem_singleton.mpr rfl) rfl
          have hnd2 : ((zs.take i).map (·.1)).Nodup := hzn.sublist ((List.take_sublist _ _).map _)
          refine ⟨_, _, _, .tail (.right (.right (.left .head))), rfl, size_lt (by rw [pairsK_len, List.length_take]; omega), ?_⟩
          rw [pairsK_put _ _ hnd2, putP_app hnew]
          exact Up.of ⟨some (.str z.1), some (.int z.2), rfl, by rw [take_snoc hz]⟩
        · rintro σ' G' ⟨x9, x10, rfl, rfl⟩
          rw [List.length_map, List.take_length]
          refine Up.of ?_
          refine Up.drop (Up.perm (perm_word0 (P := bkG a.c_Book a.c_Holder B2) (J' := J2) (M := (qg, DO.dict (pairsK zs)) :: (pl, .dict (tbK t)) :: tbG t) (J := J0) (G := G)) (Up.of ⟨B2, J2 ++ J0, D0 + 1, D0 + 1, zs, x9, x10, rfl, rfl, ⟨e2, hxs2, hgr2.mono (by omega) (pow_mono (by omega)) (pow_mono (by omega))⟩, ⟨by omega, by omega⟩, ⟨by omega, Int.le_refl _⟩⟩))
    · rw [← hTD]
      exact hgr.mono (by omega) (pow_mono (by omega)) (pow_mono (by omega))
  rintro σ' G' ⟨B, J, D1, start, gs, x9, x10, rfl, rfl, ⟨hday1, hab1, hgr1⟩, ⟨hD01, hD19⟩, ⟨hst0, hst1⟩⟩
  clear hab hday hgr B0 J0
  obtain ⟨GG, hGG⟩ : ∃ GG : G3, GG = (qg, DO.dict (pairsK gs)) :: (pl, .dict (tbK t)) :: (tbG t ++ (bkG a.c_Book a.c_Holder B ++ (J ++ G))) := ⟨_, rfl⟩
  rw [← hGG]
  -- how much later
  refine ⟨fun σ' G' => ∃ later, σ' = V B.b D1 start x9 x10 (some (.int later)) none none none none none ∧ GG = G' ∧ D1 ≤ later ∧ later ≤ D1 + 500, ?_, ?_⟩
  · refine ⟨ns, 13, rfl, by decide, by decide, by show 10 ≤ sizeLine; decide, _, rfl, ?_⟩
    have p1 := atI_pick (xs := [0, 0, 1, 2, 3, 10, 30, 31, 365, cellAt ns 13 % 500]) (i := s4) h4.1 h4.2
    refine ⟨_, p1, ?_⟩
    have hmem : [0, 0, 1, 2, 3, 10, 30, 31, 365, cellAt ns 13 % 500].getD s4.toNat 0 ∈ [0, 0, 1, 2, 3, 10, 30, 31, 365, cellAt ns 13 % 500] := T3.getD_mem (by simp; omega)
    generalize [0, 0, 1, 2, 3, 10, 30, 31, 365, cellAt ns 13 % 500].getD s4.toNat 0 = v at *
    refine Up.of ⟨_, rfl, rfl, ?_⟩
    simp only [List.mem_cons, List.not_mem_nil, or_false] at hmem
    omega
  rintro σ' G' ⟨later, rfl, rfl, hl1, hl2⟩
  -- by how much
  refine ⟨_, rfl, ?_⟩
  refine ⟨fun σ' G' => ∃ number, σ' = V B.b D1 start x9 x10 (some (.int later)) (some (.int number)) none none none none ∧ GG = G' ∧ 2 ≤ number ∧ number ≤ 2 + 10 ^ 29, ?_, ?_⟩
  · refine ⟨_, rfl, ?_⟩
    refine ite2 (fun _ => ?_) (fun _ => Up.of ⟨2 + s3, rfl, rfl, by omega, by omega⟩)
    have m2 : CMulX (cellAt ns 4) (69621 ^ 7) := mul_ok (cell_bl hsc 4) (show bl ((69621 : Int) ^ 7) ≤ 200 by decide +kernel) (by decide)
    refine ⟨ns, 4, rfl, by decide, ⟨by decide, by decide, by decide⟩, m2, ⟨by decide, by decide, by decide⟩, by decide, ?_⟩
    have g0 := Int.emod_nonneg (cellAt ns 4 * 69621 ^ 7) (show (10 ^ 29 : Int) ≠ 0 by decide)
    have g0' := Int.emod_lt_of_pos (cellAt ns 4 * 69621 ^ 7) (show (0 : Int) < 10 ^ 29 by decide)
    have q : 2 ≤ 2 + cellAt ns 4 * 69621 ^ 7 % 10 ^ 29 ∧ 2 + cellAt ns 4 * 69621 ^ 7 % 10 ^ 29 ≤ 2 + 10 ^ 29 := by
      generalize cellAt ns 4 * 69621 ^ 7 % 10 ^ 29 = v at *
      omega
    exact Up.of ⟨2 + cellAt ns 4 * 69621 ^ 7 % 10 ^ 29, rfl, rfl, q.1, q.2⟩
  rintro σ' G' ⟨number, rfl, rfl, hn2, hn3⟩
  have htK : (tbK t).map (fun kv => dKey kv.1) = (tNm t).map .str := by simp [tbK, tNm, Function.comp_def, dKey]
  have hok : DeedOk D1 (.split later number) := ⟨Int.le_trans (show later - D1 ≤ 500 by omega) (by decide), Int.lt_of_le_of_lt hn3 (by decide), Int.le_trans hn3 (by decide)⟩
  have hS : Safe D1 (folkD D1 start gs t) (.split later number) := hgr1.safe (by decide) hok
  have hwide := hS.wide hl1 (decide_eq_false (by omega)) (show 0 ≤ number by omega)
  have hfm : ∀ x ∈ t, (⟨x.name, x.lots, dueL D1 start x.lots, 0, getP x.name gs⟩ : Ho) ∈ folkD D1 start gs t := fun x hx => List.mem_map.mpr ⟨x, hx, rfl⟩
  have hxl : ∀ x ∈ t, x.lots.length ≤ 10 := fun x hx => (hgr1.lots _ (hfm x hx)).1
  have hval : ∀ x ∈ t, valD (tbK t) (.inr x.name) = some (.ref x.p) := fun x hx => by
    obtain ⟨A, R, e⟩ := List.append_of_mem hx
    rw [e]
    refine tb_at rfl fun hm => ?_
    rw [e, tNm, List.map_append, List.map_cons] at hnd
    exact (List.nodup_append.mp hnd).2.2 _ hm _ (List.mem_cons_self ..) rfl
  have hmulD : ∀ x ∈ t, ∀ l ∈ x.lots, CMulX l.count (later - mxL start l) := fun x hx l hl => by
    obtain ⟨g1, g2⟩ := (hS.lots _ (hfm x hx)).2.1 l hl
    have hld := (hlots x hx).2 l hl
    have hmx : 0 ≤ mxL start l ∧ mxL start l ≤ later := by unfold mxL; split <;> omega
    exact mul_ok (bl_le (n := 7999) (by omega) g2.1) (bl_le (n := 200) (by omega) (Int.lt_of_le_of_lt (show later - mxL start l ≤ 10 ^ 30 by omega) (by decide))) (by decide)
  have mxG : ∀ x ∈ t, (x.p, DO.lst (x.lots.map lotD)) ∈ tbG t := fun x hx => List.mem_map_of_mem (f := fun x : Tb => (x.p, DO.lst (x.lots.map lotD))) hx
  -- the share-days
  refine fun qd => ?_
  rw [hGG]
  refine ⟨pl, tbK t, [(qd, .dict []), (qg, .dict (pairsK gs))], tbG t ++ (bkG a.c_Book a.c_Holder B ++ (J ++ G)), rfl, detK_tb t, fun od => ?_⟩
  refine ⟨od, tbK t, .tail _ (.tail _ (.head _)), detK_tb t, ?_⟩
  rw [htK]
  refine ⟨fun i σ' G' => ∃ x9, σ' = V B.b D1 start x9 x10 (some (.int later)) (some (.int number)) (some (.ref qd)) none none none ∧ G' = (qd, DO.dict (pairsK (daysT later start (t.take i)))) :: (qg, .dict (pairsK gs)) :: (pl, DO.lck od (tbK t)) :: (tbG t ++ (bkG a.c_Book a.c_Holder B ++ (J ++ G))), Up.of ⟨x9, rfl, rfl⟩, fun i σ' G' _ h => ?_, ?_, ?_⟩
  · obtain ⟨_, _, rfl⟩ := h
    exact .tail _ (.tail _ (.head _))
  · rintro i d' σ' G' hd ⟨x9, rfl, rfl⟩
    obtain ⟨w, hw, rfl⟩ := get_map hd
    obtain ⟨x, h1, rfl⟩ := get_map hw
    have hxm := get_mem h1
    have hl := hxl x hxm
    have mx : (x.p, DO.lst (x.lots.map lotD)) ∈ (qd, DO.dict (pairsK (daysT later start (t.take i)))) :: (qg, .dict (pairsK gs)) :: (pl, DO.lck od (tbK t)) :: (tbG t ++ (bkG a.c_Book a.c_Holder B ++ (J ++ G))) := .tail _ (.tail _ (.tail _ (List.mem_append_left _ (mxG x hxm))))
    refine ⟨od, _, _, _, .tail _ (.tail _ (.head _)), rfl, hval x hxm, ?_⟩
    refine ⟨_, mx, fun k => (x.lots[k]?).map fun l => .int (l.count * (later - mxL start l)), fun p acc => .tail _ mx, fun k d p acc hk => ?_, size_le (by simp only [List.length_map]; omega), ?_⟩
    · obtain ⟨l, h2, rfl⟩ := get_map hk
      exact ⟨rfl, _, rfl, _, rfl, hmulD x hxm l (get_mem h2), rfl, om h2⟩
    rw [List.length_map, fm_map]
    refine ⟨x.lots.map fun l => l.count * (later - mxL start l), by rw [List.map_map]; rfl, ?_⟩
    refine ⟨_, _, _, .head, rfl, size_lt (by rw [pairsK_len]; simp [daysT]; omega), ?_⟩
    have hnd2 : ((daysT later start (t.take i)).map (·.1)).Nodup := by rw [daysT_names, tNm, List.map_take]; exact hnd.sublist (List.take_sublist ..)
    have hnew : x.name ∉ (daysT later start (t.take i)).map (·.1) := by
      rw [daysT_names]
      have h9 : (tNm (t.take (i + 1))).Nodup := by rw [tNm, List.map_take]; exact hnd.sublist (List.take_sublist ..)
      rw [take_snoc h1, tNm, List.map_append, List.map_cons, List.map_nil] at h9
      intro hm
      exact (List.nodup_append.mp h9).2.2 _ hm _ (List.mem_singleton.mpr rfl) rfl
    rw [pairsK_put _ _ hnd2, putP_app hnew]
    refine Up.of ⟨some (.str x.name), rfl, ?_⟩
    rw [take_snoc h1, show daysT later start (t.take i ++ [x]) = daysT later start (t.take i) ++ [(x.name, dueL later start x.lots)] by simp [daysT]]
    rfl
  rintro σ' G' ⟨x9, rfl, rfl⟩
  refine ⟨_, .tail (.tail .head), Up.of ?_⟩
  rw [List.length_map, tNm, List.length_map, List.take_length]
  obtain ⟨dd, hdd⟩ : ∃ dd, dd = daysT later start t := ⟨_, rfl⟩
  rw [← hdd]
  have hddn : dd.map (·.1) = tNm t := by rw [hdd, daysT_names]
  have hget : ∀ x ∈ t, getP x.name dd = dueL later start x.lots := fun x hx => by rw [hdd]; exact daysT_get hnd hx
  have hmulN : ∀ x ∈ t, (∀ l ∈ x.lots, CMulX l.count number) ∧ CMulX (getP x.name dd) number := fun x hx => by
    obtain ⟨w1, w2⟩ := hwide _ (hfm x hx)
    refine ⟨w1, ?_⟩
    rw [hget x hx]
    have e : (⟨x.name, x.lots, dueL D1 start x.lots, 0, getP x.name gs⟩ : Ho).behind (later - D1) = dueL later start x.lots := by
      show dueL D1 start x.lots + (x.lots.map Lot.count).sum * (later - D1) = _
      rw [dueL_pass, show D1 + (later - D1) = later by omega]
    rw [← e]
    exact w2
  have hP : ∀ (B2 : Bk) (o : Int), 0 < o → o < 2 ^ 8000 → absH B2.ppl = folkS number o dd gs t → AllP B2 t dd gs number o := fun B2 o h1 h2 h3 =>
    ⟨⟨h1, h2⟩, hnd, hsok, by omega, fun x hx => ⟨by have := hxl x hx; omega, (hmulN x hx).1, (hmulN x hx).2, by rw [hddn]; exact List.mem_map_of_mem hx⟩, h3⟩
  let S := fun (bb : Addr) (x9 x14 x15 x16 : Option D) => V bb D1 start x9 x10 (some (.int later)) (some (.int number)) (some (.ref qd)) x14 x15 x16
  -- the split
  refine ⟨_, .tail _ (.tail _ (.tail _ (List.mem_append_right _ (List.mem_append_left _ (.head _))))), rfl, ?_⟩
  refine ⟨_, perm_in3, B, later, number, _, rfl, rfl, fun h => absurd h (by omega), fun _ h => absurd h (by omega), fun _ _ => ⟨?_, fun B2 J2 e1 e2 e3 => ?_⟩⟩
  · rw [hab1, hday1]
    have hS2 : Safe B.day (absH B.ppl) (.split later number) := by rw [hday1, hab1]; exact hS
    exact ⟨hS2.fit (by rw [hday1]; exact hl1), hwide⟩
  rw [hab1, hday1, split_tb hnd, ← hdd] at e3
  have hgr2 := hgr1.step (by decide) hok (aDo_split hl1 hn2)
  rw [split_tb hnd, ← hdd] at hgr2
  let Z : G3 := J2 ++ (((qd, DO.dict (pairsK dd)) :: (qg, .dict (pairsK gs)) :: tbG t) ++ (J ++ G))
  have hB2 : Has a.c_Book a.c_Holder B2 (bkG a.c_Book a.c_Holder B2 ++ Z) := Has.app
  have memZ : ∀ {e}, e ∈ ((qd, DO.dict (pairsK dd)) :: (qg, .dict (pairsK gs)) :: tbG t) → e ∈ Z := fun he => List.mem_append_right _ (List.mem_append_left _ he)
  have hmd : ∀ (l : G3), (qd, DO.dict (pairsK dd)) ∈ l ++ Z := fun l => List.mem_append_right _ (memZ (.head _))
  have hmg : ∀ (l : G3), (qg, DO.dict (pairsK gs)) ∈ l ++ Z := fun l => List.mem_append_right _ (memZ (.tail _ (.head _)))
  have hmt : ∀ (l : G3), ∀ x ∈ t, (x.p, DO.lst (x.lots.map lotD)) ∈ l ++ Z := fun l x hx => List.mem_append_right _ (memZ (.tail _ (.tail _ (mxG x hx))))
  refine ⟨_, perm_out3, B2, t, pl, qd, qg, dd, gs, number, 1, bkG a.c_Book a.c_Holder B2 ++ Z, by rw [e1], rfl, ⟨hB2, hmd _, hmg _, hmt _⟩, hP B2 1 (by decide) (by decide) e3, ?_⟩
  have hn1 : bl number ≤ 200 := Nat.le_trans (bl_le (n := 199) (by omega) (Int.lt_of_le_of_lt hn3 (by decide))) (by decide)
  rw [← e1]
  -- by how much it is joined
  refine ⟨_, rfl, by cases decide (s5 = 1) <;> exact mul_small (by decide) (by decide) (by decide) (by decide), ?_⟩
  have htw : (2 * if decide (s5 = 1) = true then (1 : Int) else 0) = 0 ∨ (2 * if decide (s5 = 1) = true then (1 : Int) else 0) = 2 := by split <;> simp
  generalize (2 * if decide (s5 = 1) = true then (1 : Int) else 0) = tw at *
  let over : Int := number + tw
  have hov2 : 2 ≤ over ∧ over ≤ number + 2 := by show 2 ≤ number + tw ∧ number + tw ≤ number + 2; omega
  have hov8 : over < 2 ^ 8000 := Int.lt_of_le_of_lt (show over ≤ 10 ^ 30 by omega) (by decide)
  have hZ : ∀ {e} (l : G3), e ∈ ((qd, DO.dict (pairsK dd)) :: (qg, .dict (pairsK gs)) :: tbG t) → e ∈ l ++ Z := fun l he => List.mem_append_right _ (memZ he)
  -- does it part evenly?
  refine ⟨pl, tbK t, [], bkG a.c_Book a.c_Holder B2 ++ Z, rfl, detK_tb t, fun od2 => ?_⟩
  refine ⟨od2, tbK t, .head _, detK_tb t, ?_⟩
  rw [htK]
  refine ⟨fun k => (t[k]?).map fun x => .bl (ev1 number over dd x), fun p acc => .tail _ (.head _), fun k d p acc hk => ?_, size_le (by simp [tNm]; omega), ?_⟩
  · obtain ⟨w, hw, rfl⟩ := get_map hk
    obtain ⟨x, h1, rfl⟩ := get_map hw
    have hxm := get_mem h1
    exact ⟨rfl, _, _, _, .tail _ (.tail _ (hmd _)), rfl, pairsK_at (by rw [hddn]; exact List.mem_map_of_mem hxm), (hmulN x hxm).2, by show 0 < over; omega, rfl, om h1⟩
  rw [List.length_map, tNm, List.length_map, fm_map]
  refine ⟨_, .head, ?_⟩
  refine ⟨t.map (ev1 number over dd), by simp [Ls, List.map_map, Function.comp_def], ?_⟩
  rw [show (t.map (ev1 number over dd)).all id = t.all (ev1 number over dd) by rw [List.all_map]; rfl]
  refine ⟨pl, tbK t, [], bkG a.c_Book a.c_Holder B2 ++ Z, rfl, detK_tb t, fun od3 => ?_⟩
  refine ⟨od3, tbK t, .head _, detK_tb t, ?_⟩
  rw [htK]
  let S2 := fun (x9 x14 : Option D) (eb : Bool) => S B2.b x9 x14 (some (.int over)) (some (.bl eb))
  refine ⟨fun i σ' G' => ∃ x9 x14, σ' = S2 x9 x14 (t.all (ev1 number over dd) && (t.take i).all (ev2 number over)) ∧ (pl, DO.lck od3 (tbK t)) :: (bkG a.c_Book a.c_Holder B2 ++ Z) = G', Up.of ⟨x9, none, by rw [List.take_zero, List.all_nil, Bool.and_true]; first | done | rfl, rfl⟩, fun i σ' G' _ h => ?_, ?_, ?_⟩
  · obtain ⟨_, _, _, rfl⟩ := h
    exact .head _
  · rintro i d' σ' G' hd ⟨x9, x14, rfl, rfl⟩
    obtain ⟨w, hw, rfl⟩ := get_map hd
    obtain ⟨x, h1, rfl⟩ := get_map hw
    have hxm := get_mem h1
    have hl := hxl x hxm
    have en : (t.all (ev1 number over dd) && (t.take (i + 1)).all (ev2 number over)) = ((t.all (ev1 number over dd) && (t.take i).all (ev2 number over)) && ev2 number over x) := by
      rw [take_snoc h1, List.all_append, List.all_cons, List.all_nil, Bool.and_true, Bool.and_assoc]
    have mx := hmt ((pl, DO.lck od3 (tbK t)) :: bkG a.c_Book a.c_Holder B2) x hxm
    refine ite2 (fun he => ?_) (fun he => Up.of ⟨some (.str x.name), x14, by rw [en, eq_false_of_ne_true he]; first | done | rfl, rfl⟩)
    refine ⟨od3, _, _, _, .head _, rfl, hval x hxm, ?_⟩
    refine ⟨_, mx, fun k => (x.lots[k]?).map fun l => .bl (decide (l.count * number % over = 0)), fun p acc => .tail _ mx, fun k d p acc hk => ?_, size_le (by simp only [List.length_map]; omega), ?_⟩
    · obtain ⟨l, h2, rfl⟩ := get_map hk
      exact ⟨rfl, _, rfl, (hmulN x hxm).1 l (get_mem h2), by show 0 < over; omega, rfl, om h2⟩
    rw [List.length_map, fm_map]
    refine ⟨x.lots.map fun l => decide (l.count * number % over = 0), by simp [Ls, List.map_map, Function.comp_def], ?_⟩
    refine Up.of ⟨some (.str x.name), x14, ?_, rfl⟩
    rw [en, he, Bool.true_and, List.all_map]
    rfl
  rintro σ' G' ⟨x9, x14, rfl, rfl⟩
  refine ⟨_, .head, Up.of ?_⟩
  rw [List.length_map, tNm, List.length_map, List.take_length]
  obtain ⟨eb, heb⟩ : ∃ eb, eb = (t.all (ev1 number over dd) && t.all (ev2 number over)) := ⟨_, rfl⟩
  rw [← heb]
  have hok2 : DeedOk later (.join later over) := ⟨Int.le_trans (show later - later ≤ 0 by omega) (by decide), Int.lt_of_le_of_lt (show over ≤ 10 ^ 30 by omega) (by decide), trivial⟩
  have hS3 : Safe later (folkS number 1 dd gs t) (.join later over) := hgr2.safe (by decide) hok2
  let Z2 : G3 := (pl, DO.dict (tbK t)) :: Z
  refine ⟨fun σ' G' => ∃ (B3 : Bk) (J3 : G3), σ' = S B3.b x9 x14 (some (.int over)) (some (.bl eb)) ∧ G' = bkG a.c_Book a.c_Holder B3 ++ (J3 ++ Z2) ∧ absH B3.ppl = folkS number over dd gs t ∧ eb = true, ?_, ?_⟩
  · refine ⟨_, .tail _ (List.mem_append_left _ (.head _)), rfl, ?_⟩
    refine ⟨_, List.perm_middle.symm, B2, later, over, Z2, rfl, rfl, fun h => absurd h (by omega), fun _ h => absurd h (by omega), fun _ _ => ⟨⟨?_, hov8⟩, fun hU => ?_, fun hE B3 J3 f1 f2 f3 => ?_⟩⟩
    · have hS4 : Safe B2.day (absH B2.ppl) (.join later over) := by rw [e2, e3]; exact hS3
      exact hS4.fit (by rw [e2]; exact Int.le_refl _)
    · rw [e2, e3, Int.sub_self, even_tb, ← heb] at hU
      subst hU
      refine ⟨true, T.s_Uneven_Uneven, fun _ => ?_, fun h => nomatch h⟩
      refine ⟨_, List.perm_middle, B2, t, pl, qd, qg, dd, gs, number, 1, bkG a.c_Book a.c_Holder B2 ++ Z, by rw [e1], rfl, ⟨hB2, hmd _, hmg _, hmt _⟩, hP B2 1 (by decide) (by decide) e3, ?_⟩
      exact UpV.drop (UpV.dropL (UpV.dropL (UpV.dropL (UpV.dropL (UpV.of k) J) _) J2) _)
    · rw [e2, e3, Int.sub_self, even_tb, ← heb] at hE
      rw [e2, e3, Int.sub_self, join_tb] at f3
      exact Up.of ⟨B3, J3, by rw [f1], rfl, f3, hE⟩
  rintro σ' G' ⟨B3, J3, rfl, rfl, f3, rfl⟩
  have p3 : (bkG a.c_Book a.c_Holder B3 ++ (J3 ++ Z2)).Perm ((pl, DO.dict (tbK t)) :: (bkG a.c_Book a.c_Holder B3 ++ (J3 ++ Z))) := by
    rw [← List.append_assoc, ← List.append_assoc]; exact List.perm_middle
  have hZ3 : ∀ {e}, e ∈ Z → e ∈ bkG a.c_Book a.c_Holder B3 ++ (J3 ++ Z) := fun he => List.mem_append_right _ (List.mem_append_right _ he)
  refine ⟨_, p3, B3, t, pl, qd, qg, dd, gs, number, over, bkG a.c_Book a.c_Holder B3 ++ (J3 ++ Z), rfl, rfl, ⟨Has.app, hZ3 (memZ (.head _)), hZ3 (memZ (.tail _ (.head _))), fun x hx => hZ3 (memZ (.tail _ (.tail _ (mxG x hx))))⟩, hP B3 over (by omega) hov8 f3, ?_⟩
  exact UpV.drop (UpV.dropL (UpV.dropL (UpV.dropL (UpV.dropL (UpV.dropL (UpV.of k) J) _) J2) J3) _)
end
/-! ### what the top has written -/
theorem all_mk {K : PySem.W.Frag} {h : Heap} {mg : Str → Option Value} (X : K.In h) (G : h.Ns mainGlobals mg) {fa : Addr} (hfa : mg "law" = some (.ref fa)) {c_Holder c_Book c_ShareError c_BadDay c_BadNumber c_Uneven c_NoDays f_many_of f_widened f_narrowed f_Holder_init f_Holder_many f_Holder_days_behind f_parts f_need_least f_Book_init f_Book_need_day f_Book_pass_to f_Book_given f_Book_issue f_Book_split_by f_Book_join_by f_Book_pay f_Book_names f_Book_shares_of f_Book_lots_of f_Book_gain_of f_Book_got_of f_Book_days_of f_law_whole f_law_cell_at f_law_drawn f_law_mixed f_law_name f_law_names f_law_tuples f_law_holder f_law_all f_law_issued f_law : Addr}
    {od_many_of an_many_of od_widened an_widened od_narrowed an_narrowed od_Holder_init an_Holder_init od_Holder_many an_Holder_many od_Holder_days_behind an_Holder_days_behind od_parts an_parts od_need_least an_need_least od_Book_init an_Book_init od_Book_need_day an_Book_need_day od_Book_pass_to an_Book_pass_to od_Book_given an_Book_given od_Book_issue an_Book_issue od_Book_split_by an_Book_split_by od_Book_join_by an_Book_join_by od_Book_pay an_Book_pay od_Book_names an_Book_names od_Book_shares_of an_Book_shares_of od_Book_lots_of an_Book_lots_of od_Book_gain_of an_Book_gain_of od_Book_got_of an_Book_got_of od_Book_days_of an_Book_days_of od_law_whole an_law_whole od_law_cell_at an_law_cell_at od_law_drawn an_law_drawn od_law_mixed an_law_mixed od_law_name an_law_name od_law_names an_law_names od_law_tuples an_law_tuples od_law_holder an_law_holder od_law_all an_law_all od_law_issued an_law_issued od_law an_law : Option Addr} {sl_many_of sl_widened sl_narrowed sl_Holder_init sl_Holder_many sl_Holder_days_behind sl_parts sl_need_least sl_Book_init sl_Book_need_day sl_Book_pass_to sl_Book_given sl_Book_issue sl_Book_split_by sl_Book_join_by sl_Book_pay sl_Book_names sl_Book_shares_of sl_Book_lots_of sl_Book_gain_of sl_Book_got_of sl_Book_days_of sl_law_whole sl_law_cell_at sl_law_drawn sl_law_mixed sl_law_name sl_law_names sl_law_tuples sl_law_holder sl_law_all sl_law_issued sl_law : Array (Option Value)} {oc_many_of kV_many_of dc_many_of pm_many_of cd_many_of ct_many_of oc_widened kV_widened dc_widened pm_widened cd_widened ct_widened oc_narrowed kV_narrowed dc_narrowed pm_narrowed cd_narrowed ct_narrowed oc_Holder_init kV_Holder_init dc_Holder_init pm_Holder_init cd_Holder_init ct_Holder_init oc_Holder_many kV_Holder_many dc_Holder_many pm_Holder_many cd_Holder_many ct_Holder_many oc_Holder_days_behind kV_Holder_days_behind dc_Holder_days_behind pm_Holder_days_behind cd_Holder_days_behind ct_Holder_days_behind oc_parts kV_parts dc_parts pm_parts cd_parts ct_parts oc_need_least kV_need_least dc_need_least pm_need_least cd_need_least ct_need_least oc_Book_init kV_Book_init dc_Book_init pm_Book_init cd_Book_init ct_Book_init oc_Book_need_day kV_Book_need_day dc_Book_need_day pm_Book_need_day cd_Book_need_day ct_Book_need_day oc_Book_pass_to kV_Book_pass_to dc_Book_pass_to pm_Book_pass_to cd_Book_pass_to ct_Book_pass_to oc_Book_given kV_Book_given dc_Book_given pm_Book_given cd_Book_given ct_Book_given oc_Book_issue kV_Book_issue dc_Book_issue pm_Book_issue cd_Book_issue ct_Book_issue oc_Book_split_by kV_Book_split_by dc_Book_split_by pm_Book_split_by cd_Book_split_by ct_Book_split_by oc_Book_join_by kV_Book_join_by dc_Book_join_by pm_Book_join_by cd_Book_join_by ct_Book_join_by oc_Book_pay kV_Book_pay dc_Book_pay pm_Book_pay cd_Book_pay ct_Book_pay oc_Book_names kV_Book_names dc_Book_names pm_Book_names cd_Book_names ct_Book_names oc_Book_shares_of kV_Book_shares_of dc_Book_shares_of pm_Book_shares_of cd_Book_shares_of ct_Book_shares_of oc_Book_lots_of kV_Book_lots_of dc_Book_lots_of pm_Book_lots_of cd_Book_lots_of ct_Book_lots_of oc_Book_gain_of kV_Book_gain_of dc_Book_gain_of pm_Book_gain_of cd_Book_gain_of ct_Book_gain_of oc_Book_got_of kV_Book_got_of dc_Book_got_of pm_Book_got_of cd_Book_got_of ct_Book_got_of oc_Book_days_of kV_Book_days_of dc_Book_days_of pm_Book_days_of cd_Book_days_of ct_Book_days_of oc_law_whole kV_law_whole dc_law_whole pm_law_whole cd_law_whole ct_law_whole oc_law_cell_at kV_law_cell_at dc_law_cell_at pm_law_cell_at cd_law_cell_at ct_law_cell_at oc_law_drawn kV_law_drawn dc_law_drawn pm_law_drawn cd_law_drawn ct_law_drawn oc_law_mixed kV_law_mixed dc_law_mixed pm_law_mixed cd_law_mixed ct_law_mixed oc_law_name kV_law_name dc_law_name pm_law_name cd_law_name ct_law_name oc_law_names kV_law_names dc_law_names pm_law_names cd_law_names ct_law_names oc_law_tuples kV_law_tuples dc_law_tuples pm_law_tuples cd_law_tuples ct_law_tuples oc_law_holder kV_law_holder dc_law_holder pm_law_holder cd_law_holder ct_law_holder oc_law_all kV_law_all dc_law_all pm_law_all cd_law_all ct_law_all oc_law_issued kV_law_issued dc_law_issued pm_law_issued cd_law_issued ct_law_issued oc_law kV_law dc_law pm_law cd_law ct_law : Value}
    (nc_Holder : PySem.W.nsIn K mainGlobals "Holder" = some (some (.ref c_Holder)))
    (nc_Book : PySem.W.nsIn K mainGlobals "Book" = some (some (.ref c_Book)))
    (nc_ShareError : PySem.W.nsIn K mainGlobals "ShareError" = some (some (.ref c_ShareError)))
    (nc_BadDay : PySem.W.nsIn K mainGlobals "BadDay" = some (some (.ref c_BadDay)))
    (nc_BadNumber : PySem.W.nsIn K mainGlobals "BadNumber" = some (some (.ref c_BadNumber)))
    (nc_Uneven : PySem.W.nsIn K mainGlobals "Uneven" = some (some (.ref c_Uneven)))
    (nc_NoDays : PySem.W.nsIn K mainGlobals "NoDays" = some (some (.ref c_NoDays)))
    (n_many_of : PySem.W.nsIn K mainGlobals "many_of" = some (some (.ref f_many_of)))
    (l_many_of : K.lookup f_many_of = some ⟨oc_many_of, od_many_of, .func (PySem.W.fnOf "many_of" "many_of" (defArgs s_many_of) (defBody s_many_of) (defScope s_many_of) .none kV_many_of dc_many_of pm_many_of an_many_of cd_many_of ct_many_of), sl_many_of⟩)
    (o_many_of : PySem.W.codeIn K cd_many_of "many_of" = true)
    (k_many_of : PySem.W.keepIn K (.ref f_many_of) = true)
    (n_widened : PySem.W.nsIn K mainGlobals "widened" = some (some (.ref f_widened)))
    (l_widened : K.lookup f_widened = some ⟨oc_widened, od_widened, .func (PySem.W.fnOf "widened" "widened" (defArgs s_widened) (defBody s_widened) (defScope s_widened) .none kV_widened dc_widened pm_widened an_widened cd_widened ct_widened), sl_widened⟩)
    (o_widened : PySem.W.codeIn K cd_widened "widened" = true)
    (k_widened : PySem.W.keepIn K (.ref f_widened) = true)
    (n_narrowed : PySem.W.nsIn K mainGlobals "narrowed" = some (some (.ref f_narrowed)))
    (l_narrowed : K.lookup f_narrowed = some ⟨oc_narrowed, od_narrowed, .func (PySem.W.fnOf "narrowed" "narrowed" (defArgs s_narrowed) (defBody s_narrowed) (defScope s_narrowed) .none kV_narrowed dc_narrowed pm_narrowed an_narrowed cd_narrowed ct_narrowed), sl_narrowed⟩)
    (o_narrowed : PySem.W.codeIn K cd_narrowed "narrowed" = true)
    (k_narrowed : PySem.W.keepIn K (.ref f_narrowed) = true)
    (n_Holder_init : PySem.W.findIn K (.ref c_Holder) "__init__" = some (some (.ref f_Holder_init)))
    (i_Holder_init : PySem.W.isFn K (.ref f_Holder_init) = true)
    (l_Holder_init : K.lookup f_Holder_init = some ⟨oc_Holder_init, od_Holder_init, .func (PySem.W.fnOf "__init__" "Holder.__init__" (defArgs s_Holder_init) (defBody s_Holder_init) (defScope s_Holder_init) .none kV_Holder_init dc_Holder_init pm_Holder_init an_Holder_init cd_Holder_init ct_Holder_init), sl_Holder_init⟩)
    (o_Holder_init : PySem.W.codeIn K cd_Holder_init "Holder.__init__" = true)
    (k_Holder_init : PySem.W.keepIn K (.ref f_Holder_init) = true)
    (n_Holder_many : PySem.W.findIn K (.ref c_Holder) "many" = some (some (.ref f_Holder_many)))
    (i_Holder_many : PySem.W.isFn K (.ref f_Holder_many) = true)
    (l_Holder_many : K.lookup f_Holder_many = some ⟨oc_Holder_many, od_Holder_many, .func (PySem.W.fnOf "many" "Holder.many" (defArgs s_Holder_many) (defBody s_Holder_many) (defScope s_Holder_many) .none kV_Holder_many dc_Holder_many pm_Holder_many an_Holder_many cd_Holder_many ct_Holder_many), sl_Holder_many⟩)
    (o_Holder_many : PySem.W.codeIn K cd_Holder_many "Holder.many" = true)
    (k_Holder_many : PySem.W.keepIn K (.ref f_Holder_many) = true)
    (n_Holder_days_behind : PySem.W.findIn K (.ref c_Holder) "days_behind" = some (some (.ref f_Holder_days_behind)))
    (i_Holder_days_behind : PySem.W.isFn K (.ref f_Holder_days_behind) = true)
    (l_Holder_days_behind : K.lookup f_Holder_days_behind = some ⟨oc_Holder_days_behind, od_Holder_days_behind, .func (PySem.W.fnOf "days_behind" "Holder.days_behind" (defArgs s_Holder_days_behind) (defBody s_Holder_days_behind) (defScope s_Holder_days_behind) .none kV_Holder_days_behind dc_Holder_days_behind pm_Holder_days_behind an_Holder_days_behind cd_Holder_days_behind ct_Holder_days_behind), sl_Holder_days_behind⟩)
    (o_Holder_days_behind : PySem.W.codeIn K cd_Holder_days_behind "Holder.days_behind" = true)
    (k_Holder_days_behind : PySem.W.keepIn K (.ref f_Holder_days_behind) = true)
    (n_parts : PySem.W.nsIn K mainGlobals "parts" = some (some (.ref f_parts)))
    (l_parts : K.lookup f_parts = some ⟨oc_parts, od_parts, .func (PySem.W.fnOf "parts" "parts" (defArgs s_parts) (defBody s_parts) (defScope s_parts) .none kV_parts dc_parts pm_parts an_parts cd_parts ct_parts), sl_parts⟩)
    (o_parts : PySem.W.codeIn K cd_parts "parts" = true)
    (k_parts : PySem.W.keepIn K (.ref f_parts) = true)
    (n_need_least : PySem.W.nsIn K mainGlobals "need_least" = some (some (.ref f_need_least)))
    (l_need_least : K.lookup f_need_least = some ⟨oc_need_least, od_need_least, .func (PySem.W.fnOf "need_least" "need_least" (defArgs s_need_least) (defBody s_need_least) (defScope s_need_least) .none kV_need_least dc_need_least pm_need_least an_need_least cd_need_least ct_need_least), sl_need_least⟩)
    (o_need_least : PySem.W.codeIn K cd_need_least "need_least" = true)
    (k_need_least : PySem.W.keepIn K (.ref f_need_least) = true)
    (n_Book_init : PySem.W.findIn K (.ref c_Book) "__init__" = some (some (.ref f_Book_init)))
    (i_Book_init : PySem.W.isFn K (.ref f_Book_init) = true)
    (l_Book_init : K.lookup f_Book_init = some ⟨oc_Book_init, od_Book_init, .func (PySem.W.fnOf "__init__" "Book.__init__" (defArgs s_Book_init) (defBody s_Book_init) (defScope s_Book_init) .none kV_Book_init dc_Book_init pm_Book_init an_Book_init cd_Book_init ct_Book_init), sl_Book_init⟩)
    (o_Book_init : PySem.W.codeIn K cd_Book_init "Book.__init__" = true)
    (k_Book_init : PySem.W.keepIn K (.ref f_Book_init) = true)
    (n_Book_need_day : PySem.W.findIn K (.ref c_Book) "need_day" = some (some (.ref f_Book_need_day)))
    (i_Book_need_day : PySem.W.isFn K (.ref f_Book_need_day) = true)
    (l_Book_need_day : K.lookup f_Book_need_day = some ⟨oc_Book_need_day, od_Book_need_day, .func (PySem.W.fnOf "need_day" "Book.need_day" (defArgs s_Book_need_day) (defBody s_Book_need_day) (defScope s_Book_need_day) .none kV_Book_need_day dc_Book_need_day pm_Book_need_day an_Book_need_day cd_Book_need_day ct_Book_need_day), sl_Book_need_day⟩)
    (o_Book_need_day : PySem.W.codeIn K cd_Book_need_day "Book.need_day" = true)
    (k_Book_need_day : PySem.W.keepIn K (.ref f_Book_need_day) = true)
    (n_Book_pass_to : PySem.W.findIn K (.ref c_Book) "pass_to" = some (some (.ref f_Book_pass_to)))
    (i_Book_pass_to : PySem.W.isFn K (.ref f_Book_pass_to) = true)
    (l_Book_pass_to : K.lookup f_Book_pass_to = some ⟨oc_Book_pass_to, od_Book_pass_to, .func (PySem.W.fnOf "pass_to" "Book.pass_to" (defArgs s_Book_pass_to) (defBody s_Book_pass_to) (defScope s_Book_pass_to) .none kV_Book_pass_to dc_Book_pass_to pm_Book_pass_to an_Book_pass_to cd_Book_pass_to ct_Book_pass_to), sl_Book_pass_to⟩)
    (o_Book_pass_to : PySem.W.codeIn K cd_Book_pass_to "Book.pass_to" = true)
    (k_Book_pass_to : PySem.W.keepIn K (.ref f_Book_pass_to) = true)
    (n_Book_given : PySem.W.findIn K (.ref c_Book) "given" = some (some (.ref f_Book_given)))
    (i_Book_given : PySem.W.isFn K (.ref f_Book_given) = true)
    (l_Book_given : K.lookup f_Book_given = some ⟨oc_Book_given, od_Book_given, .func (PySem.W.fnOf "given" "Book.given" (defArgs s_Book_given) (defBody s_Book_given) (defScope s_Book_given) .none kV_Book_given dc_Book_given pm_Book_given an_Book_given cd_Book_given ct_Book_given), sl_Book_given⟩)
    (o_Book_given : PySem.W.codeIn K cd_Book_given "Book.given" = true)
    (k_Book_given : PySem.W.keepIn K (.ref f_Book_given) = true)
    (n_Book_issue : PySem.W.findIn K (.ref c_Book) "issue" = some (some (.ref f_Book_issue)))
    (i_Book_issue : PySem.W.isFn K (.ref f_Book_issue) = true)
    (l_Book_issue : K.lookup f_Book_issue = some ⟨oc_Book_issue, od_Book_issue, .func (PySem.W.fnOf "issue" "Book.issue" (defArgs s_Book_issue) (defBody s_Book_issue) (defScope s_Book_issue) .none kV_Book_issue dc_Book_issue pm_Book_issue an_Book_issue cd_Book_issue ct_Book_issue), sl_Book_issue⟩)
    (o_Book_issue : PySem.W.codeIn K cd_Book_issue "Book.issue" = true)
    (k_Book_issue : PySem.W.keepIn K (.ref f_Book_issue) = true)
    (n_Book_split_by : PySem.W.findIn K (.ref c_Book) "split_by" = some (some (.ref f_Book_split_by)))
    (i_Book_split_by : PySem.W.isFn K (.ref f_Book_split_by) = true)
    (l_Book_split_by : K.lookup f_Book_split_by = some ⟨oc_Book_split_by, od_Book_split_by, .func (PySem.W.fnOf "split_by" "Book.split_by" (defArgs s_Book_split_by) (defBody s_Book_split_by) (defScope s_Book_split_by) .none kV_Book_split_by dc_Book_split_by pm_Book_split_by an_Book_split_by cd_Book_split_by ct_Book_split_by), sl_Book_split_by⟩)
    (o_Book_split_by : PySem.W.codeIn K cd_Book_split_by "Book.split_by" = true)
    (k_Book_split_by : PySem.W.keepIn K (.ref f_Book_split_by) = true)
    (n_Book_join_by : PySem.W.findIn K (.ref c_Book) "join_by" = some (some (.ref f_Book_join_by)))
    (i_Book_join_by : PySem.W.isFn K (.ref f_Book_join_by) = true)
    (l_Book_join_by : K.lookup f_Book_join_by = some ⟨oc_Book_join_by, od_Book_join_by, .func (PySem.W.fnOf "join_by" "Book.join_by" (defArgs s_Book_join_by) (defBody s_Book_join_by) (defScope s_Book_join_by) .none kV_Book_join_by dc_Book_join_by pm_Book_join_by an_Book_join_by cd_Book_join_by ct_Book_join_by), sl_Book_join_by⟩)
    (o_Book_join_by : PySem.W.codeIn K cd_Book_join_by "Book.join_by" = true)
    (k_Book_join_by : PySem.W.keepIn K (.ref f_Book_join_by) = true)
    (n_Book_pay : PySem.W.findIn K (.ref c_Book) "pay" = some (some (.ref f_Book_pay)))
    (i_Book_pay : PySem.W.isFn K (.ref f_Book_pay) = true)
    (l_Book_pay : K.lookup f_Book_pay = some ⟨oc_Book_pay, od_Book_pay, .func (PySem.W.fnOf "pay" "Book.pay" (defArgs s_Book_pay) (defBody s_Book_pay) (defScope s_Book_pay) .none kV_Book_pay dc_Book_pay pm_Book_pay an_Book_pay cd_Book_pay ct_Book_pay), sl_Book_pay⟩)
    (o_Book_pay : PySem.W.codeIn K cd_Book_pay "Book.pay" = true)
    (k_Book_pay : PySem.W.keepIn K (.ref f_Book_pay) = true)
    (n_Book_names : PySem.W.findIn K (.ref c_Book) "names" = some (some (.ref f_Book_names)))
    (i_Book_names : PySem.W.isFn K (.ref f_Book_names) = true)
    (l_Book_names : K.lookup f_Book_names = some ⟨oc_Book_names, od_Book_names, .func (PySem.W.fnOf "names" "Book.names" (defArgs s_Book_names) (defBody s_Book_names) (defScope s_Book_names) .none kV_Book_names dc_Book_names pm_Book_names an_Book_names cd_Book_names ct_Book_names), sl_Book_names⟩)
    (o_Book_names : PySem.W.codeIn K cd_Book_names "Book.names" = true)
    (k_Book_names : PySem.W.keepIn K (.ref f_Book_names) = true)
    (n_Book_shares_of : PySem.W.findIn K (.ref c_Book) "shares_of" = some (some (.ref f_Book_shares_of)))
    (i_Book_shares_of : PySem.W.isFn K (.ref f_Book_shares_of) = true)
    (l_Book_shares_of : K.lookup f_Book_shares_of = some ⟨oc_Book_shares_of, od_Book_shares_of, .func (PySem.W.fnOf "shares_of" "Book.shares_of" (defArgs s_Book_shares_of) (defBody s_Book_shares_of) (defScope s_Book_shares_of) .none kV_Book_shares_of dc_Book_shares_of pm_Book_shares_of an_Book_shares_of cd_Book_shares_of ct_Book_shares_of), sl_Book_shares_of⟩)
    (o_Book_shares_of : PySem.W.codeIn K cd_Book_shares_of "Book.shares_of" = true)
    (k_Book_shares_of : PySem.W.keepIn K (.ref f_Book_shares_of) = true)
    (n_Book_lots_of : PySem.W.findIn K (.ref c_Book) "lots_of" = some (some (.ref f_Book_lots_of)))
    (i_Book_lots_of : PySem.W.isFn K (.ref f_Book_lots_of) = true)
    (l_Book_lots_of : K.lookup f_Book_lots_of = some ⟨oc_Book_lots_of, od_Book_lots_of, .func (PySem.W.fnOf "lots_of" "Book.lots_of" (defArgs s_Book_lots_of) (defBody s_Book_lots_of) (defScope s_Book_lots_of) .none kV_Book_lots_of dc_Book_lots_of pm_Book_lots_of an_Book_lots_of cd_Book_lots_of ct_Book_lots_of), sl_Book_lots_of⟩)
    (o_Book_lots_of : PySem.W.codeIn K cd_Book_lots_of "Book.lots_of" = true)
    (k_Book_lots_of : PySem.W.keepIn K (.ref f_Book_lots_of) = true)
    (n_Book_gain_of : PySem.W.findIn K (.ref c_Book) "gain_of" = some (some (.ref f_Book_gain_of)))
    (i_Book_gain_of : PySem.W.isFn K (.ref f_Book_gain_of) = true)
    (l_Book_gain_of : K.lookup f_Book_gain_of = some ⟨oc_Book_gain_of, od_Book_gain_of, .func (PySem.W.fnOf "gain_of" "Book.gain_of" (defArgs s_Book_gain_of) (defBody s_Book_gain_of) (defScope s_Book_gain_of) .none kV_Book_gain_of dc_Book_gain_of pm_Book_gain_of an_Book_gain_of cd_Book_gain_of ct_Book_gain_of), sl_Book_gain_of⟩)
    (o_Book_gain_of : PySem.W.codeIn K cd_Book_gain_of "Book.gain_of" = true)
    (k_Book_gain_of : PySem.W.keepIn K (.ref f_Book_gain_of) = true)
    (n_Book_got_of : PySem.W.findIn K (.ref c_Book) "got_of" = some (some (.ref f_Book_got_of)))
    (i_Book_got_of : PySem.W.isFn K (.ref f_Book_got_of) = true)
    (l_Book_got_of : K.lookup f_Book_got_of = some ⟨oc_Book_got_of, od_Book_got_of, .func (PySem.W.fnOf "got_of" "Book.got_of" (defArgs s_Book_got_of) (defBody s_Book_got_of) (defScope s_Book_got_of) .none kV_Book_got_of dc_Book_got_of pm_Book_got_of an_Book_got_of cd_Book_got_of ct_Book_got_of), sl_Book_got_of⟩)
    (o_Book_got_of : PySem.W.codeIn K cd_Book_got_of "Book.got_of" = true)
    (k_Book_got_of : PySem.W.keepIn K (.ref f_Book_got_of) = true)
    (n_Book_days_of : PySem.W.findIn K (.ref c_Book) "days_of" = some (some (.ref f_Book_days_of)))
    (i_Book_days_of : PySem.W.isFn K (.ref f_Book_days_of) = true)
    (l_Book_days_of : K.lookup f_Book_days_of = some ⟨oc_Book_days_of, od_Book_days_of, .func (PySem.W.fnOf "days_of" "Book.days_of" (defArgs s_Book_days_of) (defBody s_Book_days_of) (defScope s_Book_days_of) .none kV_Book_days_of dc_Book_days_of pm_Book_days_of an_Book_days_of cd_Book_days_of ct_Book_days_of), sl_Book_days_of⟩)
    (o_Book_days_of : PySem.W.codeIn K cd_Book_days_of "Book.days_of" = true)
    (k_Book_days_of : PySem.W.keepIn K (.ref f_Book_days_of) = true)
    (n_law_whole : PySem.W.nsIn K mainGlobals "_law_whole" = some (some (.ref f_law_whole)))
    (l_law_whole : K.lookup f_law_whole = some ⟨oc_law_whole, od_law_whole, .func (PySem.W.fnOf "_law_whole" "_law_whole" (defArgs s_law_whole) (defBody s_law_whole) (defScope s_law_whole) .none kV_law_whole dc_law_whole pm_law_whole an_law_whole cd_law_whole ct_law_whole), sl_law_whole⟩)
    (o_law_whole : PySem.W.codeIn K cd_law_whole "_law_whole" = true)
    (k_law_whole : PySem.W.keepIn K (.ref f_law_whole) = true)
    (n_law_cell_at : PySem.W.nsIn K mainGlobals "_law_cell_at" = some (some (.ref f_law_cell_at)))
    (l_law_cell_at : K.lookup f_law_cell_at = some ⟨oc_law_cell_at, od_law_cell_at, .func (PySem.W.fnOf "_law_cell_at" "_law_cell_at" (defArgs s_law_cell_at) (defBody s_law_cell_at) (defScope s_law_cell_at) .none kV_law_cell_at dc_law_cell_at pm_law_cell_at an_law_cell_at cd_law_cell_at ct_law_cell_at), sl_law_cell_at⟩)
    (o_law_cell_at : PySem.W.codeIn K cd_law_cell_at "_law_cell_at" = true)
    (k_law_cell_at : PySem.W.keepIn K (.ref f_law_cell_at) = true)
    (n_law_drawn : PySem.W.nsIn K mainGlobals "_law_drawn" = some (some (.ref f_law_drawn)))
    (l_law_drawn : K.lookup f_law_drawn = some ⟨oc_law_drawn, od_law_drawn, .func (PySem.W.fnOf "_law_drawn" "_law_drawn" (defArgs s_law_drawn) (defBody s_law_drawn) (defScope s_law_drawn) .none kV_law_drawn dc_law_drawn pm_law_drawn an_law_drawn cd_law_drawn ct_law_drawn), sl_law_drawn⟩)
    (o_law_drawn : PySem.W.codeIn K cd_law_drawn "_law_drawn" = true)
    (k_law_drawn : PySem.W.keepIn K (.ref f_law_drawn) = true)
    (n_law_mixed : PySem.W.nsIn K mainGlobals "_law_mixed" = some (some (.ref f_law_mixed)))
    (l_law_mixed : K.lookup f_law_mixed = some ⟨oc_law_mixed, od_law_mixed, .func (PySem.W.fnOf "_law_mixed" "_law_mixed" (defArgs s_law_mixed) (defBody s_law_mixed) (defScope s_law_mixed) .none kV_law_mixed dc_law_mixed pm_law_mixed an_law_mixed cd_law_mixed ct_law_mixed), sl_law_mixed⟩)
    (o_law_mixed : PySem.W.codeIn K cd_law_mixed "_law_mixed" = true)
    (k_law_mixed : PySem.W.keepIn K (.ref f_law_mixed) = true)
    (n_law_name : PySem.W.nsIn K mainGlobals "_law_name" = some (some (.ref f_law_name)))
    (l_law_name : K.lookup f_law_name = some ⟨oc_law_name, od_law_name, .func (PySem.W.fnOf "_law_name" "_law_name" (defArgs s_law_name) (defBody s_law_name) (defScope s_law_name) .none kV_law_name dc_law_name pm_law_name an_law_name cd_law_name ct_law_name), sl_law_name⟩)
    (o_law_name : PySem.W.codeIn K cd_law_name "_law_name" = true)
    (k_law_name : PySem.W.keepIn K (.ref f_law_name) = true)
    (n_law_names : PySem.W.nsIn K mainGlobals "_law_names" = some (some (.ref f_law_names)))
    (l_law_names : K.lookup f_law_names = some ⟨oc_law_names, od_law_names, .func (PySem.W.fnOf "_law_names" "_law_names" (defArgs s_law_names) (defBody s_law_names) (defScope s_law_names) .none kV_law_names dc_law_names pm_law_names an_law_names cd_law_names ct_law_names), sl_law_names⟩)
    (o_law_names : PySem.W.codeIn K cd_law_names "_law_names" = true)
    (k_law_names : PySem.W.keepIn K (.ref f_law_names) = true)
    (n_law_tuples : PySem.W.nsIn K mainGlobals "_law_tuples" = some (some (.ref f_law_tuples)))
    (l_law_tuples : K.lookup f_law_tuples = some ⟨oc_law_tuples, od_law_tuples, .func (PySem.W.fnOf "_law_tuples" "_law_tuples" (defArgs s_law_tuples) (defBody s_law_tuples) (defScope s_law_tuples) .none kV_law_tuples dc_law_tuples pm_law_tuples an_law_tuples cd_law_tuples ct_law_tuples), sl_law_tuples⟩)
    (o_law_tuples : PySem.W.codeIn K cd_law_tuples "_law_tuples" = true)
    (k_law_tuples : PySem.W.keepIn K (.ref f_law_tuples) = true)
    (n_law_holder : PySem.W.nsIn K mainGlobals "_law_holder" = some (some (.ref f_law_holder)))
    (l_law_holder : K.lookup f_law_holder = some ⟨oc_law_holder, od_law_holder, .func (PySem.W.fnOf "_law_holder" "_law_holder" (defArgs s_law_holder) (defBody s_law_holder) (defScope s_law_holder) .none kV_law_holder dc_law_holder pm_law_holder an_law_holder cd_law_holder ct_law_holder), sl_law_holder⟩)
    (o_law_holder : PySem.W.codeIn K cd_law_holder "_law_holder" = true)
    (k_law_holder : PySem.W.keepIn K (.ref f_law_holder) = true)
    (n_law_all : PySem.W.nsIn K mainGlobals "_law_all" = some (some (.ref f_law_all)))
    (l_law_all : K.lookup f_law_all = some ⟨oc_law_all, od_law_all, .func (PySem.W.fnOf "_law_all" "_law_all" (defArgs s_law_all) (defBody s_law_all) (defScope s_law_all) .none kV_law_all dc_law_all pm_law_all an_law_all cd_law_all ct_law_all), sl_law_all⟩)
    (o_law_all : PySem.W.codeIn K cd_law_all "_law_all" = true)
    (k_law_all : PySem.W.keepIn K (.ref f_law_all) = true)
    (n_law_issued : PySem.W.nsIn K mainGlobals "_law_issued" = some (some (.ref f_law_issued)))
    (l_law_issued : K.lookup f_law_issued = some ⟨oc_law_issued, od_law_issued, .func (PySem.W.fnOf "_law_issued" "_law_issued" (defArgs s_law_issued) (defBody s_law_issued) (defScope s_law_issued) .none kV_law_issued dc_law_issued pm_law_issued an_law_issued cd_law_issued ct_law_issued), sl_law_issued⟩)
    (o_law_issued : PySem.W.codeIn K cd_law_issued "_law_issued" = true)
    (k_law_issued : PySem.W.keepIn K (.ref f_law_issued) = true)
    (n_law : PySem.W.nsIn K mainGlobals "law" = some (some (.ref f_law)))
    (l_law : K.lookup f_law = some ⟨oc_law, od_law, .func (PySem.W.fnOf "law" "law" (defArgs s_law) (defBody s_law) (defScope s_law) .none kV_law dc_law pm_law an_law cd_law ct_law), sl_law⟩)
    (o_law : PySem.W.codeIn K cd_law "law" = true)
    (k_law : PySem.W.keepIn K (.ref f_law) = true)
    (pg_Holder : PySem.W.plainGet K c_Holder Str.empty = true)
    (hd_Holder : PySem.W.hasDictIn K c_Holder = true)
    (po_Holder : PySem.W.plainOver K c_Holder = true)
    (sa_Holder : PySem.W.findIn K (.ref c_Holder) "__setattr__" = some (some (.builtin "object.__setattr__")))
    (mk_Holder : PySem.W.makesIn K c_Holder = true)
    (kc_Holder : PySem.W.keepIn K (.ref c_Holder) = true)
    (nf_Holder_lots : PySem.W.findIn K (.ref c_Holder) "lots" = some none)
    (nf_Holder_days : PySem.W.findIn K (.ref c_Holder) "days" = some none)
    (nf_Holder_gain : PySem.W.findIn K (.ref c_Holder) "gain" = some none)
    (nf_Holder_got : PySem.W.findIn K (.ref c_Holder) "got" = some none)
    (pg_Book : PySem.W.plainGet K c_Book Str.empty = true)
    (hd_Book : PySem.W.hasDictIn K c_Book = true)
    (po_Book : PySem.W.plainOver K c_Book = true)
    (sa_Book : PySem.W.findIn K (.ref c_Book) "__setattr__" = some (some (.builtin "object.__setattr__")))
    (mk_Book : PySem.W.makesIn K c_Book = true)
    (kc_Book : PySem.W.keepIn K (.ref c_Book) = true)
    (nf_Book_day : PySem.W.findIn K (.ref c_Book) "day" = some none)
    (nf_Book_people : PySem.W.findIn K (.ref c_Book) "people" = some none)
    (x_ShareError : PySem.W.excIn K c_ShareError [.type "ValueError", .type "Exception", .type "BaseException", .type "object"] "ValueError.__new__" = true)
    (k_ShareError : PySem.W.keepIn K (.ref c_ShareError) = true)
    (e_ShareError : PySem.W.subIn K (.ref c_ShareError) (.type "BaseException") = some true)
    (t_ShareError : PySem.W.typeIn K (.ref c_ShareError) = some (.type "type"))
    (hd_ShareError : PySem.W.hasDictIn K c_ShareError = true)
    (u_ShareError_ShareError : PySem.W.subIn K (.ref c_ShareError) (.ref c_ShareError) = some true)
    (u_ShareError_BadDay : PySem.W.subIn K (.ref c_ShareError) (.ref c_BadDay) = some false)
    (u_ShareError_BadNumber : PySem.W.subIn K (.ref c_ShareError) (.ref c_BadNumber) = some false)
    (u_ShareError_Uneven : PySem.W.subIn K (.ref c_ShareError) (.ref c_Uneven) = some false)
    (u_ShareError_NoDays : PySem.W.subIn K (.ref c_ShareError) (.ref c_NoDays) = some false)
    (x_BadDay : PySem.W.excIn K c_BadDay [.type "ValueError", .type "Exception", .type "BaseException", .type "object"] "ValueError.__new__" = true)
    (k_BadDay : PySem.W.keepIn K (.ref c_BadDay) = true)
    (e_BadDay : PySem.W.subIn K (.ref c_BadDay) (.type "BaseException") = some true)
    (t_BadDay : PySem.W.typeIn K (.ref c_BadDay) = some (.type "type"))
    (hd_BadDay : PySem.W.hasDictIn K c_BadDay = true)
    (u_BadDay_ShareError : PySem.W.subIn K (.ref c_BadDay) (.ref c_ShareError) = some true)
    (u_BadDay_BadDay : PySem.W.subIn K (.ref c_BadDay) (.ref c_BadDay) = some true)
    (u_BadDay_BadNumber : PySem.W.subIn K (.ref c_BadDay) (.ref c_BadNumber) = some false)
    (u_BadDay_Uneven : PySem.W.subIn K (.ref c_BadDay) (.ref c_Uneven) = some false)
    (u_BadDay_NoDays : PySem.W.subIn K (.ref c_BadDay) (.ref c_NoDays) = some false)
    (x_BadNumber : PySem.W.excIn K c_BadNumber [.type "ValueError", .type "Exception", .type "BaseException", .type "object"] "ValueError.__new__" = true)
    (k_BadNumber : PySem.W.keepIn K (.ref c_BadNumber) = true)
    (e_BadNumber : PySem.W.subIn K (.ref c_BadNumber) (.type "BaseException") = some true)
    (t_BadNumber : PySem.W.typeIn K (.ref c_BadNumber) = some (.type "type"))
    (hd_BadNumber : PySem.W.hasDictIn K c_BadNumber = true)
    (u_BadNumber_ShareError : PySem.W.subIn K (.ref c_BadNumber) (.ref c_ShareError) = some true)
    (u_BadNumber_BadDay : PySem.W.subIn K (.ref c_BadNumber) (.ref c_BadDay) = some false)
    (u_BadNumber_BadNumber : PySem.W.subIn K (.ref c_BadNumber) (.ref c_BadNumber) = some true)
    (u_BadNumber_Uneven : PySem.W.subIn K (.ref c_BadNumber) (.ref c_Uneven) = some false)
    (u_BadNumber_NoDays : PySem.W.subIn K (.ref c_BadNumber) (.ref c_NoDays) = some false)
    (x_Uneven : PySem.W.excIn K c_Uneven [.type "ValueError", .type "Exception", .type "BaseException", .type "object"] "ValueError.__new__" = true)
    (k_Uneven : PySem.W.keepIn K (.ref c_Uneven) = true)
    (e_Uneven : PySem.W.subIn K (.ref c_Uneven) (.type "BaseException") = some true)
    (t_Uneven : PySem.W.typeIn K (.ref c_Uneven) = some (.type "type"))
    (hd_Uneven : PySem.W.hasDictIn K c_Uneven = true)
    (u_Uneven_ShareError : PySem.W.subIn K (.ref c_Uneven) (.ref c_ShareError) = some true)
    (u_Uneven_BadDay : PySem.W.subIn K (.ref c_Uneven) (.ref c_BadDay) = some false)
    (u_Uneven_BadNumber : PySem.W.subIn K (.ref c_Uneven) (.ref c_BadNumber) = some false)
    (u_Uneven_Uneven : PySem.W.subIn K (.ref c_Uneven) (.ref c_Uneven) = some true)
    (u_Uneven_NoDays : PySem.W.subIn K (.ref c_Uneven) (.ref c_NoDays) = some false)
    (x_NoDays : PySem.W.excIn K c_NoDays [.type "ValueError", .type "Exception", .type "BaseException", .type "object"] "ValueError.__new__" = true)
    (k_NoDays : PySem.W.keepIn K (.ref c_NoDays) = true)
    (e_NoDays : PySem.W.subIn K (.ref c_NoDays) (.type "BaseException") = some true)
    (t_NoDays : PySem.W.typeIn K (.ref c_NoDays) = some (.type "type"))
    (hd_NoDays : PySem.W.hasDictIn K c_NoDays = true)
    (u_NoDays_ShareError : PySem.W.subIn K (.ref c_NoDays) (.ref c_ShareError) = some true)
    (u_NoDays_BadDay : PySem.W.subIn K (.ref c_NoDays) (.ref c_BadDay) = some false)
    (u_NoDays_BadNumber : PySem.W.subIn K (.ref c_NoDays) (.ref c_BadNumber) = some false)
    (u_NoDays_Uneven : PySem.W.subIn K (.ref c_NoDays) (.ref c_Uneven) = some false)
    (u_NoDays_NoDays : PySem.W.subIn K (.ref c_NoDays) (.ref c_NoDays) = some true)
    (z_all : PySem.W.nsIn K mainGlobals "all" = some none)
    (z_any : PySem.W.nsIn K mainGlobals "any" = some none)
    (z_bool : PySem.W.nsIn K mainGlobals "bool" = some none)
    (z_int : PySem.W.nsIn K mainGlobals "int" = some none)
    (z_isinstance : PySem.W.nsIn K mainGlobals "isinstance" = some none)
    (z_len : PySem.W.nsIn K mainGlobals "len" = some none)
    (z_list : PySem.W.nsIn K mainGlobals "list" = some none)
    (z_max : PySem.W.nsIn K mainGlobals "max" = some none)
    (z_range : PySem.W.nsIn K mainGlobals "range" = some none)
    (z_sum : PySem.W.nsIn K mainGlobals "sum" = some none)
    (z_tuple : PySem.W.nsIn K mainGlobals "tuple" = some none)
    (z_zip : PySem.W.nsIn K mainGlobals "zip" = some none) :
    ∃ a : Ad, Txt K mg a ∧ a.f_law = fa ∧ ∀ (s : Shared) (u : Value), BindsTo s a.d_law ⟨[u], []⟩ [("_law_script", u)] := by
  have e := hfa.symm.trans (PySem.W.mg_of X G n_law)
  cases e
  have F_many_of := fun_mk (st := s_many_of) l_many_of o_many_of k_many_of
  have b_many_of := F_many_of.binds (ps := ["lots"]) fun _ _ _ _ _ _ us hl => match us, hl with | [_], _ => rfl
  have F_widened := fun_mk (st := s_widened) l_widened o_widened k_widened
  have b_widened := F_widened.binds (ps := ["lots", "number"]) fun _ _ _ _ _ _ us hl => match us, hl with | [_, _], _ => rfl
  have F_narrowed := fun_mk (st := s_narrowed) l_narrowed o_narrowed k_narrowed
  have b_narrowed := F_narrowed.binds (ps := ["lots", "number"]) fun _ _ _ _ _ _ us hl => match us, hl with | [_, _], _ => rfl
  have F_Holder_init := fun_mk (st := s_Holder_init) l_Holder_init o_Holder_init k_Holder_init
  have b_Holder_init := F_Holder_init.binds (ps := ["self"]) fun _ _ _ _ _ _ us hl => match us, hl with | [_], _ => rfl
  have F_Holder_many := fun_mk (st := s_Holder_many) l_Holder_many o_Holder_many k_Holder_many
  have b_Holder_many := F_Holder_many.binds (ps := ["self"]) fun _ _ _ _ _ _ us hl => match us, hl with | [_], _ => rfl
  have F_Holder_days_behind := fun_mk (st := s_Holder_days_behind) l_Holder_days_behind o_Holder_days_behind k_Holder_days_behind
  have b_Holder_days_behind := F_Holder_days_behind.binds (ps := ["self", "passed"]) fun _ _ _ _ _ _ us hl => match us, hl with | [_, _], _ => rfl
  have F_parts := fun_mk (st := s_parts) l_parts o_parts k_parts
  have b_parts := F_parts.binds (ps := ["coins", "weights"]) fun _ _ _ _ _ _ us hl => match us, hl with | [_, _], _ => rfl
  have F_need_least := fun_mk (st := s_need_least) l_need_least o_need_least k_need_least
  have b_need_least := F_need_least.binds (ps := ["number", "least"]) fun _ _ _ _ _ _ us hl => match us, hl with | [_, _], _ => rfl
  have F_Book_init := fun_mk (st := s_Book_init) l_Book_init o_Book_init k_Book_init
  have b_Book_init := F_Book_init.binds (ps := ["self"]) fun _ _ _ _ _ _ us hl => match us, hl with | [_], _ => rfl
  have F_Book_need_day := fun_mk (st := s_Book_need_day) l_Book_need_day o_Book_need_day k_Book_need_day
  have b_Book_need_day := F_Book_need_day.binds (ps := ["self", "day"]) fun _ _ _ _ _ _ us hl => match us, hl with | [_, _], _ => rfl
  have F_Book_pass_to := fun_mk (st := s_Book_pass_to) l_Book_pass_to o_Book_pass_to k_Book_pass_to
  have b_Book_pass_to := F_Book_pass_to.binds (ps := ["self", "day"]) fun _ _ _ _ _ _ us hl => match us, hl with | [_, _], _ => rfl
  have F_Book_given := fun_mk (st := s_Book_given) l_Book_given o_Book_given k_Book_given
  have b_Book_given := F_Book_given.binds (ps := ["self", "day", "who", "count", "cost"]) fun _ _ _ _ _ _ us hl => match us, hl with | [_, _, _, _, _], _ => rfl
  have F_Book_issue := fun_mk (st := s_Book_issue) l_Book_issue o_Book_issue k_Book_issue
  have b_Book_issue := F_Book_issue.binds (ps := ["self", "day", "who", "count", "paid"]) fun _ _ _ _ _ _ us hl => match us, hl with | [_, _, _, _, _], _ => rfl
  have F_Book_split_by := fun_mk (st := s_Book_split_by) l_Book_split_by o_Book_split_by k_Book_split_by
  have b_Book_split_by := F_Book_split_by.binds (ps := ["self", "day", "number"]) fun _ _ _ _ _ _ us hl => match us, hl with | [_, _, _], _ => rfl
  have F_Book_join_by := fun_mk (st := s_Book_join_by) l_Book_join_by o_Book_join_by k_Book_join_by
  have b_Book_join_by := F_Book_join_by.binds (ps := ["self", "day", "number"]) fun _ _ _ _ _ _ us hl => match us, hl with | [_, _, _], _ => rfl
  have F_Book_pay := fun_mk (st := s_Book_pay) l_Book_pay o_Book_pay k_Book_pay
  have b_Book_pay := F_Book_pay.binds (ps := ["self", "day", "coins"]) fun _ _ _ _ _ _ us hl => match us, hl with | [_, _, _], _ => rfl
  have F_Book_names := fun_mk (st := s_Book_names) l_Book_names o_Book_names k_Book_names
  have b_Book_names := F_Book_names.binds (ps := ["self"]) fun _ _ _ _ _ _ us hl => match us, hl with | [_], _ => rfl
  have F_Book_shares_of := fun_mk (st := s_Book_shares_of) l_Book_shares_of o_Book_shares_of k_Book_shares_of
  have b_Book_shares_of := F_Book_shares_of.binds (ps := ["self", "who"]) fun _ _ _ _ _ _ us hl => match us, hl with | [_, _], _ => rfl
  have F_Book_lots_of := fun_mk (st := s_Book_lots_of) l_Book_lots_of o_Book_lots_of k_Book_lots_of
  have b_Book_lots_of := F_Book_lots_of.binds (ps := ["self", "who"]) fun _ _ _ _ _ _ us hl => match us, hl with | [_, _], _ => rfl
  have F_Book_gain_of := fun_mk (st := s_Book_gain_of) l_Book_gain_of o_Book_gain_of k_Book_gain_of
  have b_Book_gain_of := F_Book_gain_of.binds (ps := ["self", "who"]) fun _ _ _ _ _ _ us hl => match us, hl with | [_, _], _ => rfl
  have F_Book_got_of := fun_mk (st := s_Book_got_of) l_Book_got_of o_Book_got_of k_Book_got_of
  have b_Book_got_of := F_Book_got_of.binds (ps := ["self", "who"]) fun _ _ _ _ _ _ us hl => match us, hl with | [_, _], _ => rfl
  have F_Book_days_of := fun_mk (st := s_Book_days_of) l_Book_days_of o_Book_days_of k_Book_days_of
  have b_Book_days_of := F_Book_days_of.binds (ps := ["self", "who"]) fun _ _ _ _ _ _ us hl => match us, hl with | [_, _], _ => rfl
  have F_law_whole := fun_mk (st := s_law_whole) l_law_whole o_law_whole k_law_whole
  have b_law_whole := F_law_whole.binds (ps := ["_law_found"]) fun _ _ _ _ _ _ us hl => match us, hl with | [_], _ => rfl
  have F_law_cell_at := fun_mk (st := s_law_cell_at) l_law_cell_at o_law_cell_at k_law_cell_at
  have b_law_cell_at := F_law_cell_at.binds (ps := ["_law_script", "_law_k"]) fun _ _ _ _ _ _ us hl => match us, hl with | [_, _], _ => rfl
  have F_law_drawn := fun_mk (st := s_law_drawn) l_law_drawn o_law_drawn k_law_drawn
  have b_law_drawn := F_law_drawn.binds (ps := ["_law_cell", "_law_sizes"]) fun _ _ _ _ _ _ us hl => match us, hl with | [_, _], _ => rfl
  have F_law_mixed := fun_mk (st := s_law_mixed) l_law_mixed o_law_mixed k_law_mixed
  have b_law_mixed := F_law_mixed.binds (ps := ["_law_cell", "_law_place"]) fun _ _ _ _ _ _ us hl => match us, hl with | [_, _], _ => rfl
  have F_law_name := fun_mk (st := s_law_name) l_law_name o_law_name k_law_name
  have b_law_name := F_law_name.binds (ps := ["_law_cell"]) fun _ _ _ _ _ _ us hl => match us, hl with | [_], _ => rfl
  have F_law_names := fun_mk (st := s_law_names) l_law_names o_law_names k_law_names
  have b_law_names := F_law_names.binds (ps := ["_law_script"]) fun _ _ _ _ _ _ us hl => match us, hl with | [_], _ => rfl
  have F_law_tuples := fun_mk (st := s_law_tuples) l_law_tuples o_law_tuples k_law_tuples
  have b_law_tuples := F_law_tuples.binds (ps := ["_law_found", "_law_due"]) fun _ _ _ _ _ _ us hl => match us, hl with | [_, _], _ => rfl
  have F_law_holder := fun_mk (st := s_law_holder) l_law_holder o_law_holder k_law_holder
  have b_law_holder := F_law_holder.binds (ps := ["_law_book", "_law_who", "_law_lots", "_law_days", "_law_got"]) fun _ _ _ _ _ _ us hl => match us, hl with | [_, _, _, _, _], _ => rfl
  have F_law_all := fun_mk (st := s_law_all) l_law_all o_law_all k_law_all
  have b_law_all := F_law_all.binds (ps := ["_law_book", "_law_lots", "_law_days", "_law_got", "_law_number", "_law_over"]) fun _ _ _ _ _ _ us hl => match us, hl with | [_, _, _, _, _, _], _ => rfl
  have F_law_issued := fun_mk (st := s_law_issued) l_law_issued o_law_issued k_law_issued
  have b_law_issued := F_law_issued.binds (ps := ["_law_book", "_law_names_here", "_law_script", "_law_many"]) fun _ _ _ _ _ _ us hl => match us, hl with | [_, _, _, _], _ => rfl
  have F_law := fun_mk (st := s_law) l_law o_law k_law
  have b_law := F_law.binds (ps := ["_law_script"]) fun _ _ _ _ _ _ us hl => match us, hl with | [_], _ => rfl
  exact ⟨{ f_many_of := f_many_of, d_many_of := PySem.W.fnOf "many_of" "many_of" (defArgs s_many_of) (defBody s_many_of) (defScope s_many_of) .none kV_many_of dc_many_of pm_many_of an_many_of cd_many_of ct_many_of, f_widened := f_widened, d_widened := PySem.W.fnOf "widened" "widened" (defArgs s_widened) (defBody s_widened) (defScope s_widened) .none kV_widened dc_widened pm_widened an_widened cd_widened ct_widened, f_narrowed := f_narrowed, d_narrowed := PySem.W.fnOf "narrowed" "narrowed" (defArgs s_narrowed) (defBody s_narrowed) (defScope s_narrowed) .none kV_narrowed dc_narrowed pm_narrowed an_narrowed cd_narrowed ct_narrowed, f_Holder_init := f_Holder_init, d_Holder_init := PySem.W.fnOf "__init__" "Holder.__init__" (defArgs s_Holder_init) (defBody s_Holder_init) (defScope s_Holder_init) .none kV_Holder_init dc_Holder_init pm_Holder_init an_Holder_init cd_Holder_init ct_Holder_init, f_Holder_many := f_Holder_many, d_Holder_many := PySem.W.fnOf "many" "Holder.many" (defArgs s_Holder_many) (defBody s_Holder_many) (defScope s_Holder_many) .none kV_Holder_many dc_Holder_many pm_Holder_many an_Holder_many cd_Holder_many ct_Holder_many, f_Holder_days_behind := f_Holder_days_behind, d_Holder_days_behind := PySem.W.fnOf "days_behind" "Holder.days_behind" (defArgs s_Holder_days_behind) (defBody s_Holder_days_behind) (defScope s_Holder_days_behind) .none kV_Holder_days_behind dc_Holder_days_behind pm_Holder_days_behind an_Holder_days_behind cd_Holder_days_behind ct_Holder_days_behind, f_parts := f_parts, d_parts := PySem.W.fnOf "parts" "parts" (defArgs s_parts) (defBody s_parts) (defScope s_parts) .none kV_parts dc_parts pm_parts an_parts cd_parts ct_parts, f_need_least := f_need_least, d_need_least := PySem.W.fnOf "need_least" "need_least" (defArgs s_need_least) (defBody s_need_least) (defScope s_need_least) .none kV_need_least dc_need_least pm_need_least an_need_least cd_need_least ct_need_least, f_Book_init := f_Book_init, d_Book_init := PySem.W.fnOf "__init__" "Book.__init__" (defArgs s_Book_init) (defBody s_Book_init) (defScope s_Book_init) .none kV_Book_init dc_Book_init pm_Book_init an_Book_init cd_Book_init ct_Book_init, f_Book_need_day := f_Book_need_day, d_Book_need_day := PySem.W.fnOf "need_day" "Book.need_day" (defArgs s_Book_need_day) (defBody s_Book_need_day) (defScope s_Book_need_day) .none kV_Book_need_day dc_Book_need_day pm_Book_need_day an_Book_need_day cd_Book_need_day ct_Book_need_day, f_Book_pass_to := f_Book_pass_to, d_Book_pass_to := PySem.W.fnOf "pass_to" "Book.pass_to" (defArgs s_Book_pass_to) (defBody s_Book_pass_to) (defScope s_Book_pass_to) .none kV_Book_pass_to dc_Book_pass_to pm_Book_pass_to an_Book_pass_to cd_Book_pass_to ct_Book_pass_to, f_Book_given := f_Book_given, d_Book_given := PySem.W.fnOf "given" "Book.given" (defArgs s_Book_given) (defBody s_Book_given) (defScope s_Book_given) .none kV_Book_given dc_Book_given pm_Book_given an_Book_given cd_Book_given ct_Book_given, f_Book_issue := f_Book_issue, d_Book_issue := PySem.W.fnOf "issue" "Book.issue" (defArgs s_Book_issue) (defBody s_Book_issue) (defScope s_Book_issue) .none kV_Book_issue dc_Book_issue pm_Book_issue an_Book_issue cd_Book_issue ct_Book_issue, f_Book_split_by := f_Book_split_by, d_Book_split_by := PySem.W.fnOf "split_by" "Book.split_by" (defArgs s_Book_split_by) (defBody s_Book_split_by) (defScope s_Book_split_by) .none kV_Book_split_by dc_Book_split_by pm_Book_split_by an_Book_split_by cd_Book_split_by ct_Book_split_by, f_Book_join_by := f_Book_join_by, d_Book_join_by := PySem.W.fnOf "join_by" "Book.join_by" (defArgs s_Book_join_by) (defBody s_Book_join_by) (defScope s_Book_join_by) .none kV_Book_join_by dc_Book_join_by pm_Book_join_by an_Book_join_by cd_Book_join_by ct_Book_join_by, f_Book_pay := f_Book_pay, d_Book_pay := PySem.W.fnOf "pay" "Book.pay" (defArgs s_Book_pay) (defBody s_Book_pay) (defScope s_Book_pay) .none kV_Book_pay dc_Book_pay pm_Book_pay an_Book_pay cd_Book_pay ct_Book_pay, f_Book_names := f_Book_names, d_Book_names := PySem.W.fnOf "names" "Book.names" (defArgs s_Book_names) (defBody s_Book_names) (defScope s_Book_names) .none kV_Book_names dc_Book_names pm_Book_names an_Book_names cd_Book_names ct_Book_names, f_Book_shares_of := f_Book_shares_of, d_Book_shares_of := PySem.W.fnOf "shares_of" "Book.shares_of" (defArgs s_Book_shares_of) (defBody s_Book_shares_of) (defScope s_Book_shares_of) .none kV_Book_shares_of dc_Book_shares_of pm_Book_shares_of an_Book_shares_of cd_Book_shares_of ct_Book_shares_of, f_Book_lots_of := f_Book_lots_of, d_Book_lots_of := PySem.W.fnOf "lots_of" "Book.lots_of" (defArgs s_Book_lots_of) (defBody s_Book_lots_of) (defScope s_Book_lots_of) .none kV_Book_lots_of dc_Book_lots_of pm_Book_lots_of an_Book_lots_of cd_Book_lots_of ct_Book_lots_of, f_Book_gain_of := f_Book_gain_of, d_Book_gain_of := PySem.W.fnOf "gain_of" "Book.gain_of" (defArgs s_Book_gain_of) (defBody s_Book_gain_of) (defScope s_Book_gain_of) .none kV_Book_gain_of dc_Book_gain_of pm_Book_gain_of an_Book_gain_of cd_Book_gain_of ct_Book_gain_of, f_Book_got_of := f_Book_got_of, d_Book_got_of := PySem.W.fnOf "got_of" "Book.got_of" (defArgs s_Book_got_of) (defBody s_Book_got_of) (defScope s_Book_got_of) .none kV_Book_got_of dc_Book_got_of pm_Book_got_of an_Book_got_of cd_Book_got_of ct_Book_got_of, f_Book_days_of := f_Book_days_of, d_Book_days_of := PySem.W.fnOf "days_of" "Book.days_of" (defArgs s_Book_days_of) (defBody s_Book_days_of) (defScope s_Book_days_of) .none kV_Book_days_of dc_Book_days_of pm_Book_days_of an_Book_days_of cd_Book_days_of ct_Book_days_of, f_law_whole := f_law_whole, d_law_whole := PySem.W.fnOf "_law_whole" "_law_whole" (defArgs s_law_whole) (defBody s_law_whole) (defScope s_law_whole) .none kV_law_whole dc_law_whole pm_law_whole an_law_whole cd_law_whole ct_law_whole, f_law_cell_at := f_law_cell_at, d_law_cell_at := PySem.W.fnOf "_law_cell_at" "_law_cell_at" (defArgs s_law_cell_at) (defBody s_law_cell_at) (defScope s_law_cell_at) .none kV_law_cell_at dc_law_cell_at pm_law_cell_at an_law_cell_at cd_law_cell_at ct_law_cell_at, f_law_drawn := f_law_drawn, d_law_drawn := PySem.W.fnOf "_law_drawn" "_law_drawn" (defArgs s_law_drawn) (defBody s_law_drawn) (defScope s_law_drawn) .none kV_law_drawn dc_law_drawn pm_law_drawn an_law_drawn cd_law_drawn ct_law_drawn, f_law_mixed := f_law_mixed, d_law_mixed := PySem.W.fnOf "_law_mixed" "_law_mixed" (defArgs s_law_mixed) (defBody s_law_mixed) (defScope s_law_mixed) .none kV_law_mixed dc_law_mixed pm_law_mixed an_law_mixed cd_law_mixed ct_law_mixed, f_law_name := f_law_name, d_law_name := PySem.W.fnOf "_law_name" "_law_name" (defArgs s_law_name) (defBody s_law_name) (defScope s_law_name) .none kV_law_name dc_law_name pm_law_name an_law_name cd_law_name ct_law_name, f_law_names := f_law_names, d_law_names := PySem.W.fnOf "_law_names" "_law_names" (defArgs s_law_names) (defBody s_law_names) (defScope s_law_names) .none kV_law_names dc_law_names pm_law_names an_law_names cd_law_names ct_law_names, f_law_tuples := f_law_tuples, d_law_tuples := PySem.W.fnOf "_law_tuples" "_law_tuples" (defArgs s_law_tuples) (defBody s_law_tuples) (defScope s_law_tuples) .none kV_law_tuples dc_law_tuples pm_law_tuples an_law_tuples cd_law_tuples ct_law_tuples, f_law_holder := f_law_holder, d_law_holder := PySem.W.fnOf "_law_holder" "_law_holder" (defArgs s_law_holder) (defBody s_law_holder) (defScope s_law_holder) .none kV_law_holder dc_law_holder pm_law_holder an_law_holder cd_law_holder ct_law_holder, f_law_all := f_law_all, d_law_all := PySem.W.fnOf "_law_all" "_law_all" (defArgs s_law_all) (defBody s_law_all) (defScope s_law_all) .none kV_law_all dc_law_all pm_law_all an_law_all cd_law_all ct_law_all, f_law_issued := f_law_issued, d_law_issued := PySem.W.fnOf "_law_issued" "_law_issued" (defArgs s_law_issued) (defBody s_law_issued) (defScope s_law_issued) .none kV_law_issued dc_law_issued pm_law_issued an_law_issued cd_law_issued ct_law_issued, f_law := fa, d_law := PySem.W.fnOf "law" "law" (defArgs s_law) (defBody s_law) (defScope s_law) .none kV_law dc_law pm_law an_law cd_law ct_law, c_Holder := c_Holder, c_Book := c_Book, c_ShareError := c_ShareError, c_BadDay := c_BadDay, c_BadNumber := c_BadNumber, c_Uneven := c_Uneven, c_NoDays := c_NoDays }, { F_many_of := F_many_of, b_many_of := b_many_of, g_many_of := PySem.W.mg_of X G n_many_of, F_widened := F_widened, b_widened := b_widened, g_widened := PySem.W.mg_of X G n_widened, F_narrowed := F_narrowed, b_narrowed := b_narrowed, g_narrowed := PySem.W.mg_of X G n_narrowed, F_Holder_init := F_Holder_init, b_Holder_init := b_Holder_init, F_Holder_many := F_Holder_many, b_Holder_many := b_Holder_many, m_Holder_many := ⟨n_Holder_many, i_Holder_many, k_Holder_many⟩, F_Holder_days_behind := F_Holder_days_behind, b_Holder_days_behind := b_Holder_days_behind, m_Holder_days_behind := ⟨n_Holder_days_behind, i_Holder_days_behind, k_Holder_days_behind⟩, F_parts := F_parts, b_parts := b_parts, g_parts := PySem.W.mg_of X G n_parts, F_need_least := F_need_least, b_need_least := b_need_least, g_need_least := PySem.W.mg_of X G n_need_least, F_Book_init := F_Book_init, b_Book_init := b_Book_init, F_Book_need_day := F_Book_need_day, b_Book_need_day := b_Book_need_day, m_Book_need_day := ⟨n_Book_need_day, i_Book_need_day, k_Book_need_day⟩, F_Book_pass_to := F_Book_pass_to, b_Book_pass_to := b_Book_pass_to, m_Book_pass_to := ⟨n_Book_pass_to, i_Book_pass_to, k_Book_pass_to⟩, F_Book_given := F_Book_given, b_Book_given := b_Book_given, m_Book_given := ⟨n_Book_given, i_Book_given, k_Book_given⟩, F_Book_issue := F_Book_issue, b_Book_issue := b_Book_issue, m_Book_issue := ⟨n_Book_issue, i_Book_issue, k_Book_issue⟩, F_Book_split_by := F_Book_split_by, b_Book_split_by := b_Book_split_by, m_Book_split_by := ⟨n_Book_split_by, i_Book_split_by, k_Book_split_by⟩, F_Book_join_by := F_Book_join_by, b_Book_join_by := b_Book_join_by, m_Book_join_by := ⟨n_Book_join_by, i_Book_join_by, k_Book_join_by⟩, F_Book_pay := F_Book_pay, b_Book_pay := b_Book_pay, m_Book_pay := ⟨n_Book_pay, i_Book_pay, k_Book_pay⟩, F_Book_names := F_Book_names, b_Book_names := b_Book_names, m_Book_names := ⟨n_Book_names, i_Book_names, k_Book_names⟩, F_Book_shares_of := F_Book_shares_of, b_Book_shares_of := b_Book_shares_of, m_Book_shares_of := ⟨n_Book_shares_of, i_Book_shares_of, k_Book_shares_of⟩, F_Book_lots_of := F_Book_lots_of, b_Book_lots_of := b_Book_lots_of, m_Book_lots_of := ⟨n_Book_lots_of, i_Book_lots_of, k_Book_lots_of⟩, F_Book_gain_of := F_Book_gain_of, b_Book_gain_of := b_Book_gain_of, m_Book_gain_of := ⟨n_Book_gain_of, i_Book_gain_of, k_Book_gain_of⟩, F_Book_got_of := F_Book_got_of, b_Book_got_of := b_Book_got_of, m_Book_got_of := ⟨n_Book_got_of, i_Book_got_of, k_Book_got_of⟩, F_Book_days_of := F_Book_days_of, b_Book_days_of := b_Book_days_of, m_Book_days_of := ⟨n_Book_days_of, i_Book_days_of, k_Book_days_of⟩, F_law_whole := F_law_whole, b_law_whole := b_law_whole, g_law_whole := PySem.W.mg_of X G n_law_whole, F_law_cell_at := F_law_cell_at, b_law_cell_at := b_law_cell_at, g_law_cell_at := PySem.W.mg_of X G n_law_cell_at, F_law_drawn := F_law_drawn, b_law_drawn := b_law_drawn, g_law_drawn := PySem.W.mg_of X G n_law_drawn, F_law_mixed := F_law_mixed, b_law_mixed := b_law_mixed, g_law_mixed := PySem.W.mg_of X G n_law_mixed, F_law_name := F_law_name, b_law_name := b_law_name, g_law_name := PySem.W.mg_of X G n_law_name, F_law_names := F_law_names, b_law_names := b_law_names, g_law_names := PySem.W.mg_of X G n_law_names, F_law_tuples := F_law_tuples, b_law_tuples := b_law_tuples, g_law_tuples := PySem.W.mg_of X G n_law_tuples, F_law_holder := F_law_holder, b_law_holder := b_law_holder, g_law_holder := PySem.W.mg_of X G n_law_holder, F_law_all := F_law_all, b_law_all := b_law_all, g_law_all := PySem.W.mg_of X G n_law_all, F_law_issued := F_law_issued, b_law_issued := b_law_issued, g_law_issued := PySem.W.mg_of X G n_law_issued, F_law := F_law, b_law := b_law, g_law := PySem.W.mg_of X G n_law, g_Holder := PySem.W.mg_of X G nc_Holder, K_Holder := ⟨pg_Holder, hd_Holder, po_Holder, sa_Holder⟩, M_Holder := ⟨mk_Holder, n_Holder_init, i_Holder_init, kc_Holder⟩, N_Holder_lots := nf_Holder_lots, N_Holder_days := nf_Holder_days, N_Holder_gain := nf_Holder_gain, N_Holder_got := nf_Holder_got, g_Book := PySem.W.mg_of X G nc_Book, K_Book := ⟨pg_Book, hd_Book, po_Book, sa_Book⟩, M_Book := ⟨mk_Book, n_Book_init, i_Book_init, kc_Book⟩, N_Book_day := nf_Book_day, N_Book_people := nf_Book_people, g_ShareError := PySem.W.mg_of X G nc_ShareError, x_ShareError := x_ShareError, k_ShareError := k_ShareError, e_ShareError := e_ShareError, t_ShareError := t_ShareError, s_ShareError_ShareError := PySem.W.exm_ref e_ShareError hd_ShareError t_ShareError u_ShareError_ShareError, s_ShareError_BadDay := PySem.W.exm_ref e_BadDay hd_BadDay t_BadDay u_ShareError_BadDay, s_ShareError_BadNumber := PySem.W.exm_ref e_BadNumber hd_BadNumber t_BadNumber u_ShareError_BadNumber, s_ShareError_Uneven := PySem.W.exm_ref e_Uneven hd_Uneven t_Uneven u_ShareError_Uneven, s_ShareError_NoDays := PySem.W.exm_ref e_NoDays hd_NoDays t_NoDays u_ShareError_NoDays, g_BadDay := PySem.W.mg_of X G nc_BadDay, x_BadDay := x_BadDay, k_BadDay := k_BadDay, e_BadDay := e_BadDay, t_BadDay := t_BadDay, s_BadDay_ShareError := PySem.W.exm_ref e_ShareError hd_ShareError t_ShareError u_BadDay_ShareError, s_BadDay_BadDay := PySem.W.exm_ref e_BadDay hd_BadDay t_BadDay u_BadDay_BadDay, s_BadDay_BadNumber := PySem.W.exm_ref e_BadNumber hd_BadNumber t_BadNumber u_BadDay_BadNumber, s_BadDay_Uneven := PySem.W.exm_ref e_Uneven hd_Uneven t_Uneven u_BadDay_Uneven, s_BadDay_NoDays := PySem.W.exm_ref e_NoDays hd_NoDays t_NoDays u_BadDay_NoDays, g_BadNumber := PySem.W.mg_of X G nc_BadNumber, x_BadNumber := x_BadNumber, k_BadNumber := k_BadNumber, e_BadNumber := e_BadNumber, t_BadNumber := t_BadNumber, s_BadNumber_ShareError := PySem.W.exm_ref e_ShareError hd_ShareError t_ShareError u_BadNumber_ShareError, s_BadNumber_BadDay := PySem.W.exm_ref e_BadDay hd_BadDay t_BadDay u_BadNumber_BadDay, s_BadNumber_BadNumber := PySem.W.exm_ref e_BadNumber hd_BadNumber t_BadNumber u_BadNumber_BadNumber, s_BadNumber_Uneven := PySem.W.exm_ref e_Uneven hd_Uneven t_Uneven u_BadNumber_Uneven, s_BadNumber_NoDays := PySem.W.exm_ref e_NoDays hd_NoDays t_NoDays u_BadNumber_NoDays, g_Uneven := PySem.W.mg_of X G nc_Uneven, x_Uneven := x_Uneven, k_Uneven := k_Uneven, e_Uneven := e_Uneven, t_Uneven := t_Uneven, s_Uneven_ShareError := PySem.W.exm_ref e_ShareError hd_ShareError t_ShareError u_Uneven_ShareError, s_Uneven_BadDay := PySem.W.exm_ref e_BadDay hd_BadDay t_BadDay u_Uneven_BadDay, s_Uneven_BadNumber := PySem.W.exm_ref e_BadNumber hd_BadNumber t_BadNumber u_Uneven_BadNumber, s_Uneven_Uneven := PySem.W.exm_ref e_Uneven hd_Uneven t_Uneven u_Uneven_Uneven, s_Uneven_NoDays := PySem.W.exm_ref e_NoDays hd_NoDays t_NoDays u_Uneven_NoDays, g_NoDays := PySem.W.mg_of X G nc_NoDays, x_NoDays := x_NoDays, k_NoDays := k_NoDays, e_NoDays := e_NoDays, t_NoDays := t_NoDays, s_NoDays_ShareError := PySem.W.exm_ref e_ShareError hd_ShareError t_ShareError u_NoDays_ShareError, s_NoDays_BadDay := PySem.W.exm_ref e_BadDay hd_BadDay t_BadDay u_NoDays_BadDay, s_NoDays_BadNumber := PySem.W.exm_ref e_BadNumber hd_BadNumber t_BadNumber u_NoDays_BadNumber, s_NoDays_Uneven := PySem.W.exm_ref e_Uneven hd_Uneven t_Uneven u_NoDays_Uneven, s_NoDays_NoDays := PySem.W.exm_ref e_NoDays hd_NoDays t_NoDays u_NoDays_NoDays, z_all := PySem.W.mg_none_of X G z_all, z_any := PySem.W.mg_none_of X G z_any, z_bool := PySem.W.mg_none_of X G z_bool, z_int := PySem.W.mg_none_of X G z_int, z_isinstance := PySem.W.mg_none_of X G z_isinstance, z_len := PySem.W.mg_none_of X G z_len, z_list := PySem.W.mg_none_of X G z_list, z_max := PySem.W.mg_none_of X G z_max, z_range := PySem.W.mg_none_of X G z_range, z_sum := PySem.W.mg_none_of X G z_sum, z_tuple := PySem.W.mg_none_of X G z_tuple, z_zip := PySem.W.mg_none_of X G z_zip }, rfl, fun s u => .of_eq rfl⟩
def kLevel : Nat := 7
theorem fin {P : Program} {w : World} {K : PySem.W.Frag} {mg : Str → Option Value} {fa : Addr} (A : ∃ a : Ad, Txt K mg a ∧ a.f_law = fa ∧ ∀ (s : Shared) (u : Value), BindsTo s a.d_law ⟨[u], []⟩ [("_law_script", u)]) :
    ∃ fd : FuncData, (∀ (s : Shared) (u : Value), BindsTo s fd ⟨[u], []⟩ [("_law_script", u)]) ∧ ∀ base : Heap, K.In base → base.Ns mainGlobals mg → OkFnN P w K mg base kLevel fa fd ["_law_script"] sp_law := by
  obtain ⟨a, T, rfl, hb⟩ := A
  exact ⟨a.d_law, hb, fun base _ _ => ok_law T⟩
end Lk
open PySem PySem.W PyProof.Rows
set_option maxRecDepth 100000 in
set_option maxHeartbeats 0 in
theorem PySem.Challenge.cw_lotbook_k14_split_and_joined_again_holds : PySem.Challenge.rw_lotbook_k14_split_and_joined_again.Holds := by
  w_on; o_law; k_head; (case hw => w_witness2)
  k_fill
  refine T3.walk3N (l := PySem.Challenge.rw_lotbook_k14_split_and_joined_again) (k := Lk.kLevel) (x := "_law_script") (sp := fun _ => Lk.sp_law) rfl rfl ⟨rfl, by decide, by decide⟩ (fun w h Y => PySem.W.kIn_of Y) ?F Lk.law_true
  case F =>
    intro w mg fa h KX G hmg
    refine' Lk.fin (Lk.all_mk KX G hmg ?nc_Holder ?nc_Book ?nc_ShareError ?nc_BadDay ?nc_BadNumber ?nc_Uneven ?nc_NoDays ?n_many_of ?l_many_of ?o_many_of ?k_many_of ?n_widened ?l_widened ?o_widened ?k_widened ?n_narrowed ?l_narrowed ?o_narrowed ?k_narrowed ?n_Holder_init ?i_Holder_init ?l_Holder_init ?o_Holder_init ?k_Holder_init ?n_Holder_many ?i_Holder_many ?l_Holder_many ?o_Holder_many ?k_Holder_many ?n_Holder_days_behind ?i_Holder_days_behind ?l_Holder_days_behind ?o_Holder_days_behind ?k_Holder_days_behind ?n_parts ?l_parts ?o_parts ?k_parts ?n_need_least ?l_need_least ?o_need_least ?k_need_least ?n_Book_init ?i_Book_init ?l_Book_init ?o_Book_init ?k_Book_init ?n_Book_need_day ?i_Book_need_day ?l_Book_need_day ?o_Book_need_day ?k_Book_need_day ?n_Book_pass_to ?i_Book_pass_to ?l_Book_pass_to ?o_Book_pass_to ?k_Book_pass_to ?n_Book_given ?i_Book_given ?l_Book_given ?o_Book_given ?k_Book_given ?n_Book_issue ?i_Book_issue ?l_Book_issue ?o_Book_issue ?k_Book_issue ?n_Book_split_by ?i_Book_split_by ?l_Book_split_by ?o_Book_split_by ?k_Book_split_by ?n_Book_join_by ?i_Book_join_by ?l_Book_join_by ?o_Book_join_by ?k_Book_join_by ?n_Book_pay ?i_Book_pay ?l_Book_pay ?o_Book_pay ?k_Book_pay ?n_Book_names ?i_Book_names ?l_Book_names ?o_Book_names ?k_Book_names ?n_Book_shares_of ?i_Book_shares_of ?l_Book_shares_of ?o_Book_shares_of ?k_Book_shares_of ?n_Book_lots_of ?i_Book_lots_of ?l_Book_lots_of ?o_Book_lots_of ?k_Book_lots_of ?n_Book_gain_of ?i_Book_gain_of ?l_Book_gain_of ?o_Book_gain_of ?k_Book_gain_of ?n_Book_got_of ?i_Book_got_of ?l_Book_got_of ?o_Book_got_of ?k_Book_got_of ?n_Book_days_of ?i_Book_days_of ?l_Book_days_of ?o_Book_days_of ?k_Book_days_of ?n_law_whole ?l_law_whole ?o_law_whole ?k_law_whole ?n_law_cell_at ?l_law_cell_at ?o_law_cell_at ?k_law_cell_at ?n_law_drawn ?l_law_drawn ?o_law_drawn ?k_law_drawn ?n_law_mixed ?l_law_mixed ?o_law_mixed ?k_law_mixed ?n_law_name ?l_law_name ?o_law_name ?k_law_name ?n_law_names ?l_law_names ?o_law_names ?k_law_names ?n_law_tuples ?l_law_tuples ?o_law_tuples ?k_law_tuples ?n_law_holder ?l_law_holder ?o_law_holder ?k_law_holder ?n_law_all ?l_law_all ?o_law_all ?k_law_all ?n_law_issued ?l_law_issued ?o_law_issued ?k_law_issued ?n_law ?l_law ?o_law ?k_law ?pg_Holder ?hd_Holder ?po_Holder ?sa_Holder ?mk_Holder ?kc_Holder ?nf_Holder_lots ?nf_Holder_days ?nf_Holder_gain ?nf_Holder_got ?pg_Book ?hd_Book ?po_Book ?sa_Book ?mk_Book ?kc_Book ?nf_Book_day ?nf_Book_people ?x_ShareError ?k_ShareError ?e_ShareError ?t_ShareError ?hd_ShareError ?u_ShareError_ShareError ?u_ShareError_BadDay ?u_ShareError_BadNumber ?u_ShareError_Uneven ?u_ShareError_NoDays ?x_BadDay ?k_BadDay ?e_BadDay ?t_BadDay ?hd_BadDay ?u_BadDay_ShareError ?u_BadDay_BadDay ?u_BadDay_BadNumber ?u_BadDay_Uneven ?u_BadDay_NoDays ?x_BadNumber ?k_BadNumber ?e_BadNumber ?t_BadNumber ?hd_BadNumber ?u_BadNumber_ShareError ?u_BadNumber_BadDay ?u_BadNumber_BadNumber ?u_BadNumber_Uneven ?u_BadNumber_NoDays ?x_Uneven ?k_Uneven ?e_Uneven ?t_Uneven ?hd_Uneven ?u_Uneven_ShareError ?u_Uneven_BadDay ?u_Uneven_BadNumber ?u_Uneven_Uneven ?u_Uneven_NoDays ?x_NoDays ?k_NoDays ?e_NoDays ?t_NoDays ?hd_NoDays ?u_NoDays_ShareError ?u_NoDays_BadDay ?u_NoDays_BadNumber ?u_NoDays_Uneven ?u_NoDays_NoDays ?z_all ?z_any ?z_bool ?z_int ?z_isinstance ?z_len ?z_list ?z_max ?z_range ?z_sum ?z_tuple ?z_zip)
    (case nc_Holder => k_is)
    (case nc_Book => k_is)
    (case nc_ShareError => k_is)
    (case nc_BadDay => k_is)
    (case nc_BadNumber => k_is)
    (case nc_Uneven => k_is)
    (case nc_NoDays => k_is)
    (case n_many_of => k_is)
    (case l_many_of => k_is)
    (case o_many_of => k_is)
    (case k_many_of => k_is)
    (case n_widened => k_is)
    (case l_widened => k_is)
    (case o_widened => k_is)
    (case k_widened => k_is)
    (case n_narrowed => k_is)
    (case l_narrowed => k_is)
    (case o_narrowed => k_is)
    (case k_narrowed => k_is)
    (case n_Holder_init => k_is)
    (case i_Holder_init => k_is)
    (case l_Holder_init => k_is)
    (case o_Holder_init => k_is)
    (case k_Holder_init => k_is)
    (case n_Holder_many => k_is)
    (case i_Holder_many => k_is)
    (case l_Holder_many => k_is)
    (case o_Holder_many => k_is)
    (case k_Holder_many => k_is)
    (case n_Holder_days_behind => k_is)
    (case i_Holder_days_behind => k_is)
    (case l_Holder_days_behind => k_is)
    (case o_Holder_days_behind => k_is)
    (case k_Holder_days_behind => k_is)
    (case n_parts => k_is)
    (case l_parts => k_is)
    (case o_parts => k_is)
    (case k_parts => k_is)
    (case n_need_least => k_is)
    (case l_need_least => k_is)
    (case o_need_least => k_is)
    (case k_need_least => k_is)
    (case n_Book_init => k_is)
    (case i_Book_init => k_is)
    (case l_Book_init => k_is)
    (case o_Book_init => k_is)
    (case k_Book_init => k_is)
    (case n_Book_need_day => k_is)
    (case i_Book_need_day => k_is)
    (case l_Book_need_day => k_is)
    (case o_Book_need_day => k_is)
    (case k_Book_need_day => k_is)
    (case n_Book_pass_to => k_is)
    (case i_Book_pass_to => k_is)
    (case l_Book_pass_to => k_is)
    (case o_Book_pass_to => k_is)
    (case k_Book_pass_to => k_is)
    (case n_Book_given => k_is)
    (case i_Book_given => k_is)
    (case l_Book_given => k_is)
    (case o_Book_given => k_is)
    (case k_Book_given => k_is)
    (case n_Book_issue => k_is)
    (case i_Book_issue => k_is)
    (case l_Book_issue => k_is)
    (case o_Book_issue => k_is)
    (case k_Book_issue => k_is)
    (case n_Book_split_by => k_is)
    (case i_Book_split_by => k_is)
    (case l_Book_split_by => k_is)
    (case o_Book_split_by => k_is)
    (case k_Book_split_by => k_is)
    (case n_Book_join_by => k_is)
    (case i_Book_join_by => k_is)
    (case l_Book_join_by => k_is)
    (case o_Book_join_by => k_is)
    (case k_Book_join_by => k_is)
    (case n_Book_pay => k_is)
    (case i_Book_pay => k_is)
    (case l_Book_pay => k_is)
    (case o_Book_pay => k_is)
    (case k_Book_pay => k_is)
    (case n_Book_names => k_is)
    (case i_Book_names => k_is)
    (case l_Book_names => k_is)
    (case o_Book_names => k_is)
    (case k_Book_names => k_is)
    (case n_Book_shares_of => k_is)
    (case i_Book_shares_of => k_is)
    (case l_Book_shares_of => k_is)
    (case o_Book_shares_of => k_is)
    (case k_Book_shares_of => k_is)
    (case n_Book_lots_of => k_is)
    (case i_Book_lots_of => k_is)
    (case l_Book_lots_of => k_is)
    (case o_Book_lots_of => k_is)
    (case k_Book_lots_of => k_is)
    (case n_Book_gain_of => k_is)
    (case i_Book_gain_of => k_is)
    (case l_Book_gain_of => k_is)
    (case o_Book_gain_of => k_is)
    (case k_Book_gain_of => k_is)
    (case n_Book_got_of => k_is)
    (case i_Book_got_of => k_is)
    (case l_Book_got_of => k_is)
    (case o_Book_got_of => k_is)
    (case k_Book_got_of => k_is)
    (case n_Book_days_of => k_is)
    (case i_Book_days_of => k_is)
    (case l_Book_days_of => k_is)
    (case o_Book_days_of => k_is)
    (case k_Book_days_of => k_is)
    (case n_law_whole => k_is)
    (case l_law_whole => k_is)
    (case o_law_whole => k_is)
    (case k_law_whole => k_is)
    (case n_law_cell_at => k_is)
    (case l_law_cell_at => k_is)
    (case o_law_cell_at => k_is)
    (case k_law_cell_at => k_is)
    (case n_law_drawn => k_is)
    (case l_law_drawn => k_is)
    (case o_law_drawn => k_is)
    (case k_law_drawn => k_is)
    (case n_law_mixed => k_is)
    (case l_law_mixed => k_is)
    (case o_law_mixed => k_is)
    (case k_law_mixed => k_is)
    (case n_law_name => k_is)
    (case l_law_name => k_is)
    (case o_law_name => k_is)
    (case k_law_name => k_is)
    (case n_law_names => k_is)
    (case l_law_names => k_is)
    (case o_law_names => k_is)
    (case k_law_names => k_is)
    (case n_law_tuples => k_is)
    (case l_law_tuples => k_is)
    (case o_law_tuples => k_is)
    (case k_law_tuples => k_is)
    (case n_law_holder => k_is)
    (case l_law_holder => k_is)
    (case o_law_holder => k_is)
    (case k_law_holder => k_is)
    (case n_law_all => k_is)
    (case l_law_all => k_is)
    (case o_law_all => k_is)
    (case k_law_all => k_is)
    (case n_law_issued => k_is)
    (case l_law_issued => k_is)
    (case o_law_issued => k_is)
    (case k_law_issued => k_is)
    (case n_law => k_is)
    (case l_law => k_is)
    (case o_law => k_is)
    (case k_law => k_is)
    (case pg_Holder => k_is)
    (case hd_Holder => k_is)
    (case po_Holder => k_is)
    (case sa_Holder => k_is)
    (case mk_Holder => k_is)
    (case kc_Holder => k_is)
    (case nf_Holder_lots => k_is)
    (case nf_Holder_days => k_is)
    (case nf_Holder_gain => k_is)
    (case nf_Holder_got => k_is)
    (case pg_Book => k_is)
    (case hd_Book => k_is)
    (case po_Book => k_is)
    (case sa_Book => k_is)
    (case mk_Book => k_is)
    (case kc_Book => k_is)
    (case nf_Book_day => k_is)
    (case nf_Book_people => k_is)
    (case x_ShareError => k_exc)
    (case k_ShareError => k_is)
    (case e_ShareError => k_is)
    (case t_ShareError => k_is)
    (case hd_ShareError => k_is)
    (case u_ShareError_ShareError => k_is)
    (case u_ShareError_BadDay => k_is)
    (case u_ShareError_BadNumber => k_is)
    (case u_ShareError_Uneven => k_is)
    (case u_ShareError_NoDays => k_is)
    (case x_BadDay => k_exc)
    (case k_BadDay => k_is)
    (case e_BadDay => k_is)
    (case t_BadDay => k_is)
    (case hd_BadDay => k_is)
    (case u_BadDay_ShareError => k_is)
    (case u_BadDay_BadDay => k_is)
    (case u_BadDay_BadNumber => k_is)
    (case u_BadDay_Uneven => k_is)
    (case u_BadDay_NoDays => k_is)
    (case x_BadNumber => k_exc)
    (case k_BadNumber => k_is)
    (case e_BadNumber => k_is)
    (case t_BadNumber => k_is)
    (case hd_BadNumber => k_is)
    (case u_BadNumber_ShareError => k_is)
    (case u_BadNumber_BadDay => k_is)
    (case u_BadNumber_BadNumber => k_is)
    (case u_BadNumber_Uneven => k_is)
    (case u_BadNumber_NoDays => k_is)
    (case x_Uneven => k_exc)
    (case k_Uneven => k_is)
    (case e_Uneven => k_is)
    (case t_Uneven => k_is)
    (case hd_Uneven => k_is)
    (case u_Uneven_ShareError => k_is)
    (case u_Uneven_BadDay => k_is)
    (case u_Uneven_BadNumber => k_is)
    (case u_Uneven_Uneven => k_is)
    (case u_Uneven_NoDays => k_is)
    (case x_NoDays => k_exc)
    (case k_NoDays => k_is)
    (case e_NoDays => k_is)
    (case t_NoDays => k_is)
    (case hd_NoDays => k_is)
    (case u_NoDays_ShareError => k_is)
    (case u_NoDays_BadDay => k_is)
    (case u_NoDays_BadNumber => k_is)
    (case u_NoDays_Uneven => k_is)
    (case u_NoDays_NoDays => k_is)
    (case z_all => k_is)
    (case z_any => k_is)
    (case z_bool => k_is)
    (case z_int => k_is)
    (case z_isinstance => k_is)
    (case z_len => k_is)
    (case z_list => k_is)
    (case z_max => k_is)
    (case z_range => k_is)
    (case z_sum => k_is)
    (case z_tuple => k_is)
    (case z_zip => k_is)
#print axioms PySem.Challenge.cw_lotbook_k14_split_and_joined_again_holds
