import PyProof.Rows.All
import Wide.All
import OpenK.AllK
import Wide.FinOn
import HandS.ForMost
import HandS.ForExc
import HandS.Wide
import HandS.WideMore
import HandS.Walk
import HandS.TryMany
import HandS.TupAny
import HandS.TupMul
import HandS.Flow
import HandS.RevRange
import HandS.Lambda
import HandS.Style
import HandS.Conv
import HandS.Defaults
import HandS.HeadHook4
import KE.GoesEnum
import HandS.Head0
import HandS.Head1
import HandS.Head2
import HandS.HeadEnd
import HandS.HeadHook1
import HandS.HeadHook2
import HandS.HeadHook3
import HandS.HeadWalk
import PySem.Challenge.RW_wagehall_k21_papers_of_worth
set_option Elab.async false
set_option linter.all false
set_option maxRecDepth 100000
set_option maxHeartbeats 2000000
/-! DL: deep data, a store, denotations (a layer over HandS). -/
namespace DL
open PySem PySem.Spec PyProof.Rows L2

/-! ### data -/
inductive D where
  | non | bl (b : Bool) | int (i : Int) | str (x : Str) | tup (xs : List D) | fl (xs : List D) | obj (n : Nat)
deriving Inhabited
inductive DO where
  | lst (xs : List D)
  | ins (c : String) (fs : List (Str × D))
abbrev Store := List DO
abbrev DEnv := List (Option D)
structure Exc where
  c : String
inductive Out (α : Type) where
  | ok (a : α) (S : Store) | exn (e : Exc) (S : Store) | bad
def Out.bind {α β : Type} (o : Out α) (k : α → Store → Out β) : Out β := match o with
  | .ok a S => k a S
  | .exn e S => .exn e S
  | .bad => .bad
@[simp] theorem Out.bind_ok {α β : Type} (a : α) (S : Store) (k : α → Store → Out β) : (Out.ok a S).bind k = k a S := rfl
@[simp] theorem Out.bind_exn {α β : Type} (e : Exc) (S : Store) (k : α → Store → Out β) : (Out.exn e S : Out α).bind k = .exn e S := rfl
@[simp] theorem Out.bind_bad {α β : Type} (k : α → Store → Out β) : (Out.bad : Out α).bind k = .bad := rfl
def optO {α : Type} : Option (α × Store) → Out α
  | some (a, S) => .ok a S
  | none => .bad
@[simp] theorem optO_some {α : Type} (a : α) (S : Store) : optO (some (a, S)) = .ok a S := rfl
@[simp] theorem optO_none {α : Type} : optO (none : Option (α × Store)) = .bad := rfl
/-- classes by names; tables of code objects -/
structure Gx where
  cA : String → Addr
  T : List (Addr × Str)

/-- a list that nothing changes -/
def SqF (K : PySem.W.Frag) (H : Hp) (a : Addr) (xs : List V) : Prop :=
  (∃ o, H a = some (.frz o (.lst xs))) ∨ ∃ (o : Obj) (its : Array Value) (n : Nat), K.lookup a = some o ∧ o.cls = .type "list" ∧ o.dict = none ∧ o.data = .seq its n ∧ its.size ≤ sizeLine ∧ Vals xs its.toList
theorem SqF.l {K : PySem.W.Frag} {H : Hp} {a : Addr} {xs : List V} (h : SqF K H a xs) : SqL K H a xs := by
  rcases h with ⟨o, h⟩ | h
  · exact .inl (.inr ⟨o, h⟩)
  · exact .inr h
mutual
def SV (K : PySem.W.Frag) (m : List Addr) (H : Hp) : D → V → Prop
  | .non, v => v = .non
  | .bl b, v => v = .bl b
  | .int i, v => v = .int i
  | .str x, v => v = .str x
  | .tup xs, v => ∃ p vs, v = .ref p ∧ SqT K H p vs ∧ SVs K m H xs vs
  | .fl xs, v => ∃ p vs, v = .ref p ∧ SqF K H p vs ∧ SVs K m H xs vs
  | .obj n, v => ∃ a, v = .ref a ∧ m[n]? = some a
def SVs (K : PySem.W.Frag) (m : List Addr) (H : Hp) : List D → List V → Prop
  | [], vs => vs = []
  | d :: ds, vs => ∃ v r, vs = v :: r ∧ SV K m H d v ∧ SVs K m H ds r
end
def SF (K : PySem.W.Frag) (m : List Addr) (H : Hp) : List (Str × D) → List (Str × V) → Prop
  | [], vs => vs = []
  | (f, d) :: ds, vs => ∃ v r, vs = (f, v) :: r ∧ SV K m H d v ∧ SF K m H ds r
/-- what stands at a for the store's object -/
def SO (K : PySem.W.Frag) (G : Gx) (m : List Addr) (H : Hp) : DO → Addr → Prop
  | .lst xs, a => ∃ vs, H a = some (.lst vs) ∧ SVs K m H xs vs
  | .ins c fs, a => ∃ dx vfs, H a = some (.ins (G.cA c) dx vfs) ∧ SF K m H fs vfs
structure Sim (K : PySem.W.Frag) (G : Gx) (m : List Addr) (S : Store) (H : Hp) : Prop where
  len : m.length = S.length
  nd : m.Nodup
  at_ : ∀ (n : Nat) (o : DO) (a : Addr), S[n]? = some o → m[n]? = some a → SO K G m H o a
  tabs : LamX.Tabs G.T H
structure Step (m : List Addr) (H : Hp) (m' : List Addr) (H' : Hp) : Prop where
  ext : ∃ l, m' = m ++ l ∧ ∀ a ∈ l, ∀ o, H a = some o → ∃ ps, o = .tbl ps
  nd : m'.Nodup
  frame : ∀ b o, H b = some o → (∀ ps, o ≠ .tbl ps) → b ∉ m → H' b = some o
/-- mutable things of the store -/
def MutO : HO → Prop
  | .lst _ => True
  | .ins _ _ _ => True
  | .dK _ => True
  | .dT _ => True
  | _ => False
section
variable {K : PySem.W.Frag} {G : Gx} {m m1 m2 : List Addr} {S S1 : Store} {H H1 H2 : Hp}
theorem Sim.mem (s : Sim K G m S H) {a : Addr} (h : a ∈ m) : ∃ o, H a = some o ∧ MutO o := by
  obtain ⟨n, hn, e⟩ := List.getElem_of_mem h
  have hn' : n < S.length := by rw [← s.len]; exact hn
  have q := s.at_ n S[n] a (by simp [hn']) (by simp [hn, e])
  cases e2 : S[n] with
  | lst xs => rw [e2] at q; obtain ⟨vs, q, _⟩ := q; exact ⟨_, q, trivial⟩
  | ins c fs => rw [e2] at q; obtain ⟨dx, vs, q, _⟩ := q; exact ⟨_, q, trivial⟩
theorem Sim.notMem (s : Sim K G m S H) {a : Addr} {o : HO} (h : H a = some o) (hm : ¬ MutO o) : a ∉ m := fun q => by
  obtain ⟨o', e, mu⟩ := s.mem q
  rw [h] at e; cases e; exact hm mu
theorem Sim.fresh (s : Sim K G m S H) {a : Addr} (h : H a = none) : a ∉ m := fun q => by
  obtain ⟨o', e, mu⟩ := s.mem q
  rw [h] at e; cases e
theorem Step.refl (nd : m.Nodup) : Step m H m H := ⟨⟨[], by simp⟩, nd, fun _ _ h _ _ => h⟩
theorem Sim.refl (s : Sim K G m S H) : Step m H m H := Step.refl s.nd
theorem Step.trans (a : Step m H m1 H1) (b : Step m1 H1 m2 H2) : Step m H m2 H2 := by
  obtain ⟨l1, e1, f1⟩ := a.ext
  obtain ⟨l2, e2, f2⟩ := b.ext
  refine ⟨⟨l1 ++ l2, by rw [e2, e1, List.append_assoc], fun x hx o hxo => ?_⟩, b.nd, fun x o hx ht hm => ?_⟩
  · rcases List.mem_append.mp hx with hx | hx
    · exact f1 x hx o hxo
    · by_cases ht : ∃ ps, o = .tbl ps
      · exact ht
      · have nm : x ∉ m := fun hm => by
          have nd := b.nd
          rw [e2, e1] at nd
          have := (List.nodup_append.mp nd).2.2
          exact this x (List.mem_append_left _ hm) x hx rfl
        exact f2 x hx o (a.frame x o hxo (fun ps e => ht ⟨ps, e⟩) nm)
  · have h1 := a.frame x o hx ht hm
    refine b.frame x o h1 ht ?_
    rw [e1]
    intro q
    rcases List.mem_append.mp q with q | q
    · exact hm q
    · obtain ⟨ps, e⟩ := f1 x q o hx
      exact ht ps e
theorem Step.get (a : Step m H m1 H1) {n : Nat} {x : Addr} (h : m[n]? = some x) : m1[n]? = some x := by
  obtain ⟨l, e, _⟩ := a.ext
  rw [e, List.getElem?_append_left (List.getElem?_eq_some_iff.mp h).1]
  exact h
theorem sqT_step (s : Sim K G m S H) (st : Step m H m1 H1) {p : Addr} {vs : List V} (h : SqT K H p vs) : SqT K H1 p vs := by
  rcases h with (h | ⟨o, h⟩) | h
  · exact .inl (.inl (st.frame _ _ h (fun _ z => by cases z) (s.notMem h (fun z => z))))
  · exact .inl (.inr ⟨o, st.frame _ _ h (fun _ z => by cases z) (s.notMem h (fun z => z))⟩)
  · exact .inr h
theorem sqF_step (s : Sim K G m S H) (st : Step m H m1 H1) {p : Addr} {vs : List V} (h : SqF K H p vs) : SqF K H1 p vs := by
  rcases h with ⟨o, h⟩ | h
  · exact .inl ⟨o, st.frame _ _ h (fun _ z => by cases z) (s.notMem h (fun z => z))⟩
  · exact .inr h
end
mutual
theorem SV.mono {K : PySem.W.Frag} {G : Gx} {m m1 : List Addr} {S : Store} {H H1 : Hp} (s : Sim K G m S H) (st : Step m H m1 H1) : ∀ {d : D} {v : V}, SV K m H d v → SV K m1 H1 d v
  | .non, v, h => h
  | .bl b, v, h => h
  | .int i, v, h => h
  | .str x, v, h => h
  | .tup xs, v, h => by
    obtain ⟨p, vs, e, q, r⟩ := (show ∃ p vs, v = .ref p ∧ SqT K H p vs ∧ SVs K m H xs vs from h)
    exact ⟨p, vs, e, sqT_step s st q, SVs.mono s st r⟩
  | .fl xs, v, h => by
    obtain ⟨p, vs, e, q, r⟩ := (show ∃ p vs, v = .ref p ∧ SqF K H p vs ∧ SVs K m H xs vs from h)
    exact ⟨p, vs, e, sqF_step s st q, SVs.mono s st r⟩
  | .obj n, v, h => by
    obtain ⟨a, e, q⟩ := (show ∃ a, v = .ref a ∧ m[n]? = some a from h)
    exact ⟨a, e, st.get q⟩
theorem SVs.mono {K : PySem.W.Frag} {G : Gx} {m m1 : List Addr} {S : Store} {H H1 : Hp} (s : Sim K G m S H) (st : Step m H m1 H1) : ∀ {ds : List D} {vs : List V}, SVs K m H ds vs → SVs K m1 H1 ds vs
  | [], vs, h => h
  | d :: ds, vs, h => by
    obtain ⟨v, r, e, a, b⟩ := (show ∃ v r, vs = v :: r ∧ SV K m H d v ∧ SVs K m H ds r from h)
    exact ⟨v, r, e, SV.mono s st a, SVs.mono s st b⟩
end
section
variable {K : PySem.W.Frag} {G : Gx} {m m1 m2 : List Addr} {S S1 : Store} {H H1 H2 : Hp}
theorem SF.mono (s : Sim K G m S H) (st : Step m H m1 H1) : ∀ {ds : List (Str × D)} {vs : List (Str × V)}, SF K m H ds vs → SF K m1 H1 ds vs
  | [], vs, h => h
  | (f, d) :: ds, vs, h => by
    obtain ⟨v, r, e, a, b⟩ := (show ∃ v r, vs = (f, v) :: r ∧ SV K m H d v ∧ SF K m H ds r from h)
    exact ⟨v, r, e, SV.mono s st a, SF.mono s st b⟩
theorem SVs.len : ∀ {ds : List D} {vs : List V}, SVs K m H ds vs → ds.length = vs.length
  | [], vs, h => by rw [show vs = [] from h]; rfl
  | d :: ds, vs, h => by
    obtain ⟨v, r, e, a, b⟩ := (show ∃ v r, vs = v :: r ∧ SV K m H d v ∧ SVs K m H ds r from h)
    rw [e, List.length_cons, List.length_cons, SVs.len b]
theorem SVs.get : ∀ {ds : List D} {vs : List V} {i : Nat} {d : D}, SVs K m H ds vs → ds[i]? = some d → ∃ v, vs[i]? = some v ∧ SV K m H d v
  | [], vs, i, d, h, e => by simp at e
  | d' :: ds, vs, i, d, h, e => by
    obtain ⟨v, r, rfl, a, b⟩ := (show ∃ v r, vs = v :: r ∧ SV K m H d' v ∧ SVs K m H ds r from h)
    cases i with
    | zero => simp at e; subst e; exact ⟨v, by simp, a⟩
    | succ i =>
      obtain ⟨u, h1, h2⟩ := SVs.get (i := i) b (by simpa using e)
      exact ⟨u, by simpa using h1, h2⟩
theorem SVs.append : ∀ {ds es : List D} {vs us : List V}, SVs K m H ds vs → SVs K m H es us → SVs K m H (ds ++ es) (vs ++ us)
  | [], es, vs, us, h, q => by rw [show vs = [] from h]; exact q
  | d :: ds, es, vs, us, h, q => by
    obtain ⟨v, r, rfl, a, b⟩ := (show ∃ v r, vs = v :: r ∧ SV K m H d v ∧ SVs K m H ds r from h)
    exact ⟨v, r ++ us, rfl, a, SVs.append b q⟩
theorem SVs.one {d : D} {v : V} (h : SV K m H d v) : SVs K m H [d] [v] := ⟨v, [], rfl, h, rfl⟩
theorem SVs.take : ∀ {ds : List D} {vs : List V} (n : Nat), SVs K m H ds vs → SVs K m H (ds.take n) (vs.take n)
  | [], vs, n, h => by rw [show vs = [] from h]; simp; rfl
  | d :: ds, vs, 0, h => by simp; rfl
  | d :: ds, vs, n + 1, h => by
    obtain ⟨v, r, rfl, a, b⟩ := (show ∃ v r, vs = v :: r ∧ SV K m H d v ∧ SVs K m H ds r from h)
    exact ⟨v, r.take n, rfl, a, SVs.take n b⟩
theorem SVs.drop : ∀ {ds : List D} {vs : List V} (n : Nat), SVs K m H ds vs → SVs K m H (ds.drop n) (vs.drop n)
  | [], vs, n, h => by rw [show vs = [] from h]; simp; rfl
  | d :: ds, vs, 0, h => h
  | d :: ds, vs, n + 1, h => by
    obtain ⟨v, r, rfl, a, b⟩ := (show ∃ v r, vs = v :: r ∧ SV K m H d v ∧ SVs K m H ds r from h)
    exact SVs.drop n b
theorem SVs.set {d : D} {v : V} (q : SV K m H d v) : ∀ {ds : List D} {vs : List V} (n : Nat), SVs K m H ds vs → SVs K m H (ds.set n d) (vs.set n v)
  | [], vs, n, h => by rw [show vs = [] from h]; simp; rfl
  | d' :: ds, vs, 0, h => by
    obtain ⟨u, r, rfl, a, b⟩ := (show ∃ v r, vs = v :: r ∧ SV K m H d' v ∧ SVs K m H ds r from h)
    exact ⟨v, r, rfl, q, b⟩
  | d' :: ds, vs, n + 1, h => by
    obtain ⟨u, r, rfl, a, b⟩ := (show ∃ v r, vs = v :: r ∧ SV K m H d' v ∧ SVs K m H ds r from h)
    exact ⟨u, r.set n v, rfl, a, SVs.set q n b⟩
theorem SF.len : ∀ {ds : List (Str × D)} {vs : List (Str × V)}, SF K m H ds vs → ds.length = vs.length
  | [], vs, h => by rw [show vs = [] from h]; rfl
  | (f, d) :: ds, vs, h => by
    obtain ⟨v, r, e, a, b⟩ := (show ∃ v r, vs = (f, v) :: r ∧ SV K m H d v ∧ SF K m H ds r from h)
    rw [e, List.length_cons, List.length_cons, SF.len b]
theorem SF.look : ∀ {ds : List (Str × D)} {vs : List (Str × V)} {f : Str} {d : D}, SF K m H ds vs → ds.lookup f = some d → ∃ v, vs.lookup f = some v ∧ SV K m H d v
  | [], vs, f, d, h, e => by cases e
  | (g, d') :: ds, vs, f, d, h, e => by
    obtain ⟨v, r, rfl, a, b⟩ := (show ∃ v r, vs = (g, v) :: r ∧ SV K m H d' v ∧ SF K m H ds r from h)
    rw [List.lookup_cons] at e ⊢
    cases q : f == g with
    | true => rw [q] at e; cases e; exact ⟨v, rfl, a⟩
    | false => rw [q] at e; exact SF.look b e
theorem SF.lookN : ∀ {ds : List (Str × D)} {vs : List (Str × V)} {f : Str}, SF K m H ds vs → ds.lookup f = none → vs.lookup f = none
  | [], vs, f, h, e => by rw [show vs = [] from h]; rfl
  | (g, d') :: ds, vs, f, h, e => by
    obtain ⟨v, r, rfl, a, b⟩ := (show ∃ v r, vs = (g, v) :: r ∧ SV K m H d' v ∧ SF K m H ds r from h)
    rw [List.lookup_cons] at e ⊢
    cases q : f == g with
    | true => rw [q] at e; cases e
    | false => rw [q] at e; exact SF.lookN b e
/-- a field put -/
def putD (f : Str) (d : D) : List (Str × D) → List (Str × D)
  | [] => [(f, d)]
  | (g, e) :: r => if g = f then (g, d) :: r else (g, e) :: putD f d r
theorem SF.put {f : Str} {d : D} {v : V} (q : SV K m H d v) : ∀ {ds : List (Str × D)} {vs : List (Str × V)}, SF K m H ds vs → SF K m H (putD f d ds) (putF f v vs)
  | [], vs, h => by rw [show vs = [] from h]; exact ⟨v, [], rfl, q, rfl⟩
  | (g, d') :: ds, vs, h => by
    obtain ⟨u, r, rfl, a, b⟩ := (show ∃ v r, vs = (g, v) :: r ∧ SV K m H d' v ∧ SF K m H ds r from h)
    unfold putD putF
    by_cases e : g = f
    · rw [if_pos e, if_pos e]
      exact ⟨v, r, rfl, q, b⟩
    · rw [if_neg e, if_neg e]
      exact ⟨u, _, rfl, a, SF.put q b⟩
theorem SO.mono (s : Sim K G m S H) (st : Step m H m1 H1) {o : DO} {a : Addr} (h : SO K G m H o a) (ha : H1 a = H a) : SO K G m1 H1 o a := by
  cases o with
  | lst xs =>
    obtain ⟨vs, e, r⟩ := h
    exact ⟨vs, ha.trans e, r.mono s st⟩
  | ins c fs =>
    obtain ⟨dx, vs, e, r⟩ := h
    exact ⟨dx, vs, ha.trans e, r.mono s st⟩
theorem tabs_step {T : List (Addr × Str)} (t : LamX.Tabs T H) (e : ∀ b o, H b = some o → ¬ MutO o → H1 b = some o) : LamX.Tabs T H1 := fun p hp => by
  obtain ⟨ps, h1, h2, h3⟩ := t p hp
  refine ⟨ps, e _ _ h1 (fun z => z), h2, fun pos cv hc => ?_⟩
  obtain ⟨c, e1, e2⟩ := h3 pos cv hc
  exact ⟨c, e1, e _ _ e2 (fun z => by unfold LamX.CodeO at z; exact z)⟩
/-- something new beside the store -/
theorem Step.beside (s : Sim K G m S H) {p : Addr} {o : HO} (hp : H p = none) : Step m H m (upd H p o) :=
  ⟨⟨[], by simp⟩, s.nd, fun b u e _ _ => by rw [upd_ne (ne_of_none e hp)]; exact e⟩
theorem Sim.beside (s : Sim K G m S H) {p : Addr} {o : HO} (hp : H p = none) : Sim K G m S (upd H p o) := by
  have st : Step m H m (upd H p o) := Step.beside s hp
  refine ⟨s.len, s.nd, fun n ob a h1 h2 => ?_, tabs_step s.tabs fun b u e _ => by rw [upd_ne (ne_of_none e hp)]; exact e⟩
  have hm : a ∈ m := List.mem_of_getElem? h2
  obtain ⟨u, e, _⟩ := s.mem hm
  exact (s.at_ n ob a h1 h2).mono s st (by rw [upd_ne (ne_of_none e hp)])
/-- a new object of the store -/
theorem Step.new (s : Sim K G m S H) {p : Addr} {o : HO} (hp : H p = none) : Step m H (m ++ [p]) (upd H p o) := by
  refine ⟨⟨[p], rfl, fun a ha o e => by rw [List.mem_singleton.mp ha, hp] at e; cases e⟩, ?_, fun b u e _ _ => by rw [upd_ne (ne_of_none e hp)]; exact e⟩
  rw [List.nodup_append]
  refine ⟨s.nd, by simp, fun a ha b hb e => ?_⟩
  rw [List.mem_singleton.mp hb] at e
  exact s.fresh hp (e ▸ ha)
theorem Sim.new (s : Sim K G m S H) {p : Addr} {o : HO} {ob : DO} (hp : H p = none) (h : SO K G (m ++ [p]) (upd H p o) ob p) : Sim K G (m ++ [p]) (S ++ [ob]) (upd H p o) := by
  have st : Step m H (m ++ [p]) (upd H p o) := Step.new s hp
  refine ⟨by simp [s.len], st.nd, fun n ob' a h1 h2 => ?_, tabs_step s.tabs fun b u e _ => by rw [upd_ne (ne_of_none e hp)]; exact e⟩
  by_cases hn : n < S.length
  · rw [List.getElem?_append_left hn] at h1
    rw [List.getElem?_append_left (by rw [s.len]; exact hn)] at h2
    have hm : a ∈ m := List.mem_of_getElem? h2
    obtain ⟨u, e, _⟩ := s.mem hm
    exact (s.at_ n ob' a h1 h2).mono s st (by rw [upd_ne (ne_of_none e hp)])
  · rw [List.getElem?_append_right (by omega)] at h1
    rw [List.getElem?_append_right (by rw [s.len]; omega), s.len] at h2
    have e : n - S.length = 0 := by
      cases q : n - S.length with
      | zero => rfl
      | succ k => rw [q] at h1; simp at h1
    rw [e] at h1 h2
    simp at h1 h2
    rw [← h1, ← h2]
    exact h
/-- an object of the store changed -/
theorem Step.put (s : Sim K G m S H) {n : Nat} {p : Addr} {o : HO} (hp : m[n]? = some p) : Step m H m (upd H p o) := by
  have hm : p ∈ m := List.mem_of_getElem? hp
  refine ⟨⟨[], by simp⟩, s.nd, fun b u e _ nb => ?_⟩
  have ne : b ≠ p := fun z => nb (by rw [z]; exact hm)
  rw [upd_ne ne]; exact e
theorem Sim.put (s : Sim K G m S H) {n : Nat} {p : Addr} {o : HO} {ob : DO} (hp : m[n]? = some p) (h : SO K G m (upd H p o) ob p) : Sim K G m (S.set n ob) (upd H p o) := by
  have st : Step m H m (upd H p o) := Step.put s hp
  have hm : p ∈ m := List.mem_of_getElem? hp
  obtain ⟨op, ep, mu⟩ := s.mem hm
  refine ⟨by simp [s.len], s.nd, fun k ob' a h1 h2 => ?_, tabs_step s.tabs fun b u e nm => ?_⟩
  · by_cases hk : n = k
    · subst hk
      have hlt : n < S.length := by rw [← s.len]; exact (List.getElem?_eq_some_iff.mp hp).1
      rw [List.getElem?_set_self hlt] at h1
      rw [hp] at h2
      cases h1; cases h2
      exact h
    · rw [List.getElem?_set_ne hk] at h1
      have ne : a ≠ p := fun e => by
        subst e
        exact hk ((List.getElem?_inj (List.getElem?_eq_some_iff.mp hp).1 s.nd).mp (hp.trans h2.symm))
      exact (s.at_ k ob' a h1 h2).mono s st (by rw [upd_ne ne])
  · have ne : b ≠ p := fun z => by
      subst z
      rw [ep] at e
      cases e
      exact nm mu
    rw [upd_ne ne]; exact e
end

/-! ### denotations and what they promise -/
abbrev DE := DEnv → Store → Out D
abbrev DA := DEnv → Store → Out (List D)
abbrev DT := DEnv → Store → Out Bool
/-- slots -/
def SR (K : PySem.W.Frag) (m : List Addr) (H : Hp) (ρ : DEnv) (σ : L2.St) : Prop := ρ.length = σ.length ∧ ∀ (i : Nat) (d : D), ρ[i]? = some (some d) → ∃ v, σ[i]? = some (some v) ∧ SV K m H d v
theorem SR.mono {K : PySem.W.Frag} {G : Gx} {m m1 : List Addr} {S : Store} {H H1 : Hp} {ρ : DEnv} {σ : L2.St} (h : SR K m H ρ σ) (s : Sim K G m S H) (st : Step m H m1 H1) : SR K m1 H1 ρ σ :=
  ⟨h.1, fun i d e => by
    obtain ⟨v, h1, h2⟩ := h.2 i d e
    exact ⟨v, h1, h2.mono s st⟩⟩
theorem SR.set {K : PySem.W.Frag} {m : List Addr} {H : Hp} {ρ : DEnv} {σ : L2.St} (h : SR K m H ρ σ) (i : Nat) {d : D} {v : V} (q : SV K m H d v) : SR K m H (ρ.set i (some d)) (σ.set i (some v)) := by
  refine ⟨by simp [h.1], fun j e hj => ?_⟩
  by_cases hij : i = j
  · subst hij
    have hlt : i < ρ.length := by
      have := (List.getElem?_eq_some_iff.mp hj).1
      simpa using this
    rw [List.getElem?_set_self hlt] at hj
    cases hj
    exact ⟨v, by rw [List.getElem?_set_self (by rw [← h.1]; exact hlt)], q⟩
  · rw [List.getElem?_set_ne hij] at hj
    obtain ⟨u, h1, h2⟩ := h.2 j e hj
    exact ⟨u, by rw [List.getElem?_set_ne hij]; exact h1, h2⟩
/-- what is told of an exception -/
def XO (G : Gx) (e : Exc) (cls : Value) (_ : Option Addr) : Prop := cls = .ref (G.cA e.c)
section
variable {α β γ δ : Type}
/-- what must hold of an outcome -/
def EO (K : PySem.W.Frag) (G : Gx) (rel : List Addr → Hp → α → β → Prop) (Q : β → Hp → Prop) (Wc : Value → Option Addr → Hp → Prop) (m : List Addr) (H : Hp) : Out α → Prop
  | .ok a S' => ∀ b H' m', Step m H m' H' → Sim K G m' S' H' → rel m' H' a b → Q b H'
  | .exn e S' => ∀ cls dx H' m', Step m H m' H' → Sim K G m' S' H' → XO G e cls dx → Wc cls dx H'
  | .bad => False
variable {K : PySem.W.Frag} {G : Gx} {rel : List Addr → Hp → α → β → Prop} {rel' : List Addr → Hp → γ → δ → Prop} {Q : β → Hp → Prop} {Q' : δ → Hp → Prop} {Wc : Value → Option Addr → Hp → Prop} {m m1 : List Addr} {H H1 : Hp}
theorem EO.step {o : Out α} (h : EO K G rel Q Wc m H o) (st : Step m H m1 H1) : EO K G rel Q Wc m1 H1 o := by
  cases o with
  | ok a S => exact fun b H' m' s1 s2 r => h b H' m' (st.trans s1) s2 r
  | exn e S => exact fun cls dx H' m' s1 s2 r => h cls dx H' m' (st.trans s1) s2 r
  | bad => exact h.elim
theorem EO.then {o : Out α} {k : α → Store → Out γ} (h : EO K G rel' Q' Wc m H (o.bind k))
    (f : ∀ a S1 b H1 m1, Step m H m1 H1 → Sim K G m1 S1 H1 → rel m1 H1 a b → EO K G rel' Q' Wc m1 H1 (k a S1) → Q b H1) : EO K G rel Q Wc m H o := by
  cases o with
  | ok a S => exact fun b H' m' s1 s2 r => f a S b H' m' s1 s2 r (EO.step h s1)
  | exn e S => exact h
  | bad => exact h.elim
theorem EO.imp {o : Out α} {Q2 : β → Hp → Prop} (h : EO K G rel Q Wc m H o) (f : ∀ b H, Q b H → Q2 b H) : EO K G rel Q2 Wc m H o := by
  cases o with
  | ok a S => exact fun b H' m' s1 s2 r => f _ _ (h b H' m' s1 s2 r)
  | exn e S => exact h
  | bad => exact h.elim
end
def eqR {α : Type} : List Addr → Hp → α → α → Prop := fun _ _ a b => a = b
section
variable (K : PySem.W.Frag) (G : Gx) (W : WX)
def tD (f : DE) : TE := fun σ H Q => ∃ m ρ S, SR K m H ρ σ ∧ Sim K G m S H ∧ EO K G (SV K) Q (fun c d H' => W c d σ H') m H (f ρ S)
def tDA (f : DA) : TA := fun σ H Q => ∃ m ρ S, SR K m H ρ σ ∧ Sim K G m S H ∧ EO K G (SVs K) Q (fun c d H' => W c d σ H') m H (f ρ S)
def tDT (f : DT) : TT := fun σ H Q => ∃ m ρ S, SR K m H ρ σ ∧ Sim K G m S H ∧ EO K G eqR Q (fun c d H' => W c d σ H') m H (f ρ S)
end
abbrev JE (X : Cx) (G : Gx) (W : WX) (e : Expr) (f : DE) : Prop := PE X e (tD X.K G W f)
abbrev JA (X : Cx) (G : Gx) (W : WX) (es : List Expr) (f : DA) : Prop := PA X es (tDA X.K G W f)
abbrev JT (X : Cx) (G : Gx) (W : WX) (e : Expr) (f : DT) : Prop := PT X e (tDT X.K G W f)
abbrev JW (X : Cx) (G : Gx) (W : WX) (e : Expr) (f : DT) : Prop := PW X e (tDT X.K G W f)
theorem PE.imp {X : Cx} {e : Expr} {t t' : TE} (h : PE X e t) (f : ∀ σ H Q, t' σ H Q → t σ H Q) : PE X e t' := ⟨fun pins s σ H Q I q => h.run pins s σ H Q I (f σ H Q q)⟩
theorem PT.imp {X : Cx} {e : Expr} {t t' : TT} (h : PT X e t) (f : ∀ σ H Q, t' σ H Q → t σ H Q) : PT X e t' := ⟨fun pins s σ H Q I q => h.run pins s σ H Q I (f σ H Q q)⟩
theorem PW.imp {X : Cx} {e : Expr} {t t' : TT} (h : PW X e t) (f : ∀ σ H Q, t' σ H Q → t σ H Q) : PW X e t' := ⟨fun wh pins s σ H Q I q => h.run wh pins s σ H Q I (f σ H Q q)⟩
theorem PA.imp {X : Cx} {e : List Expr} {t t' : TA} (h : PA X e t) (f : ∀ σ H Q, t' σ H Q → t σ H Q) : PA X e t' := ⟨fun pos pins s σ H Q I q => h.run pos pins s σ H Q I (f σ H Q q)⟩
theorem OpR.imp {X : Cx} {f : Value → Value → Sem Value} {r r' : R2} (h : OpR X f r) (g : ∀ x y H Q, r' x y H Q → r x y H Q) : OpR X f r' := fun pins s σ H x y v u Q I r1 r2 q => h pins s σ H x y v u Q I r1 r2 (g x y H Q q)
theorem UnR.imp {X : Cx} {f : Value → Sem Value} {r r' : V → Hp → VK → Prop} (h : UnR X f r) (g : ∀ x H Q, r' x H Q → r x H Q) : UnR X f r' := fun pins s σ H x v Q I r1 q => h pins s σ H x v Q I r1 (g x H Q q)
theorem CallR.imp {X : Cx} {f : Value} {r r' : List V → Hp → VK → Prop} (h : CallR X f r) (g : ∀ x H Q, r' x H Q → r x H Q) : CallR X f r' := fun pins s σ H x v Q I r1 q => h pins s σ H x v Q I r1 (g x H Q q)

/-! ### names, constants -/
def dVar (i : Nat) : DE := fun ρ S => match ρ[i]? with
  | some (some d) => .ok d S
  | _ => .bad
def dC (d : D) : DE := fun _ S => .ok d S
section
variable {X : Cx} {G : Gx} {W : WX}
theorem je_var (i : Nat) {x : Str} {pos : Pos} (hN : X.N[i]? = some x := by rfl) (hv : Vis X.env.scope x := by first | exact Or.inl rfl | exact Or.inr (Or.inl rfl) | exact Or.inr (Or.inr rfl)) (hd : (x == ("__debug__" : Str)) = false := by decide)
    (hcd : (x == ("__classdict__" : Str)) = false := by decide) : JE X G W (.Name x pos) (dVar i) :=
  PE.imp (pe_var hN hv hd hcd) fun σ H Q ⟨m, ρ, S, sr, sm, eo⟩ => by
    unfold dVar at eo
    split at eo
    · rename_i d e
      obtain ⟨v, h1, h2⟩ := sr.2 i d e
      exact ⟨v, h1, eo v H m sm.refl sm h2⟩
    · exact eo.elim
theorem je_int {i j pos} : JE X G W (.Constant (.int i) j pos) (dC (.int i)) := PE.imp pe_int fun σ H Q ⟨m, ρ, S, sr, sm, eo⟩ => eo _ H m sm.refl sm rfl
theorem je_bl {i j pos} : JE X G W (.Constant (.bool i) j pos) (dC (.bl i)) := PE.imp pe_bl fun σ H Q ⟨m, ρ, S, sr, sm, eo⟩ => eo _ H m sm.refl sm rfl
theorem je_str {i j pos} : JE X G W (.Constant (.str i) j pos) (dC (.str i)) := PE.imp pe_str fun σ H Q ⟨m, ρ, S, sr, sm, eo⟩ => eo _ H m sm.refl sm rfl
theorem je_non {j pos} : JE X G W (.Constant .none j pos) (dC .non) := PE.imp pe_non fun σ H Q ⟨m, ρ, S, sr, sm, eo⟩ => eo _ H m sm.refl sm rfl
end

/-! ### operators -/
abbrev D2 := D → D → Store → Option (D × Store)
def dOp (g : D2) (fa fb : DE) : DE := fun ρ S => (fa ρ S).bind fun x S1 => (fb ρ S1).bind fun y S2 => optO (g x y S2)
/-- what an operator promises -/
def OR (K : PySem.W.Frag) (G : Gx) (g : D2) : R2 := fun x y H Q => ∃ m S a b d S', Sim K G m S H ∧ SV K m H a x ∧ SV K m H b y ∧ g a b S = some (d, S') ∧ ∀ v H' m', Step m H m' H' → Sim K G m' S' H' → SV K m' H' d v → Q v H'
abbrev JOp (X : Cx) (G : Gx) (f : Value → Value → Sem Value) (g : D2) : Prop := OpR X f (OR X.K G g)
section
variable {X : Cx} {G : Gx} {W : WX}
theorem je_op {op : Operator} {g : D2} {a b : Expr} {fa fb : DE} {pos : Pos} (ho : JOp X G (binaryOp op) g) (ha : JE X G W a fa) (hb : JE X G W b fb) : JE X G W (.BinOp a op b pos) (dOp g fa fb) :=
  PE.imp (pe_op ho ha hb) fun σ H Q ⟨m, ρ, S, sr, sm, eo⟩ =>
    ⟨m, ρ, S, sr, sm, eo.then fun x S1 v H1 m1 st1 sm1 r1 eo1 => ⟨m1, ρ, S1, sr.mono sm st1, sm1, eo1.then fun y S2 u H2 m2 st2 sm2 r2 eo2 => by
      cases q : g x y S2 with
      | none => rw [q] at eo2; exact eo2.elim
      | some p =>
        obtain ⟨d, S3⟩ := p
        rw [q] at eo2
        exact ⟨m2, S2, x, y, d, S3, sm2, r1.mono sm1 st2, r2, q, eo2⟩⟩⟩
end
end DL
set_option Elab.async false
set_option linter.all false
set_option maxRecDepth 100000
set_option maxHeartbeats 2000000
namespace DL
open PySem PySem.Spec PyProof.Rows L2
/-! ### the store's own operations -/
def newO (ob : DO) (S : Store) : D × Store := (.obj S.length, S ++ [ob])
section
variable {K : PySem.W.Frag} {G : Gx} {m m1 : List Addr} {S S1 : Store} {H H1 : Hp}
theorem sv_tup {p : Addr} {ds : List D} {vs : List V} (h : SVs K m H ds vs) (s : Sim K G m S H) (hp : H p = none) : SV K m (upd H p (.tup vs)) (.tup ds) (.ref p) :=
  ⟨p, vs, rfl, SqT.of upd_same, h.mono s (Step.beside s hp)⟩
theorem sim_lst {p : Addr} {ds : List D} {vs : List V} (h : SVs K m H ds vs) (s : Sim K G m S H) (hp : H p = none) : Sim K G (m ++ [p]) (S ++ [.lst ds]) (upd H p (.lst vs)) :=
  s.new hp ⟨vs, upd_same, h.mono s (Step.new s hp)⟩
theorem sv_new (s : Sim K G m S H) {p : Addr} : SV K (m ++ [p]) H1 (.obj S.length) (.ref p) := ⟨p, rfl, by rw [← s.len]; simp⟩
/-- the store's list -/
def lstAt (S : Store) (n : Nat) : Option (List D) := match S[n]? with
  | some (.lst xs) => some xs
  | _ => none
theorem lstAt_ok (s : Sim K G m S H) {n : Nat} {xs : List D} (h : lstAt S n = some xs) : ∃ a vs, m[n]? = some a ∧ H a = some (.lst vs) ∧ SVs K m H xs vs := by
  unfold lstAt at h
  split at h
  · rename_i ys e
    cases h
    have hn : n < m.length := by rw [s.len]; exact (List.getElem?_eq_some_iff.mp e).1
    obtain ⟨vs, h1, h2⟩ := s.at_ n _ m[n] e (by simp [hn])
    exact ⟨m[n], vs, by simp [hn], h1, h2⟩
  · cases h
/-- a sequence that is read: a tuple, a fixed list, a list -/
def seqAt (S : Store) : D → Option (List D)
  | .tup xs => some xs
  | .fl xs => some xs
  | .obj n => lstAt S n
  | _ => none
theorem seqAt_ok (s : Sim K G m S H) {d : D} {v : V} {xs : List D} (h : seqAt S d = some xs) (r : SV K m H d v) : ∃ p vs, v = .ref p ∧ SVs K m H xs vs ∧ (SqL K H p vs ∨ SqT K H p vs) := by
  cases d with
  | tup ys => cases h; obtain ⟨p, vs, e, q, r⟩ := r; exact ⟨p, vs, e, r, .inr q⟩
  | fl ys => cases h; obtain ⟨p, vs, e, q, r⟩ := r; exact ⟨p, vs, e, r, .inl q.l⟩
  | obj n =>
    obtain ⟨a, e, hm⟩ := r
    obtain ⟨a', vs, h1, h2, h3⟩ := lstAt_ok s h
    rw [hm] at h1; cases h1
    exact ⟨a, vs, e, h3, .inl (SqL.of h2)⟩
  | _ => cases h
end
/-! ### arithmetic -/
def b2 (b : Bool) : Int := if b = true then 1 else 0
def addD : D2
  | .int i, .int j, S => some (.int (i + j), S)
  | .str x, .str y, S => if x.length + y.length ≤ 1000000 then some (.str (x ++ y), S) else none
  | .tup xs, .tup ys, S => if xs.length + ys.length ≤ 1000000 then some (.tup (xs ++ ys), S) else none
  | .obj n, .obj k, S => match lstAt S n, lstAt S k with
    | some xs, some ys => if xs.length + ys.length ≤ 1000000 then some (newO (.lst (xs ++ ys)) S) else none
    | _, _ => none
  | _, _, _ => none
def subD : D2
  | .int i, .int j, S => some (.int (i - j), S)
  | .bl i, .bl j, S => some (.int (b2 i - b2 j), S)
  | _, _, _ => none
def mulD : D2
  | .int i, .int j, S => if (i.natAbs < 18446744073709551616 ∨ j.natAbs < 18446744073709551616) ∨ i.natAbs.log2 + j.natAbs.log2 < 1000000 then some (.int (i * j), S) else none
  | .tup xs, .int k, S => if k ≤ 1000 ∧ xs.length ≤ 1000 ∧ xs ≠ [] ∧ -1000 ≤ k then some (.tup (List.replicate k.toNat xs).flatten, S) else none
  | _, _, _ => none
def fdivD : D2
  | .int i, .int j, S => if 0 < j ∧ j.natAbs.log2 < 9000 then some (.int (i / j), S) else none
  | _, _, _ => none
def modD : D2
  | .int i, .int j, S => if 0 < j then some (.int (i % j), S) else none
  | _, _, _ => none
def powD : D2
  | .int i, .int j, S => if 0 ≤ j ∧ j ≤ 1000000 ∧ i.natAbs < 2 ^ 64 then some (.int (i ^ j.toNat), S) else none
  | _, _, _ => none
theorem size6 {n : Nat} (h : n ≤ 1000000) : n ≤ sizeLine := Nat.le_trans h (by decide)
theorem int_sub_bb (a b : Bool) : Gives (Builtin.«int.__sub__» ⟨[.bool a, .bool b], []⟩) (.int ((if a = true then (1 : Int) else 0) - (if b = true then (1 : Int) else 0))) :=
  .of_wp fun M A E s Q h => by obtain ⟨hp, g, d, tk, os⟩ := s; wp_walk; exact ⟨_, rfl, h⟩
section
variable {X : Cx} {G : Gx} {W : WX}
theorem op_sub_bb : OpR X (binaryOp .Sub) (fun x y H Q => ∃ i j, x = .bl i ∧ y = .bl j ∧ Q (.int (b2 i - b2 j)) H) := by
  intro pins s σ H x y v u Q I rx ry h
  obtain ⟨i, j, rfl, rfl, q⟩ := h
  cases rx
  cases ry
  refine wpAny_binaryOp_same (op := .Sub) (T := "bool") rfl rfl F.fills_bool_sub F.slot_bool_sub ?_
  exact call_gives F.slot_bool_sub rfl F.entry_int_sub (F.args_int_sub_2 _ _) (int_sub_bb i j) ⟨(fun z => by cases z), ⟨.int _, H, I.tok _, ⟨_, rfl⟩, q⟩⟩
theorem jop_add : JOp X G (binaryOp .Add) addD := by
  refine OpR.imp (OpR.or op_add (OpR.or op_add_str (OpR.or op_catA op_cat))) fun x y H Q ⟨m, S, a, b, d, S', sm, ra, rb, e, k⟩ => ?_
  unfold addD at e
  split at e
  · rename_i S i j
    cases e; cases ra; cases rb
    exact .inl ⟨i, j, rfl, rfl, k _ H m sm.refl sm rfl⟩
  · rename_i S i j
    split at e
    · rename_i hz
      cases e; cases ra; cases rb
      exact .inr (.inl ⟨i, j, rfl, rfl, size6 hz, k _ H m sm.refl sm rfl⟩)
    · cases e
  · rename_i S xs ys
    split at e
    · rename_i hz
      cases e
      obtain ⟨p, vs, rfl, q, r⟩ := ra
      obtain ⟨p', vs', rfl, q', r'⟩ := rb
      have h1 := r.len
      have h2 := r'.len
      refine .inr (.inr (.inl ⟨p, p', vs, vs', rfl, rfl, q, q', by rw [← h1, ← h2]; exact size6 hz, fun e => ?_, fun _ e => ?_, fun _ _ p hp => ?_⟩))
      · subst e
        have : xs = [] := List.length_eq_zero_iff.mp h1
        subst this
        exact k _ H m sm.refl sm ⟨p', vs', rfl, q', r'⟩
      · subst e
        have : ys = [] := List.length_eq_zero_iff.mp h2
        subst this
        rw [List.append_nil] at k
        exact k _ H m sm.refl sm ⟨p, vs, rfl, q, r⟩
      · exact k _ _ m (Step.beside sm hp) (sm.beside hp) (sv_tup (r.append r') sm hp)
    · cases e
  · rename_i S n l
    split at e
    · rename_i xs ys e1 e2
      split at e
      · rename_i hz
        cases e
        obtain ⟨a, rfl, hm⟩ := ra
        obtain ⟨b, rfl, hm'⟩ := rb
        obtain ⟨a', vs, h1, h2, h3⟩ := lstAt_ok sm e1
        rw [hm] at h1; cases h1
        obtain ⟨b', vs', h1', h2', h3'⟩ := lstAt_ok sm e2
        rw [hm'] at h1'; cases h1'
        refine .inr (.inr (.inr ⟨a, b, vs, vs', rfl, rfl, h2, h2', by rw [← h3.len, ← h3'.len]; exact size6 hz, fun p hp => ?_⟩))
        exact k _ _ (m ++ [p]) (Step.new sm hp) (sim_lst (h3.append h3') sm hp) (sv_new sm)
      · cases e
    · cases e
  · cases e
theorem jop_sub : JOp X G (binaryOp .Sub) subD := by
  refine OpR.imp (OpR.or op_sub op_sub_bb) fun x y H Q ⟨m, S, a, b, d, S', sm, ra, rb, e, k⟩ => ?_
  unfold subD at e
  split at e
  · rename_i S i j
    cases e; cases ra; cases rb
    exact .inl ⟨i, j, rfl, rfl, k _ H m sm.refl sm rfl⟩
  · rename_i S i j
    cases e; cases ra; cases rb
    exact .inr ⟨i, j, rfl, rfl, k _ H m sm.refl sm rfl⟩
  · cases e
theorem jop_fdiv : JOp X G (binaryOp .FloorDiv) fdivD := by
  refine OpR.imp op_fdivW fun x y H Q ⟨m, S, a, b, d, S', sm, ra, rb, e, k⟩ => ?_
  unfold fdivD at e
  split at e
  · rename_i S i j
    split at e
    · rename_i hz
      cases e; cases ra; cases rb
      exact ⟨i, j, rfl, rfl, hz, k _ H m sm.refl sm rfl⟩
    · cases e
  · cases e
theorem jop_mod : JOp X G (binaryOp .Mod) modD := by
  refine OpR.imp op_mod fun x y H Q ⟨m, S, a, b, d, S', sm, ra, rb, e, k⟩ => ?_
  unfold modD at e
  split at e
  · rename_i S i j
    split at e
    · rename_i hz
      cases e; cases ra; cases rb
      exact ⟨i, j, rfl, rfl, hz, k _ H m sm.refl sm rfl⟩
    · cases e
  · cases e
theorem jop_pow : JOp X G (binaryOp .Pow) powD := by
  refine OpR.imp op_pow fun x y H Q ⟨m, S, a, b, d, S', sm, ra, rb, e, k⟩ => ?_
  unfold powD at e
  split at e
  · rename_i S i j
    split at e
    · rename_i hz
      cases e; cases ra; cases rb
      exact ⟨i, j, rfl, rfl, hz, k _ H m sm.refl sm rfl⟩
    · cases e
  · cases e
end
/-! ### one-place -/
abbrev D1 := D → Store → Option (D × Store)
def dUn (g : D1) (fa : DE) : DE := fun ρ S => (fa ρ S).bind fun x S1 => optO (g x S1)
def negD : D1
  | .int i, S => some (.int (-i), S)
  | _, _ => none
def notD : D1
  | .bl i, S => some (.bl (!i), S)
  | _, _ => none
section
variable {X : Cx} {G : Gx} {W : WX} {a b c : Expr} {fa fb fc : DE} {ga gb gc : DT} {pos : Pos} {rest : List Expr}
theorem je_neg (ha : JE X G W a fa) : JE X G W (.UnaryOp .USub a pos) (dUn negD fa) :=
  PE.imp (pe_un un_neg ha) fun σ H Q ⟨m, ρ, S, sr, sm, eo⟩ => ⟨m, ρ, S, sr, sm, eo.then fun x S1 v H1 m1 st1 sm1 r1 eo1 => by
    cases x with
    | int i => cases r1; exact ⟨i, rfl, eo1 _ H1 m1 sm1.refl sm1 rfl⟩
    | _ => exact eo1.elim⟩
theorem je_not (ha : JE X G W a fa) : JE X G W (.UnaryOp .Not a pos) (dUn notD fa) :=
  PE.imp (pe_not ha) fun σ H Q ⟨m, ρ, S, sr, sm, eo⟩ => ⟨m, ρ, S, sr, sm, eo.then fun x S1 v H1 m1 st1 sm1 r1 eo1 => by
    cases x with
    | bl i => cases r1; exact ⟨i, rfl, eo1 _ H1 m1 sm1.refl sm1 rfl⟩
    | _ => exact eo1.elim⟩
/-! ### comparisons -/
def cmpI (p : Int → Int → Bool) : D2
  | .int i, .int j, S => some (.bl (p i j), S)
  | _, _, _ => none
theorem jop_I {f : Value → Value → Sem Value} {p : Int → Int → Bool} (h : OpR X f (rI0 fun i j => .bl (p i j))) : JOp X G f (cmpI p) :=
  OpR.imp h fun x y H Q ⟨m, S, a, b, d, S', sm, ra, rb, e, k⟩ => by
    unfold cmpI at e
    split at e
    · rename_i S i j
      cases e; cases ra; cases rb
      exact ⟨i, j, rfl, rfl, k _ H m sm.refl sm rfl⟩
    · cases e
abbrev ltD : D2 := cmpI fun i j => decide (i < j)
abbrev leD : D2 := cmpI fun i j => decide (i ≤ j)
abbrev gtD : D2 := cmpI fun i j => decide (j < i)
abbrev geD : D2 := cmpI fun i j => decide (j ≤ i)
theorem jop_lt : JOp X G (compareOp .Lt) ltD := jop_I op_lt
theorem jop_le : JOp X G (compareOp .LtE) leD := jop_I op_le
theorem jop_gt : JOp X G (compareOp .Gt) gtD := jop_I op_gt
theorem jop_ge : JOp X G (compareOp .GtE) geD := jop_I op_ge
end
mutual
def D.toP : D → Option PyData
  | .non => some .none
  | .bl b => some (.bool b)
  | .int i => some (.int i)
  | .str x => some (.str x)
  | .tup xs => (D.toPs xs).map PyData.tuple
  | .fl xs => (D.toPs xs).map PyData.list
  | .obj _ => none
def D.toPs : List D → Option (List PyData)
  | [] => some []
  | d :: ds => match D.toP d, D.toPs ds with
    | some p, some ps => some (p :: ps)
    | _, _ => none
end
mutual
theorem toP_ok {K : PySem.W.Frag} {m : List Addr} {H : Hp} : ∀ {d : D} {v : V} {p : PyData}, D.toP d = some p → SV K m H d v → Dp K H v p
  | .non, v, p, e, h => by cases e; cases h; exact .non
  | .bl b, v, p, e, h => by cases e; cases h; exact .bl b
  | .int b, v, p, e, h => by cases e; cases h; exact .int b
  | .str b, v, p, e, h => by cases e; cases h; exact .str b
  | .tup xs, v, p, e, h => by
    obtain ⟨a, vs, rfl, q, r⟩ := (show ∃ p vs, v = .ref p ∧ SqT K H p vs ∧ SVs K m H xs vs from h)
    have e : (D.toPs xs).map PyData.tuple = some p := e
    cases z : D.toPs xs with
    | none => rw [z] at e; cases e
    | some ps => rw [z] at e; cases e; exact .tup q (toPs_ok z r)
  | .fl xs, v, p, e, h => by
    obtain ⟨a, vs, rfl, q, r⟩ := (show ∃ p vs, v = .ref p ∧ SqF K H p vs ∧ SVs K m H xs vs from h)
    have e : (D.toPs xs).map PyData.list = some p := e
    cases z : D.toPs xs with
    | none => rw [z] at e; cases e
    | some ps => rw [z] at e; cases e; exact .lst q.l (toPs_ok z r)
  | .obj n, v, p, e, h => by cases e
theorem toPs_ok {K : PySem.W.Frag} {m : List Addr} {H : Hp} : ∀ {ds : List D} {vs : List V} {ps : List PyData}, D.toPs ds = some ps → SVs K m H ds vs → DpAll K H vs ps
  | [], vs, ps, e, h => by cases e; rw [show vs = [] from h]; exact .nil
  | d :: ds, vs, ps, e, h => by
    obtain ⟨v, r, rfl, a, b⟩ := (show ∃ v r, vs = v :: r ∧ SV K m H d v ∧ SVs K m H ds r from h)
    have e : (match D.toP d, D.toPs ds with
      | some p, some ps => some (p :: ps)
      | _, _ => none) = some ps := e
    cases z1 : D.toP d with
    | none => rw [z1] at e; cases e
    | some p =>
      cases z2 : D.toPs ds with
      | none => rw [z1, z2] at e; cases e
      | some q => rw [z1, z2] at e; cases e; exact .cons (toP_ok z1 a) (toPs_ok z2 b)
end
def D.toPS (S : Store) : D → Option PyData
  | .obj n => match lstAt S n with
    | some xs => (D.toPs xs).map PyData.list
    | none => none
  | d => D.toP d
theorem toPS_ok {K : PySem.W.Frag} {G : Gx} {m : List Addr} {S : Store} {H : Hp} (sm : Sim K G m S H) {d : D} {v : V} {p : PyData} (e : D.toPS S d = some p) (h : SV K m H d v) : Dp K H v p := by
  cases d with
  | obj n =>
    obtain ⟨a, rfl, hm⟩ := h
    unfold D.toPS at e
    dsimp only at e
    cases z : lstAt S n with
    | none => rw [z] at e; cases e
    | some xs =>
      rw [z] at e
      dsimp only at e
      obtain ⟨a', vs, h1, h2, h3⟩ := lstAt_ok sm z
      rw [hm] at h1; cases h1
      cases z2 : D.toPs xs with
      | none => rw [z2] at e; cases e
      | some ps => rw [z2] at e; cases e; exact .lst (SqL.of h2) (toPs_ok z2 h3)
  | _ => exact toP_ok e h
def eqD : D2 := fun a b S => match D.toPS S a, D.toPS S b with
  | some p, some q => if SeqAt.shaped p = true ∧ SeqAt.shaped q = true then some (.bl (PyData.eqv p q), S) else none
  | _, _ => none
def neD : D2 := fun a b S => match D.toPS S a, D.toPS S b with
  | some p, some q => if SeqAt.shaped p = true ∧ SeqAt.shaped q = true then some (.bl (!PyData.eqv p q), S) else none
  | _, _ => none
section
variable {X : Cx} {G : Gx} {W : WX} {a b c : Expr} {fa fb fc : DE} {ga gb gc : DT} {pos : Pos} {rest : List Expr}
theorem jop_eq (hu : X.A.units + 64 < cLine) : JOp X G (compareOp .Eq) eqD :=
  OpR.imp (op_eqD hu) fun x y H Q ⟨m, S, a, b, d, S', sm, ra, rb, e, k⟩ => by
    unfold eqD at e
    split at e
    · rename_i p q e1 e2
      split at e
      · rename_i hs
        cases e
        exact ⟨p, q, toPS_ok sm e1 ra, toPS_ok sm e2 rb, hs.1, hs.2, k _ H m sm.refl sm rfl⟩
      · cases e
    · cases e
theorem jop_ne (hu : X.A.units + 64 < cLine) : JOp X G (compareOp .NotEq) neD :=
  OpR.imp (op_neD hu) fun x y H Q ⟨m, S, a, b, d, S', sm, ra, rb, e, k⟩ => by
    unfold neD at e
    split at e
    · rename_i p q e1 e2
      split at e
      · rename_i hs
        cases e
        exact ⟨p, q, toPS_ok sm e1 ra, toPS_ok sm e2 rb, hs.1, hs.2, k _ H m sm.refl sm rfl⟩
      · cases e
    · cases e
def isND : D2
  | .non, .non, S => some (.bl true, S)
  | .bl _, .non, S => some (.bl false, S)
  | .int _, .non, S => some (.bl false, S)
  | .str _, .non, S => some (.bl false, S)
  | .tup _, .non, S => some (.bl false, S)
  | .obj _, .non, S => some (.bl false, S)
  | _, _, _ => none
def notND : D2
  | .non, .non, S => some (.bl false, S)
  | .bl _, .non, S => some (.bl true, S)
  | .int _, .non, S => some (.bl true, S)
  | .str _, .non, S => some (.bl true, S)
  | .tup _, .non, S => some (.bl true, S)
  | .obj _, .non, S => some (.bl true, S)
  | _, _, _ => none
theorem jop_isN : JOp X G (compareOp .Is) isND :=
  OpR.imp op_isN fun x y H Q ⟨m, S, a, b, d, S', sm, ra, rb, e, k⟩ => by
    cases b with
    | non =>
      cases rb
      refine ⟨rfl, ?_⟩
      cases a with
      | non => cases e; cases ra; exact k _ H m sm.refl sm rfl
      | bl _ => cases e; cases ra; exact k _ H m sm.refl sm rfl
      | int _ => cases e; cases ra; exact k _ H m sm.refl sm rfl
      | str _ => cases e; cases ra; exact k _ H m sm.refl sm rfl
      | tup _ => cases e; obtain ⟨p, vs, rfl, _⟩ := ra; exact k _ H m sm.refl sm rfl
      | obj _ => cases e; obtain ⟨p, rfl, _⟩ := ra; exact k _ H m sm.refl sm rfl
      | fl _ => cases e
    | _ => cases a <;> cases e
theorem jop_notN : JOp X G (compareOp .IsNot) notND :=
  OpR.imp op_notN fun x y H Q ⟨m, S, a, b, d, S', sm, ra, rb, e, k⟩ => by
    cases b with
    | non =>
      cases rb
      refine ⟨rfl, ?_⟩
      cases a with
      | non => cases e; cases ra; exact k _ H m sm.refl sm rfl
      | bl _ => cases e; cases ra; exact k _ H m sm.refl sm rfl
      | int _ => cases e; cases ra; exact k _ H m sm.refl sm rfl
      | str _ => cases e; cases ra; exact k _ H m sm.refl sm rfl
      | tup _ => cases e; obtain ⟨p, vs, rfl, _⟩ := ra; exact k _ H m sm.refl sm rfl
      | obj _ => cases e; obtain ⟨p, rfl, _⟩ := ra; exact k _ H m sm.refl sm rfl
      | fl _ => cases e
    | _ => cases a <;> cases e
theorem je_cmp {op : CmpOp} {g : D2} (ho : JOp X G (compareOp op) g) (ha : JE X G W a fa) (hb : JE X G W b fb) (hm : behindInMarks op b = false := by first | exact nomark _ | rfl) : JE X G W (.Compare a [op] [b] pos) (dOp g fa fb) :=
  PE.imp (pe_cmpR ho ha hb hm) fun σ H Q ⟨m, ρ, S, sr, sm, eo⟩ =>
    ⟨m, ρ, S, sr, sm, eo.then fun x S1 v H1 m1 st1 sm1 r1 eo1 => ⟨m1, ρ, S1, sr.mono sm st1, sm1, eo1.then fun y S2 u H2 m2 st2 sm2 r2 eo2 => by
      cases q : g x y S2 with
      | none => rw [q] at eo2; exact eo2.elim
      | some p =>
        obtain ⟨d, S3⟩ := p
        rw [q] at eo2
        exact ⟨m2, S2, x, y, d, S3, sm2, r1.mono sm1 st2, r2, q, eo2⟩⟩⟩
/-- a truth value as a test -/
def dB (fa : DE) : DT := fun ρ S => (fa ρ S).bind fun x S1 => match x with
  | .bl b => .ok b S1
  | _ => .bad
theorem jt_cmp {op : CmpOp} {g : D2} (ho : JOp X G (compareOp op) g) (ha : JE X G W a fa) (hb : JE X G W b fb) (hm : behindInMarks op b = false := by first | exact nomark _ | rfl) : JT X G W (.Compare a [op] [b] pos) (dB (dOp g fa fb)) :=
  PT.imp (pt_cmpR ho ha hb hm) fun σ H Q ⟨m, ρ, S, sr, sm, eo⟩ => by
    unfold dB dOp at eo
    refine ⟨m, ρ, S, sr, sm, ?_⟩
    cases e1 : fa ρ S with
    | bad => rw [e1] at eo; exact eo.elim
    | exn e S1 => rw [e1] at eo; exact eo
    | ok x S1 =>
      rw [e1] at eo
      simp only [Out.bind_ok] at eo
      intro v H1 m1 st1 sm1 r1
      refine ⟨m1, ρ, S1, sr.mono sm st1, sm1, ?_⟩
      have eo1 := eo.step st1
      cases e2 : fb ρ S1 with
      | bad => rw [e2] at eo; exact eo.elim
      | exn e S2 => rw [e2] at eo1; exact eo1
      | ok y S2 =>
        rw [e2] at eo1
        simp only [Out.bind_ok] at eo1
        intro u H2 m2 st2 sm2 r2
        cases q : g x y S2 with
        | none => rw [q] at eo1; exact eo1.elim
        | some p =>
          obtain ⟨d, S3⟩ := p
          rw [q] at eo1
          refine ⟨m2, S2, x, y, d, S3, sm2, r1.mono sm1 st2, r2, q, fun v H' m' st3 sm3 r3 => ?_⟩
          cases d with
          | bl b => cases r3; exact ⟨b, rfl, eo1 b H' m' (st2.trans st3) sm3 rfl⟩
          | _ => exact eo1.elim
theorem jt_val (ha : JE X G W a fa) (he : ∀ whole, isTrue a X.env whole = (do let v ← whole; standAt a.pos; holding [v] (truthy v)) := by intro _; rfl) : JT X G W a (dB fa) :=
  PT.imp (pt_val ha he) fun σ H Q ⟨m, ρ, S, sr, sm, eo⟩ => ⟨m, ρ, S, sr, sm, EO.then (rel := SV X.K) eo fun x S1 v H1 m1 st1 sm1 r1 eo1 => by
    cases x with
    | bl b => cases r1; exact ⟨b, rfl, eo1 b H1 m1 sm1.refl sm1 rfl⟩
    | _ => exact eo1.elim⟩
end
end DL
set_option Elab.async false
set_option linter.all false
set_option maxRecDepth 100000
set_option maxHeartbeats 4000000
namespace DL
open PySem PySem.Spec PyProof.Rows L2
theorem tuple_mul1 (l : Addr) (items : Array Value) (n : Nat) (dd : Option Addr) (sl : Array (Option Value)) (x : Int) (u : Tok) (c0 : (decide (x < -(2 ^ 63)) || decide (x ≥ 2 ^ 63)) = false) (c1 : (items.isEmpty || x == 1) = true) :
    Meets (Builtin.«tuple.__mul__» ⟨[.ref l, .int x u], []⟩) (fun _ R s => s.heap.get? l = some { cls := .type "tuple", dict := dd, data := .seq items n, slots := sl } ∧
      R (.ok (.ret (Value.ref l))) s) :=
  .of_wp fun prog w A R s h => by
    obtain ⟨hp, g, d, tk, os⟩ := s
    obtain ⟨hl, h⟩ := h
    have f1 := AutoSeq1.idx_int
    wp_walk using wpAny_loadPart' hl
    repeat (first
      | (refine wpAny_ite_false (decide_eq_false (by rw [c0]; exact Bool.false_ne_true)) ?_; wp_walk using wpAny_loadPart' hl)
      | (refine wpAny_ite_true (decide_eq_true c1) ?_; wp_walk using wpAny_loadPart' hl))
    exact ⟨_, rfl, h⟩
theorem tuple_mul0 (l : Addr) (items : Array Value) (n : Nat) (dd : Option Addr) (sl : Array (Option Value)) (x : Int) (u : Tok) (c0 : (decide (x < -(2 ^ 63)) || decide (x ≥ 2 ^ 63)) = false) (c1 : (items.isEmpty || x == 1) = false) (c2 : (decide (x ≤ 0) || items.isEmpty) = true) :
    Meets (Builtin.«tuple.__mul__» ⟨[.ref l, .int x u], []⟩) (fun _ R s => s.heap.get? l = some { cls := .type "tuple", dict := dd, data := .seq items n, slots := sl } ∧
      R (.ok (.ret (Value.ref s.heap.objs.size))) { s with heap := s.heap.push { cls := Value.type "tuple", data := Data.seq #[] }, toks := s.toks }) :=
  .of_wp fun prog w A R s h => by
    obtain ⟨hp, g, d, tk, os⟩ := s
    obtain ⟨hl, h⟩ := h
    have f1 := AutoSeq1.idx_int
    wp_walk using wpAny_loadPart' hl
    repeat (first
      | (refine wpAny_ite_false (decide_eq_false (by rw [c0]; exact Bool.false_ne_true)) ?_; wp_walk using wpAny_loadPart' hl)
      | (refine wpAny_ite_false (decide_eq_false (by rw [c1]; exact Bool.false_ne_true)) ?_; wp_walk using wpAny_loadPart' hl)
      | (refine wpAny_ite_true (decide_eq_true c2) ?_; wp_walk using wpAny_loadPart' hl))
    exact ⟨_, rfl, h⟩

def rRepA (K : PySem.W.Frag) : R2 := fun x y H Q => ∃ l k xs, x = .ref l ∧ y = .int k ∧ SqT K H l xs ∧ xs ≠ [] ∧ -1000 ≤ k ∧ k ≤ 1 ∧ (k = 1 → Q (.ref l) H) ∧ (k ≤ 0 → ∀ p, H p = none → Q (.ref p) (upd H p (.tup [])))
section
variable {X : Cx} {G : Gx} {W : WX}
theorem op_repA : OpR X (binaryOp .Mult) (rRepA X.K) := by
  intro pins s σ H x y v u Q I rx ry h
  obtain ⟨l, k, xs, rfl, rfl, hT, hne, h1, h2, q1, q0⟩ := h
  cases rx
  obtain ⟨t, rfl⟩ := ry
  obtain ⟨its, r, ⟨⟨cls, dd, data, sl⟩, ho, hc, n, hd⟩, hs⟩ := I.tuple hT
  simp only at hc hd
  subst hc hd
  have hle : its.length = xs.length := r.length.symm
  have hn : its ≠ [] := fun e => hne (by
    rw [e] at hle
    exact List.eq_nil_of_length_eq_zero hle.symm)
  have hi : its.toArray.isEmpty = false := by
    cases its with
    | nil => exact absurd rfl hn
    | cons a b => rfl
  have c0 : (decide (k < -(2 ^ 63)) || decide (k ≥ 2 ^ 63)) = false := by
    rw [decide_eq_false (by omega), decide_eq_false (by omega)] <;> rfl
  by_cases e1 : k = 1
  · have c1 : (its.toArray.isEmpty || k == 1) = true := by rw [e1]; simp
    refine wpAny_binaryOp_repeat_ref (T := "tuple") (U := "int") (by decide) ⟨_, ho, rfl⟩ (fun s' => typeIs_int s' k t) noFill_tuple_mul F.fills_int_mul F.slot_int_rmul repeat_tuple F.slot_int_index.lookup
      (call_meets F.slot_int_rmul (typeIs_int s k t) F.entry_int_rmul (F.args_int_rmul_2 _ _) (int_rmul_tuple k t l its.toArray n dd sl)
        ⟨ho, rfl, ⟨_, ho, rfl⟩, call_meets F.slot_tuple_mul ⟨_, ho, rfl⟩ F.entry_tuple_mul (F.args_tuple_mul_2 _ _) (tuple_mul1 l its.toArray n dd sl k t c0 c1) ⟨ho, ?_⟩⟩)
    exact ⟨.ref l, H, I, rfl, q1 e1⟩
  · have c1 : (its.toArray.isEmpty || k == 1) = false := by
      rw [hi, Bool.false_or]
      exact beq_eq_false_iff_ne.mpr e1
    have c2 : (decide (k ≤ 0) || its.toArray.isEmpty) = true := by
      rw [decide_eq_true (by omega), Bool.true_or]
    refine wpAny_binaryOp_repeat_ref (T := "tuple") (U := "int") (by decide) ⟨_, ho, rfl⟩ (fun s' => typeIs_int s' k t) noFill_tuple_mul F.fills_int_mul F.slot_int_rmul repeat_tuple F.slot_int_index.lookup
      (call_meets F.slot_int_rmul (typeIs_int s k t) F.entry_int_rmul (F.args_int_rmul_2 _ _) (int_rmul_tuple k t l its.toArray n dd sl)
        ⟨ho, rfl, ⟨_, ho, rfl⟩, call_meets F.slot_tuple_mul ⟨_, ho, rfl⟩ F.entry_tuple_mul (F.args_tuple_mul_2 _ _) (tuple_mul0 l its.toArray n dd sl k t c0 c1 c2) ⟨ho, ?_⟩⟩)
    refine ⟨.ref s.heap.objs.size, _, I.laid (t' := s.toks) (o := .tup []) (fun b ob q => Heap.get?_push_of_some _ q) (Nat.le_refl _) ?_, rfl, q0 (by omega) _ (I.hok.fresh (Nat.le_refl _))⟩
    exact ⟨Nat.zero_le _, [], .nil, IsTup.new _ _⟩
theorem rep_svs {K : PySem.W.Frag} {m : List Addr} {H : Hp} {ds : List D} {vs : List V} (h : SVs K m H ds vs) : ∀ n : Nat, SVs K m H (List.replicate n ds).flatten (List.replicate n vs).flatten
  | 0 => rfl
  | n + 1 => by
    rw [List.replicate_succ, List.replicate_succ, List.flatten_cons, List.flatten_cons]
    exact h.append (rep_svs h n)
theorem jop_mul : JOp X G (binaryOp .Mult) mulD := by
  refine OpR.imp (OpR.or (OpR.or op_mul op_mulW) (OpR.or op_repT op_repA)) fun x y H Q ⟨m, S, a, b, d, S', sm, ra, rb, e, k⟩ => ?_
  unfold mulD at e
  split at e
  · rename_i S i j
    split at e
    · rename_i hz
      cases e; cases ra; cases rb
      rcases hz with hz | hz
      · refine .inl (.inl ⟨i, j, rfl, rfl, ?_, k _ H m sm.refl sm rfl⟩)
        unfold CMul
        omega
      · exact .inl (.inr ⟨i, j, rfl, rfl, hz, k _ H m sm.refl sm rfl⟩)
    · cases e
  · rename_i S xs n
    split at e
    · rename_i hz
      cases e; cases rb
      obtain ⟨p, vs, rfl, q, r⟩ := ra
      have h1 := r.len
      have hne : vs ≠ [] := fun z => by
        rw [z] at h1
        exact hz.2.2.1 (List.length_eq_zero_iff.mp h1)
      by_cases h2 : 2 ≤ n
      · exact .inr (.inl ⟨p, n, vs, rfl, rfl, q, hne, h2, hz.1, by rw [← h1]; exact hz.2.1, fun p hp => k _ _ m (Step.beside sm hp) (sm.beside hp) (sv_tup (rep_svs r n.toNat) sm hp)⟩)
      · refine .inr (.inr ⟨p, n, vs, rfl, rfl, q, hne, hz.2.2.2, by omega, fun e => ?_, fun e p hp => ?_⟩)
        · subst e
          have z : (List.replicate (1 : Int).toNat xs).flatten = xs := by show (List.replicate 1 xs).flatten = xs; simp
          rw [z] at k
          exact k _ H m sm.refl sm ⟨p, vs, rfl, q, r⟩
        · have z : n.toNat = 0 := by omega
          rw [z] at k
          exact k _ _ m (Step.beside sm hp) (sm.beside hp) (sv_tup (ds := []) (vs := []) rfl sm hp)
    · cases e
  · cases e
end
end DL
set_option Elab.async false
set_option linter.all false
set_option maxRecDepth 100000
set_option maxHeartbeats 2000000
namespace DL
open PySem PySem.Spec PyProof.Rows L2
section
variable {X : Cx} {G : Gx} {W : WX} {a b c : Expr} {fa fb fc : DE} {ga gb gc : DT} {pos : Pos} {rest : List Expr}
/-! ### and, or, not, if -/
def dAndT (ga gb : DT) : DT := fun ρ S => (ga ρ S).bind fun x S1 => if x = true then gb ρ S1 else .ok false S1
def dOrT (ga gb : DT) : DT := fun ρ S => (ga ρ S).bind fun x S1 => if x = true then .ok true S1 else gb ρ S1
def dNotT (ga : DT) : DT := fun ρ S => (ga ρ S).bind fun x S1 => .ok (!x) S1
def dAndV (fa fb : DE) : DE := fun ρ S => (fa ρ S).bind fun x S1 => match x with
  | .bl true => fb ρ S1
  | .bl false => .ok (.bl false) S1
  | _ => .bad
def dOrV (fa fb : DE) : DE := fun ρ S => (fa ρ S).bind fun x S1 => match x with
  | .bl true => .ok (.bl true) S1
  | .bl false => fb ρ S1
  | _ => .bad
def dIf (g : DT) (fa fb : DE) : DE := fun ρ S => (g ρ S).bind fun x S1 => if x = true then fa ρ S1 else fb ρ S1
theorem jw_and1 (ha : JT X G W a ga) : JW X G W (.BoolOp .And [a] pos) ga := pw_and1 ha
theorem jw_or1 (ha : JT X G W a ga) : JW X G W (.BoolOp .Or [a] pos) ga := pw_or1 ha
theorem jw_and (ha : JT X G W a ga) (hb : JW X G W (.BoolOp .And (b :: rest) pos) gb) : JW X G W (.BoolOp .And (a :: b :: rest) pos) (dAndT ga gb) :=
  PW.imp (pw_and ha hb) fun σ H Q ⟨m, ρ, S, sr, sm, eo⟩ => ⟨m, ρ, S, sr, sm, EO.then (rel := eqR) eo fun x S1 v H1 m1 st1 sm1 r1 eo1 => by
    cases r1
    cases x with
    | true => exact ⟨m1, ρ, S1, sr.mono sm st1, sm1, eo1⟩
    | false => exact eo1 false H1 m1 sm1.refl sm1 rfl⟩
theorem jw_or (ha : JT X G W a ga) (hb : JW X G W (.BoolOp .Or (b :: rest) pos) gb) : JW X G W (.BoolOp .Or (a :: b :: rest) pos) (dOrT ga gb) :=
  PW.imp (pw_or ha hb) fun σ H Q ⟨m, ρ, S, sr, sm, eo⟩ => ⟨m, ρ, S, sr, sm, EO.then (rel := eqR) eo fun x S1 v H1 m1 st1 sm1 r1 eo1 => by
    cases r1
    cases x with
    | false => exact ⟨m1, ρ, S1, sr.mono sm st1, sm1, eo1⟩
    | true => exact eo1 true H1 m1 sm1.refl sm1 rfl⟩
theorem jt_of {e : Expr} {g : DT} (h : JW X G W e g) : JT X G W e g := PW.pt h
theorem jt_not (ha : JT X G W a ga) : JT X G W (.UnaryOp .Not a pos) (dNotT ga) :=
  PT.imp (pt_not ha) fun σ H Q ⟨m, ρ, S, sr, sm, eo⟩ => ⟨m, ρ, S, sr, sm, EO.then (rel := eqR) eo fun x S1 v H1 m1 st1 sm1 r1 eo1 => by
    cases r1
    exact eo1 _ H1 m1 sm1.refl sm1 rfl⟩
theorem je_one {op} (h : JE X G W a fa) : JE X G W (.BoolOp op [a] pos) fa := pe_one h
theorem je_and (ha : JE X G W a fa) (hb : JE X G W (.BoolOp .And (b :: rest) pos) fb) : JE X G W (.BoolOp .And (a :: b :: rest) pos) (dAndV fa fb) :=
  PE.imp (pe_and ha hb) fun σ H Q ⟨m, ρ, S, sr, sm, eo⟩ => ⟨m, ρ, S, sr, sm, EO.then (rel := SV X.K) eo fun x S1 v H1 m1 st1 sm1 r1 eo1 => by
    cases x with
    | bl x =>
      cases r1
      cases x with
      | true => exact ⟨true, rfl, ⟨m1, ρ, S1, sr.mono sm st1, sm1, eo1⟩⟩
      | false => exact ⟨false, rfl, eo1 _ H1 m1 sm1.refl sm1 rfl⟩
    | _ => exact eo1.elim⟩
theorem je_or (ha : JE X G W a fa) (hb : JE X G W (.BoolOp .Or (b :: rest) pos) fb) : JE X G W (.BoolOp .Or (a :: b :: rest) pos) (dOrV fa fb) :=
  PE.imp (pe_or ha hb) fun σ H Q ⟨m, ρ, S, sr, sm, eo⟩ => ⟨m, ρ, S, sr, sm, EO.then (rel := SV X.K) eo fun x S1 v H1 m1 st1 sm1 r1 eo1 => by
    cases x with
    | bl x =>
      cases r1
      cases x with
      | false => exact ⟨false, rfl, ⟨m1, ρ, S1, sr.mono sm st1, sm1, eo1⟩⟩
      | true => exact ⟨true, rfl, eo1 _ H1 m1 sm1.refl sm1 rfl⟩
    | _ => exact eo1.elim⟩
theorem je_if {c : Expr} {g : DT} (hc : JT X G W c g) (ha : JE X G W a fa) (hb : JE X G W b fb) : JE X G W (.IfExp c a b pos) (dIf g fa fb) :=
  PE.imp (pe_ifExp hc ha hb) fun σ H Q ⟨m, ρ, S, sr, sm, eo⟩ => ⟨m, ρ, S, sr, sm, EO.then (rel := eqR) eo fun x S1 v H1 m1 st1 sm1 r1 eo1 => by
    cases r1
    cases x with
    | true => exact ⟨m1, ρ, S1, sr.mono sm st1, sm1, eo1⟩
    | false => exact ⟨m1, ρ, S1, sr.mono sm st1, sm1, eo1⟩⟩
/-! ### chains -/
def dChain (g g' : D2) (fa fb fc : DE) : DE := fun ρ S => (fa ρ S).bind fun x S1 => (fb ρ S1).bind fun y S2 => (optO (g x y S2)).bind fun r S3 => match r with
  | .bl true => (fc ρ S3).bind fun z S4 => optO (g' y z S4)
  | .bl false => .ok (.bl false) S3
  | _ => .bad
theorem chain_core {g g' : D2} {σ : L2.St} {H : Hp} {Q : VK} (h : tD X.K G W (dChain g g' fa fb fc) σ H Q) : tChain (OR X.K G g) (OR X.K G g') (tD X.K G W fa) (tD X.K G W fb) (tD X.K G W fc) σ H Q := by
  obtain ⟨m, ρ, S, sr, sm, eo⟩ := h
  refine ⟨m, ρ, S, sr, sm, EO.then (rel := SV X.K) eo fun x S1 v H1 m1 st1 sm1 r1 eo1 => ?_⟩
  refine ⟨m1, ρ, S1, sr.mono sm st1, sm1, EO.then (rel := SV X.K) eo1 fun y S2 u H2 m2 st2 sm2 r2 eo2 => ?_⟩
  cases q : g x y S2 with
  | none => rw [q] at eo2; exact eo2.elim
  | some p =>
    obtain ⟨d, S3⟩ := p
    rw [q] at eo2
    simp only [optO_some, Out.bind_ok] at eo2
    refine ⟨m2, S2, x, y, d, S3, sm2, r1.mono sm1 st2, r2, q, fun w H3 m3 st3 sm3 r3 => ?_⟩
    have eo3 := eo2.step st3
    cases d with
    | bl k =>
      cases r3
      refine ⟨k, rfl, ?_⟩
      cases k with
      | false => exact eo3 _ H3 m3 sm3.refl sm3 rfl
      | true =>
        refine ⟨m3, ρ, S3, (sr.mono sm (st1.trans (st2.trans st3))), sm3, EO.then (rel := SV X.K) eo3 fun z S4 w H4 m4 st4 sm4 r4 eo4 => ?_⟩
        cases q2 : g' y z S4 with
        | none => rw [q2] at eo4; exact eo4.elim
        | some p =>
          obtain ⟨d, S5⟩ := p
          rw [q2] at eo4
          exact ⟨m4, S4, y, z, d, S5, sm4, r2.mono sm2 (st3.trans st4), r4, q2, eo4⟩
    | _ => exact eo3.elim
theorem je_chain {op op' : CmpOp} {g g' : D2} (ho : JOp X G (compareOp op) g) (ho' : JOp X G (compareOp op') g') (ha : JE X G W a fa) (hb : JE X G W b fb) (hc : JE X G W c fc)
    (hm : lastMarks [op, op'] [b, c] = false := by with_unfolding_all rfl) : JE X G W (.Compare a [op, op'] [b, c] pos) (dChain g g' fa fb fc) :=
  PE.imp (pe_chain ho ho' ha hb hc hm) fun σ H Q h => chain_core h
theorem tD_test {f : DE} {σ : L2.St} {H : Hp} {Q : Bool → Hp → Prop} (h : tDT X.K G W (dB f) σ H Q) : tD X.K G W f σ H (fun x H' => ∃ k, x = .bl k ∧ Q k H') := by
  obtain ⟨m, ρ, S, sr, sm, eo⟩ := h
  refine ⟨m, ρ, S, sr, sm, EO.then (rel := SV X.K) eo fun x S1 v H1 m1 st1 sm1 r1 eo1 => ?_⟩
  cases x with
  | bl b => cases r1; exact ⟨b, rfl, eo1 b H1 m1 sm1.refl sm1 rfl⟩
  | _ => exact eo1.elim
theorem jt_chain {op op' : CmpOp} {g g' : D2} (ho : JOp X G (compareOp op) g) (ho' : JOp X G (compareOp op') g') (ha : JE X G W a fa) (hb : JE X G W b fb) (hc : JE X G W c fc)
    (hm : lastMarks [op, op'] [b, c] = false := by with_unfolding_all rfl) : JT X G W (.Compare a [op, op'] [b, c] pos) (dB (dChain g g' fa fb fc)) :=
  PT.imp (pt_chain ho ho' ha hb hc hm) fun σ H Q h => chain_core (tD_test h)
/-! ### arguments, displays -/
def daNil : DA := fun _ S => .ok [] S
def daCons (fa : DE) (fr : DA) : DA := fun ρ S => (fa ρ S).bind fun x S1 => (fr ρ S1).bind fun xs S2 => .ok (x :: xs) S2
variable {e : Expr} {es : List Expr} {fr : DA} {x1 : Nat}
theorem ja_nil : JA X G W [] daNil := PA.imp pa_nil fun σ H Q ⟨m, ρ, S, sr, sm, eo⟩ => eo [] H m sm.refl sm rfl
theorem ja_cons (ha : JE X G W e fa) (hr : JA X G W es fr) (hs : starEach (e :: es) X.env = (false, eval e X.env) :: starEach es X.env := by rfl) : JA X G W (e :: es) (daCons fa fr) :=
  PA.imp (pa_cons ha hr hs) fun σ H Q ⟨m, ρ, S, sr, sm, eo⟩ => ⟨m, ρ, S, sr, sm, EO.then (rel := SV X.K) eo fun x S1 v H1 m1 st1 sm1 r1 eo1 =>
    ⟨m1, ρ, S1, sr.mono sm st1, sm1, EO.then (rel := SVs X.K) eo1 fun y S2 u H2 m2 st2 sm2 r2 eo2 => eo2 (v :: u) H2 m2 sm2.refl sm2 ⟨v, u, rfl, r1.mono sm1 st2, r2⟩⟩⟩
def dTup (fr : DA) : DE := fun ρ S => (fr ρ S).bind fun xs S1 => if xs.length ≤ 1000000 then .ok (.tup xs) S1 else .bad
def dLst (fr : DA) : DE := fun ρ S => (fr ρ S).bind fun xs S1 => if xs.length ≤ 1000000 then .ok (.obj S1.length) (S1 ++ [.lst xs]) else .bad
theorem je_tup (h : JA X G W es fr) : JE X G W (.Tuple es x1 pos) (dTup fr) :=
  PE.imp (pe_tup h) fun σ H Q ⟨m, ρ, S, sr, sm, eo⟩ => ⟨m, ρ, S, sr, sm, EO.then (rel := SVs X.K) eo fun xs S1 vs H1 m1 st1 sm1 r1 eo1 => by
    split at eo1
    · rename_i hz
      exact ⟨by rw [← r1.len]; exact size6 hz, fun p hp => eo1 _ _ m1 (Step.beside sm1 hp) (sm1.beside hp) (sv_tup r1 sm1 hp)⟩
    · exact eo1.elim⟩
theorem je_lst (h : JA X G W es fr) : JE X G W (.List es pos) (dLst fr) :=
  PE.imp (pe_lst h) fun σ H Q ⟨m, ρ, S, sr, sm, eo⟩ => ⟨m, ρ, S, sr, sm, EO.then (rel := SVs X.K) eo fun xs S1 vs H1 m1 st1 sm1 r1 eo1 => by
    split at eo1
    · rename_i hz
      exact ⟨by rw [← r1.len]; exact size6 hz, fun p hp => eo1 _ _ (m1 ++ [p]) (Step.new sm1 hp) (sim_lst r1 sm1 hp) (sv_new sm1)⟩
    · exact eo1.elim⟩
/-! ### a[i] -/
def ixD : D2 := fun x i S => match seqAt S x, i with
  | some xs, .int k => (atI xs k).map fun d => (d, S)
  | _, _ => none
theorem atI_svs {K : PySem.W.Frag} {m : List Addr} {H : Hp} {xs : List D} {vs : List V} (h : SVs K m H xs vs) {k : Int} {d : D} (e : atI xs k = some d) : ∃ v, atI vs k = some v ∧ SV K m H d v := by
  unfold atI at e ⊢
  rw [← h.len]
  cases q : ixN xs.length k with
  | none => rw [q] at e; cases e
  | some j =>
    rw [q] at e
    exact h.get (show xs[j]? = some d from e)
theorem ix_any : IxR X (fun x y H Q => ∃ p xs i v, x = .ref p ∧ y = .int i ∧ (SqL X.K H p xs ∨ SqT X.K H p xs) ∧ atI xs i = some v ∧ Q v H) := by
  intro value slice pins s σ H x y v u Q I rx ry h hs
  obtain ⟨p, xs, i, z, e1, e2, hq, he, q⟩ := h
  rcases hq with hq | hq
  · exact ix_list value slice pins s σ H x y v u Q I rx ry ⟨p, xs, i, z, e1, e2, hq, he, q⟩ hs
  · exact ix_tup value slice pins s σ H x y v u Q I rx ry ⟨p, xs, i, z, e1, e2, hq, he, q⟩ hs
theorem je_ix (ha : JE X G W a fa) (hb : JE X G W b fb) (hs : PlainIx b := by exact (fun _ _ => rfl)) : JE X G W (.Subscript a b pos) (dOp ixD fa fb) :=
  PE.imp (pe_ix ix_any ha hb hs) fun σ H Q ⟨m, ρ, S, sr, sm, eo⟩ =>
    ⟨m, ρ, S, sr, sm, eo.then fun x S1 v H1 m1 st1 sm1 r1 eo1 => ⟨m1, ρ, S1, sr.mono sm st1, sm1, eo1.then fun y S2 u H2 m2 st2 sm2 r2 eo2 => by
      unfold ixD at eo2
      split at eo2
      · rename_i xs k e1
        obtain ⟨p, vs, rfl, sv, sq⟩ := seqAt_ok sm2 e1 (r1.mono sm1 st2)
        cases r2
        cases q : atI xs k with
        | none => rw [q] at eo2; exact eo2.elim
        | some d =>
          rw [q] at eo2
          obtain ⟨w, h1, h2⟩ := atI_svs sv q
          exact ⟨p, vs, k, w, rfl, rfl, sq, h1, eo2 _ H2 m2 sm2.refl sm2 h2⟩
      · exact eo2.elim⟩⟩
/-! ### a[lo:hi] -/
abbrev DP := DEnv → Store → Out (Option Int)
def dpNone : DP := fun _ S => .ok none S
def dpSome (f : DE) : DP := fun ρ S => (f ρ S).bind fun x S1 => match x with
  | .int i => .ok (some i) S1
  | _ => .bad
def tDP (K : PySem.W.Frag) (G : Gx) (W : WX) (f : DP) : TO := fun σ H Q => ∃ m ρ S, SR K m H ρ σ ∧ Sim K G m S H ∧ EO K G eqR Q (fun c d H' => W c d σ H') m H (f ρ S)
abbrev JP (X : Cx) (G : Gx) (W : WX) (e : Option Expr) (f : DP) : Prop := PO X e (tDP X.K G W f)
theorem PO.imp {e : Option Expr} {t t' : TO} (h : PO X e t) (f : ∀ σ H Q, t' σ H Q → t σ H Q) : PO X e t' := ⟨fun pins s σ H Q I q => h.run pins s σ H Q I (f σ H Q q)⟩
theorem jp_none : JP X G W none dpNone := PO.imp po_none fun σ H Q ⟨m, ρ, S, sr, sm, eo⟩ => eo none H m sm.refl sm rfl
theorem jp_some (h : JE X G W e fa) : JP X G W (some e) (dpSome fa) := PO.imp (po_some h) fun σ H Q ⟨m, ρ, S, sr, sm, eo⟩ => ⟨m, ρ, S, sr, sm, EO.then (rel := SV X.K) eo fun x S1 v H1 m1 st1 sm1 r1 eo1 => by
  cases x with
  | int i => cases r1; exact ⟨i, rfl, eo1 _ H1 m1 sm1.refl sm1 rfl⟩
  | _ => exact eo1.elim⟩
def cutD {α : Type} (xs : List α) (lo hi : Option Int) : List α := (xs.drop (HT.sIx xs.length 0 lo)).take (HT.sIx xs.length xs.length hi - HT.sIx xs.length 0 lo)
theorem cut_svs {K : PySem.W.Frag} {m : List Addr} {H : Hp} {xs : List D} {vs : List V} (h : SVs K m H xs vs) (lo hi : Option Int) : SVs K m H (cutD xs lo hi) (cutV vs lo hi) := by
  unfold cutD cutV
  rw [h.len]
  exact (h.drop _).take _
/-- a slice of a list (a new list), of a tuple, of a text -/
def sliceD (x : D) (lo hi : Option Int) (S : Store) : Option (D × Store) := match x with
  | .obj n => (lstAt S n).map fun xs => newO (.lst (cutD xs lo hi)) S
  | .fl xs => some (newO (.lst (cutD xs lo hi)) S)
  | .tup xs => some (.tup (cutD xs lo hi), S)
  | .str z => if z.length ≤ 1000000 then some (.str (cutS z lo hi), S) else none
  | _ => none
def dSl (fa : DE) (fl fh : DP) : DE := fun ρ S => (fa ρ S).bind fun x S1 => (fl ρ S1).bind fun l S2 => (fh ρ S2).bind fun h S3 => optO (sliceD x l h S3)
theorem sl_any : SlR X (fun x lo hi H Q => rSlL X.K x lo hi H Q ∨ rSlA X.K x lo hi H Q ∨ (∃ z, x = .str z ∧ z.length ≤ sizeLine ∧ Q (.str (cutS z lo hi)) H)) := by
  intro pins s σ H x v vl vu lo hi sl Q I rx hs pl pu h
  rcases h with h | h | h
  · exact sl_list pins s σ H x v vl vu lo hi sl Q I rx hs pl pu h
  · exact sl_tupA pins s σ H x v vl vu lo hi sl Q I rx hs pl pu h
  · exact sl_str pins s σ H x v vl vu lo hi sl Q I rx hs pl pu h
theorem je_slice {lo hi : Option Expr} {fl fh : DP} {p2 : Pos} (he : JE X G W e fa) (hl : JP X G W lo fl) (hu : JP X G W hi fh) : JE X G W (.Subscript e (.Slice lo hi none p2) pos) (dSl fa fl fh) :=
  PE.imp (pe_slice sl_any he hl hu) fun σ H Q ⟨m, ρ, S, sr, sm, eo⟩ => ⟨m, ρ, S, sr, sm, EO.then (rel := SV X.K) eo fun x S1 v H1 m1 st1 sm1 r1 eo1 =>
    ⟨m1, ρ, S1, sr.mono sm st1, sm1, EO.then (rel := eqR) eo1 fun l S2 l' H2 m2 st2 sm2 r2 eo2 => ⟨m2, ρ, S2, sr.mono sm (st1.trans st2), sm2, EO.then (rel := eqR) eo2 fun h S3 h' H3 m3 st3 sm3 r3 eo3 => by
      cases r2; cases r3
      have r1 := r1.mono sm1 (st2.trans st3)
      cases x with
      | obj n =>
        unfold sliceD at eo3
        dsimp only at eo3
        cases q : lstAt S3 n with
        | none => rw [q] at eo3; exact eo3.elim
        | some xs =>
          rw [q] at eo3
          obtain ⟨a, rfl, hm⟩ := r1
          obtain ⟨a', vs, h1, h2, h3⟩ := lstAt_ok sm3 q
          rw [hm] at h1; cases h1
          exact .inl ⟨a, vs, rfl, SqL.of h2, fun p hp => eo3 _ _ (m3 ++ [p]) (Step.new sm3 hp) (sim_lst (cut_svs h3 l h) sm3 hp) (sv_new sm3)⟩
      | fl xs =>
        obtain ⟨a, vs, rfl, hq, hs⟩ := r1
        exact .inl ⟨a, vs, rfl, hq.l, fun p hp => eo3 _ _ (m3 ++ [p]) (Step.new sm3 hp) (sim_lst (cut_svs hs l h) sm3 hp) (sv_new sm3)⟩
      | tup xs =>
        obtain ⟨a, vs, rfl, hq, hs⟩ := r1
        refine .inr (.inl ⟨a, vs, rfl, hq, fun hh => ?_, fun _ p hp => eo3 _ _ m3 (Step.beside sm3 hp) (sm3.beside hp) (sv_tup (cut_svs hs l h) sm3 hp)⟩)
        have e : cutD xs l h = xs := by
          unfold cutD
          rw [hs.len, hh.1, hh.2, List.drop_zero, Nat.sub_zero, ← hs.len, List.take_length]
        have eo4 : EO X.K G (SV X.K) Q (fun c d H' => W c d σ H') m3 H3 (.ok (.tup (cutD xs l h)) S3) := eo3
        rw [e] at eo4
        exact eo4 _ H3 m3 sm3.refl sm3 ⟨a, vs, rfl, hq, hs⟩
      | str z =>
        cases r1
        unfold sliceD at eo3
        dsimp only at eo3
        split at eo3
        · rename_i hz
          exact .inr (.inr ⟨z, rfl, size6 hz, eo3 _ H3 m3 sm3.refl sm3 rfl⟩)
        · exact eo3.elim
      | _ => exact eo3.elim⟩⟩⟩
/-! ### o.f -/
def insAt (S : Store) : D → Option (String × List (Str × D))
  | .obj n => match S[n]? with
    | some (.ins c fs) => some (c, fs)
    | _ => none
  | _ => none
theorem insAt_ok {K : PySem.W.Frag} {m : List Addr} {S : Store} {H : Hp} (s : Sim K G m S H) {d : D} {v : V} {c : String} {fs : List (Str × D)} (h : insAt S d = some (c, fs)) (r : SV K m H d v) :
    ∃ n p dx vfs, d = .obj n ∧ v = .ref p ∧ m[n]? = some p ∧ H p = some (.ins (G.cA c) dx vfs) ∧ SF K m H fs vfs := by
  cases d with
  | obj n =>
    unfold insAt at h
    dsimp only at h
    split at h
    · rename_i c' fs' e
      cases h
      obtain ⟨a, e1, hm⟩ := r
      obtain ⟨dx, vfs, h1, h2⟩ := s.at_ n _ a e hm
      exact ⟨n, a, dx, vfs, rfl, e1, hm, h1, h2⟩
    · cases h
  | _ => cases h
def dFld (cs : List String) (f : Str) (fa : DE) : DE := fun ρ S => (fa ρ S).bind fun x S1 => match insAt S1 x with
  | some (c, fs) => if c ∈ cs then (match fs.lookup f with
    | some d => .ok d S1
    | none => .bad) else .bad
  | none => .bad
theorem je_fld {cs : List String} {f : Str} (hC : ∀ c ∈ cs, Cls X.K (G.cA c) ∧ NoAttr X.K (G.cA c) f) (he : JE X G W e fa) (hb : attributeBase e f X.env (eval e X.env) = eval e X.env := by rfl) : JE X G W (.Attribute e f pos) (dFld cs f fa) :=
  PE.imp (pe_fld he hb) fun σ H Q ⟨m, ρ, S, sr, sm, eo⟩ => ⟨m, ρ, S, sr, sm, EO.then (rel := SV X.K) eo fun x S1 v H1 m1 st1 sm1 r1 eo1 => by
    split at eo1
    · rename_i c fs e1
      split at eo1
      · rename_i hc
        split at eo1
        · rename_i d e2
          obtain ⟨n, p, dx, vfs, rfl, rfl, hm, ho, hf⟩ := insAt_ok sm1 e1 r1
          obtain ⟨w, h1, h2⟩ := hf.look e2
          exact ⟨p, G.cA c, dx, vfs, w, rfl, ho, (hC c hc).1, (hC c hc).2, h1, eo1 _ H1 m1 sm1.refl sm1 h2⟩
        · exact eo1.elim
      · exact eo1.elim
    · exact eo1.elim⟩
end
end DL
set_option Elab.async false
set_option linter.all false
set_option maxRecDepth 100000
set_option maxHeartbeats 2000000
namespace DL
open PySem PySem.Spec PyProof.Rows L2
/-! ### calls where what is raised is wished for at the caller's slots -/
section
variable {X : Cx} {CX : CXT} {k : Nat} {f C : Addr} {fd : FuncData} {ps : List Str} {sp : Sp} {E : L2.St → XK} {x m : Str} {p pos apos : Pos} {e o : Expr} {es : List Expr} {ta : TE} {t : TA}
theorem pe_callS0 (F : FnOk X.prog X.w X.K X.mg X.base CX k f fd ps sp) (hr : Room k X.A) (hg : Gl X x) (hm : X.mg x = some (.ref f)) (hk : PySem.W.keepIn X.K (.ref f) = true) (hb : Binds X.K fd ps []) (hx : ∀ σ, PassesAt CX X σ (E σ))
    (hdb : (x == ("__debug__" : Str)) = false := by decide) : PE X (.Call (.Name x p) [] [] pos) (fun σ H Q => sp [] H Q (E σ)) := by
  refine ⟨fun pins s σ H Q I h => ?_⟩
  refine wpAny_Call_Name_kw (ld_glob I hg hm ?_ hdb)
  exact PySem.W.callWith_K0 I.kIn hk (run_fnS (us := []) F hr hb (hx σ) I .nil h)
def tMethS (C : Addr) (m : Str) (sp : Sp) (E : L2.St → XK) (ta : TE) (t : TA) : TE := fun σ H Q => ta σ H fun x H1 => ∃ a dx fs, x = .ref a ∧ H1 a = some (.ins C dx fs) ∧ fs.lookup m = none ∧
  t σ H1 fun vs H2 => sp (x :: vs) H2 Q (E σ)
theorem pe_methS {pl : Sem Bool} (he : PE X o ta) (c : Cls X.K C) (hm : Meth X.K C m f) (F : FnOk X.prog X.w X.K X.mg X.base CX k f fd ps sp) (hr : Room k X.A) (hb : Binds X.K fd ps []) (hx : ∀ σ, PassesAt CX X σ (E σ)) (ha : PA X (e :: es) t)
    (hst : starEach (e :: es) X.env = (false, eval e X.env) :: starEach es X.env := by rfl) (hpl : (backTo pos (starEach es X.env)).any (·.1) = false := by rfl)
    (ht : eval (.Call (.Attribute o m apos) (e :: es) [] pos) X.env = (do
      let ov ← eval o X.env
      standAt apos.atName
      let (f, first) ← holding [ov] (getMethod ov m pl)
      callWith pos f first (backTo pos (starEach (e :: es) X.env)) (backToKw pos (keywordEach [] X.env))) := by rfl) :
    PE X (.Call (.Attribute o m apos) (e :: es) [] pos) (tMethS C m sp E ta t) := by
  refine ⟨fun pins s σ H Q I h => ?_⟩
  refine PySem.W.methodCall_KW (pl := pl) (thn (he.run pins s σ H _ I h) fun u s1 ⟨x, H1, I1, rx, a, dx, fs, ex, ea, l, q⟩ => ?_) ht
  subst ex
  obtain rfl : u = Value.ref a := rx
  refine getmeth_ok I1 ea c hm l ?_
  refine PySem.W.callWith_K (first := [.ref a]) (h₀ := X.base) I.ok.mod.kin hm.kp (thn (ha.run pos pins s1 σ H1 _ I1 q) fun us s2 ⟨vs, H2, I2, r, q2⟩ => ⟨I2.kIn, ?_⟩) hst hpl
  exact run_fnS (us := .ref a :: us) (vs := .ref a :: vs) F hr hb (hx σ) I2 (.cons rfl r) q2
theorem pe_methS0 {pl : Sem Bool} (he : PE X o ta) (c : Cls X.K C) (hm : Meth X.K C m f) (F : FnOk X.prog X.w X.K X.mg X.base CX k f fd ps sp) (hr : Room k X.A) (hb : Binds X.K fd ps []) (hx : ∀ σ, PassesAt CX X σ (E σ))
    (ht : eval (.Call (.Attribute o m apos) [] [] pos) X.env = (do
      let ov ← eval o X.env
      standAt apos.atName
      let (f, first) ← holding [ov] (getMethod ov m pl)
      callWith pos f first (backTo pos (starEach [] X.env)) (backToKw pos (keywordEach [] X.env))) := by rfl) :
    PE X (.Call (.Attribute o m apos) [] [] pos) (tMethS C m sp E ta tNil) := by
  refine ⟨fun pins s σ H Q I h => ?_⟩
  refine PySem.W.methodCall_KW (pl := pl) (thn (he.run pins s σ H _ I h) fun u s1 ⟨x, H1, I1, rx, a, dx, fs, ex, ea, l, q⟩ => ?_) ht
  subst ex
  obtain rfl : u = Value.ref a := rx
  refine getmeth_ok I1 ea c hm l ?_
  exact PySem.W.callWith_K0 (first := [.ref a]) I1.kIn hm.kp (run_fnS (us := [.ref a]) (vs := [.ref a]) F hr hb (hx σ) I1 (.cons rfl .nil) q)
theorem run_makeS {pins : List (Addr × Obj)} {σ : L2.St} {H : Hp} {s : Shared} {Q : VK} {us : List Value} {vs : List V} (M : Mk X.K C f) (F : FnOk X.prog X.w X.K X.mg X.base CX k f fd ps sp) (hr : Room (k + 1) X.A) (hb : Binds X.K fd ps [])
    (hx : PassesAt CX X σ (E σ)) (I : Inv X pins σ H s) (r : Vals vs us)
    (h : ∀ x dx, H x = none → H dx = none → dx ≠ x → sp (.ref x :: vs) (upd (upd H dx (.own x)) x (.ins C dx [])) (fun v H2 => v = .non ∧ Q (.ref x) H2) (E σ)) :
    wpAny (model X.prog X.w) X.A (call (.ref C) us) (EP X pins σ Q) X.xe s := by
  have hq := h (s.heap.objs.size + 1) s.heap.objs.size (I.hok.fresh (Nat.le_succ _)) (I.hok.fresh (Nat.le_refl _)) (Nat.ne_of_lt (Nat.lt_succ_self _))
  have I2 := Inv.made (C := C) I
  have r2 : Vals (V.ref (s.heap.objs.size + 1) :: vs) (Value.ref (s.heap.objs.size + 1) :: us) := .cons rfl r
  have hl : (Value.ref (s.heap.objs.size + 1) :: us ++ []).length = ps.length := by
    have e := r2.length
    rw [F.len _ _ _ _ hq] at e
    rw [List.append_nil]
    exact e.symm
  have b := hb ⟨_, _, _, _, _⟩ (Value.ref (s.heap.objs.size + 1) :: us) I2.kIn hl
  rw [List.append_nil] at b
  refine wpAny_call (make_map (f := f) I.kIn M.makes M.init (beq_iff_eq.mp M.fn) (codeAny_mono (F.run _ X.stack _ _ ⟨Value.ref (s.heap.objs.size + 1) :: us, []⟩ (Value.ref (s.heap.objs.size + 1) :: us) _ _ (E σ) (hr.make C us [])
    (I2.env0.make C us []) b r2 hq) fun r s' hq' => ?_))
  cases r with
  | error e => exact hx pins _ _ e s' I2 hq'
  | ok fl =>
    cases fl with
    | ret u =>
      obtain ⟨v, H', I3, rv, ev, q3⟩ := I2.after hq'
      subst ev
      exact ⟨rv, ⟨V.ref (s.heap.objs.size + 1), H', I3, rfl, q3⟩⟩
    | next => exact False.elim hq'
    | brk => exact False.elim hq'
    | cont => exact False.elim hq'
def tMakeS (C : Addr) (sp : Sp) (E : L2.St → XK) (t : TA) : TE := fun σ H Q => t σ H fun vs H1 => ∀ x dx, H1 x = none → H1 dx = none → dx ≠ x →
  sp (.ref x :: vs) (upd (upd H1 dx (.own x)) x (.ins C dx [])) (fun v H2 => v = .non ∧ Q (.ref x) H2) (E σ)
theorem pe_makeS (M : Mk X.K C f) (F : FnOk X.prog X.w X.K X.mg X.base CX k f fd ps sp) (hr : Room (k + 1) X.A) (hg : Gl X x) (hm : X.mg x = some (.ref C)) (hb : Binds X.K fd ps []) (hx : ∀ σ, PassesAt CX X σ (E σ))
    (ha : PA X (e :: es) t) (hdb : (x == ("__debug__" : Str)) = false := by decide) (he : starEach (e :: es) X.env = (false, eval e X.env) :: starEach es X.env := by rfl) (hpl : (backTo pos (starEach es X.env)).any (·.1) = false := by rfl) :
    PE X (.Call (.Name x p) (e :: es) [] pos) (tMakeS C sp E t) := by
  refine ⟨fun pins s σ H Q I h => ?_⟩
  refine wpAny_Call_Name_kw (ld_glob I hg hm ?_ hdb)
  refine PySem.W.callWith_K (h₀ := X.base) I.ok.mod.kin M.kp (thn (ha.run pos pins s σ H _ I h) fun us s1 ⟨vs, H1, I1, r, q⟩ => ⟨I1.kIn, ?_⟩) he hpl
  exact run_makeS M F hr hb (hx σ) I1 r q
theorem pe_makeS0 (M : Mk X.K C f) (F : FnOk X.prog X.w X.K X.mg X.base CX k f fd ps sp) (hr : Room (k + 1) X.A) (hg : Gl X x) (hm : X.mg x = some (.ref C)) (hb : Binds X.K fd ps []) (hx : ∀ σ, PassesAt CX X σ (E σ))
    (hdb : (x == ("__debug__" : Str)) = false := by decide) : PE X (.Call (.Name x p) [] [] pos) (tMakeS C sp E tNil) := by
  refine ⟨fun pins s σ H Q I h => ?_⟩
  refine wpAny_Call_Name_kw (ld_glob I hg hm ?_ hdb)
  exact PySem.W.callWith_K0 I.kIn M.kp (run_makeS (us := []) M F hr hb (hx σ) I .nil h)
end
/-! ### a def that denotes a function -/
abbrev DF := List D → Store → Out D
def spD (K : PySem.W.Frag) (G : Gx) (n : Nat) (F : DF) : Sp := fun vs H Q E => ∃ m ds S, ds.length = n ∧ SVs K m H ds vs ∧ Sim K G m S H ∧ EO K G (SV K) Q E m H (F ds S)
/-- the def at f, of n parameters, denotes F (level k) -/
structure FnD (P : Program) (w : World) (K : PySem.W.Frag) (mg : Str → Option Value) (base : Heap) (G : Gx) (k : Nat) (f : Addr) (n : Nat) (F : DF) : Prop where
  ex : ∃ fd ps, FnOk P w K mg base (L2.CX P w) k f fd ps (spD K G n F) ∧ Binds K fd ps []
  kp : PySem.W.keepIn K (.ref f) = true
/-- F refines F' : where F is not bad they agree -/
def Refines (F F' : DF) : Prop := ∀ ds S, F ds S = .bad ∨ F ds S = F' ds S
theorem FnD.refine {P : Program} {w : World} {K : PySem.W.Frag} {mg : Str → Option Value} {base : Heap} {G : Gx} {k : Nat} {f : Addr} {n : Nat} {F F' : DF} (h : FnD P w K mg base G k f n F') (r : ∀ ds S, ds.length = n → F ds S = .bad ∨ F' ds S = F ds S) : FnD P w K mg base G k f n F := by
  obtain ⟨⟨fd, ps, ok, b⟩, kp⟩ := h
  refine ⟨⟨fd, ps, ok.imp fun vs H Q E ⟨m, ds, S, hl, sv, sm, eo⟩ => ⟨m, ds, S, hl, sv, sm, ?_⟩, b⟩, kp⟩
  rcases r ds S hl with e | e
  · rw [e] at eo; exact eo.elim
  · rw [e]; exact eo
theorem FnD.mono {P : Program} {w : World} {K : PySem.W.Frag} {mg : Str → Option Value} {base : Heap} {G : Gx} {j k : Nat} {f : Addr} {n : Nat} {F : DF} (h : FnD P w K mg base G j f n F) (hk : j ≤ k) : FnD P w K mg base G k f n F := by
  obtain ⟨⟨fd, ps, ok, b⟩, kp⟩ := h
  exact ⟨⟨fd, ps, ok.mono hk, b⟩, kp⟩
def dCall (n : Nat) (F : DF) (fr : DA) : DE := fun ρ S => (fr ρ S).bind fun ds S1 => if ds.length = n then F ds S1 else .bad
def dMeth (c : String) (mt : Str) (n : Nat) (F : DF) (fo : DE) (fr : DA) : DE := fun ρ S => (fo ρ S).bind fun x S1 => match insAt S1 x with
  | some (c', fs) => if c' = c ∧ fs.lookup mt = none then (fr ρ S1).bind fun ds S2 => if ds.length + 1 = n then F (x :: ds) S2 else .bad else .bad
  | none => .bad
def dMake (c : String) (n : Nat) (F : DF) (fr : DA) : DE := fun ρ S => (fr ρ S).bind fun ds S1 => if ds.length + 1 = n then (F (.obj S1.length :: ds) (S1 ++ [.ins c []])).bind fun r S2 => (match r with
  | .non => .ok (.obj S1.length) S2
  | _ => .bad) else .bad
section
variable {X : Cx} {G : Gx} {W : WX} {k n : Nat} {f : Addr} {F : DF} {x mt : Str} {c : String} {p pos apos : Pos} {e o : Expr} {es : List Expr} {fo : DE} {fr : DA}
theorem je_call (h : FnD X.prog X.w X.K X.mg X.base G k f n F) (tk : Takes X W) (hr : Room k X.A) (hm : X.mg x = some (.ref f)) (ha : JA X G W (e :: es) fr) (hg : Gl X x := by rfl) (hdb : (x == ("__debug__" : Str)) = false := by decide)
    (he : starEach (e :: es) X.env = (false, eval e X.env) :: starEach es X.env := by rfl) (hpl : (backTo pos (starEach es X.env)).any (·.1) = false := by rfl) : JE X G W (.Call (.Name x p) (e :: es) [] pos) (dCall n F fr) := by
  obtain ⟨⟨fd, ps, ok, b⟩, kp⟩ := h
  refine PE.imp (pe_callS ok hr hg hm kp b (fun σ => passAt tk σ) ha hdb he hpl) fun σ H Q ⟨m, ρ, S, sr, sm, eo⟩ => ⟨m, ρ, S, sr, sm, EO.then (rel := SVs X.K) eo fun ds S1 vs H1 m1 st1 sm1 r1 eo1 => ?_⟩
  split at eo1
  · rename_i hl
    exact ⟨m1, ds, S1, hl, r1, sm1, eo1⟩
  · exact eo1.elim
theorem je_call0 (h : FnD X.prog X.w X.K X.mg X.base G k f n F) (tk : Takes X W) (hr : Room k X.A) (hm : X.mg x = some (.ref f)) (hg : Gl X x := by rfl) (hdb : (x == ("__debug__" : Str)) = false := by decide) : JE X G W (.Call (.Name x p) [] [] pos) (dCall n F daNil) := by
  obtain ⟨⟨fd, ps, ok, b⟩, kp⟩ := h
  refine PE.imp (pe_callS0 ok hr hg hm kp b (fun σ => passAt tk σ) hdb) fun σ H Q ⟨m, ρ, S, sr, sm, eo⟩ => ?_
  have eo1 : EO X.K G (SV X.K) Q (fun c d H' => W c d σ H') m H (if ([] : List D).length = n then F [] S else .bad) := eo
  split at eo1
  · rename_i hl
    exact ⟨m, [], S, hl, rfl, sm, eo1⟩
  · exact eo1.elim
theorem je_meth {pl : Sem Bool} (h : FnD X.prog X.w X.K X.mg X.base G k f n F) (tk : Takes X W) (hr : Room k X.A) (hc : Cls X.K (G.cA c)) (hm : Meth X.K (G.cA c) mt f) (ho : JE X G W o fo) (ha : JA X G W (e :: es) fr)
    (hst : starEach (e :: es) X.env = (false, eval e X.env) :: starEach es X.env := by rfl) (hpl : (backTo pos (starEach es X.env)).any (·.1) = false := by rfl)
    (ht : eval (.Call (.Attribute o mt apos) (e :: es) [] pos) X.env = (do
      let ov ← eval o X.env
      standAt apos.atName
      let (f, first) ← holding [ov] (getMethod ov mt pl)
      callWith pos f first (backTo pos (starEach (e :: es) X.env)) (backToKw pos (keywordEach [] X.env))) := by rfl) : JE X G W (.Call (.Attribute o mt apos) (e :: es) [] pos) (dMeth c mt n F fo fr) := by
  obtain ⟨⟨fd, ps, ok, b⟩, kp⟩ := h
  refine PE.imp (pe_methS ho hc hm ok hr b (fun σ => passAt tk σ) ha hst hpl ht) fun σ H Q ⟨m, ρ, S, sr, sm, eo⟩ => ⟨m, ρ, S, sr, sm, EO.then (rel := SV X.K) eo fun x S1 v H1 m1 st1 sm1 r1 eo1 => ?_⟩
  split at eo1
  · rename_i c' fs e1
    split at eo1
    · rename_i hcc
      obtain ⟨rfl, hl⟩ := hcc
      obtain ⟨j, q, dx, vfs, rfl, rfl, hmm, hoo, hf⟩ := insAt_ok sm1 e1 r1
      refine ⟨q, dx, vfs, rfl, hoo, hf.lookN hl, m1, ρ, S1, sr.mono sm st1, sm1, EO.then (rel := SVs X.K) eo1 fun ds S2 vs H2 m2 st2 sm2 r2 eo2 => ?_⟩
      split at eo2
      · rename_i hl2
        exact ⟨m2, .obj j :: ds, S2, by simpa using hl2, ⟨_, _, rfl, r1.mono sm1 st2, r2⟩, sm2, eo2⟩
      · exact eo2.elim
    · exact eo1.elim
  · exact eo1.elim
theorem je_meth0 {pl : Sem Bool} (h : FnD X.prog X.w X.K X.mg X.base G k f n F) (tk : Takes X W) (hr : Room k X.A) (hc : Cls X.K (G.cA c)) (hm : Meth X.K (G.cA c) mt f) (ho : JE X G W o fo)
    (ht : eval (.Call (.Attribute o mt apos) [] [] pos) X.env = (do
      let ov ← eval o X.env
      standAt apos.atName
      let (f, first) ← holding [ov] (getMethod ov mt pl)
      callWith pos f first (backTo pos (starEach [] X.env)) (backToKw pos (keywordEach [] X.env))) := by rfl) : JE X G W (.Call (.Attribute o mt apos) [] [] pos) (dMeth c mt n F fo daNil) := by
  obtain ⟨⟨fd, ps, ok, b⟩, kp⟩ := h
  refine PE.imp (pe_methS0 ho hc hm ok hr b (fun σ => passAt tk σ) ht) fun σ H Q ⟨m, ρ, S, sr, sm, eo⟩ => ⟨m, ρ, S, sr, sm, EO.then (rel := SV X.K) eo fun x S1 v H1 m1 st1 sm1 r1 eo1 => ?_⟩
  split at eo1
  · rename_i c' fs e1
    split at eo1
    · rename_i hcc
      obtain ⟨rfl, hl⟩ := hcc
      obtain ⟨j, q, dx, vfs, rfl, rfl, hmm, hoo, hf⟩ := insAt_ok sm1 e1 r1
      refine ⟨q, dx, vfs, rfl, hoo, hf.lookN hl, ?_⟩
      have eo2 : EO X.K G (SV X.K) Q (fun c d H' => W c d σ H') m1 H1 (if ([] : List D).length + 1 = n then F (.obj j :: []) S1 else .bad) := eo1
      split at eo2
      · rename_i hl2
        exact ⟨m1, [.obj j], S1, by simpa using hl2, ⟨_, _, rfl, r1, rfl⟩, sm1, eo2⟩
      · exact eo2.elim
    · exact eo1.elim
  · exact eo1.elim
/-- a new instance stands in the store -/
theorem made_step {K : PySem.W.Frag} {m : List Addr} {S : Store} {H : Hp} (sm : Sim K G m S H) {y dx : Addr} (hy : H y = none) (hd : H dx = none) (ne : dx ≠ y) :
    Step m H (m ++ [y]) (upd (upd H dx (.own y)) y (.ins (G.cA c) dx [])) ∧ Sim K G (m ++ [y]) (S ++ [.ins c []]) (upd (upd H dx (.own y)) y (.ins (G.cA c) dx [])) := by
  have st1 : Step m H m (upd H dx (.own y)) := Step.beside sm hd
  have sm1 : Sim K G m S (upd H dx (.own y)) := sm.beside hd
  have hy1 : upd H dx (.own y) y = none := by rw [upd_ne (Ne.symm ne)]; exact hy
  exact ⟨st1.trans (Step.new sm1 hy1), sm1.new hy1 ⟨dx, [], upd_same, rfl⟩⟩
theorem make_core {σ : L2.St} {Q : VK} {m : List Addr} {S : Store} {H : Hp} {ds : List D} {vs : List V} (sm : Sim X.K G m S H) (r : SVs X.K m H ds vs)
    (eo : EO X.K G (SV X.K) Q (fun c d H' => W c d σ H') m H (if ds.length + 1 = n then (F (.obj S.length :: ds) (S ++ [.ins c []])).bind fun r S2 => (match r with
      | .non => .ok (.obj S.length) S2
      | _ => .bad) else .bad)) : ∀ y dx, H y = none → H dx = none → dx ≠ y → spD X.K G n F (.ref y :: vs) (upd (upd H dx (.own y)) y (.ins (G.cA c) dx [])) (fun v H2 => v = .non ∧ Q (.ref y) H2) (WE W σ) := by
  intro y dx hy hd ne
  split at eo
  · rename_i hl
    obtain ⟨st1, sm1⟩ := made_step (c := c) sm hy hd ne
    refine ⟨m ++ [y], .obj S.length :: ds, S ++ [.ins c []], by simpa using hl, ⟨_, _, rfl, sv_new sm, r.mono sm st1⟩, sm1, EO.then (rel := SV X.K) (eo.step st1) fun d S2 v H2 m2 st2 sm2 r2 eo2 => ?_⟩
    cases d with
    | non =>
      cases r2
      refine ⟨rfl, eo2 _ H2 m2 sm2.refl sm2 ⟨y, rfl, st2.get ?_⟩⟩
      rw [← sm.len]; simp
    | _ => exact eo2.elim
  · exact eo.elim
theorem je_make (h : FnD X.prog X.w X.K X.mg X.base G k f n F) (M : Mk X.K (G.cA c) f) (tk : Takes X W) (hr : Room (k + 1) X.A) (hm : X.mg x = some (.ref (G.cA c))) (ha : JA X G W (e :: es) fr) (hg : Gl X x := by rfl) (hdb : (x == ("__debug__" : Str)) = false := by decide)
    (he : starEach (e :: es) X.env = (false, eval e X.env) :: starEach es X.env := by rfl) (hpl : (backTo pos (starEach es X.env)).any (·.1) = false := by rfl) : JE X G W (.Call (.Name x p) (e :: es) [] pos) (dMake c n F fr) := by
  obtain ⟨⟨fd, ps, ok, b⟩, kp⟩ := h
  exact PE.imp (pe_makeS M ok hr hg hm b (fun σ => passAt tk σ) ha hdb he hpl) fun σ H Q ⟨m, ρ, S, sr, sm, eo⟩ => ⟨m, ρ, S, sr, sm, EO.then (rel := SVs X.K) eo fun ds S1 vs H1 m1 st1 sm1 r1 eo1 => make_core sm1 r1 eo1⟩
theorem je_make0 (h : FnD X.prog X.w X.K X.mg X.base G k f n F) (M : Mk X.K (G.cA c) f) (tk : Takes X W) (hr : Room (k + 1) X.A) (hm : X.mg x = some (.ref (G.cA c))) (hg : Gl X x := by rfl) (hdb : (x == ("__debug__" : Str)) = false := by decide) : JE X G W (.Call (.Name x p) [] [] pos) (dMake c n F daNil) := by
  obtain ⟨⟨fd, ps, ok, b⟩, kp⟩ := h
  exact PE.imp (pe_makeS0 M ok hr hg hm b (fun σ => passAt tk σ) hdb) fun σ H Q ⟨m, ρ, S, sr, sm, eo⟩ => make_core (ds := []) (vs := []) sm rfl eo
end
/-! ### built-ins -/
abbrev DB := List D → Store → Option (D × Store)
def dBlt (g : DB) (fr : DA) : DE := fun ρ S => (fr ρ S).bind fun ds S1 => optO (g ds S1)
def BR (K : PySem.W.Frag) (G : Gx) (g : DB) : List V → Hp → VK → Prop := fun vs H Q => ∃ m S ds d S', Sim K G m S H ∧ SVs K m H ds vs ∧ g ds S = some (d, S') ∧ ∀ v H' m', Step m H m' H' → Sim K G m' S' H' → SV K m' H' d v → Q v H'
section
variable {X : Cx} {G : Gx} {W : WX} {g : DB} {x : Str} {id T : String} {p pos : Pos} {e : Expr} {es : List Expr} {fr : DA}
theorem blt_core {σ : L2.St} {H : Hp} {Q : VK} (h : tD X.K G W (dBlt g fr) σ H Q) : tDA X.K G W fr σ H (fun vs H1 => BR X.K G g vs H1 Q) := by
  obtain ⟨m, ρ, S, sr, sm, eo⟩ := h
  refine ⟨m, ρ, S, sr, sm, EO.then (rel := SVs X.K) eo fun ds S1 vs H1 m1 st1 sm1 r1 eo1 => ?_⟩
  cases q : g ds S1 with
  | none => rw [q] at eo1; exact eo1.elim
  | some z =>
    obtain ⟨d, S2⟩ := z
    rw [q] at eo1
    exact ⟨m1, S1, ds, d, S2, sm1, r1, q, eo1⟩
theorem je_blt (hc : CallR X (.builtin id) (BR X.K G g)) (hm : X.mg x = none) (hv : bootBuiltins x = some (.builtin id)) (ha : JA X G W (e :: es) fr) (hg : Gl X x := by rfl) (hn : x ≠ "__name__" := by decide) (hdb : (x == ("__debug__" : Str)) = false := by decide)
    (he : starEach (e :: es) X.env = (false, eval e X.env) :: starEach es X.env := by rfl) (hpl : (backTo pos (starEach es X.env)).any (·.1) = false := by rfl) : JE X G W (.Call (.Name x p) (e :: es) [] pos) (dBlt g fr) :=
  PE.imp (pe_callB hc hg hm hv ha hn hdb he hpl) fun σ H Q h => blt_core h
theorem je_bty (hc : CallR X (.type T) (BR X.K G g)) (hm : X.mg x = none) (hv : bootBuiltins x = some (.type T)) (ha : JA X G W (e :: es) fr) (hg : Gl X x := by rfl) (hn : x ≠ "__name__" := by decide) (hdb : (x == ("__debug__" : Str)) = false := by decide)
    (he : starEach (e :: es) X.env = (false, eval e X.env) :: starEach es X.env := by rfl) (hpl : (backTo pos (starEach es X.env)).any (·.1) = false := by rfl) : JE X G W (.Call (.Name x p) (e :: es) [] pos) (dBlt g fr) :=
  PE.imp (pe_callTy hc hg hm hv ha hn hdb he hpl) fun σ H Q h => blt_core h
def absD : DB
  | [.int i], S => some (.int (if i < 0 then -i else i), S)
  | _, _ => none
def maxD : DB
  | [.int i, .int j], S => some (.int (if j > i then j else i), S)
  | _, _ => none
def minD : DB
  | [.int i, .int j], S => some (.int (if j < i then j else i), S)
  | _, _ => none
def intD : DB
  | [.int i], S => some (.int i, S)
  | [.bl b], S => some (.int (if b = true then 1 else 0), S)
  | _, _ => none
def lenD : DB := fun ds S => match ds with
  | [.str z] => if z.length ≤ 1000000 then some (.int z.length, S) else none
  | [d] => (seqAt S d).map fun xs => (.int xs.length, S)
  | _ => none
def tupleD : DB := fun ds S => match ds with
  | [d] => (seqAt S d).map fun xs => (.tup xs, S)
  | _ => none
def listD : DB := fun ds S => match ds with
  | [d] => (seqAt S d).map fun xs => newO (.lst xs) S
  | _ => none
theorem svs1 {K : PySem.W.Frag} {m : List Addr} {H : Hp} {d : D} {vs : List V} (h : SVs K m H [d] vs) : ∃ v, vs = [v] ∧ SV K m H d v := by
  obtain ⟨v, r, rfl, a, b⟩ := h
  rw [show r = [] from b]
  exact ⟨v, rfl, a⟩
theorem svs2 {K : PySem.W.Frag} {m : List Addr} {H : Hp} {d e : D} {vs : List V} (h : SVs K m H [d, e] vs) : ∃ v u, vs = [v, u] ∧ SV K m H d v ∧ SV K m H e u := by
  obtain ⟨v, r, rfl, a, b⟩ := h
  obtain ⟨u, rfl, q⟩ := svs1 b
  exact ⟨v, u, rfl, a, q⟩
theorem jb_abs : CallR X (.builtin "abs") (BR X.K G absD) := CallR.imp call_abs fun vs H Q ⟨m, S, ds, d, S', sm, r, e, k⟩ => by
  unfold absD at e
  split at e
  · cases e
    obtain ⟨v, rfl, q⟩ := svs1 r
    cases q
    exact ⟨_, rfl, k _ H m sm.refl sm rfl⟩
  · cases e
theorem jb_max (hc : X.calm = true) : CallR X (.builtin "max") (BR X.K G maxD) := CallR.imp (call_max2 hc) fun vs H Q ⟨m, S, ds, d, S', sm, r, e, k⟩ => by
  unfold maxD at e
  split at e
  · cases e
    obtain ⟨v, u, rfl, q, q'⟩ := svs2 r
    cases q; cases q'
    exact ⟨_, _, rfl, k _ H m sm.refl sm rfl⟩
  · cases e
theorem jb_min (hc : X.calm = true) : CallR X (.builtin "min") (BR X.K G minD) := CallR.imp (call_min2 hc) fun vs H Q ⟨m, S, ds, d, S', sm, r, e, k⟩ => by
  unfold minD at e
  split at e
  · cases e
    obtain ⟨v, u, rfl, q, q'⟩ := svs2 r
    cases q; cases q'
    exact ⟨_, _, rfl, k _ H m sm.refl sm rfl⟩
  · cases e
theorem jb_int : CallR X (.type "int") (BR X.K G intD) := CallR.imp call_int1 fun vs H Q ⟨m, S, ds, d, S', sm, r, e, k⟩ => by
  unfold intD at e
  split at e
  · cases e
    obtain ⟨v, rfl, q⟩ := svs1 r
    cases q
    exact .inl ⟨_, rfl, k _ H m sm.refl sm rfl⟩
  · cases e
    obtain ⟨v, rfl, q⟩ := svs1 r
    cases q
    exact .inr ⟨_, rfl, k _ H m sm.refl sm rfl⟩
  · cases e
theorem jb_len : CallR X (.builtin "len") (BR X.K G lenD) := CallR.imp call_len fun vs H Q ⟨m, S, ds, d, S', sm, r, e, k⟩ => by
  unfold lenD at e
  split at e
  · rename_i z
    split at e
    · rename_i hz
      cases e
      obtain ⟨v, rfl, q⟩ := svs1 r
      cases q
      exact ⟨_, _, rfl, ⟨size6 hz, rfl⟩, k _ H m sm.refl sm rfl⟩
    · cases e
  · rename_i d' _
    obtain ⟨v, rfl, q⟩ := svs1 r
    cases z : seqAt S d' with
    | none => rw [z] at e; cases e
    | some xs =>
      rw [z] at e
      cases e
      obtain ⟨p, ws, rfl, sv, sq⟩ := seqAt_ok sm z q
      refine ⟨_, ws.length, rfl, ?_, ?_⟩
      · rcases sq with sq | sq
        · exact .inl ⟨ws, sq, rfl⟩
        · exact .inr ⟨ws, sq, rfl⟩
      · rw [← sv.len]
        exact k _ H m sm.refl sm rfl
  · cases e
theorem jb_tuple : CallR X (.type "tuple") (BR X.K G tupleD) := CallR.imp call_tuple_of fun vs H Q ⟨m, S, ds, d, S', sm, r, e, k⟩ => by
  unfold tupleD at e
  split at e
  · rename_i d'
    obtain ⟨v, rfl, q⟩ := svs1 r
    cases z : seqAt S d' with
    | none => rw [z] at e; cases e
    | some xs =>
      rw [z] at e
      cases e
      obtain ⟨p, ws, rfl, sv, sq⟩ := seqAt_ok sm z q
      refine ⟨p, ws, rfl, ?_⟩
      rcases sq with sq | sq
      · exact .inl ⟨sq, fun l hl => k _ _ m (Step.beside sm hl) (sm.beside hl) (sv_tup sv sm hl)⟩
      · exact .inr ⟨sq, k _ H m sm.refl sm ⟨p, ws, rfl, sq, sv⟩⟩
  · cases e
theorem jb_list : CallR X (.type "list") (BR X.K G listD) := CallR.imp call_list_of fun vs H Q ⟨m, S, ds, d, S', sm, r, e, k⟩ => by
  unfold listD at e
  split at e
  · rename_i d'
    obtain ⟨v, rfl, q⟩ := svs1 r
    cases z : seqAt S d' with
    | none => rw [z] at e; cases e
    | some xs =>
      rw [z] at e
      cases e
      obtain ⟨p, ws, rfl, sv, sq⟩ := seqAt_ok sm z q
      exact ⟨p, ws, rfl, sq, fun l hl => k _ _ (m ++ [l]) (Step.new sm hl) (sim_lst sv sm hl) (sv_new sm)⟩
  · cases e
end
end DL
set_option Elab.async false
set_option linter.all false
set_option maxRecDepth 100000
set_option maxHeartbeats 2000000
namespace DL
open PySem PySem.Spec PyProof.Rows L2
/-! ### statements -/
inductive OutS where
  | nx (ρ : DEnv) (S : Store) | rt (d : D) (S : Store) | bk (ρ : DEnv) (S : Store) | ct (ρ : DEnv) (S : Store) | exn (e : Exc) (ρ : DEnv) (S : Store) | bad
abbrev DS := DEnv → Store → OutS
def SQ (K : PySem.W.Frag) (G : Gx) (W : WX) (E : Ends) (m : List Addr) (H : Hp) : OutS → Prop
  | .nx ρ S => ∀ σ H' m', Step m H m' H' → Sim K G m' S H' → SR K m' H' ρ σ → E.nx σ H'
  | .rt d S => ∀ v H' m', Step m H m' H' → Sim K G m' S H' → SV K m' H' d v → E.rt v H'
  | .bk ρ S => ∀ σ H' m', Step m H m' H' → Sim K G m' S H' → SR K m' H' ρ σ → E.bk σ H'
  | .ct ρ S => ∀ σ H' m', Step m H m' H' → Sim K G m' S H' → SR K m' H' ρ σ → E.ct σ H'
  | .exn e ρ S => ∀ cls dx σ H' m', Step m H m' H' → Sim K G m' S H' → SR K m' H' ρ σ → XO G e cls dx → W cls dx σ H'
  | .bad => False
def tDS (K : PySem.W.Frag) (G : Gx) (W : WX) (f : DS) : TS := fun E σ H => ∃ m ρ S, SR K m H ρ σ ∧ Sim K G m S H ∧ SQ K G W E m H (f ρ S)
abbrev JS (X : Cx) (G : Gx) (W : WX) (st : Stmt) (f : DS) : Prop := PS X st (tDS X.K G W f)
abbrev JSs (X : Cx) (G : Gx) (W : WX) (st : List Stmt) (f : DS) : Prop := PSs X st (tDS X.K G W f)
theorem PS.imp {X : Cx} {st : Stmt} {t t' : TS} (h : PS X st t) (f : ∀ E σ H, t' E σ H → t E σ H) : PS X st t' := ⟨fun pins s σ H E I q => h.run pins s σ H E I (f E σ H q)⟩
theorem PSs.imp {X : Cx} {st : List Stmt} {t t' : TS} (h : PSs X st t) (f : ∀ E σ H, t' E σ H → t E σ H) : PSs X st t' := ⟨fun pins s σ H E I q => h.run pins s σ H E I (f E σ H q)⟩
section
variable {K : PySem.W.Frag} {G : Gx} {W : WX} {E E' : Ends} {m m1 : List Addr} {H H1 : Hp}
theorem SQ.step {o : OutS} (h : SQ K G W E m H o) (st : Step m H m1 H1) : SQ K G W E m1 H1 o := by
  cases o with
  | nx ρ S => exact fun σ H' m' a b c => h σ H' m' (st.trans a) b c
  | rt d S => exact fun σ H' m' a b c => h σ H' m' (st.trans a) b c
  | bk ρ S => exact fun σ H' m' a b c => h σ H' m' (st.trans a) b c
  | ct ρ S => exact fun σ H' m' a b c => h σ H' m' (st.trans a) b c
  | exn e ρ S => exact fun cls dx σ H' m' a b c d => h cls dx σ H' m' (st.trans a) b c d
  | bad => exact h.elim
def liftS {α : Type} (o : Out α) (ρ : DEnv) (k : α → Store → OutS) : OutS := match o with
  | .ok a S => k a S
  | .exn e S => .exn e ρ S
  | .bad => .bad
@[simp] theorem liftS_ok {α : Type} (a : α) (S : Store) (ρ : DEnv) (k : α → Store → OutS) : liftS (.ok a S) ρ k = k a S := rfl
@[simp] theorem liftS_exn {α : Type} (e : Exc) (S : Store) (ρ : DEnv) (k : α → Store → OutS) : liftS (.exn e S) ρ k = .exn e ρ S := rfl
@[simp] theorem liftS_bad {α : Type} (ρ : DEnv) (k : α → Store → OutS) : liftS .bad ρ k = .bad := rfl
theorem SQ.then {α β : Type} {rel : List Addr → Hp → α → β → Prop} {Q : β → Hp → Prop} {o : Out α} {ρ : DEnv} {σ : L2.St} {S : Store} {k : α → Store → OutS} (h : SQ K G W E m H (liftS o ρ k)) (sr : SR K m H ρ σ) (sm : Sim K G m S H)
    (f : ∀ a S1 b H1 m1, Step m H m1 H1 → Sim K G m1 S1 H1 → rel m1 H1 a b → SQ K G W E m1 H1 (k a S1) → Q b H1) : EO K G rel Q (fun c d H' => W c d σ H') m H o := by
  cases o with
  | ok a S => exact fun b H' m' s1 s2 r => f a S b H' m' s1 s2 r (SQ.step h s1)
  | exn e S1 => exact fun cls dx H' m' s1 s2 x => h cls dx σ H' m' s1 s2 (sr.mono sm s1) x
  | bad => exact h.elim
end
section
variable {X : Cx} {G : Gx} {W : WX} {st : Stmt} {rest : List Stmt} {f g : DS} {e : Expr} {fe : DE} {pos : Pos}
def dNext : DS := fun ρ S => .nx ρ S
def dSeq (f g : DS) : DS := fun ρ S => match f ρ S with
  | .nx ρ1 S1 => g ρ1 S1
  | o => o
theorem jss_nil : JSs X G W [] dNext := PSs.imp pss_nil fun E σ H ⟨m, ρ, S, sr, sm, q⟩ => q σ H m sm.refl sm sr
theorem jss_one (h : JS X G W st f) : JSs X G W [st] f := pss_one h
theorem jss_cons (h1 : JS X G W st f) (h2 : JSs X G W rest g) : JSs X G W (st :: rest) (dSeq f g) :=
  PSs.imp (pss_cons h1 h2) fun E σ H ⟨m, ρ, S, sr, sm, q⟩ => ⟨m, ρ, S, sr, sm, by
    unfold dSeq at q
    cases e : f ρ S with
    | nx ρ1 S1 => rw [e] at q; exact fun σ' H' m' a b c => ⟨m', ρ1, S1, c, b, SQ.step q a⟩
    | rt d S1 => rw [e] at q; exact q
    | bk ρ1 S1 => rw [e] at q; exact q
    | ct ρ1 S1 => rw [e] at q; exact q
    | exn x ρ1 S1 => rw [e] at q; exact q
    | bad => rw [e] at q; exact q⟩
theorem js_pass : JS X G W (.Pass pos) dNext := PS.imp ps_pass fun E σ H ⟨m, ρ, S, sr, sm, q⟩ => q σ H m sm.refl sm sr
def dBrk : DS := fun ρ S => .bk ρ S
def dCnt : DS := fun ρ S => .ct ρ S
theorem js_break : JS X G W (.Break pos) dBrk := PS.imp ps_break fun E σ H ⟨m, ρ, S, sr, sm, q⟩ => q σ H m sm.refl sm sr
theorem js_continue : JS X G W (.Continue pos) dCnt := PS.imp ps_continue fun E σ H ⟨m, ρ, S, sr, sm, q⟩ => q σ H m sm.refl sm sr
def dDrop (fe : DE) : DS := fun ρ S => liftS (fe ρ S) ρ fun _ S1 => .nx ρ S1
theorem js_expr (he : JE X G W e fe) (hs : swapsWith e none pos.line X.env = pure false := by rfl) : JS X G W (.Expr e pos) (dDrop fe) :=
  PS.imp (ps_expr he hs) fun E σ H ⟨m, ρ, S, sr, sm, q⟩ => ⟨m, ρ, S, sr, sm, SQ.then (rel := SV X.K) q sr sm fun a S1 b H1 m1 st1 sm1 r1 q1 => q1 σ H1 m1 sm1.refl sm1 (sr.mono sm st1)⟩
def dRet (fe : DE) : DS := fun ρ S => liftS (fe ρ S) ρ fun d S1 => .rt d S1
theorem js_ret (he : JE X G W e fe) : JS X G W (.Return (some e) pos) (dRet fe) :=
  PS.imp (ps_ret he) fun E σ H ⟨m, ρ, S, sr, sm, q⟩ => ⟨m, ρ, S, sr, sm, SQ.then (rel := SV X.K) q sr sm fun a S1 b H1 m1 st1 sm1 r1 q1 => q1 b H1 m1 sm1.refl sm1 r1⟩
theorem js_retN : JS X G W (.Return none pos) (fun _ S => .rt .non S) := PS.imp ps_retN fun E σ H ⟨m, ρ, S, sr, sm, q⟩ => q .non H m sm.refl sm rfl
def dIfS (c : DT) (f g : DS) : DS := fun ρ S => liftS (c ρ S) ρ fun b S1 => if b = true then f ρ S1 else g ρ S1
theorem js_if {c : Expr} {a b : List Stmt} {dc : DT} (hc : JT X G W c dc) (ha : JSs X G W a f) (hb : JSs X G W b g) : JS X G W (.If c a b pos) (dIfS dc f g) :=
  PS.imp (ps_if hc ha hb) fun E σ H ⟨m, ρ, S, sr, sm, q⟩ => ⟨m, ρ, S, sr, sm, SQ.then (rel := eqR) q sr sm fun a S1 b H1 m1 st1 sm1 r1 q1 => by
    cases r1
    cases a with
    | true => exact ⟨m1, ρ, S1, sr.mono sm st1, sm1, q1⟩
    | false => exact ⟨m1, ρ, S1, sr.mono sm st1, sm1, q1⟩⟩
/-! ### targets -/
abbrev DG := D → DEnv → Store → OutS
abbrev DGs := List D → DEnv → Store → OutS
def noEnds (Q : L2.St → Hp → Prop) : Ends := { nx := Q, rt := fun _ _ => False }
def tDG (K : PySem.W.Frag) (G : Gx) (W : WX) (f : DG) : TG := fun v σ H Q => ∃ m ρ S d, SR K m H ρ σ ∧ Sim K G m S H ∧ SV K m H d v ∧ SQ K G W (noEnds Q) m H (f d ρ S)
def tDGs (K : PySem.W.Frag) (G : Gx) (W : WX) (f : DGs) : TGs := fun vs σ H Q => ∃ m ρ S ds, SR K m H ρ σ ∧ Sim K G m S H ∧ SVs K m H ds vs ∧ SQ K G W (noEnds Q) m H (f ds ρ S)
abbrev JG (X : Cx) (G : Gx) (W : WX) (tg : Expr) (f : DG) : Prop := PG X tg (tDG X.K G W f)
abbrev JGs (X : Cx) (G : Gx) (W : WX) (tg : List Expr) (f : DGs) : Prop := PGs X tg (tDGs X.K G W f)
theorem PG.imp {tg : Expr} {t t' : TG} (h : PG X tg t) (f : ∀ v σ H Q, t' v σ H Q → t v σ H Q) : PG X tg t' := ⟨fun pins s σ H v u Q I r q => h.run pins s σ H v u Q I r (f v σ H Q q)⟩
theorem PG.or {tg : Expr} {t t' : TG} (h : PG X tg t) (h' : PG X tg t') : PG X tg (fun v σ H Q => t v σ H Q ∨ t' v σ H Q) := ⟨fun pins s σ H v u Q I r q => q.elim (h.run pins s σ H v u Q I r) (h'.run pins s σ H v u Q I r)⟩
theorem PGs.imp {tg : List Expr} {t t' : TGs} (h : PGs X tg t) (f : ∀ v σ H Q, t' v σ H Q → t v σ H Q) : PGs X tg t' := ⟨fun pins s σ H v u Q I r q => h.run pins s σ H v u Q I r (f v σ H Q q)⟩
def gN (i : Nat) : DG := fun d ρ S => .nx (ρ.set i (some d)) S
theorem jg_name (i : Nat) {x : Str} (hN : X.N.Nodup) (hi : X.N[i]? = some x := by rfl) (hx : Loc X.env.scope x := by first | exact Or.inl rfl | exact Or.inr rfl) (hf : X.fn x = true ∨ X.env.scope.names.lookup x = some .local := by first | exact .inl rfl | exact .inr rfl) : JG X G W (.Name x pos) (gN i) :=
  PG.imp (pg_name hN hi hx hf) fun v σ H Q ⟨m, ρ, S, d, sr, sm, r, q⟩ => q _ H m sm.refl sm (sr.set i r)
def gsNil : DGs
  | [], ρ, S => .nx ρ S
  | _, _, _ => .bad
def gsCons (g : DG) (gs : DGs) : DGs
  | d :: ds, ρ, S => (match g d ρ S with
    | .nx ρ1 S1 => gs ds ρ1 S1
    | .exn e ρ1 S1 => .exn e ρ1 S1
    | _ => .bad)
  | _, _, _ => .bad
theorem jgs_nil : JGs X G W [] gsNil := PGs.imp pgs_nil fun vs σ H Q ⟨m, ρ, S, ds, sr, sm, r, q⟩ => by
  cases ds with
  | nil => exact ⟨r, q σ H m sm.refl sm sr⟩
  | cons d ds => exact q.elim
theorem jgs_cons {es : List Expr} {g : DG} {gs : DGs} (h1 : JG X G W e g) (h2 : JGs X G W es gs) (hs : (assignEach (e :: es) X.env).map (·.2) = assign e X.env :: (assignEach es X.env).map (·.2) := by rfl) : JGs X G W (e :: es) (gsCons g gs) :=
  PGs.imp (pgs_cons h1 h2 hs) fun vs σ H Q ⟨m, ρ, S, ds, sr, sm, r, q⟩ => by
    cases ds with
    | nil => exact q.elim
    | cons d ds =>
      obtain ⟨v, vr, rfl, a, b⟩ := (show ∃ v r, vs = v :: r ∧ SV X.K m H d v ∧ SVs X.K m H ds r from r)
      refine ⟨v, vr, rfl, m, ρ, S, d, sr, sm, a, ?_⟩
      unfold gsCons at q
      dsimp only at q
      cases e1 : g d ρ S with
      | nx ρ1 S1 => rw [e1] at q; exact fun σ' H' m' s1 s2 s3 => ⟨m', ρ1, S1, ds, s3, s2, b.mono sm s1, SQ.step q s1⟩
      | exn x ρ1 S1 => rw [e1] at q; exact q
      | rt d S1 => rw [e1] at q; exact q.elim
      | bk ρ1 S1 => rw [e1] at q; exact q.elim
      | ct ρ1 S1 => rw [e1] at q; exact q.elim
      | bad => rw [e1] at q; exact q.elim
def gT (n : Nat) (gs : DGs) : DG := fun d ρ S => match seqAt S d with
  | some xs => if xs.length = n then gs xs ρ S else .bad
  | none => .bad
theorem jg_tup {es : List Expr} {k n : Nat} {gs : DGs} (hc : X.calm = true) (h : JGs X G W es gs) (hn : (assignEach es X.env).length = n := by rfl) (hst : (assignEach es X.env).findIdx? (·.1) = none := by rfl) : JG X G W (.Tuple es k pos) (gT n gs) :=
  PG.imp (PG.or (pg_tup hc h hn hst) (pg_lst hc h hn hst)) fun v σ H Q ⟨m, ρ, S, d, sr, sm, r, q⟩ => by
    unfold gT at q
    split at q
    · rename_i xs e1
      split at q
      · rename_i hl
        obtain ⟨p, vs, rfl, sv, sq⟩ := seqAt_ok sm e1 r
        rcases sq with sq | sq
        · exact .inr ⟨p, vs, rfl, sq, by rw [← sv.len]; exact hl, m, ρ, S, xs, sr, sm, sv, q⟩
        · exact .inl ⟨p, vs, rfl, sq, by rw [← sv.len]; exact hl, m, ρ, S, xs, sr, sm, sv, q⟩
      · exact q.elim
    · exact q.elim
/-- o[i] = v for a list -/
def gIx (fo fi : DE) : DG := fun d ρ S => liftS (fo ρ S) ρ fun o S1 => liftS (fi ρ S1) ρ fun i S2 => match o, i with
  | .obj n, .int k => (match lstAt S2 n with
    | some xs => (match ixN xs.length k with
      | some j => .nx ρ (S2.set n (.lst (xs.set j d)))
      | none => .bad)
    | none => .bad)
  | _, _ => .bad
theorem jg_ix {o i : Expr} {fo fi : DE} (ho : JE X G W o fo) (hi : JE X G W i fi)
    (ha : ∀ v, assign (.Subscript o i pos) X.env v = (do
      let ov ← holding [v] (eval o X.env)
      let iv ← holding [v, ov] (eval i X.env)
      standAt pos
      holding [v, ov, iv] (setItem ov iv v)
      release [v, ov, iv] []) := by intro _; rfl) : JG X G W (.Subscript o i pos) (gIx fo fi) :=
  PG.imp (pg_sub ho hi set_list ha) fun v σ H Q ⟨m, ρ, S, d, sr, sm, r, q⟩ => ⟨m, ρ, S, sr, sm, SQ.then (rel := SV X.K) q sr sm fun x S1 u H1 m1 st1 sm1 r1 q1 => ⟨m1, ρ, S1, sr.mono sm st1, sm1, SQ.then (rel := SV X.K) q1 (sr.mono sm st1) sm1 fun y S2 w H2 m2 st2 sm2 r2 q2 => by
    split at q2
    · rename_i n k
      split at q2
      · rename_i xs e1
        split at q2
        · rename_i j e2
          have r1 := r1.mono sm1 st2
          obtain ⟨a, rfl, hm⟩ := r1
          cases r2
          obtain ⟨a', vs, h1, h2, h3⟩ := lstAt_ok sm2 e1
          rw [hm] at h1; cases h1
          refine ⟨a, vs, k, j, rfl, rfl, h2, by rw [← h3.len]; exact e2, ?_⟩
          have st3 : Step m2 H2 m2 (upd H2 a (.lst (vs.set j v))) := Step.put sm2 hm
          have rd := (r.mono sm st1).mono sm1 st2
          exact q2 σ _ m2 st3 (sm2.put hm ⟨vs.set j v, upd_same, (h3.set rd j).mono sm2 st3⟩) ((sr.mono sm (st1.trans st2)).mono sm2 st3)
        · exact q2.elim
      · exact q2.elim
    · exact q2.elim⟩⟩
def dAsg (fe : DE) (g : DG) : DS := fun ρ S => liftS (fe ρ S) ρ fun d S1 => match g d ρ S1 with
  | .nx ρ1 S2 => .nx ρ1 S2
  | .exn e ρ1 S2 => .exn e ρ1 S2
  | _ => .bad
theorem js_asg {tg : Expr} {g : DG} (he : JE X G W e fe) (hg : JG X G W tg g) (hs : swapsWithSole [tg] e pos.line X.env = pure false := by rfl) (hw : swappedStores [tg] e X.env = pure none := by rfl)
    (h1 : (assignEach [tg] X.env).map (·.2) = [assign tg X.env] := by rfl) : JS X G W (.Assign [tg] e pos) (dAsg fe g) :=
  PS.imp (ps_asg he hg hs hw h1) fun E σ H ⟨m, ρ, S, sr, sm, q⟩ => ⟨m, ρ, S, sr, sm, SQ.then (rel := SV X.K) q sr sm fun d S1 v H1 m1 st1 sm1 r1 q1 => ⟨m1, ρ, S1, d, sr.mono sm st1, sm1, r1, by
    cases e1 : g d ρ S1 with
    | nx ρ1 S2 => rw [e1] at q1; exact q1
    | exn x ρ1 S2 => rw [e1] at q1; exact q1
    | rt d S2 => rw [e1] at q1; exact q1.elim
    | bk ρ1 S2 => rw [e1] at q1; exact q1.elim
    | ct ρ1 S2 => rw [e1] at q1; exact q1.elim
    | bad => rw [e1] at q1; exact q1.elim⟩⟩
/-- name = e -/
theorem js_set (i : Nat) {x : Str} {pos' : Pos} (hN : X.N.Nodup) (he : JE X G W e fe) (hi : X.N[i]? = some x := by rfl) (hx : Loc X.env.scope x := by first | exact Or.inl rfl | exact Or.inr rfl) (hs : swapsWith e (some (.Name x pos')) pos.line X.env = pure false := by rfl)
    (hf : X.fn x = true ∨ X.env.scope.names.lookup x = some .local := by first | exact .inl rfl | exact .inr rfl) : JS X G W (.Assign [.Name x pos'] e pos) (dAsg fe (gN i)) :=
  PS.imp (ps_set hN hi hx he hs hf) fun E σ H ⟨m, ρ, S, sr, sm, q⟩ => ⟨m, ρ, S, sr, sm, SQ.then (rel := SV X.K) q sr sm fun d S1 v H1 m1 st1 sm1 r1 q1 => q1 _ H1 m1 sm1.refl sm1 ((sr.mono sm st1).set i r1)⟩
/-- a, b = x, y of plain locals -/
def dPar2 (i j : Nat) (fr : DA) : DS := fun ρ S => liftS (fr ρ S) ρ fun ds S1 => match ds with
  | [d, e] => .nx ((ρ.set i (some d)).set j (some e)) S1
  | _ => .bad
def dPar3 (i j l : Nat) (fr : DA) : DS := fun ρ S => liftS (fr ρ S) ρ fun ds S1 => match ds with
  | [d, e, g] => .nx (((ρ.set i (some d)).set j (some e)).set l (some g)) S1
  | _ => .bad
theorem js_par2 (i j : Nat) {x y : Str} {a b : Expr} {fr : DA} {px py pt : Pos} {kt k2 pt2} (hc : X.calm = true) (hN : X.N.Nodup) (ha : JA X G W [a, b] fr) (hi : X.N[i]? = some x := by rfl) (hj : X.N[j]? = some y := by rfl) (hij : i ≠ j := by decide)
    (hx : X.env.scope.names.lookup x = some .local := by rfl) (hy : X.env.scope.names.lookup y = some .local := by rfl)
    (hw : swappedStores [.Tuple [.Name x px, .Name y py] kt pt] (.Tuple [a, b] k2 pt2) X.env = pure (some [x, y]) := by rfl)
    (hs : swapsWithSole [.Tuple [.Name x px, .Name y py] kt pt] (.Tuple [a, b] k2 pt2) pos.line X.env = pure false := by rfl) : JS X G W (.Assign [.Tuple [.Name x px, .Name y py] kt pt] (.Tuple [a, b] k2 pt2) pos) (dPar2 i j fr) :=
  PS.imp (ps_par hc hN hi hj hij hx hy ha hw hs) fun E σ H ⟨m, ρ, S, sr, sm, q⟩ => ⟨m, ρ, S, sr, sm, SQ.then (rel := SVs X.K) q sr sm fun ds S1 vs H1 m1 st1 sm1 r1 q1 => by
    split at q1
    · rename_i d e
      obtain ⟨v, u, rfl, rv, ru⟩ := svs2 r1
      exact ⟨v, u, rfl, q1 _ H1 m1 sm1.refl sm1 (((sr.mono sm st1).set i rv).set j ru)⟩
    · exact q1.elim⟩
theorem js_par3 (i j l : Nat) {x y z : Str} {a b c : Expr} {fr : DA} {px py pz pt : Pos} {kt k2 pt2} (hc : X.calm = true) (hN : X.N.Nodup) (ha : JA X G W [a, b, c] fr) (hi : X.N[i]? = some x := by rfl) (hj : X.N[j]? = some y := by rfl) (hl : X.N[l]? = some z := by rfl)
    (hij : i ≠ j := by decide) (hil : i ≠ l := by decide) (hjl : j ≠ l := by decide)
    (hx : X.env.scope.names.lookup x = some .local := by rfl) (hy : X.env.scope.names.lookup y = some .local := by rfl) (hz : X.env.scope.names.lookup z = some .local := by rfl)
    (hw : swappedStores [.Tuple [.Name x px, .Name y py, .Name z pz] kt pt] (.Tuple [a, b, c] k2 pt2) X.env = pure (some [x, y, z]) := by rfl)
    (hs : swapsWithSole [.Tuple [.Name x px, .Name y py, .Name z pz] kt pt] (.Tuple [a, b, c] k2 pt2) pos.line X.env = pure false := by rfl) : JS X G W (.Assign [.Tuple [.Name x px, .Name y py, .Name z pz] kt pt] (.Tuple [a, b, c] k2 pt2) pos) (dPar3 i j l fr) :=
  PS.imp (ps_par3 hc hN hi hj hl hij hil hjl hx hy hz ha hw hs) fun E σ H ⟨m, ρ, S, sr, sm, q⟩ => ⟨m, ρ, S, sr, sm, SQ.then (rel := SVs X.K) q sr sm fun ds S1 vs H1 m1 st1 sm1 r1 q1 => by
    split at q1
    · rename_i d e g
      obtain ⟨v, r, rfl, rv, r1⟩ := r1
      obtain ⟨u, w, rfl, ru, rw'⟩ := svs2 r1
      exact ⟨v, u, w, rfl, q1 _ H1 m1 sm1.refl sm1 ((((sr.mono sm st1).set i rv).set j ru).set l rw')⟩
    · exact q1.elim⟩
/-- o.f = e -/
def dPutF (cs : List String) (f : Str) (fo fe : DE) : DS := fun ρ S => liftS (fe ρ S) ρ fun d S1 => liftS (fo ρ S1) ρ fun o S2 => match o, insAt S2 o with
  | .obj n, some (c, fs) => if c ∈ cs ∧ fs.length < 1000 then .nx ρ (S2.set n (.ins c (putD f d fs))) else .bad
  | _, _ => .bad
theorem js_fld {cs : List String} {f : Str} {o : Expr} {fo : DE} {pos' : Pos} (hC : ∀ c ∈ cs, Cls X.K (G.cA c) ∧ NoAttr X.K (G.cA c) f) (ho : JE X G W o fo) (he : JE X G W e fe) (hs : swapsWith e (some (.Attribute o f pos')) pos.line X.env = pure false := by rfl) :
    JS X G W (.Assign [.Attribute o f pos'] e pos) (dPutF cs f fo fe) :=
  PS.imp (ps_fld ho he hs) fun E σ H ⟨m, ρ, S, sr, sm, q⟩ => ⟨m, ρ, S, sr, sm, SQ.then (rel := SV X.K) q sr sm fun d S1 v H1 m1 st1 sm1 r1 q1 => ⟨m1, ρ, S1, sr.mono sm st1, sm1, SQ.then (rel := SV X.K) q1 (sr.mono sm st1) sm1 fun x S2 u H2 m2 st2 sm2 r2 q2 => by
    split at q2
    · rename_i n c fs e1
      split at q2
      · rename_i hc
        obtain ⟨n', p, dx, vfs, en, rfl, hm, hoo, hf⟩ := insAt_ok sm2 e1 r2
        cases en
        refine ⟨p, G.cA c, dx, vfs, rfl, hoo, (hC c hc.1).1, (hC c hc.1).2, by rw [← hf.len]; exact hc.2, ?_⟩
        have st3 : Step m2 H2 m2 (upd H2 p (.ins (G.cA c) dx (putF f v vfs))) := Step.put sm2 hm
        exact q2 σ _ m2 st3 (sm2.put hm ⟨dx, _, upd_same, (hf.put (r1.mono sm1 st2)).mono sm2 st3⟩) ((sr.mono sm (st1.trans st2)).mono sm2 st3)
      · exact q2.elim
    · exact q2.elim⟩⟩
/-- name op= e -/
def dAug (i : Nat) (g : D2) (fe : DE) : DS := fun ρ S => match ρ[i]? with
  | some (some x) => liftS (fe ρ S) ρ fun y S1 => (match g x y S1 with
    | some (d, S2) => .nx (ρ.set i (some d)) S2
    | none => .bad)
  | _ => .bad
theorem js_aug (i : Nat) {x : Str} {op : Operator} {g : D2} {pos' : Pos} (hN : X.N.Nodup) (ho : JOp X G (inplaceOp op) g) (he : JE X G W e fe) (hi : X.N[i]? = some x := by rfl) (hx : Loc X.env.scope x := by first | exact Or.inl rfl | exact Or.inr rfl)
    (hf : X.fn x = true ∨ X.env.scope.names.lookup x = some .local := by first | exact .inl rfl | exact .inr rfl) : JS X G W (.AugAssign (.Name x pos') op e pos) (dAug i g fe) :=
  PS.imp (ps_aug hN hi hx he ho hf) fun E σ H ⟨m, ρ, S, sr, sm, q⟩ => by
    unfold dAug at q
    split at q
    · rename_i d e1
      obtain ⟨v, h1, h2⟩ := sr.2 i d e1
      refine ⟨v, h1, m, ρ, S, sr, sm, SQ.then (rel := SV X.K) q sr sm fun y S1 u H1 m1 st1 sm1 r1 q1 => ?_⟩
      split at q1
      · rename_i d2 S2 e2
        exact ⟨m1, S1, d, y, d2, S2, sm1, h2.mono sm st1, r1, e2, fun w H' m' a b c => q1 _ H' m' a b ((sr.mono sm (st1.trans a)).set i c)⟩
      · exact q1.elim
    · exact q.elim
def imulD : D2
  | .int i, .int j, S => if i.natAbs.log2 + j.natAbs.log2 < 1000000 then some (.int (i * j), S) else none
  | _, _, _ => none
def iaddD : D2
  | .int i, .int j, S => some (.int (i + j), S)
  | .str x, .str y, S => if x.length + y.length ≤ 1000000 then some (.str (x ++ y), S) else none
  | _, _, _ => none
def isubD : D2
  | .int i, .int j, S => some (.int (i - j), S)
  | _, _, _ => none
theorem iop_mulW : OpR X (inplaceOp .Mult) (rI CMulW fun i j => .int (i * j)) := opI fun _ _ _ _ _ _ _ hc q => imul_int q hc.ok
theorem jip_mul : JOp X G (inplaceOp .Mult) imulD := by
  refine OpR.imp iop_mulW fun x y H Q ⟨m, S, a, b, d, S', sm, ra, rb, e, k⟩ => ?_
  unfold imulD at e
  split at e
  · rename_i S i j
    split at e
    · rename_i hz
      cases e; cases ra; cases rb
      exact ⟨i, j, rfl, rfl, hz, k _ H m sm.refl sm rfl⟩
    · cases e
  · cases e
theorem jip_add : JOp X G (inplaceOp .Add) iaddD := by
  refine OpR.imp (OpR.or iop_add iop_add_str) fun x y H Q ⟨m, S, a, b, d, S', sm, ra, rb, e, k⟩ => ?_
  unfold iaddD at e
  split at e
  · rename_i S i j
    cases e; cases ra; cases rb
    exact .inl ⟨i, j, rfl, rfl, k _ H m sm.refl sm rfl⟩
  · rename_i S i j
    split at e
    · rename_i hz
      cases e; cases ra; cases rb
      exact .inr ⟨i, j, rfl, rfl, size6 hz, k _ H m sm.refl sm rfl⟩
    · cases e
  · cases e
theorem jip_sub : JOp X G (inplaceOp .Sub) isubD := by
  refine OpR.imp iop_sub fun x y H Q ⟨m, S, a, b, d, S', sm, ra, rb, e, k⟩ => ?_
  unfold isubD at e
  split at e
  · rename_i S i j
    cases e; cases ra; cases rb
    exact ⟨i, j, rfl, rfl, k _ H m sm.refl sm rfl⟩
  · cases e
/-- raise C('m') -/
def dRaise (c : String) : DS := fun ρ S => .exn ⟨c⟩ ρ S
theorem js_raise {c : String} {bmB : List Value} {B newId initId : String} {x ms : Str} {j : Nat} {p p2 pos1 : Pos} (hc : X.calm = true) (tk : Takes X W) (F : ExcBaseFacts B newId initId bmB) (q : PySem.W.excIn X.K (G.cA c) bmB newId = true) (gC : X.mg x = some (.ref (G.cA c)))
    (kC : PySem.W.keepIn X.K (.ref (G.cA c)) = true) (r : Raises X (.ref (G.cA c))) (hg : Gl X x := by rfl) (hdb : (x == ("__debug__" : Str)) = false := by decide) : JS X G W (.Raise (some (.Call (.Name x p) [.Constant (.str ms) j p2] [] pos1)) none pos) (dRaise c) :=
  PS.imp (ps_raise hc tk (pmk_own F q gC kC r hg hdb)) fun E σ H ⟨m, ρ, S, sr, sm, q⟩ => q _ _ σ H m sm.refl sm sr rfl
/-! ### while -/
def whileD (c : DT) (f : DS) : Nat → DS
  | 0, _, _ => .bad
  | n + 1, ρ, S => liftS (c ρ S) ρ fun b S1 => if b = true then (match f ρ S1 with
    | .nx ρ2 S2 => whileD c f n ρ2 S2
    | .ct ρ2 S2 => whileD c f n ρ2 S2
    | .bk ρ2 S2 => .nx ρ2 S2
    | o => o) else .nx ρ S1
def fuel : Nat := 1000000
theorem js_while {c : Expr} {body : List Stmt} {dc : DT} (hp : PassesOwn (model X.prog X.w) X.A X.env X.xe) (hc : JT X G W c dc) (hb : JSs X G W body f) : JS X G W (.While c body [] pos) (whileD dc f fuel) :=
  PS.imp (ps_while hp hc hb) fun E σ H ⟨m, ρ, S, sr, sm, q⟩ => by
    refine ⟨fun n σ H => ∃ m ρ S, SR X.K m H ρ σ ∧ Sim X.K G m S H ∧ SQ X.K G W E m H (whileD dc f n ρ S), ⟨fuel, m, ρ, S, sr, sm, q⟩, ?_⟩
    rintro n σ H ⟨m, ρ, S, sr, sm, q⟩
    cases n with
    | zero => exact q.elim
    | succ n =>
      refine ⟨m, ρ, S, sr, sm, SQ.then (rel := eqR) q sr sm fun b S1 b' H1 m1 st1 sm1 r1 q1 => ?_⟩
      cases r1
      cases b with
      | false => exact q1 σ H1 m1 sm1.refl sm1 (sr.mono sm st1)
      | true =>
        refine ⟨fun σ H => ∃ m ρ S, SR X.K m H ρ σ ∧ Sim X.K G m S H ∧ SQ X.K G W E m H (whileD dc f n ρ S), fun σ' H' h => ⟨n, Nat.lt_succ_self _, h⟩, m1, ρ, S1, sr.mono sm st1, sm1, ?_⟩
        have q2 : SQ X.K G W E m1 H1 (match f ρ S1 with
          | .nx ρ2 S2 => whileD dc f n ρ2 S2
          | .ct ρ2 S2 => whileD dc f n ρ2 S2
          | .bk ρ2 S2 => .nx ρ2 S2
          | o => o) := q1
        cases e1 : f ρ S1 with
        | nx ρ2 S2 => rw [e1] at q2; exact fun σ' H' m' a b c => ⟨m', ρ2, S2, c, b, SQ.step q2 a⟩
        | ct ρ2 S2 => rw [e1] at q2; exact fun σ' H' m' a b c => ⟨m', ρ2, S2, c, b, SQ.step q2 a⟩
        | bk ρ2 S2 => rw [e1] at q2; exact q2
        | rt d S2 => rw [e1] at q2; exact q2
        | exn x ρ2 S2 => rw [e1] at q2; exact q2
        | bad => rw [e1] at q2; exact q2
end
end DL
set_option Elab.async false
set_option linter.all false
set_option maxRecDepth 100000
set_option maxHeartbeats 2000000
namespace DL
open PySem PySem.Spec PyProof.Rows L2
/-! ### equality of data, for guards -/
mutual
def D.beq : D → D → Bool
  | .non, .non => true
  | .bl a, .bl b => a == b
  | .int a, .int b => a == b
  | .str a, .str b => decide (a = b)
  | .tup a, .tup b => D.beqs a b
  | .fl a, .fl b => D.beqs a b
  | .obj a, .obj b => a == b
  | _, _ => false
def D.beqs : List D → List D → Bool
  | [], [] => true
  | a :: as, b :: bs => D.beq a b && D.beqs as bs
  | _, _ => false
end
mutual
theorem D.beq_eq : ∀ (a b : D), D.beq a b = true → a = b
  | .non, .non, _ => rfl
  | .bl a, .bl b, h => by simp [D.beq] at h; rw [h]
  | .int a, .int b, h => by simp [D.beq] at h; rw [h]
  | .str a, .str b, h => by simp [D.beq] at h; rw [h]
  | .tup a, .tup b, h => by simp only [D.beq] at h; rw [D.beqs_eq a b h]
  | .fl a, .fl b, h => by simp only [D.beq] at h; rw [D.beqs_eq a b h]
  | .obj a, .obj b, h => by simp [D.beq] at h; rw [h]
  | .non, .bl _, h | .non, .int _, h | .non, .str _, h | .non, .tup _, h | .non, .fl _, h | .non, .obj _, h => by simp [D.beq] at h
  | .bl _, .non, h | .bl _, .int _, h | .bl _, .str _, h | .bl _, .tup _, h | .bl _, .fl _, h | .bl _, .obj _, h => by simp [D.beq] at h
  | .int _, .non, h | .int _, .bl _, h | .int _, .str _, h | .int _, .tup _, h | .int _, .fl _, h | .int _, .obj _, h => by simp [D.beq] at h
  | .str _, .non, h | .str _, .bl _, h | .str _, .int _, h | .str _, .tup _, h | .str _, .fl _, h | .str _, .obj _, h => by simp [D.beq] at h
  | .tup _, .non, h | .tup _, .bl _, h | .tup _, .int _, h | .tup _, .str _, h | .tup _, .fl _, h | .tup _, .obj _, h => by simp [D.beq] at h
  | .fl _, .non, h | .fl _, .bl _, h | .fl _, .int _, h | .fl _, .str _, h | .fl _, .tup _, h | .fl _, .obj _, h => by simp [D.beq] at h
  | .obj _, .non, h | .obj _, .bl _, h | .obj _, .int _, h | .obj _, .str _, h | .obj _, .tup _, h | .obj _, .fl _, h => by simp [D.beq] at h
theorem D.beqs_eq : ∀ (a b : List D), D.beqs a b = true → a = b
  | [], [], _ => rfl
  | a :: as, b :: bs, h => by simp only [D.beqs, Bool.and_eq_true] at h; rw [D.beq_eq a b h.1, D.beqs_eq as bs h.2]
  | [], _ :: _, h => by simp [D.beqs] at h
  | _ :: _, [], h => by simp [D.beqs] at h
end
mutual
theorem D.beq_refl : ∀ (a : D), D.beq a a = true
  | .non => rfl
  | .bl a => by simp [D.beq]
  | .int a => by simp [D.beq]
  | .str a => by simp [D.beq]
  | .tup a => by simp only [D.beq]; exact D.beqs_refl a
  | .fl a => by simp only [D.beq]; exact D.beqs_refl a
  | .obj a => by simp [D.beq]
theorem D.beqs_refl : ∀ (a : List D), D.beqs a a = true
  | [] => rfl
  | a :: as => by simp only [D.beqs, Bool.and_eq_true]; exact ⟨D.beq_refl a, D.beqs_refl as⟩
end
/-! ### what a loop walks -/
structure Src where
  items : List D
  grd : Store → Bool
def SrcOk (K : PySem.W.Frag) (G : Gx) (m1 : List Addr) (H1 : Hp) (src : Src) (J : It) : Prop :=
  Walk J src.items.length (fun H' => ∃ m' S', Step m1 H1 m' H' ∧ Sim K G m' S' H' ∧ src.grd S' = true)
    (fun i H' x H'' => ∀ m' S', Step m1 H1 m' H' → Sim K G m' S' H' → src.grd S' = true → ∃ d, src.items[i]? = some d ∧ Step m' H' m' H'' ∧ Sim K G m' S' H'' ∧ SV K m' H'' d x)
abbrev DI := DEnv → Store → Out Src
def tDI (K : PySem.W.Frag) (G : Gx) (W : WX) (f : DI) : TI := fun σ H R => ∃ m ρ S, SR K m H ρ σ ∧ Sim K G m S H ∧ EO K G (SrcOk K G) R (fun c d H' => W c d σ H') m H (f ρ S)
abbrev JI (X : Cx) (G : Gx) (W : WX) (tg iter : Expr) (f : DI) : Prop := PI X tg iter (tDI X.K G W f)
theorem PI.imp {X : Cx} {tg iter : Expr} {t t' : TI} (h : PI X tg iter t) (f : ∀ σ H R, t' σ H R → t σ H R) : PI X tg iter t' := ⟨fun pins s σ H R I q => h.run pins s σ H R I (f σ H R q)⟩
def grdT : Store → Bool := fun _ => true
def grdL (n : Nat) (xs : List D) : Store → Bool := fun S => match lstAt S n with
  | some ys => D.beqs xs ys
  | none => false
theorem grdL_ok {S : Store} {n : Nat} {xs : List D} (h : grdL n xs S = true) : lstAt S n = some xs := by
  unfold grdL at h
  split at h
  · rename_i ys e
    rw [D.beqs_eq xs ys h]; exact e
  · cases h
def srcOf (d : D) (S : Store) : Option (Src × Store) := match d with
  | .tup xs => some (⟨xs, grdT⟩, S)
  | .fl xs => some (⟨xs, grdT⟩, S)
  | .obj n => (lstAt S n).map fun xs => (⟨xs, grdL n xs⟩, S)
  | _ => none
def diSeq (fe : DE) : DI := fun ρ S => (fe ρ S).bind fun d S1 => optO (srcOf d S1)
section
variable {K : PySem.W.Frag} {G : Gx} {m1 : List Addr} {H1 : Hp} {S1 : Store}
/-- items that stand still, read by place -/
theorem srcOk_of {xs : List D} {grd : Store → Bool} {J : It} {ws : List V} (sm : Sim K G m1 S1 H1) (sv : SVs K m1 H1 xs ws) (w : Walk J ws.length (fun H' => ∃ m' S', Step m1 H1 m' H' ∧ Sim K G m' S' H' ∧ grd S' = true) (YAt ws)) : SrcOk K G m1 H1 ⟨xs, grd⟩ J := by
  show Walk J xs.length _ _
  rw [sv.len]
  refine ⟨w.goes, w.stops, fun i H' x H'' hi hG hy m' S' st sm' hg' => ?_⟩
  obtain ⟨e, hx⟩ := w.yields i H' x H'' hi hG hy
  subst e
  have hi' : i < xs.length := by rw [sv.len]; exact hi
  obtain ⟨v, h1, h2⟩ := sv.get (i := i) (d := xs[i]) (by simp [hi'])
  rw [hx] at h1
  cases h1
  exact ⟨xs[i], by simp [hi'], sm'.refl, sm', h2.mono sm st⟩
theorem srcOk_lst {xs : List D} {ws : List V} {a : Addr} {n : Nat} (sm : Sim K G m1 S1 H1) (hm : m1[n]? = some a) (e : H1 a = some (.lst ws)) (sv : SVs K m1 H1 xs ws) : SrcOk K G m1 H1 ⟨xs, grdL n xs⟩ (Itl K a) := by
  have key : ∀ H' m' S', Step m1 H1 m' H' → Sim K G m' S' H' → grdL n xs S' = true → ∃ (us : List V), H' a = some (.lst us) ∧ SVs K m' H' xs us := by
    intro H' m' S' st sm' hg
    obtain ⟨a', us, h1, h2, h3⟩ := lstAt_ok sm' (grdL_ok hg)
    rw [st.get hm] at h1; cases h1
    exact ⟨us, h2, h3⟩
  show Walk (Itl K a) xs.length _ _
  refine ⟨fun i H' hi ⟨m', S', st, sm', hg⟩ => ?_, fun H' ⟨m', S', st, sm', hg⟩ => ?_, fun i H' x H'' hi _ hy m' S' st sm' hg => ?_⟩
  · obtain ⟨us, h2, h3⟩ := key H' m' S' st sm' hg
    exact ⟨us, us[i]'(by rw [← h3.len]; exact hi), SqL.of h2, by simp⟩
  · obtain ⟨us, h2, h3⟩ := key H' m' S' st sm' hg
    exact ⟨us, SqL.of h2, by rw [h3.len]; exact Nat.le_refl _⟩
  · obtain ⟨us, h2, h3⟩ := key H' m' S' st sm' hg
    obtain ⟨e', hx⟩ := hy
    subst e'
    have hx := hx us (SqL.of h2)
    obtain ⟨v, h4, h5⟩ := h3.get (i := i) (d := xs[i]) (by simp [hi])
    rw [hx] at h4; cases h4
    exact ⟨xs[i], by simp [hi], sm'.refl, sm', h5⟩
theorem sqF_walk {xs : List V} {a : Addr} (sm : Sim K G m1 S1 H1) (h : SqF K H1 a xs) {grd : Store → Bool} : Walk (Itl K a) xs.length (fun H' => ∃ m' S', Step m1 H1 m' H' ∧ Sim K G m' S' H' ∧ grd S' = true) (YAt xs) :=
  (walk_list (K := K) (a := a) (xs := xs)).mono (fun H' ⟨m', S', st, _, _⟩ => (sqF_step sm st h).l) fun _ _ _ _ _ _ y => y
theorem sqT_walk {xs : List V} {a : Addr} (sm : Sim K G m1 S1 H1) (h : SqT K H1 a xs) {grd : Store → Bool} : Walk (Itt K a) xs.length (fun H' => ∃ m' S', Step m1 H1 m' H' ∧ Sim K G m' S' H' ∧ grd S' = true) (YAt xs) :=
  (walk_tup (K := K) (a := a) (xs := xs)).mono (fun H' ⟨m', S', st, _, _⟩ => sqT_step sm st h) fun _ _ _ _ _ _ y => y
/-- numbers -/
def rngD (lo c : Int) (n : Nat) : List D := (List.range n).map fun (i : Nat) => D.int (lo + (i : Int) * c)
theorem srcOk_fn {J : It} {f : Nat → Int} {n : Nat} {xs : List D} (hl : xs.length = n) (hx : ∀ i, i < n → xs[i]? = some (.int (f i))) (w : Walk J n (fun _ => True) (YFn fun i => .int (f i))) : SrcOk K G m1 H1 ⟨xs, grdT⟩ J := by
  show Walk J xs.length _ _
  rw [hl]
  refine ⟨fun i H hi _ => w.goes i H hi trivial, fun H _ => w.stops H trivial, fun i H' x H'' hi _ hy m' S' st sm' _ => ?_⟩
  obtain ⟨e, hx'⟩ := w.yields i H' x H'' hi trivial hy
  subst e
  exact ⟨.int (f i), hx i hi, sm'.refl, sm', hx'⟩
end
section
variable {X : Cx} {G : Gx} {W : WX} {tg e : Expr} {fe : DE} {p pos : Pos}
/-- a list or a tuple, by its value -/
theorem pi_seq {l : Expr} {tl : TE} (hl : PE X l tl) : PI X tg l (fun σ H R => tl σ H fun x H1 => ∃ a, x = .ref a ∧ ((∃ xs, SqL X.K H1 a xs) ∧ R (Itl X.K a) H1 ∨ (∃ xs, SqT X.K H1 a xs) ∧ R (Itt X.K a) H1)) := by
  refine ⟨fun pins s σ H R I h => ?_⟩
  refine thn (hl.run pins s σ H _ I h) fun v s1 ⟨x, H1, I1, r1, q1⟩ => ?_
  obtain ⟨a, e, hq⟩ := q1
  subst e
  cases r1
  rcases hq with ⟨⟨xs, hq⟩, q⟩ | ⟨⟨xs, hq⟩, q⟩
  · obtain ⟨its, rv, p, hz⟩ := I1.list hq
    refine wpAny_pyIter_list p.isList ?_
    refine ⟨s1.heap.objs.size, [s1.heap.objs.size], _, _, H1, rfl, I1.kept (t' := s1.toks) fun b o e => Heap.get?_push_of_some _ e, turn_list a _, ⟨_, Heap.get?_push_size _ rfl, rfl, rfl⟩, fun b hb => ?_, q⟩
    have e : b = s1.heap.objs.size := by simpa using hb
    subst e
    exact I1.fpOk (Nat.le_refl _) (I1.hok.fresh (Nat.le_refl _))
  · obtain ⟨its, rv, p, hz⟩ := I1.tuple hq
    refine wpAny_pyIter_tuple (show s1.heap.IsTuple a its.toArray from p) ?_
    refine ⟨s1.heap.objs.size, [s1.heap.objs.size], _, _, H1, rfl, I1.kept (t' := s1.toks) fun b o e => Heap.get?_push_of_some _ e, turn_tuple a _, ⟨_, Heap.get?_push_size _ rfl, rfl, rfl⟩, fun b hb => ?_, q⟩
    have e : b = s1.heap.objs.size := by simpa using hb
    subst e
    exact I1.fpOk (Nat.le_refl _) (I1.hok.fresh (Nat.le_refl _))
theorem ji_seq (he : JE X G W e fe) : JI X G W tg e (diSeq fe) :=
  PI.imp (pi_seq he) fun σ H R ⟨m, ρ, S, sr, sm, eo⟩ => ⟨m, ρ, S, sr, sm, EO.then (rel := SV X.K) eo fun d S1 v H1 m1 st1 sm1 r1 eo1 => by
    cases d with
    | tup xs =>
      obtain ⟨a, vs, rfl, q, r⟩ := r1
      exact ⟨a, rfl, .inr ⟨⟨vs, q⟩, eo1 _ H1 m1 sm1.refl sm1 (srcOk_of sm1 r (sqT_walk sm1 q))⟩⟩
    | fl xs =>
      obtain ⟨a, vs, rfl, q, r⟩ := r1
      exact ⟨a, rfl, .inl ⟨⟨vs, q.l⟩, eo1 _ H1 m1 sm1.refl sm1 (srcOk_of sm1 r (sqF_walk sm1 q))⟩⟩
    | obj n =>
      unfold srcOf at eo1
      dsimp only at eo1
      cases z : lstAt S1 n with
      | none => rw [z] at eo1; exact eo1.elim
      | some xs =>
        rw [z] at eo1
        obtain ⟨a, rfl, hm⟩ := r1
        obtain ⟨a', vs, h1, h2, h3⟩ := lstAt_ok sm1 z
        rw [hm] at h1; cases h1
        exact ⟨a, rfl, .inl ⟨⟨vs, SqL.of h2⟩, eo1 _ H1 m1 sm1.refl sm1 (srcOk_lst sm1 hm h2 h3)⟩⟩
    | _ => exact eo1.elim⟩
def diRange1 (fe : DE) : DI := fun ρ S => (fe ρ S).bind fun d S1 => match d with
  | .int j => if -1000000000000 ≤ j ∧ j ≤ 1000000000000 then .ok ⟨rngD 0 1 j.toNat, grdT⟩ S1 else .bad
  | _ => .bad
def diRange2 (fa fb : DE) : DI := fun ρ S => (fa ρ S).bind fun d S1 => (fb ρ S1).bind fun e S2 => match d, e with
  | .int i, .int j => if (-1000000000000 ≤ i ∧ i ≤ 1000000000000) ∧ -1000000000000 ≤ j ∧ j ≤ 1000000000000 then .ok ⟨rngD i 1 (j - i).toNat, grdT⟩ S2 else .bad
  | _, _ => .bad
def diRev1 (fe : DE) : DI := fun ρ S => (fe ρ S).bind fun d S1 => match d with
  | .int j => if -1000000000000 ≤ j ∧ j ≤ 1000000000000 then .ok ⟨rngD (j - 1) (-1) j.toNat, grdT⟩ S1 else .bad
  | _ => .bad
theorem rngD_len (lo c : Int) (n : Nat) : (rngD lo c n).length = n := by simp [rngD]
theorem rngD_at (lo c : Int) (n i : Nat) (h : i < n) : (rngD lo c n)[i]? = some (.int (lo + (i : Int) * c)) := by simp [rngD, h]
theorem ji_range1 (hm : X.mg "range" = none) (he : JE X G W e fe) (hg : Gl X "range" := by rfl) (hs : starEach [e] X.env = [(false, eval e X.env)] := by rfl) : JI X G W tg (.Call (.Name "range" p) [e] [] pos) (diRange1 fe) :=
  PI.imp (pi_range1 hg hm (ja_cons he ja_nil hs) hs) fun σ H R ⟨m, ρ, S, sr, sm, eo⟩ => ⟨m, ρ, S, sr, sm, by
    unfold daCons daNil
    unfold diRange1 at eo
    cases z : fe ρ S with
    | bad => rw [z] at eo; exact eo.elim
    | exn x S1 => rw [z] at eo; exact eo
    | ok d S1 =>
      rw [z] at eo
      simp only [Out.bind_ok] at eo ⊢
      intro vs H1 m1 st1 sm1 r1
      have eo1 := eo.step st1
      obtain ⟨v, rfl, rv⟩ := svs1 r1
      split at eo1
      · rename_i j
        split at eo1
        · rename_i hz
          cases rv
          exact ⟨j, rfl, by omega, by omega, eo1 _ H1 m1 sm1.refl sm1 (srcOk_fn (rngD_len _ _ _) (fun i hi => by rw [rngD_at _ _ _ _ hi, Int.mul_one]) walk_range)⟩
        · exact eo1.elim
      · exact eo1.elim⟩
theorem ji_range2 {a b : Expr} {fa fb : DE} (hm : X.mg "range" = none) (ha : JE X G W a fa) (hb : JE X G W b fb) (hg : Gl X "range" := by rfl) (hs : starEach [a, b] X.env = [(false, eval a X.env), (false, eval b X.env)] := by rfl) (hs2 : starEach [b] X.env = [(false, eval b X.env)] := by rfl)
    (h1 : starEach (a :: [b]) X.env = (false, eval a X.env) :: starEach [b] X.env := by rfl) : JI X G W tg (.Call (.Name "range" p) [a, b] [] pos) (diRange2 fa fb) :=
  PI.imp (pi_range2 hg hm (ja_cons ha (ja_cons hb ja_nil hs2) h1) hs hs2) fun σ H R ⟨m, ρ, S, sr, sm, eo⟩ => ⟨m, ρ, S, sr, sm, by
    unfold daCons daNil
    unfold diRange2 at eo
    cases z : fa ρ S with
    | bad => rw [z] at eo; exact eo.elim
    | exn x S1 => rw [z] at eo; exact eo
    | ok d S1 =>
      rw [z] at eo
      simp only [Out.bind_ok] at eo ⊢
      cases z2 : fb ρ S1 with
      | bad => rw [z2] at eo; exact eo.elim
      | exn x S1 => rw [z2] at eo; exact eo
      | ok d2 S2 =>
        rw [z2] at eo
        simp only [Out.bind_ok] at eo ⊢
        intro vs H1 m1 st1 sm1 r1
        have eo1 := eo.step st1
        obtain ⟨v, u, rfl, rv, ru⟩ := svs2 r1
        split at eo1
        · rename_i i j
          split at eo1
          · rename_i hz
            cases rv; cases ru
            exact ⟨i, j, rfl, ⟨by omega, by omega, by omega, by omega⟩, eo1 _ H1 m1 sm1.refl sm1 (srcOk_fn (rngD_len _ _ _) (fun i hi => by rw [rngD_at _ _ _ _ hi, Int.mul_one]) walk_range)⟩
          · exact eo1.elim
        · exact eo1.elim⟩
theorem ji_rev1 {p2 pos2 : Pos} (hm : X.mg "reversed" = none) (hm2 : X.mg "range" = none) (he : JE X G W e fe) (hg : Gl X "reversed" := by rfl) (hg2 : Gl X "range" := by rfl) (hs : starEach [e] X.env = (false, eval e X.env) :: starEach [] X.env := by rfl)
    (hs2 : starEach [.Call (.Name "range" p2) [e] [] pos2] X.env = (false, eval (.Call (.Name "range" p2) [e] [] pos2) X.env) :: starEach [] X.env := by rfl) :
    JI X G W tg (.Call (.Name "reversed" p) [.Call (.Name "range" p2) [e] [] pos2] [] pos) (diRev1 fe) :=
  PI.imp (pi_revR hg hm (prg_1 hg2 hm2 he hs) hs2) fun σ H R ⟨m, ρ, S, sr, sm, eo⟩ => ⟨m, ρ, S, sr, sm, EO.then (rel := SV X.K) eo fun d S1 v H1 m1 st1 sm1 r1 eo1 => by
    split at eo1
    · rename_i j
      split at eo1
      · rename_i hz
        cases r1
        refine ⟨j, rfl, by omega, by omega, by omega, by omega, eo1 _ H1 m1 sm1.refl sm1 ?_⟩
        rw [Int.sub_zero, Int.zero_add]
        refine srcOk_fn (f := fun (i : Nat) => ((j.toNat : Nat) : Int) - 1 + (i : Int) * (-1)) (rngD_len _ _ _) (fun i hi => ?_) walk_rangeC
        rw [rngD_at _ _ _ _ hi]
        have : ((j.toNat : Nat) : Int) = j := by omega
        rw [this]
      · exact eo1.elim
    · exact eo1.elim⟩
/-! ### for -/
def forD (grd : Store → Bool) (g : DG) (f : DS) : List D → DS
  | [], ρ, S => if grd S = true then .nx ρ S else .bad
  | d :: ds, ρ, S => if grd S = true then (match g d ρ S with
    | .nx ρ1 S1 => (match f ρ1 S1 with
      | .nx ρ2 S2 => forD grd g f ds ρ2 S2
      | .ct ρ2 S2 => forD grd g f ds ρ2 S2
      | .bk ρ2 S2 => .nx ρ2 S2
      | o => o)
    | .exn e ρ1 S1 => .exn e ρ1 S1
    | _ => .bad) else .bad
def dFor (fi : DI) (g : DG) (f : DS) : DS := fun ρ S => liftS (fi ρ S) ρ fun src S1 => forD src.grd g f src.items ρ S1
theorem forD_grd {K : PySem.W.Frag} {G : Gx} {W : WX} {E : Ends} {m : List Addr} {H : Hp} {grd : Store → Bool} {g : DG} {f : DS} {ds : List D} {ρ : DEnv} {S : Store} (h : SQ K G W E m H (forD grd g f ds ρ S)) : grd S = true := by
  cases q : grd S with
  | true => rfl
  | false =>
    exfalso
    cases ds with
    | nil =>
      unfold forD at h
      rw [q] at h
      exact h
    | cons d ds =>
      unfold forD at h
      rw [q] at h
      exact h
theorem js_for {iter : Expr} {body : List Stmt} {fi : DI} {g : DG} {f : DS} (hp : PassesOwn (model X.prog X.w) X.A X.env X.xe) (hc : X.calm = true) (hi : JI X G W tg iter fi) (hg : JG X G W tg g) (hb : JSs X G W body f)
    (hs : ∀ x, foldedSetIterable iter X.env x = pure x := by intro _; rfl) : JS X G W (.For tg iter body [] pos) (dFor fi g f) :=
  PS.imp (ps_for hp hc hi hg hb hs) fun E σ H ⟨m, ρ, S, sr, sm, q⟩ => ⟨m, ρ, S, sr, sm, SQ.then (rel := SrcOk X.K G) q sr sm fun src S1 J H1 m1 st1 sm1 w q1 => by
    refine for_it w (fun i σ H => ∃ m ρ S, Step m1 H1 m H ∧ SR X.K m H ρ σ ∧ Sim X.K G m S H ∧ SQ X.K G W E m H (forD src.grd g f (src.items.drop i) ρ S)) ⟨m1, ρ, S1, sm1.refl, sr.mono sm st1, sm1, q1⟩
      (fun i σ H _ ⟨m, ρ, S, a, b, c, d⟩ => ⟨m, S, a, c, forD_grd d⟩) ?_ ?_
    · rintro i x σ H H' hi ⟨m, ρ, S, st, sr, sm, q⟩ hy
      have hgd := forD_grd q
      obtain ⟨d, hd, st2, sm2, sv⟩ := hy m S st sm hgd
      have e0 : src.items.drop i = d :: src.items.drop (i + 1) := by
        rw [List.drop_eq_getElem_cons hi]
        rw [List.getElem?_eq_getElem hi] at hd
        cases hd
        rfl
      rw [e0] at q
      unfold forD at q
      rw [if_pos hgd] at q
      refine ⟨m, ρ, S, d, sr.mono sm st2, sm2, sv, ?_⟩
      have q := SQ.step q st2
      cases e1 : g d ρ S with
      | nx ρ1 S1 =>
        rw [e1] at q
        intro σ' H3 m3 st3 sm3 sr3
        refine ⟨m3, ρ1, S1, sr3, sm3, ?_⟩
        have q := SQ.step q st3
        dsimp only at q
        cases e2 : f ρ1 S1 with
        | nx ρ2 S2 => rw [e2] at q; exact fun σ4 H4 m4 a b c => ⟨m4, ρ2, S2, st.trans (st2.trans (st3.trans a)), c, b, SQ.step q a⟩
        | ct ρ2 S2 => rw [e2] at q; exact fun σ4 H4 m4 a b c => ⟨m4, ρ2, S2, st.trans (st2.trans (st3.trans a)), c, b, SQ.step q a⟩
        | bk ρ2 S2 => rw [e2] at q; exact q
        | rt d S2 => rw [e2] at q; exact q
        | exn x ρ2 S2 => rw [e2] at q; exact q
        | bad => rw [e2] at q; exact q
      | exn x ρ1 S1 => rw [e1] at q; exact q
      | rt d S2 => rw [e1] at q; exact q.elim
      | bk ρ1 S1 => rw [e1] at q; exact q.elim
      | ct ρ1 S1 => rw [e1] at q; exact q.elim
      | bad => rw [e1] at q; exact q.elim
    · rintro σ H ⟨m, ρ, S, st, sr, sm, q⟩
      have hgd := forD_grd q
      rw [List.drop_length] at q
      unfold forD at q
      rw [if_pos hgd] at q
      exact q σ H m sm.refl sm sr⟩
end
end DL
set_option Elab.async false
set_option linter.all false
set_option maxRecDepth 100000
set_option maxHeartbeats 2000000
namespace DL
open PySem PySem.Spec PyProof.Rows L2
/-! ### targets of comprehensions: only the block's own slots change -/
def Agree (vs : List Nat) (σ σ' : L2.St) : Prop := σ'.length = σ.length ∧ ∀ j, j ∉ vs → σ'[j]? = σ[j]?
theorem Agree.refl {vs : List Nat} {σ : L2.St} : Agree vs σ σ := ⟨rfl, fun _ _ => rfl⟩
theorem Agree.trans {vs : List Nat} {σ σ1 σ2 : L2.St} (a : Agree vs σ σ1) (b : Agree vs σ1 σ2) : Agree vs σ σ2 := ⟨b.1.trans a.1, fun j hj => (b.2 j hj).trans (a.2 j hj)⟩
theorem wipe_get (σ : L2.St) : ∀ (vs : List Nat) (j : Nat), (wipe σ vs)[j]? = if j ∈ vs ∧ j < σ.length then some none else σ[j]?
  | [], j => by simp [wipe]
  | v :: vs, j => by
    have ih := wipe_get σ vs j
    have hl := wipe_length σ vs
    unfold wipe
    by_cases e : v = j
    · subst e
      by_cases hlt : v < σ.length
      · rw [List.getElem?_set_self (by rw [hl]; exact hlt), if_pos ⟨List.mem_cons_self, hlt⟩]
      · rw [List.getElem?_eq_none_iff.mpr (by rw [List.length_set, hl]; omega), if_neg (fun z => hlt z.2), List.getElem?_eq_none_iff.mpr (by omega)]
    · rw [List.getElem?_set_ne e, ih]
      by_cases h : j ∈ vs ∧ j < σ.length
      · rw [if_pos h, if_pos ⟨List.mem_cons_of_mem _ h.1, h.2⟩]
      · rw [if_neg h, if_neg (fun z => h ⟨(List.mem_cons.mp z.1).resolve_left (Ne.symm e), z.2⟩)]
theorem wipe_agree {vs : List Nat} {σ σ' : L2.St} (a : Agree vs (wipe σ vs) σ') : wipe σ' vs = wipe σ vs := by
  apply List.ext_getElem?
  intro j
  have h1 := wipe_length σ vs
  rw [wipe_get σ' vs j]
  by_cases h : j ∈ vs
  · by_cases hl : j < σ'.length
    · rw [if_pos ⟨h, hl⟩, wipe_get, if_pos ⟨h, by rw [← h1, ← a.1]; exact hl⟩]
    · rw [if_neg (fun z => hl z.2), List.getElem?_eq_none_iff.mpr (by omega), List.getElem?_eq_none_iff.mpr (by rw [← a.1]; omega)]
  · rw [if_neg (fun z => h z.1)]
    exact a.2 j h
def wipeD (ρ : DEnv) : List Nat → DEnv
  | [] => ρ
  | v :: vs => (wipeD ρ vs).set v none
theorem SR.unset {K : PySem.W.Frag} {m : List Addr} {H : Hp} {ρ : DEnv} {σ : L2.St} (h : SR K m H ρ σ) (i : Nat) : SR K m H (ρ.set i none) (σ.set i none) := by
  refine ⟨by simp [h.1], fun j e hj => ?_⟩
  by_cases hij : i = j
  · subst hij
    have hlt : i < ρ.length := by
      have := (List.getElem?_eq_some_iff.mp hj).1
      simpa using this
    rw [List.getElem?_set_self hlt] at hj
    cases hj
  · rw [List.getElem?_set_ne hij] at hj
    obtain ⟨u, h1, h2⟩ := h.2 j e hj
    exact ⟨u, by rw [List.getElem?_set_ne hij]; exact h1, h2⟩
theorem SR.wipe {K : PySem.W.Frag} {m : List Addr} {H : Hp} {ρ : DEnv} {σ : L2.St} (h : SR K m H ρ σ) : ∀ vs : List Nat, SR K m H (wipeD ρ vs) (L2.wipe σ vs)
  | [] => h
  | v :: vs => (SR.wipe h vs).unset v
def tDGv (K : PySem.W.Frag) (G : Gx) (W : WX) (vs : List Nat) (f : DG) : TG := fun v σ H Q => ∃ m ρ S d, SR K m H ρ σ ∧ Sim K G m S H ∧ SV K m H d v ∧ SQ K G W (noEnds fun σ' H' => Agree vs σ σ' → Q σ' H') m H (f d ρ S)
def tDGsv (K : PySem.W.Frag) (G : Gx) (W : WX) (vs : List Nat) (f : DGs) : TGs := fun us σ H Q => ∃ m ρ S ds, SR K m H ρ σ ∧ Sim K G m S H ∧ SVs K m H ds us ∧ SQ K G W (noEnds fun σ' H' => Agree vs σ σ' → Q σ' H') m H (f ds ρ S)
abbrev JGv (X : Cx) (G : Gx) (W : WX) (vs : List Nat) (tg : Expr) (f : DG) : Prop := PG X tg (tDGv X.K G W vs f)
abbrev JGsv (X : Cx) (G : Gx) (W : WX) (vs : List Nat) (tg : List Expr) (f : DGs) : Prop := PGs X tg (tDGsv X.K G W vs f)
section
variable {X : Cx} {G : Gx} {W : WX} {vs : List Nat} {e : Expr} {pos : Pos}
theorem jgv_name (i : Nat) {x : Str} (hN : X.N.Nodup) (hv : i ∈ vs) (hi : X.N[i]? = some x := by rfl) (hx : Loc X.env.scope x := by first | exact Or.inl rfl | exact Or.inr rfl) (hf : X.fn x = true ∨ X.env.scope.names.lookup x = some .local := by first | exact .inl rfl | exact .inr rfl) : JGv X G W vs (.Name x pos) (gN i) :=
  PG.imp (pg_name hN hi hx hf) fun v σ H Q ⟨m, ρ, S, d, sr, sm, r, q⟩ => q _ H m sm.refl sm (sr.set i r) ⟨by simp, fun j hj => by
    have ne : i ≠ j := fun z => hj (by rw [← z]; exact hv)
    rw [List.getElem?_set_ne ne]⟩
theorem jgsv_nil : JGsv X G W vs [] gsNil := PGs.imp pgs_nil fun us σ H Q ⟨m, ρ, S, ds, sr, sm, r, q⟩ => by
  cases ds with
  | nil => exact ⟨r, q σ H m sm.refl sm sr Agree.refl⟩
  | cons d ds => exact q.elim
theorem jgsv_cons {es : List Expr} {g : DG} {gs : DGs} (h1 : JGv X G W vs e g) (h2 : JGsv X G W vs es gs) (hs : (assignEach (e :: es) X.env).map (·.2) = assign e X.env :: (assignEach es X.env).map (·.2) := by rfl) : JGsv X G W vs (e :: es) (gsCons g gs) :=
  PGs.imp (pgs_cons h1 h2 hs) fun us σ H Q ⟨m, ρ, S, ds, sr, sm, r, q⟩ => by
    cases ds with
    | nil => exact q.elim
    | cons d ds =>
      obtain ⟨v, vr, rfl, a, b⟩ := (show ∃ v r, us = v :: r ∧ SV X.K m H d v ∧ SVs X.K m H ds r from r)
      refine ⟨v, vr, rfl, m, ρ, S, d, sr, sm, a, ?_⟩
      unfold gsCons at q
      dsimp only at q
      cases e1 : g d ρ S with
      | nx ρ1 S1 =>
        rw [e1] at q
        intro σ' H' m' s1 s2 s3 ag
        refine ⟨m', ρ1, S1, ds, s3, s2, b.mono sm s1, ?_⟩
        have q := SQ.step q s1
        dsimp only at q
        cases e2 : gs ds ρ1 S1 with
        | nx ρ2 S2 => rw [e2] at q; exact fun σ2 H2 m2 a b c ag2 => q σ2 H2 m2 a b c (ag.trans ag2)
        | exn x ρ1 S1 => rw [e2] at q; exact q
        | rt d S1 => rw [e2] at q; exact fun v H' m' a b c => (q v H' m' a b c).elim
        | bk ρ1 S1 => rw [e2] at q; exact fun v H' m' a b c => (q v H' m' a b c).elim
        | ct ρ1 S1 => rw [e2] at q; exact fun v H' m' a b c => (q v H' m' a b c).elim
        | bad => rw [e2] at q; exact q.elim
      | exn x ρ1 S1 => rw [e1] at q; exact q
      | rt d S1 => rw [e1] at q; exact q.elim
      | bk ρ1 S1 => rw [e1] at q; exact q.elim
      | ct ρ1 S1 => rw [e1] at q; exact q.elim
      | bad => rw [e1] at q; exact q.elim
theorem jgv_tup {es : List Expr} {k n : Nat} {gs : DGs} (hc : X.calm = true) (h : JGsv X G W vs es gs) (hn : (assignEach es X.env).length = n := by rfl) (hst : (assignEach es X.env).findIdx? (·.1) = none := by rfl) : JGv X G W vs (.Tuple es k pos) (gT n gs) :=
  PG.imp (PG.or (pg_tup hc h hn hst) (pg_lst hc h hn hst)) fun v σ H Q ⟨m, ρ, S, d, sr, sm, r, q⟩ => by
    unfold gT at q
    split at q
    · rename_i xs e1
      split at q
      · rename_i hl
        obtain ⟨p, us, rfl, sv, sq⟩ := seqAt_ok sm e1 r
        rcases sq with sq | sq
        · exact .inr ⟨p, us, rfl, sq, by rw [← sv.len]; exact hl, m, ρ, S, xs, sr, sm, sv, q⟩
        · exact .inl ⟨p, us, rfl, sq, by rw [← sv.len]; exact hl, m, ρ, S, xs, sr, sm, sv, q⟩
      · exact q.elim
    · exact q.elim
/-! ### list comprehensions -/
abbrev W0 : WX := fun _ _ _ _ => False
abbrev JTs (X : Cx) (G : Gx) (W : WX) (es : List Expr) (f : DT) : Prop := PTs X es (tDT X.K G W f)
def dYes : DT := fun _ S => .ok true S
theorem PTs.imp {es : List Expr} {t t' : TT} (h : PTs X es t) (f : ∀ σ H Q, t' σ H Q → t σ H Q) : PTs X es t' := ⟨fun pins s σ H Q I q => h.run pins s σ H Q I (f σ H Q q)⟩
theorem jts_nil : JTs X G W [] dYes := PTs.imp pts_nil fun σ H Q ⟨m, ρ, S, sr, sm, eo⟩ => eo true H m sm.refl sm rfl
theorem jts_one {g : DT} (h : JT X G W e g) : JTs X G W [e] g := pts_one h
def lcD (grd : Store → Bool) (g : DG) (tt : DT) (fe : DE) (n : Nat) (ρ : DEnv) : List D → Store → Out Unit
  | [], S => if grd S = true then .ok () S else .bad
  | d :: ds, S => if grd S = true then (match g d ρ S with
    | .nx ρ1 S1 => (match tt ρ1 S1 with
      | .ok true S2 => (match fe ρ1 S2 with
        | .ok y S3 => (match lstAt S3 n with
          | some acc => if acc.length < 1000000 then lcD grd g tt fe n ρ ds (S3.set n (.lst (acc ++ [y]))) else .bad
          | none => .bad)
        | _ => .bad)
      | .ok false S2 => lcD grd g tt fe n ρ ds S2
      | _ => .bad)
    | _ => .bad) else .bad
def dLc (fi : DI) (g : DG) (tt : DT) (fe : DE) (vs : List Nat) : DE := fun ρ S => (fi ρ S).bind fun src S1 => (lcD src.grd g tt fe S1.length (wipeD ρ vs) src.items (S1 ++ [.lst []])).bind fun _ S2 => .ok (.obj S1.length) S2
theorem lcD_grd {K : PySem.W.Frag} {G : Gx} {α β : Type} {rel : List Addr → Hp → α → β → Prop} {Q : β → Hp → Prop} {Wc : Value → Option Addr → Hp → Prop} {m : List Addr} {H : Hp} {grd : Store → Bool} {g : DG} {tt : DT} {fe : DE} {n : Nat} {ρ : DEnv} {ds : List D} {S : Store} {k : Unit → Store → Out α}
    (h : EO K G rel Q Wc m H ((lcD grd g tt fe n ρ ds S).bind k)) : grd S = true := by
  cases q : grd S with
  | true => rfl
  | false =>
    exfalso
    cases ds with
    | nil => unfold lcD at h; rw [q] at h; exact h
    | cons d ds => unfold lcD at h; rw [q] at h; exact h
theorem lc_core2 {fi : DI} {g : DG} {tt : DT} {fe : DE} {σ : L2.St} {H : Hp} {Q : VK} (h : tD X.K G W (dLc fi g tt fe vs) σ H Q) : tLc (tDI X.K G W fi) (tDGv X.K G W0 vs g) (tDT X.K G W0 tt) (tD X.K G W0 fe) vs σ H Q := by
  obtain ⟨m, ρ, S, sr, sm, eo⟩ := h
  refine ⟨m, ρ, S, sr, sm, EO.then (rel := SrcOk X.K G) eo fun src S1 J H1 m1 st1 sm1 w eo1 => ?_⟩
  intro Dd hD
  have sr1 := sr.mono sm st1
  have st2 : Step m1 H1 (m1 ++ [Dd]) (upd H1 Dd (.lst [])) := Step.new sm1 hD
  have sm2 : Sim X.K G (m1 ++ [Dd]) (S1 ++ [.lst []]) (upd H1 Dd (.lst [])) := sim_lst (ds := []) (vs := []) rfl sm1 hD
  have hmD : (m1 ++ [Dd])[S1.length]? = some Dd := by rw [← sm1.len]; simp
  refine lc_it w (fun i H => ∃ m S, Step (m1 ++ [Dd]) (upd H1 Dd (.lst [])) m H ∧ Sim X.K G m S H ∧ EO X.K G (SV X.K) Q (fun c d H' => W c d σ H') m H ((lcD src.grd g tt fe S1.length (wipeD ρ vs) (src.items.drop i) S).bind fun _ S2 => .ok (.obj S1.length) S2))
    ⟨m1 ++ [Dd], S1 ++ [DO.lst []], sm2.refl, sm2, eo1.step st2⟩ (fun i H _ ⟨m, S, a, b, c⟩ => ⟨m, S, st2.trans a, b, lcD_grd c⟩) ?_ ?_
  · rintro i x H H' hi ⟨m, S, st, sm, eo⟩ hy
    have hgd := lcD_grd eo
    obtain ⟨d, hd, st3, sm3, sv⟩ := hy m S (st2.trans st) sm hgd
    have e0 : src.items.drop i = d :: src.items.drop (i + 1) := by
      rw [List.drop_eq_getElem_cons hi]
      rw [List.getElem?_eq_getElem hi] at hd
      cases hd
      rfl
    rw [e0] at eo
    unfold lcD at eo
    rw [if_pos hgd] at eo
    have srw : SR X.K m H' (wipeD ρ vs) (wipe σ vs) := (sr1.mono sm1 ((st2.trans st).trans st3)).wipe vs
    refine ⟨m, wipeD ρ vs, S, d, srw, sm3, sv, ?_⟩
    have eo := eo.step st3
    cases e1 : g d (wipeD ρ vs) S with
    | nx ρ1 Sa =>
      rw [e1] at eo
      dsimp only at eo
      intro σ4 H4 m4 st4 sm4 sr4 ag
      refine ⟨wipe_agree ag, m4, ρ1, Sa, sr4, sm4, ?_⟩
      have eo := eo.step st4
      cases e2 : tt ρ1 Sa with
      | ok b Sb =>
        rw [e2] at eo
        intro b' H5 m5 st5 sm5 rb
        cases rb
        have eo := eo.step st5
        cases b with
        | true =>
          rw [if_pos rfl]
          dsimp only at eo
          refine ⟨m5, ρ1, Sb, sr4.mono sm4 st5, sm5, ?_⟩
          cases e3 : fe ρ1 Sb with
          | ok y Sc =>
            rw [e3] at eo
            dsimp only at eo
            intro u H6 m6 st6 sm6 ru
            have eo := eo.step st6
            cases e4 : lstAt Sc S1.length with
            | none => rw [e4] at eo; exact eo.elim
            | some acc =>
              rw [e4] at eo
              dsimp only at eo
              by_cases hz : acc.length < 1000000
              · rw [if_pos hz] at eo
                obtain ⟨a', ws, h1, h2, h3⟩ := lstAt_ok sm6 e4
                have stA := (((st.trans st3).trans st4).trans st5).trans st6
                rw [stA.get hmD] at h1
                cases h1
                have stB : Step m6 H6 m6 (upd H6 Dd (.lst (ws ++ [u]))) := Step.put sm6 (stA.get hmD)
                have smB : Sim X.K G m6 (Sc.set S1.length (.lst (acc ++ [y]))) (upd H6 Dd (.lst (ws ++ [u]))) := sm6.put (stA.get hmD) ⟨ws ++ [u], upd_same, (h3.append (SVs.one ru)).mono sm6 stB⟩
                exact ⟨ws, h2, by rw [← h3.len]; exact Nat.lt_of_lt_of_le hz (size6 (Nat.le_refl _)), m6, _, stA.trans stB, smB, eo.step stB⟩
              · rw [if_neg hz] at eo; exact eo.elim
          | exn x Sc => rw [e3] at eo; exact eo.elim
          | bad => rw [e3] at eo; exact eo.elim
        | false =>
          rw [if_neg Bool.false_ne_true]
          exact ⟨m5, Sb, ((st.trans st3).trans st4).trans st5, sm5, eo⟩
      | exn x Sb => rw [e2] at eo; exact eo.elim
      | bad => rw [e2] at eo; exact eo.elim
    | exn x ρ1 Sa => rw [e1] at eo; exact eo.elim
    | rt d Sa => rw [e1] at eo; exact eo.elim
    | bk ρ1 Sa => rw [e1] at eo; exact eo.elim
    | ct ρ1 Sa => rw [e1] at eo; exact eo.elim
    | bad => rw [e1] at eo; exact eo.elim
  · rintro H ⟨m, S, st, sm, eo⟩
    have hgd := lcD_grd eo
    rw [List.drop_length] at eo
    unfold lcD at eo
    rw [if_pos hgd] at eo
    exact eo _ H m sm.refl sm ⟨Dd, rfl, st.get hmD⟩
variable {elt tg iter : Expr} {ifs : List Expr} {scope : Scope} {own : List (Str × Nat)} {fi : DI} {g : DG} {tt : DT} {fe : DE}
theorem je_lc (hc : X.calm = true) (hN : X.N.Nodup) (ok : BlkOk X.N X.env.scope scope own) (hi : JI X G W tg iter fi)
    (hg : ∀ (s : Shared) (H : Hp) (C : Addr) (cl : List (Str × Addr)) (fp : List Addr), JGv (X.blk s H scope (compEnvC scope cl C X.env) fp) G W0 vs tg g) (ht : ∀ (s : Shared) (H : Hp) (C : Addr) (cl : List (Str × Addr)) (fp : List Addr), JTs (X.blk s H scope (compEnvC scope cl C X.env) fp) G W0 ifs tt)
    (he : ∀ (s : Shared) (H : Hp) (C : Addr) (cl : List (Str × Addr)) (fp : List Addr), JE (X.blk s H scope (compEnvC scope cl C X.env) fp) G W0 elt fe) (hs : ∀ x, foldedSetIterable iter X.env x = pure x := by intro _; rfl) (hvs : own.map (·.2) = vs := by rfl) :
    JE X G W (.ListComp elt [⟨tg, iter, ifs, 0⟩] scope pos) (dLc fi g tt fe vs) := by
  subst hvs
  exact PE.imp (pe_lc hc hN hi ok hg ht he hs) fun σ H Q h => lc_core2 h
theorem js_setLc (i : Nat) {y : Str} {py spos : Pos} (hc : X.calm = true) (hN : X.N.Nodup) (ok : BlkOk X.N X.env.scope scope own) (hi : JI X G W tg iter fi)
    (hg : ∀ (s : Shared) (H : Hp) (C : Addr) (cl : List (Str × Addr)) (fp : List Addr), JGv (X.blk s H scope (compEnvC scope cl C X.env) fp) G W0 vs tg g) (ht : ∀ (s : Shared) (H : Hp) (C : Addr) (cl : List (Str × Addr)) (fp : List Addr), JTs (X.blk s H scope (compEnvC scope cl C X.env) fp) G W0 ifs tt)
    (he : ∀ (s : Shared) (H : Hp) (C : Addr) (cl : List (Str × Addr)) (fp : List Addr), JE (X.blk s H scope (compEnvC scope cl C X.env) fp) G W0 elt fe)
    (hsw : swapsWith (.ListComp elt [⟨tg, iter, ifs, 0⟩] scope pos) (some (.Name y py)) spos.line X.env = pure true)
    (hy : X.N[i]? = some y := by rfl) (hyl : X.env.scope.names.lookup y = some .local := by rfl)
    (hs : ∀ x, foldedSetIterable iter X.env x = pure x := by intro _; rfl) (hvs : own.map (·.2) = vs := by rfl) :
    JS X G W (.Assign [.Name y py] (.ListComp elt [⟨tg, iter, ifs, 0⟩] scope pos) spos) (dAsg (dLc fi g tt fe vs) (gN i)) := by
  subst hvs
  exact PS.imp (ps_setLc hc hN hy hyl hsw hi ok hg ht he hs) fun E σ H ⟨m, ρ, S, sr, sm, q⟩ => lc_core2 (W := W) ⟨m, ρ, S, sr, sm, SQ.then (rel := SV X.K) q sr sm fun d S1 v H1 m1 st1 sm1 r1 q1 => q1 _ H1 m1 sm1.refl sm1 ((sr.mono sm st1).set i r1)⟩
end
end DL
set_option Elab.async false
set_option linter.all false
set_option maxRecDepth 100000
set_option maxHeartbeats 2000000
namespace DL
open PySem PySem.Spec PyProof.Rows L2
/-! ### a def's body -/
def startD (n : Nat) (ds : List D) : DEnv := ds.map some ++ List.replicate (n - ds.length) none
def runD (n : Nat) (f : DS) : DF := fun ds S => match f (startD n ds) S with
  | .nx _ S1 => .ok .non S1
  | .rt d S1 => .ok d S1
  | .exn e _ S1 => .exn e S1
  | _ => .bad
abbrev WF (E : XK) : WX := fun cls d _ H => E cls d H
theorem startD_ok {K : PySem.W.Frag} {m : List Addr} {H : Hp} {N : List Str} {ds : List D} {vs : List V} (h : SVs K m H ds vs) : SR K m H (startD N.length ds) (L2.start N vs) := by
  have hl := h.len
  refine ⟨by simp [startD, L2.start, hl], fun i d e => ?_⟩
  unfold startD at e
  unfold L2.start
  by_cases hi : i < ds.length
  · rw [List.getElem?_append_left (by simpa using hi), List.getElem?_map] at e
    rw [List.getElem?_append_left (by simpa [← hl] using hi), List.getElem?_map]
    cases q : ds[i]? with
    | none => rw [q] at e; cases e
    | some d' =>
      rw [q] at e
      cases e
      obtain ⟨v, h1, h2⟩ := h.get q
      exact ⟨v, by rw [h1]; rfl, h2⟩
  · rw [List.getElem?_append_right (by simpa using hi)] at e
    rw [List.getElem?_replicate] at e
    split at e <;> cases e
section
variable {P : Program} {w : World} {K : PySem.W.Frag} {mg : Str → Option Value} {base : Heap} {G : Gx} {x qual : Str} {params : Arguments} {body : List Stmt} {scope : Scope} {f : Addr} {fd : FuncData} {N ps : List Str} {k : Nat} {fb : DS}
theorem body_core {X : Cx} {vs : List V} {H : Hp} {Q : VK} {E : XK} {m : List Addr} {ds : List D} {S : Store} (hN : X.N = N) (sv : SVs X.K m H ds vs) (sm : Sim X.K G m S H) (eo : EO X.K G (SV X.K) Q E m H (runD N.length fb ds S)) :
    tDS X.K G (WF E) fb { nx := fun _ H' => Q .non H', rt := Q } (L2.start N vs) H := by
  refine ⟨m, startD N.length ds, S, startD_ok sv, sm, ?_⟩
  unfold runD at eo
  cases e : fb (startD N.length ds) S with
  | nx ρ S1 => rw [e] at eo; exact fun σ H' m' a b c => eo .non H' m' a b rfl
  | rt d S1 => rw [e] at eo; exact eo
  | exn x ρ S1 => rw [e] at eo; exact fun cls dx σ H' m' a b c d => eo cls dx H' m' a b d
  | bk ρ S1 => rw [e] at eo; exact eo.elim
  | ct ρ S1 => rw [e] at eo; exact eo.elim
  | bad => rw [e] at eo; exact eo.elim
/-- THE RULE for a def; the body's derivation may use that its code object is told by K -/
theorem fnOk_of (F : FunD K x qual params body scope [] [] f fd) (Sc : FnScope N ps scope)
    (hbody : ∀ (cdv : Value) (A : Around) (outer : List Env) (s : Shared) (H : Hp) (E : XK), (∃ (oc : Value) (od : Option Addr) (osl : Array (Option Value)) (fd' : FuncData), K.lookup f = some ⟨oc, od, .func fd', osl⟩ ∧ fd'.code = cdv) → PySem.W.codeIn K cdv qual = true → Room k (A.deeper (envOfC qual scope s.heap.objs.size f cdv)) →
      JSs (cxOf (L2.CX P w) P w K mg base N qual scope f cdv A outer s H E) G (WF E) body fb) : FnOk P w K mg base (L2.CX P w) (k + 1) f fd ps (spD K G ps.length (runD N.length fb)) := by
  obtain ⟨oc, od, dV, kV, doc, pm, an, cdv, ct, osl, rfl, lk, hcd, _, _⟩ := F.ex
  refine fn_of lk hcd Sc (fun vs H Q E h => ?_) fun A outer s H vs Q E hr h => ?_
  · obtain ⟨m, ds, S, hl, sv, _⟩ := h
    rw [← sv.len, hl]
  · obtain ⟨m, ds, S, hl, sv, sm, eo⟩ := h
    exact ⟨_, hbody cdv A outer s H E ⟨oc, od, osl, _, lk, rfl⟩ hcd hr, body_core (X := cxOf (L2.CX P w) P w K mg base N qual scope f cdv A outer s H E) rfl sv sm eo⟩
theorem fnD_of (F : FunD K x qual params body scope [] [] f fd) (Sc : FnScope N ps scope) (hb : Binds K fd ps [])
    (hbody : ∀ (cdv : Value) (A : Around) (outer : List Env) (s : Shared) (H : Hp) (E : XK), (∃ (oc : Value) (od : Option Addr) (osl : Array (Option Value)) (fd' : FuncData), K.lookup f = some ⟨oc, od, .func fd', osl⟩ ∧ fd'.code = cdv) → PySem.W.codeIn K cdv qual = true → Room k (A.deeper (envOfC qual scope s.heap.objs.size f cdv)) →
      JSs (cxOf (L2.CX P w) P w K mg base N qual scope f cdv A outer s H E) G (WF E) body fb) : FnD P w K mg base G (k + 1) f ps.length (runD N.length fb) :=
  ⟨⟨fd, ps, fnOk_of F Sc hbody, hb⟩, F.kp⟩
end
/-! ### a lambda handed to a def that tells refusals by texts -/
def subB (a b : String) : Bool := a == b || b == "WageFault"
def pickD : List (String × Str) → String → Option Str
  | [], _ => none
  | (c, t) :: r, e => if subB e c = true then some t else pickD r e
def dTold (rs : List String) (cs : List (String × Str)) (f : DE) : DE := fun ρ S => match f ρ S with
  | .ok d S1 => .ok d S1
  | .exn e S1 => if e.c ∈ rs then (match pickD cs e.c with
    | some t => .ok (.str t) S1
    | none => .bad) else .bad
  | .bad => .bad
def pickP (K : PySem.W.Frag) (Q : VK) (cls : Value) (H' : Hp) : List (Addr × Str) → Prop
  | [] => False
  | (c, t) :: r => ∃ b, PySem.W.exmOne K cls (.ref c) = some b ∧ (b = true → Q (.str t) H') ∧ (b = false → pickP K Q cls H' r)
def TMany (K : PySem.W.Frag) (cs : List (Addr × Str)) : (XK → Hp → VK → Prop) → Hp → VK → Prop := fun tl H Q => tl (fun cls _ H' => pickP K Q cls H' cs) H Q
/-- the clauses: except x: return 't' -/
inductive TellHs (X : Cx) (sg : Scope) : List ExceptHandler → List (Addr × Str) → Prop
  | nil : TellHs X sg [] []
  | cons {e ret : Str} {C : Addr} {j : Nat} {p4 p5 p6 p7 : Pos} {hds : List ExceptHandler} {l : List (Addr × Str)} (hg : sg.names.lookup e = some .globalImplicit) (hm : X.mg e = some (.ref C)) (hd : (e == ("__debug__" : Str)) = false) (r : TellHs X sg hds l) :
      TellHs X sg (.ExceptHandler (some (.Name e p4)) none [.Return (some (.Constant (.str ret) j p5)) p6] p7 :: hds) ((C, ret) :: l)
section
variable {X : Cx} {G : Gx} {W : WX}
theorem tell_hds {Ng : List Str} {x : Str} {sg : Scope} {g : Addr} {cdg : Value} {s : Shared} {H : Hp} {hds : List ExceptHandler} {l : List (Addr × Str)} (h : TellHs X sg hds l) :
    HdsOk (cxOf C8.CX0 X.prog X.w X.K X.mg X.base Ng x sg g cdg X.A X.stack s H C8.E0).nox hds (l.map fun q => (Value.ref q.1, fun _ _ _ => tRet (tC (.str q.2)))) := by
  induction h with
  | nil => exact .nil
  | cons hg hm hd r ih => exact .cons ⟨hg, hd, .inl hm⟩ (fun a oe cls d pn _ _ => pss_one (ps_ret pe_str)) ih
theorem many_pick {K : PySem.W.Frag} {D : Ends} {Q : VK} (hrt : D.rt = Q) {cls : Value} {d : Option Addr} {σ : L2.St} {H' : Hp} : ∀ {l : List (Addr × Str)}, pickP K Q cls H' l → wMany K (fun _ _ _ _ => False) D (l.map fun q => (Value.ref q.1, fun _ _ _ => tRet (tC (.str q.2)))) cls d σ H'
  | [], h => h
  | (c, t) :: r, ⟨b, h1, h2, h3⟩ => ⟨b, h1, fun hb a _ => by
      show D.rt (.str t) H'
      rw [hrt]; exact h2 hb, fun hb => many_pick hrt (h3 hb)⟩
theorem told_many {Ng : List Str} {x a q : Str} {sg : Scope} {g : Addr} {cdg : Value} {h₀ : ExceptHandler} {hds : List ExceptHandler} {l : List (Addr × Str)} {p1 p2 p3 p8 : Pos} (hh : TellHs X sg (h₀ :: hds) l) (h0 : ∀ f : Addr, (L2.start Ng [V.ref f])[0]? = some (some (V.ref f))) :
    LamX.GivesTo X Ng x sg g cdg [.Try [.Return (some (.Call (.Name a p1) [] [] p2)) p3] (h₀ :: hds) [] [] p8] a q (TMany X.K l) := by
  intro f c' s H Q tl act hc h
  refine ⟨_, pss_one (ps_try_many (X := (cxOf C8.CX0 X.prog X.w X.K X.mg X.base Ng x sg g cdg X.A X.stack s H C8.E0).nox)
      (tb := fun W D σ H => ∃ Ech : XK, (∀ cls d σ' H', Ech cls d H' → W cls d σ' H') ∧ σ[0]? = some (some (.ref f)) ∧ H c' = some (LamX.CodeO c' q) ∧ tl Ech H D.rt)
      rfl rfl LamX.takes0 (fun W pn xe tk _ => ?_) (tell_hds hh)), ?_⟩
  · refine ⟨fun pins s' σ H' D I h' => ?_⟩
    obtain ⟨Ech, hW, h1, h2, h3⟩ := h'
    have hp := act W pn xe Ech p1 p2 tk hW
    have hq := pss_one (ps_ret (pos := p3) hp)
    exact hq.run pins s' σ H' D I ⟨h1, h2, h3⟩
  · exact ⟨fun cls _ H' => pickP X.K Q cls H' l, fun cls d σ' H' hp => many_pick rfl hp, h0 f, hc, h⟩
theorem lam_takes {A : Around} {outer : List Env} {s : Shared} {H : Hp} {E : XK} {scope : Scope} {f c' : Addr} : Takes (LamX.lamCx X A outer s H E scope f c') (WF E) := takes_of rfl rfl rfl rfl
theorem pick_of {K : PySem.W.Frag} {Q : VK} {H' : Hp} {e : String} (cs : List (String × Str)) (hx : ∀ q ∈ cs, PySem.W.exmOne K (.ref (G.cA e)) (.ref (G.cA q.1)) = some (subB e q.1)) {t : Str} (hp : pickD cs e = some t) (hQ : Q (.str t) H') :
    pickP K Q (.ref (G.cA e)) H' (cs.map fun q => (G.cA q.1, q.2)) := by
  induction cs with
  | nil => cases hp
  | cons q r ih =>
    obtain ⟨c, t'⟩ := q
    unfold pickD at hp
    refine ⟨subB e c, hx _ List.mem_cons_self, fun hb => ?_, fun hb => ih (fun q hq => hx q (List.mem_cons_of_mem _ hq)) ?_⟩
    · rw [if_pos hb] at hp
      cases hp
      exact hQ
    · rw [hb, if_neg Bool.false_ne_true] at hp
      exact hp
theorem sim_ext {K : PySem.W.Frag} {m : List Addr} {S : Store} {H H1 : Hp} (sm : Sim K G m S H) (e : LamX.ExtN H H1) (t : LamX.Tabs G.T H1) : Step m H m H1 ∧ Sim K G m S H1 := by
  have st : Step m H m H1 := ⟨⟨[], by simp⟩, sm.nd, fun b o h1 h2 _ => e b o h1 h2⟩
  refine ⟨st, sm.len, sm.nd, fun n o a h1 h2 => ?_, t⟩
  obtain ⟨u, eu, mu⟩ := sm.mem (List.mem_of_getElem? h2)
  refine (sm.at_ n o a h1 h2).mono sm st ?_
  rw [eu]
  exact e a u eu (fun ps z => by subst z; exact mu)
/-- told(lambda: body) -/
theorem je_told {x a : Str} {g c P : Addr} {k : Nat} {pg : Arguments} {sg : Scope} {dV kV doc pm cdv ct oc : Value} {an od : Option Addr} {osl : Array (Option Value)} {Ng : List Str} {h₀ : ExceptHandler} {hds : List ExceptHandler} {rs : List String} {cs : List (String × Str)} {p1 p2 p3 p8 : Pos}
    {params : Arguments} {body : Expr} {scope : Scope} {f : DE} {p lpos pos : Pos} (hm : X.mg x = some (.ref g)) (hk : PySem.W.keepIn X.K (.ref g) = true)
    (lk : X.K.lookup g = some ⟨oc, od, .func (PySem.W.fnOf x x pg [.Try [.Return (some (.Call (.Name a p1) [] [] p2)) p3] (h₀ :: hds) [] [] p8] sg dV kV doc pm an cdv ct), osl⟩) (hcg : PySem.W.codeIn X.K cdv x = true)
    (hb : L2.Binds X.K (PySem.W.fnOf x x pg [.Try [.Return (some (.Call (.Name a p1) [] [] p2)) p3] (h₀ :: hds) [] [] p8] sg dV kV doc pm an cdv ct) [a] []) (Sg : FnScope Ng [a] sg) (hNg : Ng[0]? = some a) (hva : Vis sg a) (h0 : ∀ f : Addr, (L2.start Ng [V.ref f])[0]? = some (some (V.ref f)))
    (hh : TellHs X sg (h₀ :: hds) (cs.map fun q => (G.cA q.1, q.2))) (hx : ∀ e ∈ rs, ∀ q ∈ cs, PySem.W.exmOne X.K (.ref (G.cA e)) (.ref (G.cA q.1)) = some (subB e q.1))
    (TB : LamX.TabB X.base X.mg c P) (hcode : X.env.code = .ref c) (hmT : (P, X.env.qual ++ "<lambda>") ∈ G.T) (hu : ∀ p ∈ G.T, p.1 = P → p.2 = X.env.qual ++ "<lambda>") (hr : Room (k + 2) X.A) (L : LamX.LamS X.env.scope scope) (hdef : defaultsOf params X.env = ([], []))
    (hbind : ∀ (q : Str) (cl : List (Str × Addr)) (pm cv ctv : Value), bindArgs (PySem.W.kla_fn "<lambda>" q params body scope cl pm cv ctv) ⟨[], []⟩ = pure [])
    (hbody : ∀ (A : Around) (outer : List Env) (s : Shared) (H : Hp) (E : XK) (f0 c' : Addr), Room k (A.deeper (LamX.lamEnv X scope s.heap.objs.size f0 c')) → JE (LamX.lamCx X A outer s H E scope f0 c') G (WF E) body f)
    (hg : Gl X x := by rfl) (hdb : (x == ("__debug__" : Str)) = false := by decide) (hd : (a == ("__debug__" : Str)) = false := by decide) (hcd : (a == ("__classdict__" : Str)) = false := by decide) :
    JE X G W (.Call (.Name x p) [.Lambda params body scope lpos] [] pos) (dTold rs cs f) := by
  refine PE.imp (LamX.pe_lamcall (T := G.T) (t := fun E => tD X.K G (WF E) f) hg hm hk lk hcg hb Sg hNg hva (told_many hh h0) TB hcode hmT hu hr L hdef hbind hbody hdb hd hcd) fun σ H Q ⟨m, ρ, S, sr, sm, eo⟩ => ?_
  refine ⟨sm.tabs, fun H1 e1 t1 => ?_⟩
  obtain ⟨st, sm1⟩ := sim_ext sm e1 t1
  refine ⟨m, ρ, S, sr.mono sm st, sm1, ?_⟩
  have eo1 := eo.step st
  unfold dTold at eo1
  cases z : f ρ S with
  | ok d S1 => rw [z] at eo1; exact eo1
  | bad => rw [z] at eo1; exact eo1.elim
  | exn e S1 =>
    rw [z] at eo1
    dsimp only at eo1
    split at eo1
    · rename_i hrs
      split at eo1
      · rename_i t ht
        intro cls dx H' m' a b xo
        rw [show cls = .ref (G.cA e.c) from xo]
        exact pick_of cs (hx e.c hrs) ht (eo1 _ H' m' a b rfl)
      · exact eo1.elim
    · exact eo1.elim
end
/-! ### the law's end -/
theorem sim_none {K : PySem.W.Frag} {G : Gx} {H : Hp} (t : LamX.Tabs G.T H) : Sim K G [] [] H := ⟨rfl, List.nodup_nil, fun n o a h _ => by simp at h, t⟩
theorem ints_svs {K : PySem.W.Frag} {m : List Addr} {H : Hp} : ∀ ns : List Int, SVs K m H (ns.map D.int) (ns.map V.int)
  | [] => rfl
  | n :: ns => ⟨_, _, rfl, rfl, ints_svs ns⟩
/-- the script as it may be met: a fixed list, or the store's first -/
def ScriptAt (ns : List Int) (d : D) (S : Store) : Prop := (d = .fl (ns.map D.int) ∧ S = []) ∨ (d = .obj 0 ∧ S = [.lst (ns.map D.int)])
theorem law_sp {K : PySem.W.Frag} {G : Gx} {F : DF} {H : Hp} {a : Addr} {ns : List Int} (t : LamX.Tabs G.T H) (hS : SqL K H a (ns.map V.int)) (h : ∀ d S, ScriptAt ns d S → ∃ S', F [d] S = .ok (.bl true) S') : spD K G 1 F [.ref a] H (fun v _ => v = .bl true) (fun _ _ _ => False) := by
  have fin : ∀ {m : List Addr} {d : D} {S : Store}, ScriptAt ns d S → EO K G (SV K) (fun v _ => v = .bl true) (fun _ _ _ => False) m H (F [d] S) := fun {m d S} q => by
    obtain ⟨S', e⟩ := h d S q
    rw [e]
    exact fun v H' m' _ _ r => r
  rcases hS with (e | ⟨o, e⟩) | e
  · have sm : Sim K G [a] [.lst (ns.map D.int)] H := ⟨rfl, by simp, fun n o b h1 h2 => by
      cases n with
      | zero => simp at h1 h2; subst h1 h2; exact ⟨_, e, ints_svs ns⟩
      | succ n => simp at h1, t⟩
    exact ⟨[a], [.obj 0], _, rfl, SVs.one ⟨a, rfl, rfl⟩, sm, fin (.inr ⟨rfl, rfl⟩)⟩
  · exact ⟨[], [.fl (ns.map D.int)], [], rfl, SVs.one ⟨a, _, rfl, .inl ⟨o, e⟩, ints_svs ns⟩, sim_none t, fin (.inl ⟨rfl, rfl⟩)⟩
  · exact ⟨[], [.fl (ns.map D.int)], [], rfl, SVs.one ⟨a, _, rfl, .inr e, ints_svs ns⟩, sim_none t, fin (.inl ⟨rfl, rfl⟩)⟩
end DL
set_option Elab.async false
set_option linter.all false
set_option maxRecDepth 100000
set_option maxHeartbeats 2000000
namespace DL
open PySem PySem.Spec PyProof.Rows L2
/-! ### enumerate(tuple) -/
set_option maxHeartbeats 4000000 in
theorem meets_enum1 {v : Value} {o : Obj} {H : Heap → Prop} (B : Begins v o H) :
    Meets (Builtin.«enumerate.__new__» ⟨[.type "enumerate", v], []⟩) (fun _ R s => H s.heap ∧
      R (.ok (.ret (.ref (s.heap.push o).objs.size))) { s with heap := (s.heap.push o).push { cls := .type "enumerate", data := .fields #[.none, .bool false, .ref s.heap.objs.size, rawInt 0, .none, .none] } }) :=
  .of_wp fun prog w A R s h => by
    obtain ⟨hp, g, d, tk, os⟩ := s; obtain ⟨h1, h⟩ := h
    have hsub := sub_enumerate
    have q1 : ∀ {A' : Around} {E : Value → Shared → Prop} {Q : Value → Shared → Prop}, Q (.ref hp.objs.size) ⟨hp.push o, g, d, tk, os⟩ → wpAny (model prog w) A' (pyIter v) Q E ⟨hp, g, d, tk, os⟩ :=
      fun q => B.iter prog w _ _ ⟨hp, g, d, tk, os⟩ _ h1 q
    wp_walk using q1
    refine wpAny_stack_any fun st => wpAny_pure ?_
    split
    · rename_i c _ _ _ _ _
      cases (c == Value.type "enumerate")
      · wp_walk using q1
        exact ⟨_, rfl, h⟩
      · wp_walk using q1
        exact ⟨_, rfl, h⟩
    · wp_walk using q1
      exact ⟨_, rfl, h⟩
section
variable {prog : Program} {w : World} {A : Around} {E : Value → Shared → Prop} {s : Shared}
theorem enum1_begins {v : Value} {o : Obj} {H : Heap → Prop} {Q : Value → Shared → Prop} (B : Begins v o H) (h1 : H s.heap)
    (h : ∀ h', IsEnum h' (s.heap.objs.size + 1) s.heap.objs.size 0 .none → h'.get? s.heap.objs.size = some o → h'.objs.size = s.heap.objs.size + 2 →
      (∀ b o, s.heap.get? b = some o → h'.get? b = some o) → Q (.ref (s.heap.objs.size + 1)) { s with heap := h' }) :
    wpAny (model prog w) A (call (.type "enumerate") [v]) Q E s := by
  refine callType_new F.called_enumerate (by decide) (F.typeCall_enumerate_1 _) (F.newCall_enumerate_1 _) (fun obj => F.args_object_init_2 obj _) F.entry_enumerate_new
    (meets_enum1 B) ⟨h1, ?_⟩
  have hz : (s.heap.push o).objs.size = s.heap.objs.size + 1 := Heap.size_push ..
  show _ ∧ _
  rw [hz]
  have he : IsEnum ((s.heap.push o).push { cls := .type "enumerate", data := .fields #[.none, .bool false, .ref s.heap.objs.size, rawInt 0, .none, .none] }) (s.heap.objs.size + 1) s.heap.objs.size 0 .none := by
    have := Heap.get?_push_size (s.heap.push o) (o := { cls := .type "enumerate", data := .fields #[.none, .bool false, .ref s.heap.objs.size, rawInt 0, .none, .none] }) rfl
    rw [hz] at this; exact this
  refine ⟨⟨_, he, rfl⟩, h _ he (Heap.get?_push_of_some _ (Heap.get?_push_size _ B.free)) (by rw [Heap.size_push, hz]) fun b o x => Heap.get?_push_of_some _ (Heap.get?_push_of_some _ x)⟩
end
/-- the tuple at a, each item in a new pair -/
def ItTe (K : PySem.W.Frag) (a : Addr) : It :=
  ⟨fun i H => ∃ (xs : List V) (x : V), SqT K H a xs ∧ xs[i]? = some x, fun i H v H' => ∃ T x, v = .ref T ∧ H T = none ∧ H' = upd H T (.tup [.int (i : Nat), x]) ∧ ∀ xs, SqT K H a xs → xs[i]? = some x, fun i H => ∃ xs : List V, SqT K H a xs ∧ xs.length = i⟩
theorem turn_enumT {P : Program} {w : World} {K : PySem.W.Frag} {elts : List Expr} {kk : Nat} {tpos : Pos} (a e it : Addr) :
    Turn P w K (.Tuple elts kk tpos) (ItTe K a) [e, it] e (fun i h => (∃ old, IsEnum h e it ((i : Nat) : Int) old) ∧ h.IsTupleIter it a i ∧ e ≠ it ∧ a ≠ it ∧ e ≠ a) where
  mem := by simp
  obj := fun i h st b hb => by
    obtain ⟨⟨old, he⟩, ⟨o, ho, hc, hd⟩, _⟩ := st
    have e' : b = e ∨ b = it := by simpa using hb
    rcases e' with z | z
    · rw [z]; exact ⟨_, he, fun v q => nomatch q⟩
    · rw [z]; exact ⟨o, ho, fun v q => by rw [hd] at q; cases q⟩
  keep := fun i h h' st k => let ⟨⟨old, he⟩, hi, hne⟩ := st; ⟨⟨old, k e (by simp) _ he⟩, hi.at fun o q => k it (by simp) o q, hne⟩
  item := by
    intro X hP hw hK hc i pins s σ H E I hf st hg
    subst hP hw hK
    obtain ⟨⟨old, he⟩, hit, hne, hai, hea⟩ := st
    obtain ⟨xs, x, hq, hx⟩ := hg
    obtain ⟨its, rv, p, hz⟩ := I.tuple hq
    obtain ⟨u, hu, ru⟩ := rv.get hx
    have hel : e < s.heap.objs.size := Heap.lt_size he
    have hil : it < s.heap.objs.size := by obtain ⟨_, q, _⟩ := hit; exact Heap.lt_size q
    have Dr := Draws.tuple (prog := X.prog) (w := X.w) (A := X.A.in1) (show X.A.in1.handled = none from I.ok.hd hc) it a hai its.toArray
    have hlt : i < its.toArray.size := by
      have := (List.getElem?_eq_some_iff.mp hu).1
      simpa using this
    refine wpAny_pyNext_enum_itemD Dr he ⟨hit, p⟩ hlt hne (by simp [hne, hea]) fun y h' tk hy ho hst' hT hsz hk => ?_
    have ey : y = u := by
      have hy : its.toArray[i]? = some y := hy
      have hu' : its.toArray[i]? = some u := by simpa using hu
      rw [hy] at hu'
      exact Option.some.inj hu'
    subst ey
    refine ⟨_, rfl, wpAny_letOwnedTupleGo_enum (s := { s with heap := h', toks := tk + 1 }) ho fun h'' he' sb => ?_⟩
    have hT2 : h''.get? s.heap.objs.size = some { cls := .type "tuple", data := .seq #[.int i tk, y] } := (sb.2 _ (Nat.ne_of_gt hel)).trans hT
    have new : ObjOk X.prog X.w (upd H s.heap.objs.size (.tup [.int (i : Nat), x])) h'' s.heap.objs.size (.tup [.int (i : Nat), x]) :=
      ⟨by show 2 ≤ sizeLine; decide, [.int i tk, y], .cons ⟨_, rfl⟩ (.cons ru .nil), ⟨_, hT2, rfl, _, rfl⟩⟩
    have I1 : Inv X pins σ (upd H s.heap.objs.size (.tup [.int (i : Nat), x])) { s with heap := h'', toks := tk + 1 } :=
      I.turnedNew (ch := [e, it]) (fun b ob hb q => (sb.2 b (fun z => hb (by simp [z]))).trans (hk b ob (fun z => hb (by simp [z])) (fun z => hb (by simp [z])) q)) hf (Nat.le_refl _) new
    refine ⟨.ref s.heap.objs.size, _, I1, rfl, ⟨_, x, rfl, I.hok.fresh (Nat.le_refl _), rfl, fun ys hy => by rw [I.tuple_inj hy hq]; exact hx⟩, ⟨⟨y, ?_⟩, hst'.1.at fun o q => (sb.2 it (Ne.symm hne)).trans q, hne, hai, hea⟩, fun b hb => ?_⟩
    · have e1 : ((i + 1 : Nat) : Int) = (i : Int) + 1 := by omega
      rw [e1]; exact he'
    · have hb' : b < s.heap.objs.size := by
        have e' : b = e ∨ b = it := by simpa using hb
        rcases e' with z | z
        · rw [z]; exact hel
        · rw [z]; exact hil
      rw [upd_ne (Nat.ne_of_lt hb')]
      exact (hf b hb).1
  done := by
    intro X hP hw hK hc i pins s σ H E I hf st hg
    subst hP hw hK
    obtain ⟨⟨old, he⟩, hit, hne, hai, hea⟩ := st
    obtain ⟨xs, hq, hx⟩ := hg
    obtain ⟨its, rv, p, hz⟩ := I.tuple hq
    obtain ⟨f0, f1, f2, f3, f4, f5⟩ := hf it (by simp)
    have hl := rv.length
    have Dr := Draws.tuple (prog := X.prog) (w := X.w) (A := X.A.in1) (show X.A.in1.handled = none from I.ok.hd hc) it a hai its.toArray
    have hit2 : s.heap.IsTupleIter it a its.toArray.size := by
      have : its.toArray.size = i := by simp; omega
      rw [this]; exact hit
    exact wpAny_pyNext_enum_endD Dr he ⟨hit2, p⟩ fun h' eb => ⟨rfl, I.turned (t' := s.toks) (fun b o hb q => eb b o hb q) f0 f1 f3 f4 f5⟩
  self := fun A i s Q E st h => let ⟨⟨_, he⟩, _⟩ := st; wpAny_pyIter_enum he h
theorem walk_enumT {K : PySem.W.Frag} {a : Addr} {xs : List V} : Walk (ItTe K a) xs.length (fun H => SqT K H a xs) (YPair (fun i => some (.int (i : Nat))) (fun i => xs[i]?)) := by
  refine ⟨fun i _ hi q => ⟨xs, xs[i], q, by simp [hi]⟩, fun _ q => ⟨xs, q, rfl⟩, fun i H v H' _ q y => ?_⟩
  obtain ⟨T, x, h1, h2, h3, h4⟩ := y
  exact ⟨T, .int (i : Nat), x, h1, h2, h3, rfl, h4 xs q⟩
/-- enumerate of a list or a tuple, by its value -/
theorem pi_enumS {X : Cx} {e : Expr} {ta : TA} {p pos tpos : Pos} {elts : List Expr} {kk : Nat} (hg : Gl X "enumerate") (hm : X.mg "enumerate" = none) (ha : PA X [e] ta) (hs : starEach [e] X.env = [(false, eval e X.env)] := by rfl) :
    PI X (.Tuple elts kk tpos) (.Call (.Name "enumerate" p) [e] [] pos) (fun σ H R => ta σ H fun vs H1 => ∃ a, vs = [.ref a] ∧ ((∃ xs, SqL X.K H1 a xs) ∧ R (Ite X.K a) H1 ∨ (∃ xs, SqT X.K H1 a xs) ∧ R (ItTe X.K a) H1)) := by
  refine ⟨fun pins s σ H R I h => ?_⟩
  refine Call_ (ld_blt I hg hm boot_enumerate (PyProof.Rows.callWith_type1 (thn (ha.run pos pins s σ H _ I h) fun us s1 ⟨vs, H1, I1, r1, q1⟩ => ?_) hs rfl))
  obtain ⟨a, ex, hq⟩ := q1
  subst ex
  cases r1 with
  | cons r rr =>
    cases rr
    cases r
    rcases hq with ⟨⟨xs, hq⟩, q⟩ | ⟨⟨xs, hq⟩, q⟩
    · obtain ⟨its, rv, p', hz⟩ := I1.list hq
      refine call_enumerate_list p'.isList fun h' he hit hsz hk => wpAny_pyIter_enum he ?_
      have I2 : Inv X pins σ H1 { s1 with heap := h' } := I1.kept (t' := s1.toks) hk
      refine ⟨s1.heap.objs.size + 1, [s1.heap.objs.size + 1, s1.heap.objs.size], _, _, H1, rfl, I2, turn_enum a (s1.heap.objs.size + 1) s1.heap.objs.size, ⟨⟨.none, he⟩, hit, Nat.succ_ne_self _⟩, fun b hb => ?_, q⟩
      have e' : b = s1.heap.objs.size + 1 ∨ b = s1.heap.objs.size := by simpa using hb
      have hle : s1.heap.objs.size ≤ b := by
        rcases e' with z | z
        · rw [z]; exact Nat.le_add_right _ _
        · rw [z]; exact Nat.le_refl _
      exact I1.fpOk hle (I1.hok.fresh hle)
    · obtain ⟨its, rv, p', hz⟩ := I1.tuple hq
      have hlt : a < s1.heap.objs.size := by
        obtain ⟨o, ho, _⟩ := p'
        exact Heap.lt_size ho
      refine enum1_begins (begins_tuple a its.toArray) p' fun h' he hit hsz hk => wpAny_pyIter_enum he ?_
      have I2 : Inv X pins σ H1 { s1 with heap := h' } := I1.kept (t' := s1.toks) hk
      refine ⟨s1.heap.objs.size + 1, [s1.heap.objs.size + 1, s1.heap.objs.size], _, _, H1, rfl, I2, turn_enumT a (s1.heap.objs.size + 1) s1.heap.objs.size, ⟨⟨.none, he⟩, ⟨_, hit, rfl, rfl⟩, Nat.succ_ne_self _, Nat.ne_of_lt hlt, Ne.symm (Nat.ne_of_lt (Nat.lt_succ_of_lt hlt))⟩, fun b hb => ?_, q⟩
      have e' : b = s1.heap.objs.size + 1 ∨ b = s1.heap.objs.size := by simpa using hb
      have hle : s1.heap.objs.size ≤ b := by
        rcases e' with z | z
        · rw [z]; exact Nat.le_add_right _ _
        · rw [z]; exact Nat.le_refl _
      exact I1.fpOk hle (I1.hok.fresh hle)
def enumL (xs : List D) : List D := (List.range xs.length).map fun (i : Nat) => D.tup [.int (i : Int), xs.getD i .non]
def enumOf (d : D) (S : Store) : Option (Src × Store) := (srcOf d S).map fun q => (⟨enumL q.1.items, q.1.grd⟩, q.2)
def diEnum (fe : DE) : DI := fun ρ S => (fe ρ S).bind fun d S1 => optO (enumOf d S1)
theorem enumL_len (xs : List D) : (enumL xs).length = xs.length := by simp [enumL]
theorem enumL_at {xs : List D} {i : Nat} (h : i < xs.length) : (enumL xs)[i]? = some (.tup [.int (i : Int), xs[i]]) := by
  simp [enumL, h]
section
variable {K : PySem.W.Frag} {G : Gx} {m1 : List Addr} {H1 : Hp} {S1 : Store}
/-- pairs of a place and what is read there -/
theorem srcOk_pair {xs : List D} {grd : Store → Bool} {J : It} (R : Hp → List V → Prop) (hw : ∀ ws : List V, Walk J ws.length (fun H => R H ws) (YPair (fun i => some (.int (i : Nat))) (fun i => ws[i]?)))
    (key : ∀ H' m' S', Step m1 H1 m' H' → Sim K G m' S' H' → grd S' = true → ∃ us : List V, R H' us ∧ SVs K m' H' xs us) : SrcOk K G m1 H1 ⟨enumL xs, grd⟩ J := by
  show Walk J (enumL xs).length _ _
  rw [enumL_len]
  refine ⟨fun i H' hi ⟨m', S', st, sm', hg⟩ => ?_, fun H' ⟨m', S', st, sm', hg⟩ => ?_, fun i H' x H'' hi _ hy m' S' st sm' hg => ?_⟩
  · obtain ⟨us, h2, h3⟩ := key H' m' S' st sm' hg
    exact (hw us).goes i H' (by rw [← h3.len]; exact hi) h2
  · obtain ⟨us, h2, h3⟩ := key H' m' S' st sm' hg
    rw [h3.len]
    exact (hw us).stops H' h2
  · obtain ⟨us, h2, h3⟩ := key H' m' S' st sm' hg
    obtain ⟨T, a, b, rfl, hT, rfl, ea, eb⟩ := (hw us).yields i H' x H'' (by rw [← h3.len]; exact hi) h2 hy
    cases ea
    obtain ⟨v, h4, h5⟩ := h3.get (i := i) (d := xs[i]) (by simp [hi])
    have eb : us[i]? = some b := eb
    rw [eb] at h4; cases h4
    exact ⟨_, enumL_at hi, Step.beside sm' hT, sm'.beside hT, sv_tup (ds := [.int (i : Int), xs[i]]) ⟨_, _, rfl, rfl, SVs.one h5⟩ sm' hT⟩
end
section
variable {X : Cx} {G : Gx} {W : WX} {e : Expr} {fe : DE} {p pos tpos : Pos} {elts : List Expr} {kk : Nat}
theorem ji_enum (hm : X.mg "enumerate" = none) (he : JE X G W e fe) (hg : Gl X "enumerate" := by rfl) (hs : starEach [e] X.env = [(false, eval e X.env)] := by rfl) : JI X G W (.Tuple elts kk tpos) (.Call (.Name "enumerate" p) [e] [] pos) (diEnum fe) :=
  PI.imp (pi_enumS hg hm (ja_cons he ja_nil hs) hs) fun σ H R ⟨m, ρ, S, sr, sm, eo⟩ => ⟨m, ρ, S, sr, sm, by
    unfold daCons daNil
    unfold diEnum at eo
    cases z : fe ρ S with
    | bad => rw [z] at eo; exact eo.elim
    | exn x S1 => rw [z] at eo; exact eo
    | ok d S1 =>
      rw [z] at eo
      simp only [Out.bind_ok] at eo ⊢
      intro vs H1 m1 st1 sm1 r1
      have eo1 := eo.step st1
      obtain ⟨v, rfl, rv⟩ := svs1 r1
      cases d with
      | tup xs =>
        obtain ⟨a, us, rfl, q, r⟩ := rv
        exact ⟨a, rfl, .inr ⟨⟨us, q⟩, eo1 _ H1 m1 sm1.refl sm1 (srcOk_pair (fun H ws => SqT X.K H a ws) (fun ws => walk_enumT) fun H' m' S' st _ _ => ⟨us, sqT_step sm1 st q, r.mono sm1 st⟩)⟩⟩
      | fl xs =>
        obtain ⟨a, us, rfl, q, r⟩ := rv
        exact ⟨a, rfl, .inl ⟨⟨us, q.l⟩, eo1 _ H1 m1 sm1.refl sm1 (srcOk_pair (fun H ws => SqL X.K H a ws) (fun ws => walk_enum) fun H' m' S' st _ _ => ⟨us, (sqF_step sm1 st q).l, r.mono sm1 st⟩)⟩⟩
      | obj n =>
        unfold enumOf srcOf at eo1
        dsimp only at eo1
        cases z : lstAt S1 n with
        | none => rw [z] at eo1; exact eo1.elim
        | some xs =>
          rw [z] at eo1
          obtain ⟨a, rfl, hm⟩ := rv
          obtain ⟨a', us, h1, h2, h3⟩ := lstAt_ok sm1 z
          rw [hm] at h1; cases h1
          refine ⟨a, rfl, .inl ⟨⟨us, SqL.of h2⟩, eo1 _ H1 m1 sm1.refl sm1 (srcOk_pair (fun H ws => SqL X.K H a ws) (fun ws => walk_enum) fun H' m' S' st sm' hg => ?_)⟩⟩
          obtain ⟨a', us, h1, h2, h3⟩ := lstAt_ok sm' (grdL_ok hg)
          rw [st.get hm] at h1; cases h1
          exact ⟨us, SqL.of h2, h3⟩
      | _ => exact eo1.elim⟩
end
end DL
set_option Elab.async false
set_option linter.all false
set_option maxRecDepth 100000
set_option maxHeartbeats 2000000
namespace DL
open PySem PySem.Spec PyProof.Rows L2
theorem Out.bind_assoc {α β γ : Type} (o : Out α) (f : α → Store → Out β) (g : β → Store → Out γ) : (o.bind f).bind g = o.bind fun a S => (f a S).bind g := by
  cases o <;> rfl
section
variable {K : PySem.W.Frag} {G : Gx} {W : WX} {vs : List Nat}
/-- the turns of a comprehension's loop -/
theorem lc_turns {src : Src} {J : It} {g : DG} {tt : DT} {fe : DE} {σ : L2.St} {ρ : DEnv} {m1 m0 : List Addr} {S1 S0 : Store} {H1 H0 : Hp} {n : Nat} {Dd : Addr} {α β : Type} {rel : List Addr → Hp → α → β → Prop} {Q : β → Hp → Prop} {Wc : Value → Option Addr → Hp → Prop} {k : Unit → Store → Out α} {Qd : Hp → Prop}
    (w : SrcOk K G m1 H1 src J) (sm1 : Sim K G m1 S1 H1) (sr1 : SR K m1 H1 ρ σ) (st0 : Step m1 H1 m0 H0) (sm0 : Sim K G m0 S0 H0) (hmD : m0[n]? = some Dd) (eo : EO K G rel Q Wc m0 H0 ((lcD src.grd g tt fe n (wipeD ρ vs) src.items S0).bind k))
    (hQd : ∀ m S H, Step m0 H0 m H → Sim K G m S H → EO K G rel Q Wc m H (k () S) → Qd H) :
    ∃ W' : Nat → Nat → Hp → Prop, (∃ mm, W' 0 mm H0) ∧ ∀ i mm H, W' i mm H → (J.stop i H ∧ Qd H) ∨ (J.go i H ∧ ∃ Nx : Hp → Prop, (∀ H', Nx H' → ∃ m', m' < mm ∧ W' (i + 1) m' H') ∧ ∀ x H', J.yld i H x H' → tDGv K G W0 vs g x (wipe σ vs) H' fun σ2 H2 => wipe σ2 vs = wipe σ vs ∧ tDT K G W0 tt σ2 H2 fun b H3 =>
      if b = true then tD K G W0 fe σ2 H3 fun y H4 => ∃ acc, H4 Dd = some (.lst acc) ∧ acc.length < sizeLine ∧ Nx (upd H4 Dd (.lst (acc ++ [y]))) else Nx H3) := by
  have turn : ∀ i x H H', i < src.items.length → (∃ m S, Step m0 H0 m H ∧ Sim K G m S H ∧ EO K G rel Q Wc m H ((lcD src.grd g tt fe n (wipeD ρ vs) (src.items.drop i) S).bind k)) → (∀ m' S', Step m1 H1 m' H → Sim K G m' S' H → src.grd S' = true → ∃ d, src.items[i]? = some d ∧ Step m' H m' H' ∧ Sim K G m' S' H' ∧ SV K m' H' d x) →
      tDGv K G W0 vs g x (wipe σ vs) H' fun σ2 H2 => wipe σ2 vs = wipe σ vs ∧ tDT K G W0 tt σ2 H2 fun b H3 =>
        if b = true then tD K G W0 fe σ2 H3 fun y H4 => ∃ acc, H4 Dd = some (.lst acc) ∧ acc.length < sizeLine ∧ (∃ m S, Step m0 H0 m (upd H4 Dd (.lst (acc ++ [y]))) ∧ Sim K G m S (upd H4 Dd (.lst (acc ++ [y]))) ∧ EO K G rel Q Wc m (upd H4 Dd (.lst (acc ++ [y]))) ((lcD src.grd g tt fe n (wipeD ρ vs) (src.items.drop (i + 1)) S).bind k))
        else (∃ m S, Step m0 H0 m H3 ∧ Sim K G m S H3 ∧ EO K G rel Q Wc m H3 ((lcD src.grd g tt fe n (wipeD ρ vs) (src.items.drop (i + 1)) S).bind k)) := by
    rintro i x H H' hi ⟨m, S, st, sm, eo⟩ hy
    have hgd := lcD_grd eo
    obtain ⟨d, hd, st3, sm3, sv⟩ := hy m S (st0.trans st) sm hgd
    have e0 : src.items.drop i = d :: src.items.drop (i + 1) := by
      rw [List.drop_eq_getElem_cons hi]
      rw [List.getElem?_eq_getElem hi] at hd
      cases hd
      rfl
    rw [e0] at eo
    unfold lcD at eo
    rw [if_pos hgd] at eo
    have srw : SR K m H' (wipeD ρ vs) (wipe σ vs) := (sr1.mono sm1 ((st0.trans st).trans st3)).wipe vs
    refine ⟨m, wipeD ρ vs, S, d, srw, sm3, sv, ?_⟩
    have eo := eo.step st3
    cases e1 : g d (wipeD ρ vs) S with
    | nx ρ1 Sa =>
      rw [e1] at eo
      dsimp only at eo
      intro σ4 H4 m4 st4 sm4 sr4 ag
      refine ⟨wipe_agree ag, m4, ρ1, Sa, sr4, sm4, ?_⟩
      have eo := eo.step st4
      cases e2 : tt ρ1 Sa with
      | ok b Sb =>
        rw [e2] at eo
        intro b' H5 m5 st5 sm5 rb
        cases rb
        have eo := eo.step st5
        cases b with
        | true =>
          rw [if_pos rfl]
          dsimp only at eo
          refine ⟨m5, ρ1, Sb, sr4.mono sm4 st5, sm5, ?_⟩
          cases e3 : fe ρ1 Sb with
          | ok y Sc =>
            rw [e3] at eo
            dsimp only at eo
            intro u H6 m6 st6 sm6 ru
            have eo := eo.step st6
            cases e4 : lstAt Sc n with
            | none => rw [e4] at eo; exact eo.elim
            | some acc =>
              rw [e4] at eo
              dsimp only at eo
              by_cases hz : acc.length < 1000000
              · rw [if_pos hz] at eo
                obtain ⟨a', ws, h1, h2, h3⟩ := lstAt_ok sm6 e4
                have stA := (((st.trans st3).trans st4).trans st5).trans st6
                rw [stA.get hmD] at h1
                cases h1
                have stB : Step m6 H6 m6 (upd H6 Dd (.lst (ws ++ [u]))) := Step.put sm6 (stA.get hmD)
                have smB : Sim K G m6 (Sc.set n (.lst (acc ++ [y]))) (upd H6 Dd (.lst (ws ++ [u]))) := sm6.put (stA.get hmD) ⟨ws ++ [u], upd_same, (h3.append (SVs.one ru)).mono sm6 stB⟩
                exact ⟨ws, h2, by rw [← h3.len]; exact Nat.lt_of_lt_of_le hz (size6 (Nat.le_refl _)), m6, _, stA.trans stB, smB, eo.step stB⟩
              · rw [if_neg hz] at eo; exact eo.elim
          | exn x Sc => rw [e3] at eo; exact eo.elim
          | bad => rw [e3] at eo; exact eo.elim
        | false =>
          rw [if_neg Bool.false_ne_true]
          exact ⟨m5, Sb, ((st.trans st3).trans st4).trans st5, sm5, eo⟩
      | exn x Sb => rw [e2] at eo; exact eo.elim
      | bad => rw [e2] at eo; exact eo.elim
    | exn x ρ1 Sa => rw [e1] at eo; exact eo.elim
    | rt d Sa => rw [e1] at eo; exact eo.elim
    | bk ρ1 Sa => rw [e1] at eo; exact eo.elim
    | ct ρ1 Sa => rw [e1] at eo; exact eo.elim
    | bad => rw [e1] at eo; exact eo.elim
  refine ⟨fun i mm H => mm = src.items.length - i ∧ i ≤ src.items.length ∧ ∃ m S, Step m0 H0 m H ∧ Sim K G m S H ∧ EO K G rel Q Wc m H ((lcD src.grd g tt fe n (wipeD ρ vs) (src.items.drop i) S).bind k), ⟨src.items.length, by simp, Nat.zero_le _, m0, S0, sm0.refl, sm0, eo⟩, ?_⟩
  rintro i mm H ⟨rfl, hi, m, S, st, sm, eo⟩
  have hG : ∃ m' S', Step m1 H1 m' H ∧ Sim K G m' S' H ∧ src.grd S' = true := ⟨m, S, st0.trans st, sm, lcD_grd eo⟩
  by_cases hlt : i < src.items.length
  · refine .inr ⟨w.goes i H hlt hG, fun H => ∃ m S, Step m0 H0 m H ∧ Sim K G m S H ∧ EO K G rel Q Wc m H ((lcD src.grd g tt fe n (wipeD ρ vs) (src.items.drop (i + 1)) S).bind k), fun H' p' => ⟨src.items.length - (i + 1), by omega, rfl, hlt, p'⟩, fun x H' y => turn i x H H' hlt ⟨m, S, st, sm, eo⟩ (w.yields i H x H' hlt hG y)⟩
  · have e : i = src.items.length := by omega
    subst e
    refine .inl ⟨w.stops H hG, hQd m S H st sm ?_⟩
    have hgd := lcD_grd eo
    rw [List.drop_length] at eo
    unfold lcD at eo
    rw [if_pos hgd] at eo
    exact eo
end
def lcD2 (grd : Store → Bool) (g : DG) (tt : DT) (fi1 : DI) (g1 : DG) (tt1 : DT) (fe : DE) (vs1 : List Nat) (n : Nat) (ρ : DEnv) : List D → Store → Out Unit
  | [], S => if grd S = true then .ok () S else .bad
  | d :: ds, S => if grd S = true then (match g d ρ S with
    | .nx ρ1 S1 => (match tt ρ1 S1 with
      | .ok true S2 => (match fi1 ρ1 S2 with
        | .ok src S3 => (lcD src.grd g1 tt1 fe n (wipeD ρ1 vs1) src.items S3).bind fun _ S4 => lcD2 grd g tt fi1 g1 tt1 fe vs1 n ρ ds S4
        | _ => .bad)
      | .ok false S2 => lcD2 grd g tt fi1 g1 tt1 fe vs1 n ρ ds S2
      | _ => .bad)
    | _ => .bad) else .bad
def dLc2 (fi : DI) (g : DG) (tt : DT) (fi1 : DI) (g1 : DG) (tt1 : DT) (fe : DE) (vs vs1 : List Nat) : DE := fun ρ S => (fi ρ S).bind fun src S1 => (lcD2 src.grd g tt fi1 g1 tt1 fe vs1 S1.length (wipeD ρ vs) src.items (S1 ++ [.lst []])).bind fun _ S2 => .ok (.obj S1.length) S2
theorem lcD2_grd {K : PySem.W.Frag} {G : Gx} {α β : Type} {rel : List Addr → Hp → α → β → Prop} {Q : β → Hp → Prop} {Wc : Value → Option Addr → Hp → Prop} {m : List Addr} {H : Hp} {grd : Store → Bool} {g g1 : DG} {tt tt1 : DT} {fi1 : DI} {fe : DE} {vs1 : List Nat} {n : Nat} {ρ : DEnv} {ds : List D} {S : Store} {k : Unit → Store → Out α}
    (h : EO K G rel Q Wc m H ((lcD2 grd g tt fi1 g1 tt1 fe vs1 n ρ ds S).bind k)) : grd S = true := by
  cases q : grd S with
  | true => rfl
  | false =>
    exfalso
    cases ds with
    | nil => unfold lcD2 at h; rw [q] at h; exact h
    | cons d ds => unfold lcD2 at h; rw [q] at h; exact h
section
variable {X : Cx} {G : Gx} {W : WX} {vs vs1 : List Nat} {pos : Pos}
theorem lc2_core3 {fi fi1 : DI} {g g1 : DG} {tt tt1 : DT} {fe : DE} {σ : L2.St} {H : Hp} {Q : VK} (h : tD X.K G W (dLc2 fi g tt fi1 g1 tt1 fe vs vs1) σ H Q) :
    tLc2 (tDI X.K G W fi) (tDGv X.K G W0 vs g) (tDT X.K G W0 tt) (tDI X.K G W0 fi1) (tDGv X.K G W0 vs1 g1) (tDT X.K G W0 tt1) (tD X.K G W0 fe) vs vs1 σ H Q := by
  obtain ⟨m, ρ, S, sr, sm, eo⟩ := h
  refine ⟨m, ρ, S, sr, sm, EO.then (rel := SrcOk X.K G) eo fun src S1 J H1 m1 st1 sm1 w eo1 => ?_⟩
  intro Dd hD
  have sr1 := sr.mono sm st1
  have st2 : Step m1 H1 (m1 ++ [Dd]) (upd H1 Dd (.lst [])) := Step.new sm1 hD
  have sm2 : Sim X.K G (m1 ++ [Dd]) (S1 ++ [.lst []]) (upd H1 Dd (.lst [])) := sim_lst (ds := []) (vs := []) rfl sm1 hD
  have hmD : (m1 ++ [Dd])[S1.length]? = some Dd := by rw [← sm1.len]; simp
  let Pv : Nat → Hp → Prop := fun i H => ∃ m S, Step (m1 ++ [Dd]) (upd H1 Dd (.lst [])) m H ∧ Sim X.K G m S H ∧ EO X.K G (SV X.K) Q (fun c d H' => W c d σ H') m H ((lcD2 src.grd g tt fi1 g1 tt1 fe vs1 S1.length (wipeD ρ vs) (src.items.drop i) S).bind fun _ S2 => .ok (.obj S1.length) S2)
  refine ⟨fun i mm H => mm = src.items.length - i ∧ i ≤ src.items.length ∧ Pv i H, ⟨src.items.length, by simp, Nat.zero_le _, m1 ++ [Dd], S1 ++ [DO.lst []], sm2.refl, sm2, eo1.step st2⟩, ?_⟩
  rintro i mm H ⟨rfl, hi, m, S, st, sm, eo⟩
  have hgd := lcD2_grd eo
  have hG : ∃ m' S', Step m1 H1 m' H ∧ Sim X.K G m' S' H ∧ src.grd S' = true := ⟨m, S, st2.trans st, sm, hgd⟩
  by_cases hlt : i < src.items.length
  · refine .inr ⟨w.goes i H hlt hG, Pv (i + 1), fun H' p' => ⟨src.items.length - (i + 1), by omega, rfl, hlt, p'⟩, fun x H' y => ?_⟩
    obtain ⟨d, hd, st3, sm3, sv⟩ := w.yields i H x H' hlt hG y m S (st2.trans st) sm hgd
    have e0 : src.items.drop i = d :: src.items.drop (i + 1) := by
      rw [List.drop_eq_getElem_cons hlt]
      rw [List.getElem?_eq_getElem hlt] at hd
      cases hd
      rfl
    rw [e0] at eo
    unfold lcD2 at eo
    rw [if_pos hgd] at eo
    have srw : SR X.K m H' (wipeD ρ vs) (wipe σ vs) := (sr1.mono sm1 ((st2.trans st).trans st3)).wipe vs
    refine ⟨m, wipeD ρ vs, S, d, srw, sm3, sv, ?_⟩
    have eo := eo.step st3
    cases e1 : g d (wipeD ρ vs) S with
    | nx ρ1 Sa =>
      rw [e1] at eo
      dsimp only at eo
      intro σ4 H4 m4 st4 sm4 sr4 ag
      refine ⟨wipe_agree ag, m4, ρ1, Sa, sr4, sm4, ?_⟩
      have eo := eo.step st4
      cases e2 : tt ρ1 Sa with
      | ok b Sb =>
        rw [e2] at eo
        intro b' H5 m5 st5 sm5 rb
        cases rb
        have eo := eo.step st5
        cases b with
        | true =>
          rw [if_pos rfl]
          dsimp only at eo
          refine ⟨m5, ρ1, Sb, sr4.mono sm4 st5, sm5, ?_⟩
          cases e3 : fi1 ρ1 Sb with
          | ok src1 Sc =>
            rw [e3] at eo
            dsimp only at eo
            intro J1 H6 m6 st6 sm6 w1
            have eo := eo.step st6
            rw [Out.bind_assoc] at eo
            have stA := (((st.trans st3).trans st4).trans st5).trans st6
            exact lc_turns w1 sm6 (sr4.mono sm4 (st5.trans st6)) sm6.refl sm6 (stA.get hmD) eo fun m7 S7 H7 st7 sm7 eo7 => ⟨m7, S7, stA.trans st7, sm7, eo7⟩
          | exn x Sc => rw [e3] at eo; exact eo.elim
          | bad => rw [e3] at eo; exact eo.elim
        | false =>
          rw [if_neg Bool.false_ne_true]
          exact ⟨m5, Sb, ((st.trans st3).trans st4).trans st5, sm5, eo⟩
      | exn x Sb => rw [e2] at eo; exact eo.elim
      | bad => rw [e2] at eo; exact eo.elim
    | exn x ρ1 Sa => rw [e1] at eo; exact eo.elim
    | rt d Sa => rw [e1] at eo; exact eo.elim
    | bk ρ1 Sa => rw [e1] at eo; exact eo.elim
    | ct ρ1 Sa => rw [e1] at eo; exact eo.elim
    | bad => rw [e1] at eo; exact eo.elim
  · have e : i = src.items.length := by omega
    subst e
    rw [List.drop_length] at eo
    unfold lcD2 at eo
    rw [if_pos hgd] at eo
    exact .inl ⟨w.stops H hG, eo _ H m sm.refl sm ⟨Dd, rfl, st.get hmD⟩⟩
variable {elt tg iter tg1 iter1 : Expr} {ifs ifs1 : List Expr} {scope : Scope} {own : List (Str × Nat)} {fi fi1 : DI} {g g1 : DG} {tt tt1 : DT} {fe : DE}
theorem je_lc2 (hc : X.calm = true) (hN : X.N.Nodup) (ok : BlkOk X.N X.env.scope scope own) (hv : ∀ i ∈ vs1, i ∈ vs) (hi : JI X G W tg iter fi)
    (hg : ∀ (s : Shared) (H : Hp) (C : Addr) (cl : List (Str × Addr)) (fp : List Addr), JGv (X.blk s H scope (compEnvC scope cl C X.env) fp) G W0 vs tg g) (ht : ∀ (s : Shared) (H : Hp) (C : Addr) (cl : List (Str × Addr)) (fp : List Addr), JTs (X.blk s H scope (compEnvC scope cl C X.env) fp) G W0 ifs tt)
    (hi1 : ∀ (s : Shared) (H : Hp) (C : Addr) (cl : List (Str × Addr)) (fp : List Addr), JI (X.blk s H scope (compEnvC scope cl C X.env) fp) G W0 tg1 iter1 fi1)
    (hg1 : ∀ (s : Shared) (H : Hp) (C : Addr) (cl : List (Str × Addr)) (fp : List Addr), JGv (X.blk s H scope (compEnvC scope cl C X.env) fp) G W0 vs1 tg1 g1) (ht1 : ∀ (s : Shared) (H : Hp) (C : Addr) (cl : List (Str × Addr)) (fp : List Addr), JTs (X.blk s H scope (compEnvC scope cl C X.env) fp) G W0 ifs1 tt1)
    (he : ∀ (s : Shared) (H : Hp) (C : Addr) (cl : List (Str × Addr)) (fp : List Addr), JE (X.blk s H scope (compEnvC scope cl C X.env) fp) G W0 elt fe) (hs : ∀ x, foldedSetIterable iter X.env x = pure x := by intro _; rfl) (hs1 : ∀ env x, foldedSetIterable iter1 env x = pure x := by intro _ _; rfl) (hvs : own.map (·.2) = vs := by rfl) :
    JE X G W (.ListComp elt [⟨tg, iter, ifs, 0⟩, ⟨tg1, iter1, ifs1, 0⟩] scope pos) (dLc2 fi g tt fi1 g1 tt1 fe vs vs1) := by
  subst hvs
  exact PE.imp (pe_lc2 hc hN hi ok hv hg ht hi1 hg1 ht1 he hs hs1) fun σ H Q h => lc2_core3 h
theorem js_setLc2 (i : Nat) {y : Str} {py spos : Pos} (hc : X.calm = true) (hN : X.N.Nodup) (ok : BlkOk X.N X.env.scope scope own) (hv : ∀ i ∈ vs1, i ∈ vs) (hi : JI X G W tg iter fi)
    (hg : ∀ (s : Shared) (H : Hp) (C : Addr) (cl : List (Str × Addr)) (fp : List Addr), JGv (X.blk s H scope (compEnvC scope cl C X.env) fp) G W0 vs tg g) (ht : ∀ (s : Shared) (H : Hp) (C : Addr) (cl : List (Str × Addr)) (fp : List Addr), JTs (X.blk s H scope (compEnvC scope cl C X.env) fp) G W0 ifs tt)
    (hi1 : ∀ (s : Shared) (H : Hp) (C : Addr) (cl : List (Str × Addr)) (fp : List Addr), JI (X.blk s H scope (compEnvC scope cl C X.env) fp) G W0 tg1 iter1 fi1)
    (hg1 : ∀ (s : Shared) (H : Hp) (C : Addr) (cl : List (Str × Addr)) (fp : List Addr), JGv (X.blk s H scope (compEnvC scope cl C X.env) fp) G W0 vs1 tg1 g1) (ht1 : ∀ (s : Shared) (H : Hp) (C : Addr) (cl : List (Str × Addr)) (fp : List Addr), JTs (X.blk s H scope (compEnvC scope cl C X.env) fp) G W0 ifs1 tt1)
    (he : ∀ (s : Shared) (H : Hp) (C : Addr) (cl : List (Str × Addr)) (fp : List Addr), JE (X.blk s H scope (compEnvC scope cl C X.env) fp) G W0 elt fe)
    (hsw : swapsWith (.ListComp elt [⟨tg, iter, ifs, 0⟩, ⟨tg1, iter1, ifs1, 0⟩] scope pos) (some (.Name y py)) spos.line X.env = pure true)
    (hy : X.N[i]? = some y := by rfl) (hyl : X.env.scope.names.lookup y = some .local := by rfl)
    (hs : ∀ x, foldedSetIterable iter X.env x = pure x := by intro _; rfl) (hs1 : ∀ env x, foldedSetIterable iter1 env x = pure x := by intro _ _; rfl) (hvs : own.map (·.2) = vs := by rfl) :
    JS X G W (.Assign [.Name y py] (.ListComp elt [⟨tg, iter, ifs, 0⟩, ⟨tg1, iter1, ifs1, 0⟩] scope pos) spos) (dAsg (dLc2 fi g tt fi1 g1 tt1 fe vs vs1) (gN i)) := by
  subst hvs
  exact PS.imp (ps_setLc2 hc hN hy hyl hsw hi ok hv hg ht hi1 hg1 ht1 he hs hs1) fun E σ H ⟨m, ρ, S, sr, sm, q⟩ => lc2_core3 (W := W) ⟨m, ρ, S, sr, sm, SQ.then (rel := SV X.K) q sr sm fun d S1 v H1 m1 st1 sm1 r1 q1 => q1 _ H1 m1 sm1.refl sm1 ((sr.mono sm st1).set i r1)⟩
/-- xs.append(e) -/
def dApp (fo fe : DE) : DE := fun ρ S => (fo ρ S).bind fun o S1 => match o with
  | .obj n => (match lstAt S1 n with
    | some _ => (fe ρ S1).bind fun d S2 => (match lstAt S2 n with
      | some xs => if xs.length < 1000000 then .ok .non (S2.set n (.lst (xs ++ [d]))) else .bad
      | none => .bad)
    | none => .bad)
  | _ => .bad
variable {o e : Expr} {fo fe' : DE} {apos cpos : Pos}
theorem je_app (ho : JE X G W o fo) (he : JE X G W e fe') (hbase : attributeBase o "append" X.env (eval o X.env) = eval o X.env := by rfl)
    (hfew : ((backTo cpos (starEach [e] X.env)).all (fun x => !x.1) && (backToKw cpos (keywordEach [] X.env)).all (fun x => x.1.isSome)
      && decide ([e].length + ([] : List Keyword).length + (if ([] : List Keyword).isEmpty then 0 else 1) < 30)) = true := by rfl)
    (hline : (apos.endLine == cpos.line) = true := by rfl) (hs : starEach [e] X.env = (false, eval e X.env) :: starEach [] X.env := by rfl) (hplain : (backTo cpos (starEach [] X.env)).any (·.1) = false := by rfl) :
    JE X G W (.Call (.Attribute o "append" apos) [e] [] cpos) (dApp fo fe') :=
  PE.imp (pe_bm PySem.F.plainAttrs_list PySem.F.slot_list_append PySem.F.type_list_append mt_append ho (ja_cons he ja_nil hs) hbase hfew hline hs hplain) fun σ H Q ⟨m, ρ, S, sr, sm, eo⟩ => ⟨m, ρ, S, sr, sm, EO.then (rel := SV X.K) eo fun x S1 v H1 m1 st1 sm1 r1 eo1 => by
    cases x with
    | obj n =>
      dsimp only at eo1
      cases z : lstAt S1 n with
      | none => rw [z] at eo1; exact eo1.elim
      | some xs0 =>
        rw [z] at eo1
        dsimp only at eo1
        obtain ⟨a, rfl, hm⟩ := r1
        obtain ⟨a', ws0, h1, h2, h3⟩ := lstAt_ok sm1 z
        rw [hm] at h1; cases h1
        refine ⟨.inl ⟨rfl, ws0, SqL.of h2⟩, m1, ρ, S1, sr.mono sm st1, sm1, ?_⟩
        unfold daCons daNil
        cases z2 : fe' ρ S1 with
        | bad => rw [z2] at eo1; exact eo1.elim
        | exn x S2 => rw [z2] at eo1; exact eo1
        | ok d S2 =>
          rw [z2] at eo1
          simp only [Out.bind_ok] at eo1 ⊢
          intro vs H2 m2 st2 sm2 r2
          have eo2 := eo1.step st2
          obtain ⟨y, rfl, ry⟩ := svs1 r2
          cases z3 : lstAt S2 n with
          | none => rw [z3] at eo2; exact eo2.elim
          | some xs =>
            rw [z3] at eo2
            dsimp only at eo2
            split at eo2
            · rename_i hz
              obtain ⟨a', ws, h1, h2, h3⟩ := lstAt_ok sm2 z3
              rw [st2.get hm] at h1; cases h1
              have hm2 := st2.get hm
              refine ⟨a, ws, y, rfl, rfl, h2, by rw [← h3.len]; exact Nat.lt_of_lt_of_le hz (size6 (Nat.le_refl _)), ?_⟩
              have st3 : Step m2 H2 m2 (upd H2 a (.lst (ws ++ [y]))) := Step.put sm2 hm2
              exact eo2 _ _ m2 st3 (sm2.put hm2 ⟨ws ++ [y], upd_same, (h3.append (SVs.one ry)).mono sm2 st3⟩) rfl
            · exact eo2.elim
    | _ => exact eo1.elim⟩
end
end DL
set_option Elab.async false
set_option linter.all false
set_option maxRecDepth 100000
set_option maxHeartbeats 0
namespace Pr
open PySem PySem.Spec PyProof.Rows L2 DL
def top (i : Nat) : Stmt := PySem.Challenge.pw_wagehall_k21_papers_of_worth.main.body.getD i (.Pass ⟨0, 0, 0, 0⟩)
abbrev s_part : Stmt := top 11
abbrev s_add : Stmt := top 12
abbrev s_less : Stmt := top 13
abbrev s_times : Stmt := top 14
abbrev s_over : Stmt := top 15
abbrev s_order : Stmt := top 16
abbrev s_Bond___init__ : Stmt := inClass (top 18) 0
abbrev s_Bond_pays : Stmt := inClass (top 18) 1
abbrev s_Bond_worth : Stmt := inClass (top 18) 2
abbrev s_Bond_rate : Stmt := inClass (top 18) 3
abbrev s_Bond_mean_time : Stmt := inClass (top 18) 4
abbrev s_Bond_moved : Stmt := inClass (top 18) 5
abbrev s_met_by_two : Stmt := top 19
abbrev s_Tree___init__ : Stmt := inClass (top 20) 0
abbrev s_Tree_weight : Stmt := inClass (top 20) 1
abbrev s_Tree_prices : Stmt := inClass (top 20) 2
abbrev s_Tree_right : Stmt := inClass (top 20) 3
abbrev s_Tree_held : Stmt := inClass (top 20) 4
abbrev s_Tree_after : Stmt := inClass (top 20) 5
abbrev s_Tree_by_ways : Stmt := inClass (top 20) 6
abbrev s_Scaled___init__ : Stmt := inClass (top 21) 0
abbrev s_Scaled_right : Stmt := inClass (top 21) 1
abbrev s_paid : Stmt := top 22
abbrev s_all_ways : Stmt := top 23
abbrev s_parity : Stmt := top 24
abbrev s__law_dice : Stmt := top 26
abbrev s__law_roll : Stmt := top 27
abbrev s__law_rounds : Stmt := top 28
abbrev s__law_told : Stmt := top 29
abbrev s__law_least : Stmt := top 30
abbrev s__law_worth : Stmt := top 31
abbrev s__law_ways : Stmt := top 32
abbrev s__law_bonds : Stmt := top 33
abbrev s_law : Stmt := top 34
def d_part : He.DefD := ⟨("part", none), "part", "part", defArgs s_part, defBody s_part, defScope s_part, [], []⟩
def d_add : He.DefD := ⟨("add", none), "add", "add", defArgs s_add, defBody s_add, defScope s_add, [], []⟩
def d_less : He.DefD := ⟨("less", none), "less", "less", defArgs s_less, defBody s_less, defScope s_less, [], []⟩
def d_times : He.DefD := ⟨("times", none), "times", "times", defArgs s_times, defBody s_times, defScope s_times, [], []⟩
def d_over : He.DefD := ⟨("over", none), "over", "over", defArgs s_over, defBody s_over, defScope s_over, [], []⟩
def d_order : He.DefD := ⟨("order", none), "order", "order", defArgs s_order, defBody s_order, defScope s_order, [], []⟩
def d_Bond___init__ : He.DefD := ⟨("Bond", some "__init__"), "__init__", "Bond.__init__", defArgs s_Bond___init__, defBody s_Bond___init__, defScope s_Bond___init__, [], []⟩
def d_Bond_pays : He.DefD := ⟨("Bond", some "pays"), "pays", "Bond.pays", defArgs s_Bond_pays, defBody s_Bond_pays, defScope s_Bond_pays, [], []⟩
def d_Bond_worth : He.DefD := ⟨("Bond", some "worth"), "worth", "Bond.worth", defArgs s_Bond_worth, defBody s_Bond_worth, defScope s_Bond_worth, [], []⟩
def d_Bond_rate : He.DefD := ⟨("Bond", some "rate"), "rate", "Bond.rate", defArgs s_Bond_rate, defBody s_Bond_rate, defScope s_Bond_rate, [], []⟩
def d_Bond_mean_time : He.DefD := ⟨("Bond", some "mean_time"), "mean_time", "Bond.mean_time", defArgs s_Bond_mean_time, defBody s_Bond_mean_time, defScope s_Bond_mean_time, [], []⟩
def d_Bond_moved : He.DefD := ⟨("Bond", some "moved"), "moved", "Bond.moved", defArgs s_Bond_moved, defBody s_Bond_moved, defScope s_Bond_moved, [], []⟩
def d_met_by_two : He.DefD := ⟨("met_by_two", none), "met_by_two", "met_by_two", defArgs s_met_by_two, defBody s_met_by_two, defScope s_met_by_two, [], []⟩
def d_Tree___init__ : He.DefD := ⟨("Tree", some "__init__"), "__init__", "Tree.__init__", defArgs s_Tree___init__, defBody s_Tree___init__, defScope s_Tree___init__, [], []⟩
def d_Tree_weight : He.DefD := ⟨("Tree", some "weight"), "weight", "Tree.weight", defArgs s_Tree_weight, defBody s_Tree_weight, defScope s_Tree_weight, [], []⟩
def d_Tree_prices : He.DefD := ⟨("Tree", some "prices"), "prices", "Tree.prices", defArgs s_Tree_prices, defBody s_Tree_prices, defScope s_Tree_prices, [], []⟩
def d_Tree_right : He.DefD := ⟨("Tree", some "right"), "right", "Tree.right", defArgs s_Tree_right, defBody s_Tree_right, defScope s_Tree_right, [], []⟩
def d_Tree_held : He.DefD := ⟨("Tree", some "held"), "held", "Tree.held", defArgs s_Tree_held, defBody s_Tree_held, defScope s_Tree_held, [], []⟩
def d_Tree_after : He.DefD := ⟨("Tree", some "after"), "after", "Tree.after", defArgs s_Tree_after, defBody s_Tree_after, defScope s_Tree_after, [], []⟩
def d_Tree_by_ways : He.DefD := ⟨("Tree", some "by_ways"), "by_ways", "Tree.by_ways", defArgs s_Tree_by_ways, defBody s_Tree_by_ways, defScope s_Tree_by_ways, [], []⟩
def d_Scaled___init__ : He.DefD := ⟨("Scaled", some "__init__"), "__init__", "Scaled.__init__", defArgs s_Scaled___init__, defBody s_Scaled___init__, defScope s_Scaled___init__, [], []⟩
def d_Scaled_right : He.DefD := ⟨("Scaled", some "right"), "right", "Scaled.right", defArgs s_Scaled_right, defBody s_Scaled_right, defScope s_Scaled_right, [], []⟩
def d_paid : He.DefD := ⟨("paid", none), "paid", "paid", defArgs s_paid, defBody s_paid, defScope s_paid, [], []⟩
def d_all_ways : He.DefD := ⟨("all_ways", none), "all_ways", "all_ways", defArgs s_all_ways, defBody s_all_ways, defScope s_all_ways, [], []⟩
def d_parity : He.DefD := ⟨("parity", none), "parity", "parity", defArgs s_parity, defBody s_parity, defScope s_parity, [], []⟩
def d__law_dice : He.DefD := ⟨("_law_dice", none), "_law_dice", "_law_dice", defArgs s__law_dice, defBody s__law_dice, defScope s__law_dice, [], []⟩
def d__law_roll : He.DefD := ⟨("_law_roll", none), "_law_roll", "_law_roll", defArgs s__law_roll, defBody s__law_roll, defScope s__law_roll, [], []⟩
def d__law_rounds : He.DefD := ⟨("_law_rounds", none), "_law_rounds", "_law_rounds", defArgs s__law_rounds, defBody s__law_rounds, defScope s__law_rounds, [], []⟩
def d__law_told : He.DefD := ⟨("_law_told", none), "_law_told", "_law_told", defArgs s__law_told, defBody s__law_told, defScope s__law_told, [], []⟩
def d__law_least : He.DefD := ⟨("_law_least", none), "_law_least", "_law_least", defArgs s__law_least, defBody s__law_least, defScope s__law_least, [], []⟩
def d__law_worth : He.DefD := ⟨("_law_worth", none), "_law_worth", "_law_worth", defArgs s__law_worth, defBody s__law_worth, defScope s__law_worth, [], []⟩
def d__law_ways : He.DefD := ⟨("_law_ways", none), "_law_ways", "_law_ways", defArgs s__law_ways, defBody s__law_ways, defScope s__law_ways, [], []⟩
def d__law_bonds : He.DefD := ⟨("_law_bonds", none), "_law_bonds", "_law_bonds", defArgs s__law_bonds, defBody s__law_bonds, defScope s__law_bonds, [], []⟩
def d_law : He.DefD := ⟨("law", none), "law", "law", defArgs s_law, defBody s_law, defScope s_law, [], []⟩
def fn : List He.DefD := [d_part, d_add, d_less, d_times, d_over, d_order, d_Bond___init__, d_Bond_pays, d_Bond_worth, d_Bond_rate, d_Bond_mean_time, d_Bond_moved, d_met_by_two, d_Tree___init__, d_Tree_weight, d_Tree_prices, d_Tree_right, d_Tree_held, d_Tree_after, d_Tree_by_ways, d_Scaled___init__, d_Scaled_right, d_paid, d_all_ways, d_parity, d__law_dice, d__law_roll, d__law_rounds, d__law_told, d__law_least, d__law_worth, d__law_ways, d__law_bonds, d_law]
def fa0 : List He.Fa := [.glo "WageFault", .glo "BadMoney", .glo "BadDay", .glo "BadRule", .glo "Unbalanced", .glo "Shut", .glo "Short", .glo "BadText", .glo "NoAnswer", .glo "part", .glo "add", .glo "less", .glo "times", .glo "over", .glo "order", .glo "Bond", .glo "met_by_two", .glo "Tree", .glo "Scaled", .glo "paid", .glo "all_ways", .glo "parity", .glo "_law_dice", .glo "_law_roll", .glo "_law_rounds", .glo "_law_told", .glo "_law_least", .glo "_law_worth", .glo "_law_ways", .glo "_law_bonds"]
def fa1 : List He.Fa := [.glo "law", .free "abs", .free "enumerate", .free "int", .free "len", .free "max", .free "range", .free "reversed", .free "tuple", .cls "Bond", .mkr "Bond", .noat "Bond" "face", .noat "Bond" "much", .noat "Bond" "many", .meth "Bond" "pays", .meth "Bond" "worth", .meth "Bond" "rate", .meth "Bond" "mean_time", .meth "Bond" "moved", .cls "Tree", .mkr "Tree", .noat "Tree" "price", .noat "Tree" "up", .noat "Tree" "down", .noat "Tree" "growth", .noat "Tree" "many", .meth "Tree" "weight", .meth "Tree" "prices", .meth "Tree" "right", .meth "Tree" "held"]
def fa2 : List He.Fa := [.meth "Tree" "after", .meth "Tree" "by_ways", .cls "Scaled", .mkr "Scaled", .noat "Scaled" "tree", .noat "Scaled" "much", .meth "Scaled" "right", .exc "WageFault", .keep "WageFault", .exc "BadMoney", .keep "BadMoney", .exc "BadDay", .keep "BadDay", .exc "BadRule", .keep "BadRule", .keep "Unbalanced", .exc "Shut", .keep "Shut", .keep "Short", .keep "BadText", .exc "NoAnswer", .keep "NoAnswer", .exm "WageFault" "WageFault" true, .exm "WageFault" "BadMoney" false, .exm "WageFault" "BadDay" false, .exm "WageFault" "BadRule" false, .exm "WageFault" "Unbalanced" false, .exm "WageFault" "Shut" false, .exm "WageFault" "Short" false, .exm "WageFault" "BadText" false]
def fa3 : List He.Fa := [.exm "WageFault" "NoAnswer" false, .exm "BadMoney" "WageFault" true, .exm "BadMoney" "BadMoney" true, .exm "BadMoney" "BadDay" false, .exm "BadMoney" "BadRule" false, .exm "BadMoney" "Unbalanced" false, .exm "BadMoney" "Shut" false, .exm "BadMoney" "Short" false, .exm "BadMoney" "BadText" false, .exm "BadMoney" "NoAnswer" false, .exm "BadDay" "WageFault" true, .exm "BadDay" "BadMoney" false, .exm "BadDay" "BadDay" true, .exm "BadDay" "BadRule" false, .exm "BadDay" "Unbalanced" false, .exm "BadDay" "Shut" false, .exm "BadDay" "Short" false, .exm "BadDay" "BadText" false, .exm "BadDay" "NoAnswer" false, .exm "BadRule" "WageFault" true, .exm "BadRule" "BadMoney" false, .exm "BadRule" "BadDay" false, .exm "BadRule" "BadRule" true, .exm "BadRule" "Unbalanced" false, .exm "BadRule" "Shut" false, .exm "BadRule" "Short" false, .exm "BadRule" "BadText" false, .exm "BadRule" "NoAnswer" false, .exm "Shut" "WageFault" true, .exm "Shut" "BadMoney" false]
def fa4 : List He.Fa := [.exm "Shut" "BadDay" false, .exm "Shut" "BadRule" false, .exm "Shut" "Unbalanced" false, .exm "Shut" "Shut" true, .exm "Shut" "Short" false, .exm "Shut" "BadText" false, .exm "Shut" "NoAnswer" false, .exm "NoAnswer" "WageFault" true, .exm "NoAnswer" "BadMoney" false, .exm "NoAnswer" "BadDay" false, .exm "NoAnswer" "BadRule" false, .exm "NoAnswer" "Unbalanced" false, .exm "NoAnswer" "Shut" false, .exm "NoAnswer" "Short" false, .exm "NoAnswer" "BadText" false, .exm "NoAnswer" "NoAnswer" true]
def fa : List He.Fa := fa0 ++ fa1 ++ fa2 ++ fa3 ++ fa4
def tf : List He.Defn := [("_law_bonds", none), ("law", none)]
abbrev R : PySem.W.OpenRow := PySem.W.OpenLaw.row PySem.Challenge.rw_wagehall_k21_papers_of_worth
def exB (K : PySem.W.Frag) : Bool := decide ((tf.map fun p => (He.cT K p).2).Nodup)
abbrev hk : PySem.W.Hook := He.hookX 5 fa fn [] tf exB
def ob (s : PySem.W.SharedT) : hk.α := He.obsX 5 fa fn [] tf exB (HandSHeadRun.getT s)
theorem ob_eq (s : PySem.W.SharedT) : ob s = hk.obs s.abs := He.obsX_eq (HandSHeadRun.getT_eq s)
def nm0 : List PySem.Str := ["WageFault", "BadMoney", "BadDay", "BadRule", "Unbalanced", "Shut", "Short", "BadText", "NoAnswer", "part", "add", "less", "times", "over", "order", "Bond", "met_by_two", "Tree", "Scaled", "paid", "all_ways", "parity", "_law_dice", "_law_roll", "_law_rounds", "_law_told", "_law_least", "_law_worth", "_law_ways", "_law_bonds"]
def names : List PySem.Str := nm0
theorem run (w : World) : HandSHeadRun.RunEq R (PySem.W.view R.prog [34]) hk ob 20000 names w := by
  intro os
  kernel_rfl
end Pr
set_option Elab.async false
set_option linter.all false
namespace Pr
open PySem PySem.Spec PyProof.Rows L2 DL
def raisable : List String := ["BadMoney", "BadDay", "BadRule", "Shut", "NoAnswer"]
def tellers : List (String × Str) := [("BadMoney", "money"), ("BadDay", "day"), ("BadRule", "rule"), ("Unbalanced", "unbalanced"), ("Shut", "shut"), ("Short", "short"), ("BadText", "text"), ("NoAnswer", "no answer")]
/-- _law_dice: slots 0 cell -/
def f__law_dice : DS :=
  (dSeq (dIfS (dB (dChain ltD ltD (dOp subD (dC (.int 0)) (dC (.int 10))) (dVar 0) (dC (.int 10))))
  (dRet (dLst (daCons (dBlt absD (daCons (dVar 0) daNil)) (daCons (dC (.int 0)) (daCons (dC (.int 2)) daNil)))))
  dNext)
  (dRet (dLst (daCons (dVar 0) (daCons (dOp addD (dC (.int 1)) (dOp modD (dBlt intD (daCons (dVar 0) daNil)) (dC (.int 1009)))) (daCons (dBlt intD (daCons (dOp geD (dVar 0) (dOp powD (dC (.int 10)) (dC (.int 18)))) daNil)) daNil))))))
def M__law_dice : DF := runD 1 f__law_dice
/-- _law_rounds: slots 0 script, 1 most, 2 cells, 3 cell -/
def f__law_rounds (M__law_dice : DF) : DS :=
  (dSeq (dAsg (dSl (dVar 0) dpNone (dpSome (dVar 1))) (gN 2))
  (dSeq (dIfS (dB (dOp eqD (dVar 2) (dLst daNil)))
  (dAsg (dLst (daCons (dC (.int 0)) daNil)) (gN 2))
  dNext)
  (dRet (dLc (diSeq (dVar 2)) (gN 3) dYes (dCall 1 M__law_dice (daCons (dVar 3) daNil)) [3]))))
def M__law_rounds : DF := runD 4 (f__law_rounds M__law_dice)
/-- order: slots 0 a, 1 b, 2 gap -/
def f_order : DS :=
  (dSeq (dAsg (dOp subD (dOp mulD (dOp ixD (dVar 0) (dC (.int 0))) (dOp ixD (dVar 1) (dC (.int 1)))) (dOp mulD (dOp ixD (dVar 1) (dC (.int 0))) (dOp ixD (dVar 0) (dC (.int 1))))) (gN 2))
  (dRet (dOp subD (dOp gtD (dVar 2) (dC (.int 0))) (dOp ltD (dVar 2) (dC (.int 0))))))
def M_order : DF := runD 3 f_order
/-- Tree___init__: slots 0 self, 1 price, 2 up, 3 down, 4 interest, 5 many -/
def f_Tree___init__ (M_order : DF) : DS :=
  (dSeq (dIfS (dOrT (dB (dOp ltD (dOp ixD (dVar 3) (dC (.int 0))) (dC (.int 1)))) (dOrT (dB (dOp geD (dCall 2 M_order (daCons (dVar 3) (daCons (dVar 4) daNil))) (dC (.int 0)))) (dB (dOp geD (dCall 2 M_order (daCons (dVar 4) (daCons (dVar 2) daNil))) (dC (.int 0))))))
  (dRaise "BadRule")
  dNext)
  (dSeq (dIfS (dOrT (dB (dOp ltD (dVar 1) (dC (.int 1)))) (dNotT (dB (dChain ltD leD (dC (.int 0)) (dVar 5) (dC (.int 12))))))
  (dRaise "BadRule")
  dNext)
  (dSeq (dPutF ["Tree"] "price" (dVar 0) (dVar 1))
  (dSeq (dPutF ["Tree"] "up" (dVar 0) (dVar 2))
  (dSeq (dPutF ["Tree"] "down" (dVar 0) (dVar 3))
  (dSeq (dPutF ["Tree"] "growth" (dVar 0) (dVar 4))
  (dPutF ["Bond", "Tree"] "many" (dVar 0) (dVar 5))))))))
def M_Tree___init__ : DF := runD 6 (f_Tree___init__ M_order)
/-- part: slots 0 top, 1 bottom, 2 a, 3 b, 4 sign -/
def f_part : DS :=
  (dSeq (dIfS (dB (dOp eqD (dVar 1) (dC (.int 0))))
  (dRaise "BadRule")
  dNext)
  (dSeq (dPar2 2 3 (daCons (dBlt absD (daCons (dVar 0) daNil)) (daCons (dBlt absD (daCons (dVar 1) daNil)) daNil)))
  (dSeq (whileD (dB (dOp neD (dVar 3) (dC (.int 0)))) (dPar2 2 3 (daCons (dVar 3) (daCons (dOp modD (dVar 2) (dVar 3)) daNil))) fuel)
  (dSeq (dAsg (dIf (dB (dOp gtD (dVar 1) (dC (.int 0)))) (dC (.int 1)) (dUn negD (dC (.int 1)))) (gN 4))
  (dSeq (dAsg (dBlt maxD (daCons (dVar 2) (daCons (dC (.int 1)) daNil))) (gN 2))
  (dRet (dTup (daCons (dOp fdivD (dOp mulD (dVar 4) (dVar 0)) (dVar 2)) (daCons (dOp fdivD (dBlt absD (daCons (dVar 1) daNil)) (dVar 2)) daNil)))))))))
def M_part : DF := runD 5 f_part
/-- over: slots 0 a, 1 b -/
def f_over (M_part : DF) : DS :=
  (dRet (dCall 2 M_part (daCons (dOp mulD (dOp ixD (dVar 0) (dC (.int 0))) (dOp ixD (dVar 1) (dC (.int 1)))) (daCons (dOp mulD (dOp ixD (dVar 0) (dC (.int 1))) (dOp ixD (dVar 1) (dC (.int 0)))) daNil))))
def M_over : DF := runD 2 (f_over M_part)
/-- less: slots 0 a, 1 b -/
def f_less (M_part : DF) : DS :=
  (dRet (dCall 2 M_part (daCons (dOp subD (dOp mulD (dOp ixD (dVar 0) (dC (.int 0))) (dOp ixD (dVar 1) (dC (.int 1)))) (dOp mulD (dOp ixD (dVar 1) (dC (.int 0))) (dOp ixD (dVar 0) (dC (.int 1))))) (daCons (dOp mulD (dOp ixD (dVar 0) (dC (.int 1))) (dOp ixD (dVar 1) (dC (.int 1)))) daNil))))
def M_less : DF := runD 2 (f_less M_part)
/-- Tree_weight: slots 0 self -/
def f_Tree_weight (M_less : DF) (M_over : DF) : DS :=
  (dRet (dCall 2 M_over (daCons (dCall 2 M_less (daCons (dFld ["Tree"] "growth" (dVar 0)) (daCons (dFld ["Tree"] "down" (dVar 0)) daNil))) (daCons (dCall 2 M_less (daCons (dFld ["Tree"] "up" (dVar 0)) (daCons (dFld ["Tree"] "down" (dVar 0)) daNil))) daNil))))
def M_Tree_weight : DF := runD 1 (f_Tree_weight M_less M_over)
/-- times: slots 0 a, 1 b -/
def f_times (M_part : DF) : DS :=
  (dRet (dCall 2 M_part (daCons (dOp mulD (dOp ixD (dVar 0) (dC (.int 0))) (dOp ixD (dVar 1) (dC (.int 0)))) (daCons (dOp mulD (dOp ixD (dVar 0) (dC (.int 1))) (dOp ixD (dVar 1) (dC (.int 1)))) daNil))))
def M_times : DF := runD 2 (f_times M_part)
/-- Tree_prices: slots 0 self, 1 time, 2 found, 3 ups, 4 one, 5 k -/
def f_Tree_prices (M_times : DF) : DS :=
  (dSeq (dAsg (dLst daNil) (gN 2))
  (dSeq (dFor (diRange1 (dOp addD (dVar 1) (dC (.int 1)))) (gN 3)
  (dSeq (dAsg (dTup (daCons (dFld ["Tree"] "price" (dVar 0)) (daCons (dC (.int 1)) daNil))) (gN 4))
  (dSeq (dFor (diRange1 (dVar 1)) (gN 5)
  (dAsg (dCall 2 M_times (daCons (dVar 4) (daCons (dIf (dB (dOp ltD (dVar 5) (dVar 3))) (dFld ["Tree"] "up" (dVar 0)) (dFld ["Tree"] "down" (dVar 0))) daNil))) (gN 4)))
  (dDrop (dApp (dVar 2) (dVar 4))))))
  (dRet (dBlt tupleD (daCons (dVar 2) daNil)))))
def M_Tree_prices : DF := runD 6 (f_Tree_prices M_times)
/-- paid: slots 0 price, 1 strike, 2 is_buy, 3 gap -/
def f_paid (M_less : DF) : DS :=
  (dSeq (dAsg (dIf (dB (dVar 2)) (dCall 2 M_less (daCons (dVar 0) (daCons (dTup (daCons (dVar 1) (daCons (dC (.int 1)) daNil))) daNil))) (dCall 2 M_less (daCons (dTup (daCons (dVar 1) (daCons (dC (.int 1)) daNil))) (daCons (dVar 0) daNil)))) (gN 3))
  (dRet (dIf (dB (dOp gtD (dOp ixD (dVar 3) (dC (.int 0))) (dC (.int 0)))) (dVar 3) (dTup (daCons (dC (.int 0)) (daCons (dC (.int 1)) daNil))))))
def M_paid : DF := runD 4 (f_paid M_less)
/-- add: slots 0 a, 1 b -/
def f_add (M_part : DF) : DS :=
  (dRet (dCall 2 M_part (daCons (dOp addD (dOp mulD (dOp ixD (dVar 0) (dC (.int 0))) (dOp ixD (dVar 1) (dC (.int 1)))) (dOp mulD (dOp ixD (dVar 1) (dC (.int 0))) (dOp ixD (dVar 0) (dC (.int 1))))) (daCons (dOp mulD (dOp ixD (dVar 0) (dC (.int 1))) (dOp ixD (dVar 1) (dC (.int 1)))) daNil))))
def M_add : DF := runD 2 (f_add M_part)
/-- Scaled_right: slots 0 self, 1 strike, 2 is_buy, 3 any_time, 4 tree, 5 weight, 6 row, 7 time, 8 fresh, 9 k, 10 price, 11 mean, 12 one, 13 now -/
def f_Scaled_right (M_Tree_prices : DF) (M_order : DF) (M_times : DF) (M_paid : DF) (M_over : DF) (M_less : DF) (M_add : DF) (M_Tree_weight : DF) : DS :=
  (dSeq (dPar2 4 5 (daCons (dFld ["Scaled"] "tree" (dVar 0)) (daCons (dMeth "Tree" "weight" 1 M_Tree_weight (dFld ["Scaled"] "tree" (dVar 0)) daNil) daNil)))
  (dSeq (dAsg (dLc (diSeq (dMeth "Tree" "prices" 2 M_Tree_prices (dVar 4) (daCons (dFld ["Bond", "Tree"] "many" (dVar 4)) daNil))) (gN 12) dYes (dCall 3 M_paid (daCons (dCall 2 M_times (daCons (dVar 12) (daCons (dFld ["Bond", "Scaled"] "much" (dVar 0)) daNil))) (daCons (dVar 1) (daCons (dVar 2) daNil)))) [12]) (gN 6))
  (dSeq (dFor (diRev1 (dFld ["Bond", "Tree"] "many" (dVar 4))) (gN 7)
  (dSeq (dAsg (dLst daNil) (gN 8))
  (dSeq (dFor (diEnum (dMeth "Tree" "prices" 2 M_Tree_prices (dVar 4) (daCons (dVar 7) daNil))) (gT 2 (gsCons (gN 9) (gsCons (gN 10) gsNil)))
  (dSeq (dAsg (dCall 2 M_add (daCons (dCall 2 M_times (daCons (dVar 5) (daCons (dOp ixD (dVar 6) (dOp addD (dVar 9) (dC (.int 1)))) daNil))) (daCons (dCall 2 M_times (daCons (dCall 2 M_less (daCons (dTup (daCons (dC (.int 1)) (daCons (dC (.int 1)) daNil))) (daCons (dVar 5) daNil))) (daCons (dOp ixD (dVar 6) (dVar 9)) daNil))) daNil))) (gN 11))
  (dSeq (dAsg (dCall 2 M_over (daCons (dVar 11) (daCons (dFld ["Tree"] "growth" (dVar 4)) daNil))) (gN 12))
  (dSeq (dAsg (dCall 3 M_paid (daCons (dCall 2 M_times (daCons (dVar 10) (daCons (dFld ["Bond", "Scaled"] "much" (dVar 0)) daNil))) (daCons (dVar 1) (daCons (dVar 2) daNil)))) (gN 13))
  (dDrop (dApp (dVar 8) (dIf (dAndT (dB (dVar 3)) (dB (dOp gtD (dCall 2 M_order (daCons (dVar 13) (daCons (dVar 12) daNil))) (dC (.int 0))))) (dVar 13) (dVar 12))))))))
  (dAsg (dVar 8) (gN 6)))))
  (dRet (dOp ixD (dVar 6) (dC (.int 0)))))))
def M_Scaled_right : DF := runD 14 (f_Scaled_right M_Tree_prices M_order M_times M_paid M_over M_less M_add M_Tree_weight)
/-- Scaled___init__: slots 0 self, 1 tree, 2 much -/
def f_Scaled___init__ : DS :=
  (dSeq (dPutF ["Scaled"] "tree" (dVar 0) (dVar 1))
  (dPutF ["Bond", "Scaled"] "much" (dVar 0) (dVar 2)))
def M_Scaled___init__ : DF := runD 3 f_Scaled___init__
/-- Tree_after: slots 0 self, 1 is_up, 2 found, 3 much -/
def f_Tree_after (M_Scaled___init__ : DF) (M_times : DF) (M_Tree___init__ : DF) : DS :=
  (dSeq (dAsg (dMake "Tree" 6 M_Tree___init__ (daCons (dC (.int 1)) (daCons (dFld ["Tree"] "up" (dVar 0)) (daCons (dFld ["Tree"] "down" (dVar 0)) (daCons (dFld ["Tree"] "growth" (dVar 0)) (daCons (dOp subD (dFld ["Bond", "Tree"] "many" (dVar 0)) (dC (.int 1))) daNil)))))) (gN 2))
  (dSeq (dAsg (dCall 2 M_times (daCons (dTup (daCons (dFld ["Tree"] "price" (dVar 0)) (daCons (dC (.int 1)) daNil))) (daCons (dIf (dB (dVar 1)) (dFld ["Tree"] "up" (dVar 0)) (dFld ["Tree"] "down" (dVar 0))) daNil))) (gN 3))
  (dRet (dMake "Scaled" 3 M_Scaled___init__ (daCons (dVar 2) (daCons (dVar 3) daNil))))))
def M_Tree_after : DF := runD 4 (f_Tree_after M_Scaled___init__ M_times M_Tree___init__)
/-- Tree_held: slots 0 self, 1 strike, 2 is_buy, 3 low, 4 high, 5 down, 6 up, 7 shares, 8 one -/
def f_Tree_held (M_times : DF) (M_less : DF) (M_over : DF) (M_Tree_prices : DF) (M_paid : DF) (M_Tree_after : DF) (M_Scaled_right : DF) : DS :=
  (dSeq (dIfS (dB (dOp eqD (dFld ["Bond", "Tree"] "many" (dVar 0)) (dC (.int 1))))
  (dAsg (dLc (diSeq (dMeth "Tree" "prices" 2 M_Tree_prices (dVar 0) (daCons (dC (.int 1)) daNil))) (gN 8) dYes (dCall 3 M_paid (daCons (dVar 8) (daCons (dVar 1) (daCons (dVar 2) daNil)))) [8]) (gT 2 (gsCons (gN 3) (gsCons (gN 4) gsNil))))
  (dSeq (dAsg (dMeth "Scaled" "right" 4 M_Scaled_right (dMeth "Tree" "after" 2 M_Tree_after (dVar 0) (daCons (dC (.bl false)) daNil)) (daCons (dVar 1) (daCons (dVar 2) (daCons (dC (.bl false)) daNil)))) (gN 3))
  (dAsg (dMeth "Scaled" "right" 4 M_Scaled_right (dMeth "Tree" "after" 2 M_Tree_after (dVar 0) (daCons (dC (.bl true)) daNil)) (daCons (dVar 1) (daCons (dVar 2) (daCons (dC (.bl false)) daNil)))) (gN 4))))
  (dSeq (dAsg (dMeth "Tree" "prices" 2 M_Tree_prices (dVar 0) (daCons (dC (.int 1)) daNil)) (gT 2 (gsCons (gN 5) (gsCons (gN 6) gsNil))))
  (dSeq (dAsg (dCall 2 M_over (daCons (dCall 2 M_less (daCons (dVar 4) (daCons (dVar 3) daNil))) (daCons (dCall 2 M_less (daCons (dVar 6) (daCons (dVar 5) daNil))) daNil))) (gN 7))
  (dRet (dTup (daCons (dVar 7) (daCons (dCall 2 M_over (daCons (dCall 2 M_less (daCons (dVar 3) (daCons (dCall 2 M_times (daCons (dVar 7) (daCons (dVar 5) daNil))) daNil))) (daCons (dFld ["Tree"] "growth" (dVar 0)) daNil))) daNil)))))))
def M_Tree_held : DF := runD 9 (f_Tree_held M_times M_less M_over M_Tree_prices M_paid M_Tree_after M_Scaled_right)
/-- Bond___init__: slots 0 self, 1 face, 2 much, 3 many -/
def f_Bond___init__ (M_part : DF) : DS :=
  (dSeq (dIfS (dOrT (dB (dOp ltD (dVar 1) (dC (.int 1)))) (dOrT (dB (dOp ltD (dOp ixD (dVar 2) (dC (.int 0))) (dC (.int 0)))) (dOrT (dB (dOp ltD (dOp ixD (dVar 2) (dC (.int 1))) (dC (.int 1)))) (dB (dOp ltD (dVar 3) (dC (.int 1)))))))
  (dRaise "BadRule")
  dNext)
  (dSeq (dPutF ["Bond"] "face" (dVar 0) (dVar 1))
  (dSeq (dPutF ["Bond", "Scaled"] "much" (dVar 0) (dCall 2 M_part (daCons (dOp ixD (dVar 2) (dC (.int 0))) (daCons (dOp ixD (dVar 2) (dC (.int 1))) daNil))))
  (dPutF ["Bond", "Tree"] "many" (dVar 0) (dVar 3)))))
def M_Bond___init__ : DF := runD 4 (f_Bond___init__ M_part)
/-- _law_least: slots 0 top, 1 bottom, 2 a, 3 b -/
def f__law_least : DS :=
  (dSeq (dPar2 2 3 (daCons (dBlt absD (daCons (dVar 0) daNil)) (daCons (dVar 1) daNil)))
  (dSeq (whileD (dB (dOp neD (dVar 3) (dC (.int 0)))) (dPar2 2 3 (daCons (dVar 3) (daCons (dOp modD (dVar 2) (dVar 3)) daNil))) fuel)
  (dSeq (dAsg (dBlt maxD (daCons (dVar 2) (daCons (dC (.int 1)) daNil))) (gN 2))
  (dRet (dTup (daCons (dOp fdivD (dVar 0) (dVar 2)) (daCons (dOp fdivD (dVar 1) (dVar 2)) daNil)))))))
def M__law_least : DF := runD 4 f__law_least
/-- _law_worth: slots 0 face, 1 hundredths, 2 many, 3 rate, 4 top, 5 timed, 6 bottom, 7 k, 8 pay -/
def f__law_worth (M__law_least : DF) : DS :=
  (dSeq (dAsg (dTup (daCons (dC (.int 0)) (daCons (dC (.int 0)) (daCons (dC (.int 1)) daNil)))) (gT 3 (gsCons (gN 4) (gsCons (gN 5) (gsCons (gN 6) gsNil)))))
  (dSeq (dFor (diRev1 (dVar 2)) (gN 7)
  (dSeq (dAsg (dOp addD (dOp mulD (dVar 0) (dVar 1)) (dIf (dB (dOp eqD (dVar 7) (dOp subD (dVar 2) (dC (.int 1))))) (dOp mulD (dC (.int 100)) (dVar 0)) (dC (.int 0)))) (gN 8))
  (dSeq (dPar2 4 5 (daCons (dOp addD (dOp mulD (dVar 4) (dC (.int 100))) (dOp mulD (dOp mulD (dVar 8) (dVar 6)) (dC (.int 100)))) (daCons (dOp addD (dOp mulD (dVar 5) (dC (.int 100))) (dOp mulD (dOp mulD (dOp mulD (dOp addD (dVar 7) (dC (.int 1))) (dVar 8)) (dVar 6)) (dC (.int 100)))) daNil)))
  (dAsg (dOp mulD (dVar 6) (dOp addD (dC (.int 100)) (dVar 3))) (gN 6)))))
  (dRet (dTup (daCons (dCall 2 M__law_least (daCons (dVar 4) (daCons (dOp mulD (dVar 6) (dC (.int 100))) daNil))) (daCons (dTup (daCons (dVar 5) (daCons (dVar 4) daNil))) daNil))))))
def M__law_worth : DF := runD 9 (f__law_worth M__law_least)
/-- Bond_pays: slots 0 self, 1 one -/
def f_Bond_pays (M_add : DF) (M_times : DF) : DS :=
  (dSeq (dAsg (dCall 2 M_times (daCons (dTup (daCons (dFld ["Bond"] "face" (dVar 0)) (daCons (dC (.int 1)) daNil))) (daCons (dFld ["Bond", "Scaled"] "much" (dVar 0)) daNil))) (gN 1))
  (dRet (dOp addD (dOp mulD (dTup (daCons (dVar 1) daNil)) (dOp subD (dFld ["Bond", "Tree"] "many" (dVar 0)) (dC (.int 1)))) (dTup (daCons (dCall 2 M_add (daCons (dVar 1) (daCons (dTup (daCons (dFld ["Bond"] "face" (dVar 0)) (daCons (dC (.int 1)) daNil))) daNil))) daNil)))))
def M_Bond_pays : DF := runD 2 (f_Bond_pays M_add M_times)
/-- Bond_worth: slots 0 self, 1 rate, 2 found, 3 one, 4 below, 5 pay -/
def f_Bond_worth (M_Bond_pays : DF) (M_times : DF) (M_add : DF) (M_over : DF) : DS :=
  (dSeq (dPar3 2 3 4 (daCons (dTup (daCons (dC (.int 0)) (daCons (dC (.int 1)) daNil))) (daCons (dTup (daCons (dC (.int 1)) (daCons (dC (.int 1)) daNil))) (daCons (dCall 2 M_add (daCons (dTup (daCons (dC (.int 1)) (daCons (dC (.int 1)) daNil))) (daCons (dVar 1) daNil))) daNil))))
  (dSeq (dIfS (dB (dOp leD (dOp ixD (dVar 4) (dC (.int 0))) (dC (.int 0))))
  (dRaise "BadRule")
  dNext)
  (dSeq (dFor (diSeq (dMeth "Bond" "pays" 1 M_Bond_pays (dVar 0) daNil)) (gN 5)
  (dSeq (dAsg (dCall 2 M_over (daCons (dVar 3) (daCons (dVar 4) daNil))) (gN 3))
  (dAsg (dCall 2 M_add (daCons (dVar 2) (daCons (dCall 2 M_times (daCons (dVar 5) (daCons (dVar 3) daNil))) daNil))) (gN 2))))
  (dRet (dVar 2)))))
def M_Bond_worth : DF := runD 6 (f_Bond_worth M_Bond_pays M_times M_add M_over)
/-- Bond_rate: slots 0 self, 1 price, 2 fine, 3 low, 4 high, 5 middle -/
def f_Bond_rate (M_part : DF) (M_Bond_worth : DF) (M_order : DF) : DS :=
  (dSeq (dIfS (dOrT (dB (dOp ltD (dCall 2 M_order (daCons (dMeth "Bond" "worth" 2 M_Bond_worth (dVar 0) (daCons (dTup (daCons (dC (.int 0)) (daCons (dC (.int 1)) daNil))) daNil)) (daCons (dVar 1) daNil))) (dC (.int 0)))) (dB (dOp leD (dOp ixD (dVar 1) (dC (.int 0))) (dC (.int 0)))))
  (dRaise "NoAnswer")
  dNext)
  (dSeq (dPar2 3 4 (daCons (dC (.int 0)) (daCons (dVar 2) daNil)))
  (dSeq (whileD (dB (dOp gtD (dCall 2 M_order (daCons (dMeth "Bond" "worth" 2 M_Bond_worth (dVar 0) (daCons (dCall 2 M_part (daCons (dVar 4) (daCons (dVar 2) daNil))) daNil)) (daCons (dVar 1) daNil))) (dC (.int 0)))) (dSeq (dAug 4 imulD (dC (.int 2)))
  (dIfS (dB (dOp gtD (dVar 4) (dOp mulD (dC (.int 100)) (dVar 2))))
  (dRaise "NoAnswer")
  dNext)) fuel)
  (dSeq (whileD (dB (dOp gtD (dOp subD (dVar 4) (dVar 3)) (dC (.int 1)))) (dSeq (dAsg (dOp fdivD (dOp addD (dVar 3) (dVar 4)) (dC (.int 2))) (gN 5))
  (dIfS (dB (dOp geD (dCall 2 M_order (daCons (dMeth "Bond" "worth" 2 M_Bond_worth (dVar 0) (daCons (dCall 2 M_part (daCons (dVar 5) (daCons (dVar 2) daNil))) daNil)) (daCons (dVar 1) daNil))) (dC (.int 0))))
  (dAsg (dVar 5) (gN 3))
  (dAsg (dVar 5) (gN 4)))) fuel)
  (dRet (dTup (daCons (dCall 2 M_part (daCons (dVar 3) (daCons (dVar 2) daNil))) (daCons (dCall 2 M_part (daCons (dVar 4) (daCons (dVar 2) daNil))) daNil))))))))
def M_Bond_rate : DF := runD 6 (f_Bond_rate M_part M_Bond_worth M_order)
/-- Bond_moved: slots 0 self, 1 rate, 2 step -/
def f_Bond_moved (M_Bond_worth : DF) (M_less : DF) (M_add : DF) : DS :=
  (dRet (dTup (daCons (dMeth "Bond" "worth" 2 M_Bond_worth (dVar 0) (daCons (dCall 2 M_add (daCons (dVar 1) (daCons (dVar 2) daNil))) daNil)) (daCons (dMeth "Bond" "worth" 2 M_Bond_worth (dVar 0) (daCons (dVar 1) daNil)) (daCons (dMeth "Bond" "worth" 2 M_Bond_worth (dVar 0) (daCons (dCall 2 M_less (daCons (dVar 1) (daCons (dVar 2) daNil))) daNil)) daNil)))))
def M_Bond_moved : DF := runD 3 (f_Bond_moved M_Bond_worth M_less M_add)
/-- Bond_mean_time: slots 0 self, 1 rate, 2 found, 3 one, 4 below, 5 k, 6 pay -/
def f_Bond_mean_time (M_Bond_worth : DF) (M_over : DF) (M_Bond_pays : DF) (M_times : DF) (M_add : DF) : DS :=
  (dSeq (dPar3 2 3 4 (daCons (dTup (daCons (dC (.int 0)) (daCons (dC (.int 1)) daNil))) (daCons (dTup (daCons (dC (.int 1)) (daCons (dC (.int 1)) daNil))) (daCons (dCall 2 M_add (daCons (dTup (daCons (dC (.int 1)) (daCons (dC (.int 1)) daNil))) (daCons (dVar 1) daNil))) daNil))))
  (dSeq (dFor (diEnum (dMeth "Bond" "pays" 1 M_Bond_pays (dVar 0) daNil)) (gT 2 (gsCons (gN 5) (gsCons (gN 6) gsNil)))
  (dSeq (dAsg (dCall 2 M_over (daCons (dVar 3) (daCons (dVar 4) daNil))) (gN 3))
  (dAsg (dCall 2 M_add (daCons (dVar 2) (daCons (dCall 2 M_times (daCons (dTup (daCons (dOp addD (dVar 5) (dC (.int 1))) (daCons (dC (.int 1)) daNil))) (daCons (dCall 2 M_times (daCons (dVar 6) (daCons (dVar 3) daNil))) daNil))) daNil))) (gN 2))))
  (dRet (dCall 2 M_over (daCons (dVar 2) (daCons (dMeth "Bond" "worth" 2 M_Bond_worth (dVar 0) (daCons (dVar 1) daNil)) daNil))))))
def M_Bond_mean_time : DF := runD 7 (f_Bond_mean_time M_Bond_worth M_over M_Bond_pays M_times M_add)
/-- met_by_two: slots 0 goal, 1 time, 2 bonds, 3 rate, 4 one, 5 other, 6 first, 7 now, 8 below, 9 k, 10 a, 11 b -/
def f_met_by_two (M_Bond_worth : DF) (M_less : DF) (M_times : DF) (M_over : DF) (M_add : DF) (M_Bond_mean_time : DF) : DS :=
  (dSeq (dPar2 4 5 (daCons (dMeth "Bond" "mean_time" 2 M_Bond_mean_time (dOp ixD (dVar 2) (dC (.int 0))) (daCons (dVar 3) daNil)) (daCons (dMeth "Bond" "mean_time" 2 M_Bond_mean_time (dOp ixD (dVar 2) (dC (.int 1))) (daCons (dVar 3) daNil)) daNil)))
  (dSeq (dIfS (dB (dOp eqD (dVar 4) (dVar 5)))
  (dRaise "NoAnswer")
  dNext)
  (dSeq (dAsg (dCall 2 M_over (daCons (dCall 2 M_less (daCons (dTup (daCons (dVar 1) (daCons (dC (.int 1)) daNil))) (daCons (dVar 5) daNil))) (daCons (dCall 2 M_less (daCons (dVar 4) (daCons (dVar 5) daNil))) daNil))) (gN 6))
  (dSeq (dPar2 7 8 (daCons (dTup (daCons (dVar 0) (daCons (dC (.int 1)) daNil))) (daCons (dCall 2 M_add (daCons (dTup (daCons (dC (.int 1)) (daCons (dC (.int 1)) daNil))) (daCons (dVar 3) daNil))) daNil)))
  (dSeq (dFor (diRange1 (dVar 1)) (gN 9)
  (dAsg (dCall 2 M_over (daCons (dVar 7) (daCons (dVar 8) daNil))) (gN 7)))
  (dSeq (dAsg (dCall 2 M_over (daCons (dCall 2 M_times (daCons (dVar 7) (daCons (dVar 6) daNil))) (daCons (dMeth "Bond" "worth" 2 M_Bond_worth (dOp ixD (dVar 2) (dC (.int 0))) (daCons (dVar 3) daNil)) daNil))) (gN 10))
  (dSeq (dAsg (dCall 2 M_over (daCons (dCall 2 M_times (daCons (dVar 7) (daCons (dCall 2 M_less (daCons (dTup (daCons (dC (.int 1)) (daCons (dC (.int 1)) daNil))) (daCons (dVar 6) daNil))) daNil))) (daCons (dMeth "Bond" "worth" 2 M_Bond_worth (dOp ixD (dVar 2) (dC (.int 1))) (daCons (dVar 3) daNil)) daNil))) (gN 11))
  (dRet (dTup (daCons (dVar 10) (daCons (dVar 11) daNil)))))))))))
def M_met_by_two : DF := runD 12 (f_met_by_two M_Bond_worth M_less M_times M_over M_add M_Bond_mean_time)
/-- _law_roll: slots 0 dice, 1 many, 2 found -/
def f__law_roll : DS :=
  (dSeq (dIfS (dOrT (dB (dOp eqD (dOp ixD (dVar 0) (dC (.int 2))) (dC (.int 2)))) (dAndT (dB (dOp eqD (dOp ixD (dVar 0) (dC (.int 2))) (dC (.int 1)))) (dB (dOp gtD (dOp ixD (dVar 0) (dC (.int 0))) (dC (.int 0))))))
  (dSeq (dAsg (dOp modD (dBlt intD (daCons (dOp ixD (dVar 0) (dC (.int 0))) daNil)) (dVar 1)) (gN 2))
  (dSeq (dAsg (dOp fdivD (dOp ixD (dVar 0) (dC (.int 0))) (dVar 1)) (gIx (dVar 0) (dC (.int 0))))
  (dRet (dVar 2))))
  dNext)
  (dSeq (dAsg (dC (.int 0)) (gIx (dVar 0) (dC (.int 2))))
  (dSeq (dAsg (dOp modD (dBlt intD (daCons (dOp addD (dOp addD (dOp mulD (dOp ixD (dVar 0) (dC (.int 0))) (dC (.int 48271))) (dOp mulD (dOp ixD (dVar 0) (dC (.int 1))) (dC (.int 69621)))) (dC (.int 11))) daNil)) (dC (.int 2147483647))) (gIx (dVar 0) (dC (.int 0))))
  (dSeq (dAsg (dOp addD (dOp ixD (dVar 0) (dC (.int 1))) (dC (.int 1))) (gIx (dVar 0) (dC (.int 1))))
  (dRet (dOp modD (dBlt intD (daCons (dOp addD (dOp fdivD (dOp ixD (dVar 0) (dC (.int 0))) (dC (.int 7))) (dOp ixD (dVar 0) (dC (.int 0)))) daNil)) (dVar 1)))))))
def M__law_roll : DF := runD 3 f__law_roll
/-- _law_bonds: slots 0 dice, 1 face, 2 hundredths, 3 many, 4 rate, 5 bond, 6 due, 7 timed, 8 price, 9 low, 10 high, 11 more, 12 now, 13 down, 14 short, 15 long_bond, 16 flat, 17 a, 18 b, 19 one, 20 other, 21 back, 22 turn -/
def f__law_bonds (M_Bond___init__ : DF) (M_Bond_rate : DF) (M_met_by_two : DF) (M_times : DF) (M_add : DF) (M_over : DF) (M_Bond_worth : DF) (M_part : DF) (M_order : DF) (M_Bond_moved : DF) (M_less : DF) (M__law_roll : DF) (M_Bond_mean_time : DF) (M__law_least : DF) (M_Bond_pays : DF) (M__law_worth : DF) : DS :=
  (dSeq (dAsg (dTup (daCons (dOp mulD (dC (.int 100)) (dOp addD (dC (.int 1)) (dCall 2 M__law_roll (daCons (dVar 0) (daCons (dC (.int 3)) daNil))))) (daCons (dCall 2 M__law_roll (daCons (dVar 0) (daCons (dC (.int 10)) daNil))) (daCons (dOp addD (dC (.int 1)) (dCall 2 M__law_roll (daCons (dVar 0) (daCons (dC (.int 4)) daNil)))) (daCons (dOp addD (dC (.int 1)) (dCall 2 M__law_roll (daCons (dVar 0) (daCons (dC (.int 9)) daNil)))) daNil))))) (gT 4 (gsCons (gN 1) (gsCons (gN 2) (gsCons (gN 3) (gsCons (gN 4) gsNil))))))
  (dSeq (dAsg (dMake "Bond" 4 M_Bond___init__ (daCons (dVar 1) (daCons (dCall 2 M_part (daCons (dVar 2) (daCons (dC (.int 100)) daNil))) (daCons (dVar 3) daNil)))) (gN 5))
  (dSeq (dAsg (dCall 4 M__law_worth (daCons (dVar 1) (daCons (dVar 2) (daCons (dVar 3) (daCons (dVar 4) daNil))))) (gT 2 (gsCons (gN 6) (gsCons (gN 7) gsNil))))
  (dSeq (dIfS (dOrT (dB (dOp neD (dMeth "Bond" "worth" 2 M_Bond_worth (dVar 5) (daCons (dCall 2 M_part (daCons (dVar 4) (daCons (dC (.int 100)) daNil))) daNil)) (dVar 6))) (dB (dOp neD (dBlt lenD (daCons (dMeth "Bond" "pays" 1 M_Bond_pays (dVar 5) daNil) daNil)) (dVar 3))))
  (dRet (dC (.bl false)))
  dNext)
  (dSeq (dIfS (dB (dOp neD (dMeth "Bond" "mean_time" 2 M_Bond_mean_time (dVar 5) (daCons (dCall 2 M_part (daCons (dVar 4) (daCons (dC (.int 100)) daNil))) daNil)) (dCall 2 M__law_least (daCons (dOp ixD (dVar 7) (dC (.int 0))) (daCons (dOp ixD (dVar 7) (dC (.int 1))) daNil)))))
  (dRet (dC (.bl false)))
  dNext)
  (dSeq (dAsg (dTup (daCons (dOp subD (dVar 1) (dCall 2 M__law_roll (daCons (dVar 0) (daCons (dOp fdivD (dVar 1) (dC (.int 3))) daNil)))) (daCons (dC (.int 1)) daNil))) (gN 8))
  (dSeq (dAsg (dMeth "Bond" "rate" 3 M_Bond_rate (dVar 5) (daCons (dVar 8) (daCons (dC (.int 100)) daNil))) (gT 2 (gsCons (gN 9) (gsCons (gN 10) gsNil))))
  (dSeq (dIfS (dOrT (dB (dOp ltD (dCall 2 M_order (daCons (dMeth "Bond" "worth" 2 M_Bond_worth (dVar 5) (daCons (dVar 9) daNil)) (daCons (dVar 8) daNil))) (dC (.int 0)))) (dOrT (dB (dOp gtD (dCall 2 M_order (daCons (dMeth "Bond" "worth" 2 M_Bond_worth (dVar 5) (daCons (dVar 10) daNil)) (daCons (dVar 8) daNil))) (dC (.int 0)))) (dB (dOp neD (dCall 2 M_less (daCons (dVar 10) (daCons (dVar 9) daNil))) (dTup (daCons (dC (.int 1)) (daCons (dC (.int 100)) daNil)))))))
  (dRet (dC (.bl false)))
  dNext)
  (dSeq (dAsg (dMeth "Bond" "moved" 3 M_Bond_moved (dVar 5) (daCons (dCall 2 M_part (daCons (dVar 4) (daCons (dC (.int 100)) daNil))) (daCons (dTup (daCons (dC (.int 1)) (daCons (dC (.int 200)) daNil))) daNil))) (gT 3 (gsCons (gN 11) (gsCons (gN 12) (gsCons (gN 13) gsNil)))))
  (dSeq (dIfS (dOrT (dB (dOp leD (dCall 2 M_order (daCons (dCall 2 M_add (daCons (dVar 11) (daCons (dVar 13) daNil))) (daCons (dCall 2 M_times (daCons (dVar 12) (daCons (dTup (daCons (dC (.int 2)) (daCons (dC (.int 1)) daNil))) daNil))) daNil))) (dC (.int 0)))) (dB (dOp geD (dCall 2 M_order (daCons (dVar 11) (daCons (dVar 13) daNil))) (dC (.int 0)))))
  (dRet (dC (.bl false)))
  dNext)
  (dSeq (dAsg (dTup (daCons (dMake "Bond" 4 M_Bond___init__ (daCons (dC (.int 100)) (daCons (dTup (daCons (dC (.int 0)) (daCons (dC (.int 1)) daNil))) (daCons (dC (.int 1)) daNil)))) (daCons (dMake "Bond" 4 M_Bond___init__ (daCons (dC (.int 100)) (daCons (dTup (daCons (dC (.int 0)) (daCons (dC (.int 1)) daNil))) (daCons (dC (.int 4)) daNil)))) (daCons (dCall 2 M_part (daCons (dVar 4) (daCons (dC (.int 100)) daNil))) daNil)))) (gT 3 (gsCons (gN 14) (gsCons (gN 15) (gsCons (gN 16) gsNil)))))
  (dSeq (dAsg (dCall 4 M_met_by_two (daCons (dC (.int 500)) (daCons (dC (.int 2)) (daCons (dTup (daCons (dVar 14) (daCons (dVar 15) daNil))) (daCons (dVar 16) daNil))))) (gT 2 (gsCons (gN 17) (gsCons (gN 18) gsNil))))
  (dSeq (dPar2 19 20 (daCons (dCall 2 M_times (daCons (dVar 17) (daCons (dMeth "Bond" "worth" 2 M_Bond_worth (dVar 14) (daCons (dVar 16) daNil)) daNil))) (daCons (dCall 2 M_times (daCons (dVar 18) (daCons (dMeth "Bond" "worth" 2 M_Bond_worth (dVar 15) (daCons (dVar 16) daNil)) daNil))) daNil)))
  (dSeq (dAsg (dTup (daCons (dC (.int 500)) (daCons (dC (.int 1)) daNil))) (gN 21))
  (dSeq (dFor (diRange1 (dC (.int 2))) (gN 22)
  (dAsg (dCall 2 M_over (daCons (dVar 21) (daCons (dCall 2 M_add (daCons (dTup (daCons (dC (.int 1)) (daCons (dC (.int 1)) daNil))) (daCons (dVar 16) daNil))) daNil))) (gN 21)))
  (dSeq (dIfS (dOrT (dB (dOp neD (dCall 2 M_add (daCons (dVar 19) (daCons (dVar 20) daNil))) (dVar 21))) (dB (dOp neD (dCall 2 M_add (daCons (dVar 19) (daCons (dCall 2 M_times (daCons (dVar 20) (daCons (dTup (daCons (dC (.int 4)) (daCons (dC (.int 1)) daNil))) daNil))) daNil))) (dCall 2 M_times (daCons (dVar 21) (daCons (dTup (daCons (dC (.int 2)) (daCons (dC (.int 1)) daNil))) daNil))))))
  (dRet (dC (.bl false)))
  dNext)
  (dSeq (dIfS (dB (dOp neD (dTold raisable tellers (dCall 4 M_met_by_two (daCons (dC (.int 500)) (daCons (dC (.int 2)) (daCons (dTup (daCons (dVar 14) (daCons (dVar 14) daNil))) (daCons (dVar 16) daNil)))))) (dC (.str "no answer"))))
  (dRet (dC (.bl false)))
  dNext)
  (dSeq (dIfS (dB (dOp neD (dTold raisable tellers (dMeth "Bond" "rate" 3 M_Bond_rate (dVar 5) (daCons (dTup (daCons (dOp mulD (dVar 1) (dC (.int 99))) (daCons (dC (.int 1)) daNil))) (daCons (dC (.int 100)) daNil)))) (dC (.str "no answer"))))
  (dRet (dC (.bl false)))
  dNext)
  (dRet (dOp eqD (dTold raisable tellers (dMake "Bond" 4 M_Bond___init__ (daCons (dC (.int 0)) (daCons (dTup (daCons (dC (.int 1)) (daCons (dC (.int 2)) daNil))) (daCons (dC (.int 1)) daNil))))) (dC (.str "rule"))))))))))))))))))))))
def M__law_bonds : DF := runD 23 (f__law_bonds M_Bond___init__ M_Bond_rate M_met_by_two M_times M_add M_over M_Bond_worth M_part M_order M_Bond_moved M_less M__law_roll M_Bond_mean_time M__law_least M_Bond_pays M__law_worth)
/-- Tree_right: slots 0 self, 1 strike, 2 is_buy, 3 any_time, 4 weight, 5 row, 6 time, 7 fresh, 8 k, 9 price, 10 mean, 11 one, 12 now -/
def f_Tree_right (M_Tree_prices : DF) (M_order : DF) (M_paid : DF) (M_over : DF) (M_less : DF) (M_times : DF) (M_add : DF) (M_Tree_weight : DF) : DS :=
  (dSeq (dAsg (dMeth "Tree" "weight" 1 M_Tree_weight (dVar 0) daNil) (gN 4))
  (dSeq (dAsg (dLc (diSeq (dMeth "Tree" "prices" 2 M_Tree_prices (dVar 0) (daCons (dFld ["Bond", "Tree"] "many" (dVar 0)) daNil))) (gN 11) dYes (dCall 3 M_paid (daCons (dVar 11) (daCons (dVar 1) (daCons (dVar 2) daNil)))) [11]) (gN 5))
  (dSeq (dFor (diRev1 (dFld ["Bond", "Tree"] "many" (dVar 0))) (gN 6)
  (dSeq (dAsg (dLst daNil) (gN 7))
  (dSeq (dFor (diEnum (dMeth "Tree" "prices" 2 M_Tree_prices (dVar 0) (daCons (dVar 6) daNil))) (gT 2 (gsCons (gN 8) (gsCons (gN 9) gsNil)))
  (dSeq (dAsg (dCall 2 M_add (daCons (dCall 2 M_times (daCons (dVar 4) (daCons (dOp ixD (dVar 5) (dOp addD (dVar 8) (dC (.int 1)))) daNil))) (daCons (dCall 2 M_times (daCons (dCall 2 M_less (daCons (dTup (daCons (dC (.int 1)) (daCons (dC (.int 1)) daNil))) (daCons (dVar 4) daNil))) (daCons (dOp ixD (dVar 5) (dVar 8)) daNil))) daNil))) (gN 10))
  (dSeq (dAsg (dCall 2 M_over (daCons (dVar 10) (daCons (dFld ["Tree"] "growth" (dVar 0)) daNil))) (gN 11))
  (dSeq (dAsg (dCall 3 M_paid (daCons (dVar 9) (daCons (dVar 1) (daCons (dVar 2) daNil)))) (gN 12))
  (dDrop (dApp (dVar 7) (dIf (dAndT (dB (dVar 3)) (dB (dOp gtD (dCall 2 M_order (daCons (dVar 12) (daCons (dVar 11) daNil))) (dC (.int 0))))) (dVar 12) (dVar 11))))))))
  (dAsg (dVar 7) (gN 5)))))
  (dRet (dOp ixD (dVar 5) (dC (.int 0)))))))
def M_Tree_right : DF := runD 13 (f_Tree_right M_Tree_prices M_order M_paid M_over M_less M_times M_add M_Tree_weight)
/-- all_ways: slots 0 many, 1 found, 2 k, 3 row, 4 one -/
def f_all_ways : DS :=
  (dSeq (dAsg (dLst (daCons (dTup daNil) daNil)) (gN 1))
  (dSeq (dFor (diRange1 (dVar 0)) (gN 2)
  (dAsg (dLc2 (diSeq (dVar 1)) (gN 3) dYes (diSeq (dTup (daCons (dC (.bl false)) (daCons (dC (.bl true)) daNil)))) (gN 4) dYes (dOp addD (dVar 3) (dTup (daCons (dVar 4) daNil))) [3, 4] [4]) (gN 1)))
  (dRet (dVar 1))))
def M_all_ways : DF := runD 5 f_all_ways
/-- _law_ways: slots 0 price, 1 up, 2 down, 3 weight, 4 growth, 5 many, 6 strike, 7 is_buy, 8 whole, 9 way, 10 there, 11 much, 12 one, 13 gap -/
def f__law_ways (M_all_ways : DF) (M_times : DF) (M_add : DF) (M_less : DF) (M_over : DF) : DS :=
  (dSeq (dAsg (dTup (daCons (dC (.int 0)) (daCons (dC (.int 1)) daNil))) (gN 8))
  (dSeq (dFor (diSeq (dCall 1 M_all_ways (daCons (dVar 5) daNil))) (gN 9)
  (dSeq (dPar2 10 11 (daCons (dTup (daCons (dVar 0) (daCons (dC (.int 1)) daNil))) (daCons (dTup (daCons (dC (.int 1)) (daCons (dC (.int 1)) daNil))) daNil)))
  (dSeq (dFor (diSeq (dVar 9)) (gN 12)
  (dSeq (dAsg (dCall 2 M_times (daCons (dVar 10) (daCons (dIf (dB (dVar 12)) (dVar 1) (dVar 2)) daNil))) (gN 10))
  (dAsg (dCall 2 M_over (daCons (dCall 2 M_times (daCons (dVar 11) (daCons (dIf (dB (dVar 12)) (dVar 3) (dCall 2 M_less (daCons (dTup (daCons (dC (.int 1)) (daCons (dC (.int 1)) daNil))) (daCons (dVar 3) daNil)))) daNil))) (daCons (dVar 4) daNil))) (gN 11))))
  (dSeq (dAsg (dIf (dB (dVar 7)) (dCall 2 M_less (daCons (dVar 10) (daCons (dTup (daCons (dVar 6) (daCons (dC (.int 1)) daNil))) daNil))) (dCall 2 M_less (daCons (dTup (daCons (dVar 6) (daCons (dC (.int 1)) daNil))) (daCons (dVar 10) daNil)))) (gN 13))
  (dAsg (dCall 2 M_add (daCons (dVar 8) (daCons (dCall 2 M_times (daCons (dVar 11) (daCons (dIf (dB (dOp gtD (dOp ixD (dVar 13) (dC (.int 0))) (dC (.int 0)))) (dVar 13) (dTup (daCons (dC (.int 0)) (daCons (dC (.int 1)) daNil)))) daNil))) daNil))) (gN 8))))))
  (dRet (dVar 8))))
def M__law_ways : DF := runD 14 (f__law_ways M_all_ways M_times M_add M_less M_over)
/-- Tree_by_ways: slots 0 self, 1 strike, 2 is_buy, 3 weight, 4 whole, 5 way, 6 price, 7 much, 8 is_up -/
def f_Tree_by_ways (M_all_ways : DF) (M_paid : DF) (M_times : DF) (M_add : DF) (M_less : DF) (M_over : DF) (M_Tree_weight : DF) : DS :=
  (dSeq (dPar2 3 4 (daCons (dMeth "Tree" "weight" 1 M_Tree_weight (dVar 0) daNil) (daCons (dTup (daCons (dC (.int 0)) (daCons (dC (.int 1)) daNil))) daNil)))
  (dSeq (dFor (diSeq (dCall 1 M_all_ways (daCons (dFld ["Bond", "Tree"] "many" (dVar 0)) daNil))) (gN 5)
  (dSeq (dPar2 6 7 (daCons (dTup (daCons (dFld ["Tree"] "price" (dVar 0)) (daCons (dC (.int 1)) daNil))) (daCons (dTup (daCons (dC (.int 1)) (daCons (dC (.int 1)) daNil))) daNil)))
  (dSeq (dFor (diSeq (dVar 5)) (gN 8)
  (dSeq (dAsg (dCall 2 M_times (daCons (dVar 6) (daCons (dIf (dB (dVar 8)) (dFld ["Tree"] "up" (dVar 0)) (dFld ["Tree"] "down" (dVar 0))) daNil))) (gN 6))
  (dAsg (dCall 2 M_over (daCons (dCall 2 M_times (daCons (dVar 7) (daCons (dIf (dB (dVar 8)) (dVar 3) (dCall 2 M_less (daCons (dTup (daCons (dC (.int 1)) (daCons (dC (.int 1)) daNil))) (daCons (dVar 3) daNil)))) daNil))) (daCons (dFld ["Tree"] "growth" (dVar 0)) daNil))) (gN 7))))
  (dAsg (dCall 2 M_add (daCons (dVar 4) (daCons (dCall 2 M_times (daCons (dVar 7) (daCons (dCall 3 M_paid (daCons (dVar 6) (daCons (dVar 1) (daCons (dVar 2) daNil)))) daNil))) daNil))) (gN 4)))))
  (dRet (dVar 4))))
def M_Tree_by_ways : DF := runD 9 (f_Tree_by_ways M_all_ways M_paid M_times M_add M_less M_over M_Tree_weight)
/-- parity: slots 0 price, 1 strike, 2 interest, 3 many, 4 now, 5 k -/
def f_parity (M_less : DF) (M_over : DF) : DS :=
  (dSeq (dAsg (dTup (daCons (dVar 1) (daCons (dC (.int 1)) daNil))) (gN 4))
  (dSeq (dFor (diRange1 (dVar 3)) (gN 5)
  (dAsg (dCall 2 M_over (daCons (dVar 4) (daCons (dVar 2) daNil))) (gN 4)))
  (dRet (dCall 2 M_less (daCons (dTup (daCons (dVar 0) (daCons (dC (.int 1)) daNil))) (daCons (dVar 4) daNil))))))
def M_parity : DF := runD 6 (f_parity M_less M_over)
/-- law: slots 0 script, 1 dice, 2 price, 3 strike, 4 many, 5 up, 6 down, 7 growth, 8 tree, 9 weight, 10 buy, 11 sell, 12 shares, 13 money, 14 is_up, 15 there, 16 end -/
def f_law (M__law_rounds : DF) (M_Tree___init__ : DF) (M_all_ways : DF) (M_paid : DF) (M_Tree_after : DF) (M_Scaled_right : DF) (M_times : DF) (M_add : DF) (M_Scaled___init__ : DF) (M_Tree_held : DF) (M_Tree_right : DF) (M_order : DF) (M_less : DF) (M_parity : DF) (M_Tree_by_ways : DF) (M__law_ways : DF) (M_Tree_prices : DF) (M_Tree_weight : DF) (M__law_roll : DF) (M_part : DF) (M__law_bonds : DF) : DS :=
  (dSeq (dFor (diSeq (dCall 2 M__law_rounds (daCons (dVar 0) (daCons (dC (.int 2)) daNil)))) (gN 1)
  (dSeq (dIfS (dNotT (dB (dCall 1 M__law_bonds (daCons (dVar 1) daNil))))
  (dRet (dC (.bl false)))
  dNext)
  (dSeq (dAsg (dTup (daCons (dOp addD (dC (.int 80)) (dCall 2 M__law_roll (daCons (dVar 1) (daCons (dC (.int 40)) daNil)))) (daCons (dOp addD (dC (.int 80)) (dCall 2 M__law_roll (daCons (dVar 1) (daCons (dC (.int 40)) daNil)))) (daCons (dOp addD (dC (.int 1)) (dCall 2 M__law_roll (daCons (dVar 1) (daCons (dC (.int 3)) daNil)))) daNil)))) (gT 3 (gsCons (gN 2) (gsCons (gN 3) (gsCons (gN 4) gsNil)))))
  (dSeq (dAsg (dTup (daCons (dCall 2 M_part (daCons (dOp addD (dC (.int 11)) (dCall 2 M__law_roll (daCons (dVar 1) (daCons (dC (.int 3)) daNil)))) (daCons (dC (.int 10)) daNil))) (daCons (dCall 2 M_part (daCons (dOp addD (dC (.int 7)) (dCall 2 M__law_roll (daCons (dVar 1) (daCons (dC (.int 3)) daNil)))) (daCons (dC (.int 10)) daNil))) (daCons (dCall 2 M_part (daCons (dOp addD (dC (.int 101)) (dCall 2 M__law_roll (daCons (dVar 1) (daCons (dC (.int 5)) daNil)))) (daCons (dC (.int 100)) daNil))) daNil)))) (gT 3 (gsCons (gN 5) (gsCons (gN 6) (gsCons (gN 7) gsNil)))))
  (dSeq (dAsg (dMake "Tree" 6 M_Tree___init__ (daCons (dVar 2) (daCons (dVar 5) (daCons (dVar 6) (daCons (dVar 7) (daCons (dVar 4) daNil)))))) (gN 8))
  (dSeq (dAsg (dMeth "Tree" "weight" 1 M_Tree_weight (dVar 8) daNil) (gN 9))
  (dSeq (dIfS (dOrT (dB (dOp neD (dCall 2 M_add (daCons (dCall 2 M_times (daCons (dVar 9) (daCons (dVar 5) daNil))) (daCons (dCall 2 M_times (daCons (dCall 2 M_less (daCons (dTup (daCons (dC (.int 1)) (daCons (dC (.int 1)) daNil))) (daCons (dVar 9) daNil))) (daCons (dVar 6) daNil))) daNil))) (dVar 7))) (dB (dOp neD (dBlt lenD (daCons (dMeth "Tree" "prices" 2 M_Tree_prices (dVar 8) (daCons (dVar 4) daNil)) daNil)) (dOp addD (dVar 4) (dC (.int 1))))))
  (dRet (dC (.bl false)))
  dNext)
  (dSeq (dPar2 10 11 (daCons (dMeth "Tree" "right" 4 M_Tree_right (dVar 8) (daCons (dVar 3) (daCons (dC (.bl true)) (daCons (dC (.bl false)) daNil)))) (daCons (dMeth "Tree" "right" 4 M_Tree_right (dVar 8) (daCons (dVar 3) (daCons (dC (.bl false)) (daCons (dC (.bl false)) daNil)))) daNil)))
  (dSeq (dIfS (dB (dOp neD (dVar 10) (dCall 8 M__law_ways (daCons (dVar 2) (daCons (dVar 5) (daCons (dVar 6) (daCons (dVar 9) (daCons (dVar 7) (daCons (dVar 4) (daCons (dVar 3) (daCons (dC (.bl true)) daNil)))))))))))
  (dRet (dC (.bl false)))
  dNext)
  (dSeq (dIfS (dOrT (dB (dOp neD (dMeth "Tree" "by_ways" 3 M_Tree_by_ways (dVar 8) (daCons (dVar 3) (daCons (dC (.bl false)) daNil))) (dVar 11))) (dB (dOp neD (dCall 2 M_less (daCons (dVar 10) (daCons (dVar 11) daNil))) (dCall 4 M_parity (daCons (dVar 2) (daCons (dVar 3) (daCons (dVar 7) (daCons (dVar 4) daNil))))))))
  (dRet (dC (.bl false)))
  dNext)
  (dSeq (dIfS (dOrT (dB (dOp ltD (dCall 2 M_order (daCons (dMeth "Tree" "right" 4 M_Tree_right (dVar 8) (daCons (dVar 3) (daCons (dC (.bl false)) (daCons (dC (.bl true)) daNil)))) (daCons (dVar 11) daNil))) (dC (.int 0)))) (dB (dOp neD (dMeth "Tree" "right" 4 M_Tree_right (dVar 8) (daCons (dVar 3) (daCons (dC (.bl true)) (daCons (dC (.bl true)) daNil)))) (dVar 10))))
  (dRet (dC (.bl false)))
  dNext)
  (dSeq (dAsg (dMeth "Tree" "held" 3 M_Tree_held (dVar 8) (daCons (dVar 3) (daCons (dC (.bl true)) daNil))) (gT 2 (gsCons (gN 12) (gsCons (gN 13) gsNil))))
  (dSeq (dIfS (dB (dOp neD (dCall 2 M_add (daCons (dCall 2 M_times (daCons (dVar 12) (daCons (dTup (daCons (dVar 2) (daCons (dC (.int 1)) daNil))) daNil))) (daCons (dVar 13) daNil))) (dVar 10)))
  (dRet (dC (.bl false)))
  dNext)
  (dSeq (dFor (diSeq (dLst (daCons (dC (.bl true)) (daCons (dC (.bl false)) daNil)))) (gN 14)
  (dSeq (dAsg (dCall 2 M_times (daCons (dTup (daCons (dVar 2) (daCons (dC (.int 1)) daNil))) (daCons (dIf (dB (dVar 14)) (dVar 5) (dVar 6)) daNil))) (gN 15))
  (dSeq (dAsg (dIf (dB (dOp eqD (dVar 4) (dC (.int 1)))) (dCall 3 M_paid (daCons (dVar 15) (daCons (dVar 3) (daCons (dC (.bl true)) daNil)))) (dMeth "Scaled" "right" 4 M_Scaled_right (dMake "Scaled" 3 M_Scaled___init__ (daCons (dMake "Tree" 6 M_Tree___init__ (daCons (dC (.int 1)) (daCons (dVar 5) (daCons (dVar 6) (daCons (dVar 7) (daCons (dOp subD (dVar 4) (dC (.int 1))) daNil)))))) (daCons (dVar 15) daNil))) (daCons (dVar 3) (daCons (dC (.bl true)) (daCons (dC (.bl false)) daNil))))) (gN 16))
  (dSeq (dIfS (dB (dOp neD (dCall 2 M_add (daCons (dCall 2 M_times (daCons (dVar 12) (daCons (dVar 15) daNil))) (daCons (dCall 2 M_times (daCons (dVar 13) (daCons (dVar 7) daNil))) daNil))) (dVar 16)))
  (dRet (dC (.bl false)))
  dNext)
  (dIfS (dAndT (dB (dOp gtD (dVar 4) (dC (.int 1)))) (dB (dOp neD (dMeth "Scaled" "right" 4 M_Scaled_right (dMeth "Tree" "after" 2 M_Tree_after (dVar 8) (daCons (dVar 14) daNil)) (daCons (dVar 3) (daCons (dC (.bl true)) (daCons (dC (.bl false)) daNil)))) (dVar 16))))
  (dRet (dC (.bl false)))
  dNext)))))
  (dSeq (dIfS (dOrT (dB (dOp neD (dCall 3 M_paid (daCons (dTup (daCons (dC (.int 9)) (daCons (dC (.int 2)) daNil))) (daCons (dC (.int 4)) (daCons (dC (.bl true)) daNil)))) (dTup (daCons (dC (.int 1)) (daCons (dC (.int 2)) daNil))))) (dOrT (dB (dOp neD (dCall 3 M_paid (daCons (dTup (daCons (dC (.int 9)) (daCons (dC (.int 2)) daNil))) (daCons (dC (.int 4)) (daCons (dC (.bl false)) daNil)))) (dTup (daCons (dC (.int 0)) (daCons (dC (.int 1)) daNil))))) (dB (dOp neD (dBlt lenD (daCons (dCall 1 M_all_ways (daCons (dC (.int 3)) daNil)) daNil)) (dC (.int 8))))))
  (dRet (dC (.bl false)))
  dNext)
  (dSeq (dIfS (dB (dOp neD (dTold raisable tellers (dMake "Tree" 6 M_Tree___init__ (daCons (dVar 2) (daCons (dVar 6) (daCons (dVar 5) (daCons (dVar 7) (daCons (dVar 4) daNil))))))) (dC (.str "rule"))))
  (dRet (dC (.bl false)))
  dNext)
  (dIfS (dB (dOp neD (dTold raisable tellers (dMake "Tree" 6 M_Tree___init__ (daCons (dVar 2) (daCons (dVar 5) (daCons (dTup (daCons (dC (.int 0)) (daCons (dC (.int 1)) daNil))) (daCons (dVar 7) (daCons (dVar 4) daNil))))))) (dC (.str "rule"))))
  (dRet (dC (.bl false)))
  dNext)))))))))))))))))
  (dRet (dC (.bl true))))
def M_law : DF := runD 17 (f_law M__law_rounds M_Tree___init__ M_all_ways M_paid M_Tree_after M_Scaled_right M_times M_add M_Scaled___init__ M_Tree_held M_Tree_right M_order M_less M_parity M_Tree_by_ways M__law_ways M_Tree_prices M_Tree_weight M__law_roll M_part M__law_bonds)
end Pr
set_option Elab.async false
set_option linter.all false
set_option maxRecDepth 100000
set_option maxHeartbeats 4000000
namespace Pr
open PySem PySem.Spec PyProof.Rows L2 DL
def GK (K : PySem.W.Frag) : Gx := ⟨fun c => He.ga K (Str.ofString c), [((He.cT K ("_law_bonds", none)).2, (("_law_bonds" : Str) ++ (".<locals>." : Str)) ++ ("<lambda>" : Str)), ((He.cT K ("law", none)).2, (("law" : Str) ++ (".<locals>." : Str)) ++ ("<lambda>" : Str))]⟩
theorem code_is {K : PySem.W.Frag} {p : Str × Option Str} {cdv : Value} {qual : Str} (hl : ∃ (oc : Value) (od : Option Addr) (osl : Array (Option Value)) (fd : FuncData), K.lookup (He.fAd K p) = some ⟨oc, od, .func fd, osl⟩ ∧ fd.code = cdv) (hcd : PySem.W.codeIn K cdv qual = true) : cdv = .ref (He.cT K p).1 := by
  obtain ⟨oc, od, osl, fd, lk, e⟩ := hl
  obtain ⟨x, ex⟩ := He.codeIn_ref hcd
  have z := He.codeOf_eq lk (e.trans ex)
  rw [ex]
  exact congrArg Value.ref z.symm
theorem sc__law_told : FnScope ["what"] ["what"] (defScope s__law_told) := ⟨rfl, rfl, rfl, by decide +kernel, rfl, by decide +kernel, by decide +kernel⟩
abbrev N__law_dice : List Str := ["cell"]
theorem sc__law_dice : FnScope N__law_dice ["cell"] (defScope s__law_dice) := ⟨rfl, rfl, rfl, by decide +kernel, rfl, by decide +kernel, by decide +kernel⟩
abbrev N__law_rounds : List Str := ["script", "most", "cells", "cell"]
theorem sc__law_rounds : FnScope N__law_rounds ["script", "most"] (defScope s__law_rounds) := ⟨rfl, rfl, rfl, by decide +kernel, rfl, by decide +kernel, by decide +kernel⟩
abbrev N_order : List Str := ["a", "b", "gap"]
theorem sc_order : FnScope N_order ["a", "b"] (defScope s_order) := ⟨rfl, rfl, rfl, by decide +kernel, rfl, by decide +kernel, by decide +kernel⟩
abbrev N_Tree___init__ : List Str := ["self", "price", "up", "down", "interest", "many"]
theorem sc_Tree___init__ : FnScope N_Tree___init__ ["self", "price", "up", "down", "interest", "many"] (defScope s_Tree___init__) := ⟨rfl, rfl, rfl, by decide +kernel, rfl, by decide +kernel, by decide +kernel⟩
abbrev N_part : List Str := ["top", "bottom", "a", "b", "sign"]
theorem sc_part : FnScope N_part ["top", "bottom"] (defScope s_part) := ⟨rfl, rfl, rfl, by decide +kernel, rfl, by decide +kernel, by decide +kernel⟩
abbrev N_over : List Str := ["a", "b"]
theorem sc_over : FnScope N_over ["a", "b"] (defScope s_over) := ⟨rfl, rfl, rfl, by decide +kernel, rfl, by decide +kernel, by decide +kernel⟩
abbrev N_less : List Str := ["a", "b"]
theorem sc_less : FnScope N_less ["a", "b"] (defScope s_less) := ⟨rfl, rfl, rfl, by decide +kernel, rfl, by decide +kernel, by decide +kernel⟩
abbrev N_Tree_weight : List Str := ["self"]
theorem sc_Tree_weight : FnScope N_Tree_weight ["self"] (defScope s_Tree_weight) := ⟨rfl, rfl, rfl, by decide +kernel, rfl, by decide +kernel, by decide +kernel⟩
abbrev N_times : List Str := ["a", "b"]
theorem sc_times : FnScope N_times ["a", "b"] (defScope s_times) := ⟨rfl, rfl, rfl, by decide +kernel, rfl, by decide +kernel, by decide +kernel⟩
abbrev N_Tree_prices : List Str := ["self", "time", "found", "ups", "one", "k"]
theorem sc_Tree_prices : FnScope N_Tree_prices ["self", "time"] (defScope s_Tree_prices) := ⟨rfl, rfl, rfl, by decide +kernel, rfl, by decide +kernel, by decide +kernel⟩
abbrev N_paid : List Str := ["price", "strike", "is_buy", "gap"]
theorem sc_paid : FnScope N_paid ["price", "strike", "is_buy"] (defScope s_paid) := ⟨rfl, rfl, rfl, by decide +kernel, rfl, by decide +kernel, by decide +kernel⟩
abbrev N_add : List Str := ["a", "b"]
theorem sc_add : FnScope N_add ["a", "b"] (defScope s_add) := ⟨rfl, rfl, rfl, by decide +kernel, rfl, by decide +kernel, by decide +kernel⟩
abbrev N_Scaled_right : List Str := ["self", "strike", "is_buy", "any_time", "tree", "weight", "row", "time", "fresh", "k", "price", "mean", "one", "now"]
theorem sc_Scaled_right : FnScope N_Scaled_right ["self", "strike", "is_buy", "any_time"] (defScope s_Scaled_right) := ⟨rfl, rfl, rfl, by decide +kernel, rfl, by decide +kernel, by decide +kernel⟩
abbrev N_Scaled___init__ : List Str := ["self", "tree", "much"]
theorem sc_Scaled___init__ : FnScope N_Scaled___init__ ["self", "tree", "much"] (defScope s_Scaled___init__) := ⟨rfl, rfl, rfl, by decide +kernel, rfl, by decide +kernel, by decide +kernel⟩
abbrev N_Tree_after : List Str := ["self", "is_up", "found", "much"]
theorem sc_Tree_after : FnScope N_Tree_after ["self", "is_up"] (defScope s_Tree_after) := ⟨rfl, rfl, rfl, by decide +kernel, rfl, by decide +kernel, by decide +kernel⟩
abbrev N_Tree_held : List Str := ["self", "strike", "is_buy", "low", "high", "down", "up", "shares", "one"]
theorem sc_Tree_held : FnScope N_Tree_held ["self", "strike", "is_buy"] (defScope s_Tree_held) := ⟨rfl, rfl, rfl, by decide +kernel, rfl, by decide +kernel, by decide +kernel⟩
abbrev N_Bond___init__ : List Str := ["self", "face", "much", "many"]
theorem sc_Bond___init__ : FnScope N_Bond___init__ ["self", "face", "much", "many"] (defScope s_Bond___init__) := ⟨rfl, rfl, rfl, by decide +kernel, rfl, by decide +kernel, by decide +kernel⟩
abbrev N__law_least : List Str := ["top", "bottom", "a", "b"]
theorem sc__law_least : FnScope N__law_least ["top", "bottom"] (defScope s__law_least) := ⟨rfl, rfl, rfl, by decide +kernel, rfl, by decide +kernel, by decide +kernel⟩
abbrev N__law_worth : List Str := ["face", "hundredths", "many", "rate", "top", "timed", "bottom", "k", "pay"]
theorem sc__law_worth : FnScope N__law_worth ["face", "hundredths", "many", "rate"] (defScope s__law_worth) := ⟨rfl, rfl, rfl, by decide +kernel, rfl, by decide +kernel, by decide +kernel⟩
abbrev N_Bond_pays : List Str := ["self", "one"]
theorem sc_Bond_pays : FnScope N_Bond_pays ["self"] (defScope s_Bond_pays) := ⟨rfl, rfl, rfl, by decide +kernel, rfl, by decide +kernel, by decide +kernel⟩
abbrev N_Bond_worth : List Str := ["self", "rate", "found", "one", "below", "pay"]
theorem sc_Bond_worth : FnScope N_Bond_worth ["self", "rate"] (defScope s_Bond_worth) := ⟨rfl, rfl, rfl, by decide +kernel, rfl, by decide +kernel, by decide +kernel⟩
abbrev N_Bond_rate : List Str := ["self", "price", "fine", "low", "high", "middle"]
theorem sc_Bond_rate : FnScope N_Bond_rate ["self", "price", "fine"] (defScope s_Bond_rate) := ⟨rfl, rfl, rfl, by decide +kernel, rfl, by decide +kernel, by decide +kernel⟩
abbrev N_Bond_moved : List Str := ["self", "rate", "step"]
theorem sc_Bond_moved : FnScope N_Bond_moved ["self", "rate", "step"] (defScope s_Bond_moved) := ⟨rfl, rfl, rfl, by decide +kernel, rfl, by decide +kernel, by decide +kernel⟩
abbrev N_Bond_mean_time : List Str := ["self", "rate", "found", "one", "below", "k", "pay"]
theorem sc_Bond_mean_time : FnScope N_Bond_mean_time ["self", "rate"] (defScope s_Bond_mean_time) := ⟨rfl, rfl, rfl, by decide +kernel, rfl, by decide +kernel, by decide +kernel⟩
abbrev N_met_by_two : List Str := ["goal", "time", "bonds", "rate", "one", "other", "first", "now", "below", "k", "a", "b"]
theorem sc_met_by_two : FnScope N_met_by_two ["goal", "time", "bonds", "rate"] (defScope s_met_by_two) := ⟨rfl, rfl, rfl, by decide +kernel, rfl, by decide +kernel, by decide +kernel⟩
abbrev N__law_roll : List Str := ["dice", "many", "found"]
theorem sc__law_roll : FnScope N__law_roll ["dice", "many"] (defScope s__law_roll) := ⟨rfl, rfl, rfl, by decide +kernel, rfl, by decide +kernel, by decide +kernel⟩
abbrev N__law_bonds : List Str := ["dice", "face", "hundredths", "many", "rate", "bond", "due", "timed", "price", "low", "high", "more", "now", "down", "short", "long_bond", "flat", "a", "b", "one", "other", "back", "turn"]
theorem sc__law_bonds : FnScope N__law_bonds ["dice"] (defScope s__law_bonds) := ⟨rfl, rfl, rfl, by decide +kernel, rfl, by decide +kernel, by decide +kernel⟩
abbrev N_Tree_right : List Str := ["self", "strike", "is_buy", "any_time", "weight", "row", "time", "fresh", "k", "price", "mean", "one", "now"]
theorem sc_Tree_right : FnScope N_Tree_right ["self", "strike", "is_buy", "any_time"] (defScope s_Tree_right) := ⟨rfl, rfl, rfl, by decide +kernel, rfl, by decide +kernel, by decide +kernel⟩
abbrev N_all_ways : List Str := ["many", "found", "k", "row", "one"]
theorem sc_all_ways : FnScope N_all_ways ["many"] (defScope s_all_ways) := ⟨rfl, rfl, rfl, by decide +kernel, rfl, by decide +kernel, by decide +kernel⟩
abbrev N__law_ways : List Str := ["price", "up", "down", "weight", "growth", "many", "strike", "is_buy", "whole", "way", "there", "much", "one", "gap"]
theorem sc__law_ways : FnScope N__law_ways ["price", "up", "down", "weight", "growth", "many", "strike", "is_buy"] (defScope s__law_ways) := ⟨rfl, rfl, rfl, by decide +kernel, rfl, by decide +kernel, by decide +kernel⟩
abbrev N_Tree_by_ways : List Str := ["self", "strike", "is_buy", "weight", "whole", "way", "price", "much", "is_up"]
theorem sc_Tree_by_ways : FnScope N_Tree_by_ways ["self", "strike", "is_buy"] (defScope s_Tree_by_ways) := ⟨rfl, rfl, rfl, by decide +kernel, rfl, by decide +kernel, by decide +kernel⟩
abbrev N_parity : List Str := ["price", "strike", "interest", "many", "now", "k"]
theorem sc_parity : FnScope N_parity ["price", "strike", "interest", "many"] (defScope s_parity) := ⟨rfl, rfl, rfl, by decide +kernel, rfl, by decide +kernel, by decide +kernel⟩
abbrev N_law : List Str := ["script", "dice", "price", "strike", "many", "up", "down", "growth", "tree", "weight", "buy", "sell", "shares", "money", "is_up", "there", "end"]
theorem sc_law : FnScope N_law ["script"] (defScope s_law) := ⟨rfl, rfl, rfl, by decide +kernel, rfl, by decide +kernel, by decide +kernel⟩
section
variable {P : Program} {w : World} {K : PySem.W.Frag} {mg : Str → Option Value} {base h0 : Heap} (KX : K.In h0) (Gn : h0.Ns mainGlobals mg) (c : He.SaysD fa fn K)
include KX Gn c
theorem g_WageFault : mg "WageFault" = some (.ref ((GK K).cA "WageFault")) := He.glo_ok KX Gn (c.fact 0 (f := .glo "WageFault") rfl)
theorem g_BadMoney : mg "BadMoney" = some (.ref ((GK K).cA "BadMoney")) := He.glo_ok KX Gn (c.fact 1 (f := .glo "BadMoney") rfl)
theorem g_BadDay : mg "BadDay" = some (.ref ((GK K).cA "BadDay")) := He.glo_ok KX Gn (c.fact 2 (f := .glo "BadDay") rfl)
theorem g_BadRule : mg "BadRule" = some (.ref ((GK K).cA "BadRule")) := He.glo_ok KX Gn (c.fact 3 (f := .glo "BadRule") rfl)
theorem g_Unbalanced : mg "Unbalanced" = some (.ref ((GK K).cA "Unbalanced")) := He.glo_ok KX Gn (c.fact 4 (f := .glo "Unbalanced") rfl)
theorem g_Shut : mg "Shut" = some (.ref ((GK K).cA "Shut")) := He.glo_ok KX Gn (c.fact 5 (f := .glo "Shut") rfl)
theorem g_Short : mg "Short" = some (.ref ((GK K).cA "Short")) := He.glo_ok KX Gn (c.fact 6 (f := .glo "Short") rfl)
theorem g_BadText : mg "BadText" = some (.ref ((GK K).cA "BadText")) := He.glo_ok KX Gn (c.fact 7 (f := .glo "BadText") rfl)
theorem g_NoAnswer : mg "NoAnswer" = some (.ref ((GK K).cA "NoAnswer")) := He.glo_ok KX Gn (c.fact 8 (f := .glo "NoAnswer") rfl)
theorem g_part : mg "part" = some (.ref ((GK K).cA "part")) := He.glo_ok KX Gn (c.fact 9 (f := .glo "part") rfl)
theorem g_add : mg "add" = some (.ref ((GK K).cA "add")) := He.glo_ok KX Gn (c.fact 10 (f := .glo "add") rfl)
theorem g_less : mg "less" = some (.ref ((GK K).cA "less")) := He.glo_ok KX Gn (c.fact 11 (f := .glo "less") rfl)
theorem g_times : mg "times" = some (.ref ((GK K).cA "times")) := He.glo_ok KX Gn (c.fact 12 (f := .glo "times") rfl)
theorem g_over : mg "over" = some (.ref ((GK K).cA "over")) := He.glo_ok KX Gn (c.fact 13 (f := .glo "over") rfl)
theorem g_order : mg "order" = some (.ref ((GK K).cA "order")) := He.glo_ok KX Gn (c.fact 14 (f := .glo "order") rfl)
theorem g_Bond : mg "Bond" = some (.ref ((GK K).cA "Bond")) := He.glo_ok KX Gn (c.fact 15 (f := .glo "Bond") rfl)
theorem g_met_by_two : mg "met_by_two" = some (.ref ((GK K).cA "met_by_two")) := He.glo_ok KX Gn (c.fact 16 (f := .glo "met_by_two") rfl)
theorem g_Tree : mg "Tree" = some (.ref ((GK K).cA "Tree")) := He.glo_ok KX Gn (c.fact 17 (f := .glo "Tree") rfl)
theorem g_Scaled : mg "Scaled" = some (.ref ((GK K).cA "Scaled")) := He.glo_ok KX Gn (c.fact 18 (f := .glo "Scaled") rfl)
theorem g_paid : mg "paid" = some (.ref ((GK K).cA "paid")) := He.glo_ok KX Gn (c.fact 19 (f := .glo "paid") rfl)
theorem g_all_ways : mg "all_ways" = some (.ref ((GK K).cA "all_ways")) := He.glo_ok KX Gn (c.fact 20 (f := .glo "all_ways") rfl)
theorem g_parity : mg "parity" = some (.ref ((GK K).cA "parity")) := He.glo_ok KX Gn (c.fact 21 (f := .glo "parity") rfl)
theorem g__law_dice : mg "_law_dice" = some (.ref ((GK K).cA "_law_dice")) := He.glo_ok KX Gn (c.fact 22 (f := .glo "_law_dice") rfl)
theorem g__law_roll : mg "_law_roll" = some (.ref ((GK K).cA "_law_roll")) := He.glo_ok KX Gn (c.fact 23 (f := .glo "_law_roll") rfl)
theorem g__law_rounds : mg "_law_rounds" = some (.ref ((GK K).cA "_law_rounds")) := He.glo_ok KX Gn (c.fact 24 (f := .glo "_law_rounds") rfl)
theorem g__law_told : mg "_law_told" = some (.ref ((GK K).cA "_law_told")) := He.glo_ok KX Gn (c.fact 25 (f := .glo "_law_told") rfl)
theorem g__law_least : mg "_law_least" = some (.ref ((GK K).cA "_law_least")) := He.glo_ok KX Gn (c.fact 26 (f := .glo "_law_least") rfl)
theorem g__law_worth : mg "_law_worth" = some (.ref ((GK K).cA "_law_worth")) := He.glo_ok KX Gn (c.fact 27 (f := .glo "_law_worth") rfl)
theorem g__law_ways : mg "_law_ways" = some (.ref ((GK K).cA "_law_ways")) := He.glo_ok KX Gn (c.fact 28 (f := .glo "_law_ways") rfl)
theorem g__law_bonds : mg "_law_bonds" = some (.ref ((GK K).cA "_law_bonds")) := He.glo_ok KX Gn (c.fact 29 (f := .glo "_law_bonds") rfl)
theorem g_law : mg "law" = some (.ref ((GK K).cA "law")) := He.glo_ok KX Gn (c.fact 30 (f := .glo "law") rfl)
theorem z_abs : mg "abs" = none := He.free_ok KX Gn (c.fact 31 (f := .free "abs") rfl)
theorem z_enumerate : mg "enumerate" = none := He.free_ok KX Gn (c.fact 32 (f := .free "enumerate") rfl)
theorem z_int : mg "int" = none := He.free_ok KX Gn (c.fact 33 (f := .free "int") rfl)
theorem z_len : mg "len" = none := He.free_ok KX Gn (c.fact 34 (f := .free "len") rfl)
theorem z_max : mg "max" = none := He.free_ok KX Gn (c.fact 35 (f := .free "max") rfl)
theorem z_range : mg "range" = none := He.free_ok KX Gn (c.fact 36 (f := .free "range") rfl)
theorem z_reversed : mg "reversed" = none := He.free_ok KX Gn (c.fact 37 (f := .free "reversed") rfl)
theorem z_tuple : mg "tuple" = none := He.free_ok KX Gn (c.fact 38 (f := .free "tuple") rfl)
theorem cl_Bond : Cls K ((GK K).cA "Bond") := He.cls_ok (c.fact 39 (f := .cls "Bond") rfl)
theorem mk_Bond : Mk K ((GK K).cA "Bond") (He.fAd K ("Bond", some "__init__")) := He.mkr_ok (c.fact 40 (f := .mkr "Bond") rfl)
theorem mt_Bond_pays : Meth K ((GK K).cA "Bond") "pays" (He.fAd K ("Bond", some "pays")) := He.meth_ok (c.fact 44 (f := .meth "Bond" "pays") rfl)
theorem mt_Bond_worth : Meth K ((GK K).cA "Bond") "worth" (He.fAd K ("Bond", some "worth")) := He.meth_ok (c.fact 45 (f := .meth "Bond" "worth") rfl)
theorem mt_Bond_rate : Meth K ((GK K).cA "Bond") "rate" (He.fAd K ("Bond", some "rate")) := He.meth_ok (c.fact 46 (f := .meth "Bond" "rate") rfl)
theorem mt_Bond_mean_time : Meth K ((GK K).cA "Bond") "mean_time" (He.fAd K ("Bond", some "mean_time")) := He.meth_ok (c.fact 47 (f := .meth "Bond" "mean_time") rfl)
theorem mt_Bond_moved : Meth K ((GK K).cA "Bond") "moved" (He.fAd K ("Bond", some "moved")) := He.meth_ok (c.fact 48 (f := .meth "Bond" "moved") rfl)
theorem cl_Tree : Cls K ((GK K).cA "Tree") := He.cls_ok (c.fact 49 (f := .cls "Tree") rfl)
theorem mk_Tree : Mk K ((GK K).cA "Tree") (He.fAd K ("Tree", some "__init__")) := He.mkr_ok (c.fact 50 (f := .mkr "Tree") rfl)
theorem mt_Tree_weight : Meth K ((GK K).cA "Tree") "weight" (He.fAd K ("Tree", some "weight")) := He.meth_ok (c.fact 56 (f := .meth "Tree" "weight") rfl)
theorem mt_Tree_prices : Meth K ((GK K).cA "Tree") "prices" (He.fAd K ("Tree", some "prices")) := He.meth_ok (c.fact 57 (f := .meth "Tree" "prices") rfl)
theorem mt_Tree_right : Meth K ((GK K).cA "Tree") "right" (He.fAd K ("Tree", some "right")) := He.meth_ok (c.fact 58 (f := .meth "Tree" "right") rfl)
theorem mt_Tree_held : Meth K ((GK K).cA "Tree") "held" (He.fAd K ("Tree", some "held")) := He.meth_ok (c.fact 59 (f := .meth "Tree" "held") rfl)
theorem mt_Tree_after : Meth K ((GK K).cA "Tree") "after" (He.fAd K ("Tree", some "after")) := He.meth_ok (c.fact 60 (f := .meth "Tree" "after") rfl)
theorem mt_Tree_by_ways : Meth K ((GK K).cA "Tree") "by_ways" (He.fAd K ("Tree", some "by_ways")) := He.meth_ok (c.fact 61 (f := .meth "Tree" "by_ways") rfl)
theorem cl_Scaled : Cls K ((GK K).cA "Scaled") := He.cls_ok (c.fact 62 (f := .cls "Scaled") rfl)
theorem mk_Scaled : Mk K ((GK K).cA "Scaled") (He.fAd K ("Scaled", some "__init__")) := He.mkr_ok (c.fact 63 (f := .mkr "Scaled") rfl)
theorem mt_Scaled_right : Meth K ((GK K).cA "Scaled") "right" (He.fAd K ("Scaled", some "right")) := He.meth_ok (c.fact 66 (f := .meth "Scaled" "right") rfl)
theorem fl_face : ∀ x ∈ ["Bond"], Cls K ((GK K).cA x) ∧ NoAttr K ((GK K).cA x) "face" := by
  refine List.forall_mem_cons.mpr ⟨⟨cl_Bond KX Gn c, He.noat_ok (c.fact 41 (f := .noat "Bond" "face") rfl)⟩, (fun _ h => nomatch h)⟩
theorem fl_much : ∀ x ∈ ["Bond", "Scaled"], Cls K ((GK K).cA x) ∧ NoAttr K ((GK K).cA x) "much" := by
  refine List.forall_mem_cons.mpr ⟨⟨cl_Bond KX Gn c, He.noat_ok (c.fact 42 (f := .noat "Bond" "much") rfl)⟩, List.forall_mem_cons.mpr ⟨⟨cl_Scaled KX Gn c, He.noat_ok (c.fact 65 (f := .noat "Scaled" "much") rfl)⟩, (fun _ h => nomatch h)⟩⟩
theorem fl_many : ∀ x ∈ ["Bond", "Tree"], Cls K ((GK K).cA x) ∧ NoAttr K ((GK K).cA x) "many" := by
  refine List.forall_mem_cons.mpr ⟨⟨cl_Bond KX Gn c, He.noat_ok (c.fact 43 (f := .noat "Bond" "many") rfl)⟩, List.forall_mem_cons.mpr ⟨⟨cl_Tree KX Gn c, He.noat_ok (c.fact 55 (f := .noat "Tree" "many") rfl)⟩, (fun _ h => nomatch h)⟩⟩
theorem fl_price : ∀ x ∈ ["Tree"], Cls K ((GK K).cA x) ∧ NoAttr K ((GK K).cA x) "price" := by
  refine List.forall_mem_cons.mpr ⟨⟨cl_Tree KX Gn c, He.noat_ok (c.fact 51 (f := .noat "Tree" "price") rfl)⟩, (fun _ h => nomatch h)⟩
theorem fl_up : ∀ x ∈ ["Tree"], Cls K ((GK K).cA x) ∧ NoAttr K ((GK K).cA x) "up" := by
  refine List.forall_mem_cons.mpr ⟨⟨cl_Tree KX Gn c, He.noat_ok (c.fact 52 (f := .noat "Tree" "up") rfl)⟩, (fun _ h => nomatch h)⟩
theorem fl_down : ∀ x ∈ ["Tree"], Cls K ((GK K).cA x) ∧ NoAttr K ((GK K).cA x) "down" := by
  refine List.forall_mem_cons.mpr ⟨⟨cl_Tree KX Gn c, He.noat_ok (c.fact 53 (f := .noat "Tree" "down") rfl)⟩, (fun _ h => nomatch h)⟩
theorem fl_growth : ∀ x ∈ ["Tree"], Cls K ((GK K).cA x) ∧ NoAttr K ((GK K).cA x) "growth" := by
  refine List.forall_mem_cons.mpr ⟨⟨cl_Tree KX Gn c, He.noat_ok (c.fact 54 (f := .noat "Tree" "growth") rfl)⟩, (fun _ h => nomatch h)⟩
theorem fl_tree : ∀ x ∈ ["Scaled"], Cls K ((GK K).cA x) ∧ NoAttr K ((GK K).cA x) "tree" := by
  refine List.forall_mem_cons.mpr ⟨⟨cl_Scaled KX Gn c, He.noat_ok (c.fact 64 (f := .noat "Scaled" "tree") rfl)⟩, (fun _ h => nomatch h)⟩
theorem x_BadMoney : PySem.W.excIn K ((GK K).cA "BadMoney") He.veBase "ValueError.__new__" = true ∧ PySem.W.keepIn K (.ref ((GK K).cA "BadMoney")) = true ∧ PySem.W.subIn K (.ref ((GK K).cA "BadMoney")) (.type "BaseException") = some true ∧ PySem.W.typeIn K (.ref ((GK K).cA "BadMoney")) = some (.type "type") := He.exc_ok (c.fact 69 (f := .exc "BadMoney") rfl)
theorem x_BadDay : PySem.W.excIn K ((GK K).cA "BadDay") He.veBase "ValueError.__new__" = true ∧ PySem.W.keepIn K (.ref ((GK K).cA "BadDay")) = true ∧ PySem.W.subIn K (.ref ((GK K).cA "BadDay")) (.type "BaseException") = some true ∧ PySem.W.typeIn K (.ref ((GK K).cA "BadDay")) = some (.type "type") := He.exc_ok (c.fact 71 (f := .exc "BadDay") rfl)
theorem x_BadRule : PySem.W.excIn K ((GK K).cA "BadRule") He.veBase "ValueError.__new__" = true ∧ PySem.W.keepIn K (.ref ((GK K).cA "BadRule")) = true ∧ PySem.W.subIn K (.ref ((GK K).cA "BadRule")) (.type "BaseException") = some true ∧ PySem.W.typeIn K (.ref ((GK K).cA "BadRule")) = some (.type "type") := He.exc_ok (c.fact 73 (f := .exc "BadRule") rfl)
theorem x_Shut : PySem.W.excIn K ((GK K).cA "Shut") He.veBase "ValueError.__new__" = true ∧ PySem.W.keepIn K (.ref ((GK K).cA "Shut")) = true ∧ PySem.W.subIn K (.ref ((GK K).cA "Shut")) (.type "BaseException") = some true ∧ PySem.W.typeIn K (.ref ((GK K).cA "Shut")) = some (.type "type") := He.exc_ok (c.fact 76 (f := .exc "Shut") rfl)
theorem x_NoAnswer : PySem.W.excIn K ((GK K).cA "NoAnswer") He.veBase "ValueError.__new__" = true ∧ PySem.W.keepIn K (.ref ((GK K).cA "NoAnswer")) = true ∧ PySem.W.subIn K (.ref ((GK K).cA "NoAnswer")) (.type "BaseException") = some true ∧ PySem.W.typeIn K (.ref ((GK K).cA "NoAnswer")) = some (.type "type") := He.exc_ok (c.fact 80 (f := .exc "NoAnswer") rfl)
theorem exall : ∀ e ∈ raisable, ∀ q ∈ tellers, PySem.W.exmOne K (.ref ((GK K).cA e)) (.ref ((GK K).cA q.1)) = some (subB e q.1) := by
  unfold raisable tellers
  exact List.forall_mem_cons.mpr ⟨List.forall_mem_cons.mpr ⟨by rw [show subB "BadMoney" "BadMoney" = true from by decide]; exact He.exm_ok (c.fact 92 (f := .exm "BadMoney" "BadMoney" true) rfl), List.forall_mem_cons.mpr ⟨by rw [show subB "BadMoney" "BadDay" = false from by decide]; exact He.exm_ok (c.fact 93 (f := .exm "BadMoney" "BadDay" false) rfl), List.forall_mem_cons.mpr ⟨by rw [show subB "BadMoney" "BadRule" = false from by decide]; exact He.exm_ok (c.fact 94 (f := .exm "BadMoney" "BadRule" false) rfl), List.forall_mem_cons.mpr ⟨by rw [show subB "BadMoney" "Unbalanced" = false from by decide]; exact He.exm_ok (c.fact 95 (f := .exm "BadMoney" "Unbalanced" false) rfl), List.forall_mem_cons.mpr ⟨by rw [show subB "BadMoney" "Shut" = false from by decide]; exact He.exm_ok (c.fact 96 (f := .exm "BadMoney" "Shut" false) rfl), List.forall_mem_cons.mpr ⟨by rw [show subB "BadMoney" "Short" = false from by decide]; exact He.exm_ok (c.fact 97 (f := .exm "BadMoney" "Short" false) rfl), List.forall_mem_cons.mpr ⟨by rw [show subB "BadMoney" "BadText" = false from by decide]; exact He.exm_ok (c.fact 98 (f := .exm "BadMoney" "BadText" false) rfl), List.forall_mem_cons.mpr ⟨by rw [show subB "BadMoney" "NoAnswer" = false from by decide]; exact He.exm_ok (c.fact 99 (f := .exm "BadMoney" "NoAnswer" false) rfl), (fun _ h => nomatch h)⟩⟩⟩⟩⟩⟩⟩⟩, List.forall_mem_cons.mpr ⟨List.forall_mem_cons.mpr ⟨by rw [show subB "BadDay" "BadMoney" = false from by decide]; exact He.exm_ok (c.fact 101 (f := .exm "BadDay" "BadMoney" false) rfl), List.forall_mem_cons.mpr ⟨by rw [show subB "BadDay" "BadDay" = true from by decide]; exact He.exm_ok (c.fact 102 (f := .exm "BadDay" "BadDay" true) rfl), List.forall_mem_cons.mpr ⟨by rw [show subB "BadDay" "BadRule" = false from by decide]; exact He.exm_ok (c.fact 103 (f := .exm "BadDay" "BadRule" false) rfl), List.forall_mem_cons.mpr ⟨by rw [show subB "BadDay" "Unbalanced" = false from by decide]; exact He.exm_ok (c.fact 104 (f := .exm "BadDay" "Unbalanced" false) rfl), List.forall_mem_cons.mpr ⟨by rw [show subB "BadDay" "Shut" = false from by decide]; exact He.exm_ok (c.fact 105 (f := .exm "BadDay" "Shut" false) rfl), List.forall_mem_cons.mpr ⟨by rw [show subB "BadDay" "Short" = false from by decide]; exact He.exm_ok (c.fact 106 (f := .exm "BadDay" "Short" false) rfl), List.forall_mem_cons.mpr ⟨by rw [show subB "BadDay" "BadText" = false from by decide]; exact He.exm_ok (c.fact 107 (f := .exm "BadDay" "BadText" false) rfl), List.forall_mem_cons.mpr ⟨by rw [show subB "BadDay" "NoAnswer" = false from by decide]; exact He.exm_ok (c.fact 108 (f := .exm "BadDay" "NoAnswer" false) rfl), (fun _ h => nomatch h)⟩⟩⟩⟩⟩⟩⟩⟩, List.forall_mem_cons.mpr ⟨List.forall_mem_cons.mpr ⟨by rw [show subB "BadRule" "BadMoney" = false from by decide]; exact He.exm_ok (c.fact 110 (f := .exm "BadRule" "BadMoney" false) rfl), List.forall_mem_cons.mpr ⟨by rw [show subB "BadRule" "BadDay" = false from by decide]; exact He.exm_ok (c.fact 111 (f := .exm "BadRule" "BadDay" false) rfl), List.forall_mem_cons.mpr ⟨by rw [show subB "BadRule" "BadRule" = true from by decide]; exact He.exm_ok (c.fact 112 (f := .exm "BadRule" "BadRule" true) rfl), List.forall_mem_cons.mpr ⟨by rw [show subB "BadRule" "Unbalanced" = false from by decide]; exact He.exm_ok (c.fact 113 (f := .exm "BadRule" "Unbalanced" false) rfl), List.forall_mem_cons.mpr ⟨by rw [show subB "BadRule" "Shut" = false from by decide]; exact He.exm_ok (c.fact 114 (f := .exm "BadRule" "Shut" false) rfl), List.forall_mem_cons.mpr ⟨by rw [show subB "BadRule" "Short" = false from by decide]; exact He.exm_ok (c.fact 115 (f := .exm "BadRule" "Short" false) rfl), List.forall_mem_cons.mpr ⟨by rw [show subB "BadRule" "BadText" = false from by decide]; exact He.exm_ok (c.fact 116 (f := .exm "BadRule" "BadText" false) rfl), List.forall_mem_cons.mpr ⟨by rw [show subB "BadRule" "NoAnswer" = false from by decide]; exact He.exm_ok (c.fact 117 (f := .exm "BadRule" "NoAnswer" false) rfl), (fun _ h => nomatch h)⟩⟩⟩⟩⟩⟩⟩⟩, List.forall_mem_cons.mpr ⟨List.forall_mem_cons.mpr ⟨by rw [show subB "Shut" "BadMoney" = false from by decide]; exact He.exm_ok (c.fact 119 (f := .exm "Shut" "BadMoney" false) rfl), List.forall_mem_cons.mpr ⟨by rw [show subB "Shut" "BadDay" = false from by decide]; exact He.exm_ok (c.fact 120 (f := .exm "Shut" "BadDay" false) rfl), List.forall_mem_cons.mpr ⟨by rw [show subB "Shut" "BadRule" = false from by decide]; exact He.exm_ok (c.fact 121 (f := .exm "Shut" "BadRule" false) rfl), List.forall_mem_cons.mpr ⟨by rw [show subB "Shut" "Unbalanced" = false from by decide]; exact He.exm_ok (c.fact 122 (f := .exm "Shut" "Unbalanced" false) rfl), List.forall_mem_cons.mpr ⟨by rw [show subB "Shut" "Shut" = true from by decide]; exact He.exm_ok (c.fact 123 (f := .exm "Shut" "Shut" true) rfl), List.forall_mem_cons.mpr ⟨by rw [show subB "Shut" "Short" = false from by decide]; exact He.exm_ok (c.fact 124 (f := .exm "Shut" "Short" false) rfl), List.forall_mem_cons.mpr ⟨by rw [show subB "Shut" "BadText" = false from by decide]; exact He.exm_ok (c.fact 125 (f := .exm "Shut" "BadText" false) rfl), List.forall_mem_cons.mpr ⟨by rw [show subB "Shut" "NoAnswer" = false from by decide]; exact He.exm_ok (c.fact 126 (f := .exm "Shut" "NoAnswer" false) rfl), (fun _ h => nomatch h)⟩⟩⟩⟩⟩⟩⟩⟩, List.forall_mem_cons.mpr ⟨List.forall_mem_cons.mpr ⟨by rw [show subB "NoAnswer" "BadMoney" = false from by decide]; exact He.exm_ok (c.fact 128 (f := .exm "NoAnswer" "BadMoney" false) rfl), List.forall_mem_cons.mpr ⟨by rw [show subB "NoAnswer" "BadDay" = false from by decide]; exact He.exm_ok (c.fact 129 (f := .exm "NoAnswer" "BadDay" false) rfl), List.forall_mem_cons.mpr ⟨by rw [show subB "NoAnswer" "BadRule" = false from by decide]; exact He.exm_ok (c.fact 130 (f := .exm "NoAnswer" "BadRule" false) rfl), List.forall_mem_cons.mpr ⟨by rw [show subB "NoAnswer" "Unbalanced" = false from by decide]; exact He.exm_ok (c.fact 131 (f := .exm "NoAnswer" "Unbalanced" false) rfl), List.forall_mem_cons.mpr ⟨by rw [show subB "NoAnswer" "Shut" = false from by decide]; exact He.exm_ok (c.fact 132 (f := .exm "NoAnswer" "Shut" false) rfl), List.forall_mem_cons.mpr ⟨by rw [show subB "NoAnswer" "Short" = false from by decide]; exact He.exm_ok (c.fact 133 (f := .exm "NoAnswer" "Short" false) rfl), List.forall_mem_cons.mpr ⟨by rw [show subB "NoAnswer" "BadText" = false from by decide]; exact He.exm_ok (c.fact 134 (f := .exm "NoAnswer" "BadText" false) rfl), List.forall_mem_cons.mpr ⟨by rw [show subB "NoAnswer" "NoAnswer" = true from by decide]; exact He.exm_ok (c.fact 135 (f := .exm "NoAnswer" "NoAnswer" true) rfl), (fun _ h => nomatch h)⟩⟩⟩⟩⟩⟩⟩⟩, (fun _ h => nomatch h)⟩⟩⟩⟩⟩
theorem fn__law_dice  : FnD P w K mg base (GK K) 1 (He.fAd K ("_law_dice", none)) 1 (runD 1 (f__law_dice)) := by
  obtain ⟨fd, F0⟩ := c.def_ 25 (d := d__law_dice) rfl
  have F : FunD K "_law_dice" "_law_dice" (defArgs s__law_dice) (defBody s__law_dice) (defScope s__law_dice) [] [] (He.fAd K ("_law_dice", none)) fd := F0
  have b : Binds K fd ["cell"] [] := F.bindsN fun _ _ _ _ _ _ us hl => match us, hl with | [_], _ => rfl
  exact fnD_of F sc__law_dice b fun cdv A outer s H E hl hcd hr => (jss_cons (js_if (jt_chain jop_lt jop_lt (je_op jop_sub je_int je_int) (je_var 0) je_int)
  (jss_one (js_ret (je_lst (ja_cons (je_blt jb_abs (z_abs KX Gn c) boot_abs (ja_cons (je_var 0) ja_nil)) (ja_cons je_int (ja_cons je_int ja_nil))))))
  jss_nil)
  (jss_one (js_ret (je_lst (ja_cons (je_var 0) (ja_cons (je_op jop_add je_int (je_op jop_mod (je_bty jb_int (z_int KX Gn c) boot_int (ja_cons (je_var 0) ja_nil)) je_int)) (ja_cons (je_bty jb_int (z_int KX Gn c) boot_int (ja_cons (je_cmp jop_ge (je_var 0) (je_op jop_pow je_int je_int)) ja_nil)) ja_nil)))))))
theorem fn__law_rounds {M__law_dice : DF} (h__law_dice : FnD P w K mg base (GK K) 1 (He.fAd K ("_law_dice", none)) 1 M__law_dice) : FnD P w K mg base (GK K) 2 (He.fAd K ("_law_rounds", none)) 2 (runD 4 (f__law_rounds M__law_dice)) := by
  obtain ⟨fd, F0⟩ := c.def_ 27 (d := d__law_rounds) rfl
  have F : FunD K "_law_rounds" "_law_rounds" (defArgs s__law_rounds) (defBody s__law_rounds) (defScope s__law_rounds) [] [] (He.fAd K ("_law_rounds", none)) fd := F0
  have b : Binds K fd ["script", "most"] [] := F.bindsN fun _ _ _ _ _ _ us hl => match us, hl with | [_, _], _ => rfl
  exact fnD_of F sc__law_rounds b fun cdv A outer s H E hl hcd hr => (jss_cons (js_set 2 sc__law_rounds.nd (je_slice (je_var 0) jp_none (jp_some (je_var 1))))
  (jss_cons (js_if (jt_cmp (jop_eq hr.units) (je_var 2) (je_lst ja_nil))
  (jss_one (js_set 2 sc__law_rounds.nd (je_lst (ja_cons je_int ja_nil))))
  jss_nil)
  (jss_one (js_ret (je_lc rfl sc__law_rounds.nd (blkOk_by (own := [("cell", 3)]) (N := N__law_rounds) (sc := defScope s__law_rounds) (by decide +kernel)) (ji_seq (je_var 2)) (fun _ _ _ _ _ => (jgv_name 3 sc__law_rounds.nd (by decide))) (fun _ _ _ _ _ => jts_nil) (fun _ _ _ _ _ => (je_call h__law_dice takes0 (hr.mono (by decide)) (g__law_dice KX Gn c) (ja_cons (je_var 3) ja_nil))))))))
theorem fn_order  : FnD P w K mg base (GK K) 1 (He.fAd K ("order", none)) 2 (runD 3 (f_order)) := by
  obtain ⟨fd, F0⟩ := c.def_ 5 (d := d_order) rfl
  have F : FunD K "order" "order" (defArgs s_order) (defBody s_order) (defScope s_order) [] [] (He.fAd K ("order", none)) fd := F0
  have b : Binds K fd ["a", "b"] [] := F.bindsN fun _ _ _ _ _ _ us hl => match us, hl with | [_, _], _ => rfl
  exact fnD_of F sc_order b fun cdv A outer s H E hl hcd hr => (jss_cons (js_set 2 sc_order.nd (je_op jop_sub (je_op jop_mul (je_ix (je_var 0) je_int) (je_ix (je_var 1) je_int)) (je_op jop_mul (je_ix (je_var 1) je_int) (je_ix (je_var 0) je_int))))
  (jss_one (js_ret (je_op jop_sub (je_cmp jop_gt (je_var 2) je_int) (je_cmp jop_lt (je_var 2) je_int)))))
theorem fn_Tree___init__ {M_order : DF} (h_order : FnD P w K mg base (GK K) 1 (He.fAd K ("order", none)) 2 M_order) : FnD P w K mg base (GK K) 2 (He.fAd K ("Tree", some "__init__")) 6 (runD 6 (f_Tree___init__ M_order)) := by
  obtain ⟨fd, F0⟩ := c.def_ 13 (d := d_Tree___init__) rfl
  have F : FunD K "__init__" "Tree.__init__" (defArgs s_Tree___init__) (defBody s_Tree___init__) (defScope s_Tree___init__) [] [] (He.fAd K ("Tree", some "__init__")) fd := F0
  have b : Binds K fd ["self", "price", "up", "down", "interest", "many"] [] := F.bindsN fun _ _ _ _ _ _ us hl => match us, hl with | [_, _, _, _, _, _], _ => rfl
  exact fnD_of F sc_Tree___init__ b fun cdv A outer s H E hl hcd hr => (jss_cons (js_if (jt_of (jw_or (jt_cmp jop_lt (je_ix (je_var 3) je_int) je_int) (jw_or (jt_cmp jop_ge (je_call h_order (takes_of rfl rfl rfl rfl) (hr.mono (by decide)) (g_order KX Gn c) (ja_cons (je_var 3) (ja_cons (je_var 4) ja_nil))) je_int) (jw_or1 (jt_cmp jop_ge (je_call h_order (takes_of rfl rfl rfl rfl) (hr.mono (by decide)) (g_order KX Gn c) (ja_cons (je_var 4) (ja_cons (je_var 2) ja_nil))) je_int)))))
  (jss_one (js_raise (c := "BadRule") rfl (takes_of rfl rfl rfl rfl) PySem.F.excBase_ValueError (x_BadRule KX Gn c).1 (g_BadRule KX Gn c) (x_BadRule KX Gn c).2.1 (raises_own (x_BadRule KX Gn c).2.2.1 (x_BadRule KX Gn c).2.2.2)))
  jss_nil)
  (jss_cons (js_if (jt_of (jw_or (jt_cmp jop_lt (je_var 1) je_int) (jw_or1 (jt_not (jt_chain jop_lt jop_le je_int (je_var 5) je_int)))))
  (jss_one (js_raise (c := "BadRule") rfl (takes_of rfl rfl rfl rfl) PySem.F.excBase_ValueError (x_BadRule KX Gn c).1 (g_BadRule KX Gn c) (x_BadRule KX Gn c).2.1 (raises_own (x_BadRule KX Gn c).2.2.1 (x_BadRule KX Gn c).2.2.2)))
  jss_nil)
  (jss_cons (js_fld (fl_price KX Gn c) (je_var 0) (je_var 1))
  (jss_cons (js_fld (fl_up KX Gn c) (je_var 0) (je_var 2))
  (jss_cons (js_fld (fl_down KX Gn c) (je_var 0) (je_var 3))
  (jss_cons (js_fld (fl_growth KX Gn c) (je_var 0) (je_var 4))
  (jss_one (js_fld (fl_many KX Gn c) (je_var 0) (je_var 5)))))))))
theorem fn_part  : FnD P w K mg base (GK K) 1 (He.fAd K ("part", none)) 2 (runD 5 (f_part)) := by
  obtain ⟨fd, F0⟩ := c.def_ 0 (d := d_part) rfl
  have F : FunD K "part" "part" (defArgs s_part) (defBody s_part) (defScope s_part) [] [] (He.fAd K ("part", none)) fd := F0
  have b : Binds K fd ["top", "bottom"] [] := F.bindsN fun _ _ _ _ _ _ us hl => match us, hl with | [_, _], _ => rfl
  exact fnD_of F sc_part b fun cdv A outer s H E hl hcd hr => (jss_cons (js_if (jt_cmp (jop_eq hr.units) (je_var 1) je_int)
  (jss_one (js_raise (c := "BadRule") rfl (takes_of rfl rfl rfl rfl) PySem.F.excBase_ValueError (x_BadRule KX Gn c).1 (g_BadRule KX Gn c) (x_BadRule KX Gn c).2.1 (raises_own (x_BadRule KX Gn c).2.2.1 (x_BadRule KX Gn c).2.2.2)))
  jss_nil)
  (jss_cons (js_par2 2 3 rfl sc_part.nd (ja_cons (je_blt jb_abs (z_abs KX Gn c) boot_abs (ja_cons (je_var 0) ja_nil)) (ja_cons (je_blt jb_abs (z_abs KX Gn c) boot_abs (ja_cons (je_var 1) ja_nil)) ja_nil)))
  (jss_cons (js_while (passes_of rfl) (jt_cmp (jop_ne hr.units) (je_var 3) je_int) (jss_one (js_par2 2 3 rfl sc_part.nd (ja_cons (je_var 3) (ja_cons (je_op jop_mod (je_var 2) (je_var 3)) ja_nil)))))
  (jss_cons (js_set 4 sc_part.nd (je_if (jt_cmp jop_gt (je_var 1) je_int) je_int (je_neg je_int)))
  (jss_cons (js_set 2 sc_part.nd (je_blt (jb_max rfl) (z_max KX Gn c) boot_max (ja_cons (je_var 2) (ja_cons je_int ja_nil))))
  (jss_one (js_ret (je_tup (ja_cons (je_op jop_fdiv (je_op jop_mul (je_var 4) (je_var 0)) (je_var 2)) (ja_cons (je_op jop_fdiv (je_blt jb_abs (z_abs KX Gn c) boot_abs (ja_cons (je_var 1) ja_nil)) (je_var 2)) ja_nil))))))))))
theorem fn_over {M_part : DF} (h_part : FnD P w K mg base (GK K) 1 (He.fAd K ("part", none)) 2 M_part) : FnD P w K mg base (GK K) 2 (He.fAd K ("over", none)) 2 (runD 2 (f_over M_part)) := by
  obtain ⟨fd, F0⟩ := c.def_ 4 (d := d_over) rfl
  have F : FunD K "over" "over" (defArgs s_over) (defBody s_over) (defScope s_over) [] [] (He.fAd K ("over", none)) fd := F0
  have b : Binds K fd ["a", "b"] [] := F.bindsN fun _ _ _ _ _ _ us hl => match us, hl with | [_, _], _ => rfl
  exact fnD_of F sc_over b fun cdv A outer s H E hl hcd hr => (jss_one (js_ret (je_call h_part (takes_of rfl rfl rfl rfl) (hr.mono (by decide)) (g_part KX Gn c) (ja_cons (je_op jop_mul (je_ix (je_var 0) je_int) (je_ix (je_var 1) je_int)) (ja_cons (je_op jop_mul (je_ix (je_var 0) je_int) (je_ix (je_var 1) je_int)) ja_nil)))))
theorem fn_less {M_part : DF} (h_part : FnD P w K mg base (GK K) 1 (He.fAd K ("part", none)) 2 M_part) : FnD P w K mg base (GK K) 2 (He.fAd K ("less", none)) 2 (runD 2 (f_less M_part)) := by
  obtain ⟨fd, F0⟩ := c.def_ 2 (d := d_less) rfl
  have F : FunD K "less" "less" (defArgs s_less) (defBody s_less) (defScope s_less) [] [] (He.fAd K ("less", none)) fd := F0
  have b : Binds K fd ["a", "b"] [] := F.bindsN fun _ _ _ _ _ _ us hl => match us, hl with | [_, _], _ => rfl
  exact fnD_of F sc_less b fun cdv A outer s H E hl hcd hr => (jss_one (js_ret (je_call h_part (takes_of rfl rfl rfl rfl) (hr.mono (by decide)) (g_part KX Gn c) (ja_cons (je_op jop_sub (je_op jop_mul (je_ix (je_var 0) je_int) (je_ix (je_var 1) je_int)) (je_op jop_mul (je_ix (je_var 1) je_int) (je_ix (je_var 0) je_int))) (ja_cons (je_op jop_mul (je_ix (je_var 0) je_int) (je_ix (je_var 1) je_int)) ja_nil)))))
theorem fn_Tree_weight {M_less : DF} (h_less : FnD P w K mg base (GK K) 2 (He.fAd K ("less", none)) 2 M_less) {M_over : DF} (h_over : FnD P w K mg base (GK K) 2 (He.fAd K ("over", none)) 2 M_over) : FnD P w K mg base (GK K) 3 (He.fAd K ("Tree", some "weight")) 1 (runD 1 (f_Tree_weight M_less M_over)) := by
  obtain ⟨fd, F0⟩ := c.def_ 14 (d := d_Tree_weight) rfl
  have F : FunD K "weight" "Tree.weight" (defArgs s_Tree_weight) (defBody s_Tree_weight) (defScope s_Tree_weight) [] [] (He.fAd K ("Tree", some "weight")) fd := F0
  have b : Binds K fd ["self"] [] := F.bindsN fun _ _ _ _ _ _ us hl => match us, hl with | [_], _ => rfl
  exact fnD_of F sc_Tree_weight b fun cdv A outer s H E hl hcd hr => (jss_one (js_ret (je_call h_over (takes_of rfl rfl rfl rfl) (hr.mono (by decide)) (g_over KX Gn c) (ja_cons (je_call h_less (takes_of rfl rfl rfl rfl) (hr.mono (by decide)) (g_less KX Gn c) (ja_cons (je_fld (fl_growth KX Gn c) (je_var 0)) (ja_cons (je_fld (fl_down KX Gn c) (je_var 0)) ja_nil))) (ja_cons (je_call h_less (takes_of rfl rfl rfl rfl) (hr.mono (by decide)) (g_less KX Gn c) (ja_cons (je_fld (fl_up KX Gn c) (je_var 0)) (ja_cons (je_fld (fl_down KX Gn c) (je_var 0)) ja_nil))) ja_nil)))))
theorem fn_times {M_part : DF} (h_part : FnD P w K mg base (GK K) 1 (He.fAd K ("part", none)) 2 M_part) : FnD P w K mg base (GK K) 2 (He.fAd K ("times", none)) 2 (runD 2 (f_times M_part)) := by
  obtain ⟨fd, F0⟩ := c.def_ 3 (d := d_times) rfl
  have F : FunD K "times" "times" (defArgs s_times) (defBody s_times) (defScope s_times) [] [] (He.fAd K ("times", none)) fd := F0
  have b : Binds K fd ["a", "b"] [] := F.bindsN fun _ _ _ _ _ _ us hl => match us, hl with | [_, _], _ => rfl
  exact fnD_of F sc_times b fun cdv A outer s H E hl hcd hr => (jss_one (js_ret (je_call h_part (takes_of rfl rfl rfl rfl) (hr.mono (by decide)) (g_part KX Gn c) (ja_cons (je_op jop_mul (je_ix (je_var 0) je_int) (je_ix (je_var 1) je_int)) (ja_cons (je_op jop_mul (je_ix (je_var 0) je_int) (je_ix (je_var 1) je_int)) ja_nil)))))
theorem fn_Tree_prices {M_times : DF} (h_times : FnD P w K mg base (GK K) 2 (He.fAd K ("times", none)) 2 M_times) : FnD P w K mg base (GK K) 3 (He.fAd K ("Tree", some "prices")) 2 (runD 6 (f_Tree_prices M_times)) := by
  obtain ⟨fd, F0⟩ := c.def_ 15 (d := d_Tree_prices) rfl
  have F : FunD K "prices" "Tree.prices" (defArgs s_Tree_prices) (defBody s_Tree_prices) (defScope s_Tree_prices) [] [] (He.fAd K ("Tree", some "prices")) fd := F0
  have b : Binds K fd ["self", "time"] [] := F.bindsN fun _ _ _ _ _ _ us hl => match us, hl with | [_, _], _ => rfl
  exact fnD_of F sc_Tree_prices b fun cdv A outer s H E hl hcd hr => (jss_cons (js_set 2 sc_Tree_prices.nd (je_lst ja_nil))
  (jss_cons (js_for (passes_of rfl) rfl (ji_range1 (z_range KX Gn c) (je_op jop_add (je_var 1) je_int)) (jg_name 3 sc_Tree_prices.nd)
  (jss_cons (js_set 4 sc_Tree_prices.nd (je_tup (ja_cons (je_fld (fl_price KX Gn c) (je_var 0)) (ja_cons je_int ja_nil))))
  (jss_cons (js_for (passes_of rfl) rfl (ji_range1 (z_range KX Gn c) (je_var 1)) (jg_name 5 sc_Tree_prices.nd)
  (jss_one (js_set 4 sc_Tree_prices.nd (je_call h_times (takes_of rfl rfl rfl rfl) (hr.mono (by decide)) (g_times KX Gn c) (ja_cons (je_var 4) (ja_cons (je_if (jt_cmp jop_lt (je_var 5) (je_var 3)) (je_fld (fl_up KX Gn c) (je_var 0)) (je_fld (fl_down KX Gn c) (je_var 0))) ja_nil))))))
  (jss_one (js_expr (je_app (je_var 2) (je_var 4)))))))
  (jss_one (js_ret (je_bty jb_tuple (z_tuple KX Gn c) boot_tuple (ja_cons (je_var 2) ja_nil))))))
theorem fn_paid {M_less : DF} (h_less : FnD P w K mg base (GK K) 2 (He.fAd K ("less", none)) 2 M_less) : FnD P w K mg base (GK K) 3 (He.fAd K ("paid", none)) 3 (runD 4 (f_paid M_less)) := by
  obtain ⟨fd, F0⟩ := c.def_ 22 (d := d_paid) rfl
  have F : FunD K "paid" "paid" (defArgs s_paid) (defBody s_paid) (defScope s_paid) [] [] (He.fAd K ("paid", none)) fd := F0
  have b : Binds K fd ["price", "strike", "is_buy"] [] := F.bindsN fun _ _ _ _ _ _ us hl => match us, hl with | [_, _, _], _ => rfl
  exact fnD_of F sc_paid b fun cdv A outer s H E hl hcd hr => (jss_cons (js_set 3 sc_paid.nd (je_if (jt_val (je_var 2)) (je_call h_less (takes_of rfl rfl rfl rfl) (hr.mono (by decide)) (g_less KX Gn c) (ja_cons (je_var 0) (ja_cons (je_tup (ja_cons (je_var 1) (ja_cons je_int ja_nil))) ja_nil))) (je_call h_less (takes_of rfl rfl rfl rfl) (hr.mono (by decide)) (g_less KX Gn c) (ja_cons (je_tup (ja_cons (je_var 1) (ja_cons je_int ja_nil))) (ja_cons (je_var 0) ja_nil)))))
  (jss_one (js_ret (je_if (jt_cmp jop_gt (je_ix (je_var 3) je_int) je_int) (je_var 3) (je_tup (ja_cons je_int (ja_cons je_int ja_nil)))))))
theorem fn_add {M_part : DF} (h_part : FnD P w K mg base (GK K) 1 (He.fAd K ("part", none)) 2 M_part) : FnD P w K mg base (GK K) 2 (He.fAd K ("add", none)) 2 (runD 2 (f_add M_part)) := by
  obtain ⟨fd, F0⟩ := c.def_ 1 (d := d_add) rfl
  have F : FunD K "add" "add" (defArgs s_add) (defBody s_add) (defScope s_add) [] [] (He.fAd K ("add", none)) fd := F0
  have b : Binds K fd ["a", "b"] [] := F.bindsN fun _ _ _ _ _ _ us hl => match us, hl with | [_, _], _ => rfl
  exact fnD_of F sc_add b fun cdv A outer s H E hl hcd hr => (jss_one (js_ret (je_call h_part (takes_of rfl rfl rfl rfl) (hr.mono (by decide)) (g_part KX Gn c) (ja_cons (je_op jop_add (je_op jop_mul (je_ix (je_var 0) je_int) (je_ix (je_var 1) je_int)) (je_op jop_mul (je_ix (je_var 1) je_int) (je_ix (je_var 0) je_int))) (ja_cons (je_op jop_mul (je_ix (je_var 0) je_int) (je_ix (je_var 1) je_int)) ja_nil)))))
theorem fn_Scaled_right {M_Tree_prices : DF} (h_Tree_prices : FnD P w K mg base (GK K) 3 (He.fAd K ("Tree", some "prices")) 2 M_Tree_prices) {M_order : DF} (h_order : FnD P w K mg base (GK K) 1 (He.fAd K ("order", none)) 2 M_order) {M_times : DF} (h_times : FnD P w K mg base (GK K) 2 (He.fAd K ("times", none)) 2 M_times) {M_paid : DF} (h_paid : FnD P w K mg base (GK K) 3 (He.fAd K ("paid", none)) 3 M_paid) {M_over : DF} (h_over : FnD P w K mg base (GK K) 2 (He.fAd K ("over", none)) 2 M_over) {M_less : DF} (h_less : FnD P w K mg base (GK K) 2 (He.fAd K ("less", none)) 2 M_less) {M_add : DF} (h_add : FnD P w K mg base (GK K) 2 (He.fAd K ("add", none)) 2 M_add) {M_Tree_weight : DF} (h_Tree_weight : FnD P w K mg base (GK K) 3 (He.fAd K ("Tree", some "weight")) 1 M_Tree_weight) : FnD P w K mg base (GK K) 4 (He.fAd K ("Scaled", some "right")) 4 (runD 14 (f_Scaled_right M_Tree_prices M_order M_times M_paid M_over M_less M_add M_Tree_weight)) := by
  obtain ⟨fd, F0⟩ := c.def_ 21 (d := d_Scaled_right) rfl
  have F : FunD K "right" "Scaled.right" (defArgs s_Scaled_right) (defBody s_Scaled_right) (defScope s_Scaled_right) [] [] (He.fAd K ("Scaled", some "right")) fd := F0
  have b : Binds K fd ["self", "strike", "is_buy", "any_time"] [] := F.bindsN fun _ _ _ _ _ _ us hl => match us, hl with | [_, _, _, _], _ => rfl
  exact fnD_of F sc_Scaled_right b fun cdv A outer s H E hl hcd hr => (jss_cons (js_par2 4 5 rfl sc_Scaled_right.nd (ja_cons (je_fld (fl_tree KX Gn c) (je_var 0)) (ja_cons (je_meth0 (c := "Tree") h_Tree_weight (takes_of rfl rfl rfl rfl) (hr.mono (by decide)) (cl_Tree KX Gn c) (mt_Tree_weight KX Gn c) (je_fld (fl_tree KX Gn c) (je_var 0))) ja_nil)))
  (jss_cons (js_setLc 6 rfl sc_Scaled_right.nd (blkOk_by (own := [("one", 12)]) (N := N_Scaled_right) (sc := defScope s_Scaled_right) (by decide +kernel)) (ji_seq (je_meth (c := "Tree") h_Tree_prices (takes_of rfl rfl rfl rfl) (hr.mono (by decide)) (cl_Tree KX Gn c) (mt_Tree_prices KX Gn c) (je_var 4) (ja_cons (je_fld (fl_many KX Gn c) (je_var 4)) ja_nil))) (fun _ _ _ _ _ => (jgv_name 12 sc_Scaled_right.nd (by decide))) (fun _ _ _ _ _ => jts_nil) (fun _ _ _ _ _ => (je_call h_paid takes0 (hr.mono (by decide)) (g_paid KX Gn c) (ja_cons (je_call h_times takes0 (hr.mono (by decide)) (g_times KX Gn c) (ja_cons (je_var 12) (ja_cons (je_fld (fl_much KX Gn c) (je_var 0)) ja_nil))) (ja_cons (je_var 1) (ja_cons (je_var 2) ja_nil))))) (sw_true rfl rfl rfl (by decide +kernel)))
  (jss_cons (js_for (passes_of rfl) rfl (ji_rev1 (z_reversed KX Gn c) (z_range KX Gn c) (je_fld (fl_many KX Gn c) (je_var 4))) (jg_name 7 sc_Scaled_right.nd)
  (jss_cons (js_set 8 sc_Scaled_right.nd (je_lst ja_nil))
  (jss_cons (js_for (passes_of rfl) rfl (ji_enum (z_enumerate KX Gn c) (je_meth (c := "Tree") h_Tree_prices (takes_of rfl rfl rfl rfl) (hr.mono (by decide)) (cl_Tree KX Gn c) (mt_Tree_prices KX Gn c) (je_var 4) (ja_cons (je_var 7) ja_nil))) (jg_tup rfl (jgs_cons (jg_name 9 sc_Scaled_right.nd) (jgs_cons (jg_name 10 sc_Scaled_right.nd) jgs_nil)))
  (jss_cons (js_set 11 sc_Scaled_right.nd (je_call h_add (takes_of rfl rfl rfl rfl) (hr.mono (by decide)) (g_add KX Gn c) (ja_cons (je_call h_times (takes_of rfl rfl rfl rfl) (hr.mono (by decide)) (g_times KX Gn c) (ja_cons (je_var 5) (ja_cons (je_ix (je_var 6) (je_op jop_add (je_var 9) je_int)) ja_nil))) (ja_cons (je_call h_times (takes_of rfl rfl rfl rfl) (hr.mono (by decide)) (g_times KX Gn c) (ja_cons (je_call h_less (takes_of rfl rfl rfl rfl) (hr.mono (by decide)) (g_less KX Gn c) (ja_cons (je_tup (ja_cons je_int (ja_cons je_int ja_nil))) (ja_cons (je_var 5) ja_nil))) (ja_cons (je_ix (je_var 6) (je_var 9)) ja_nil))) ja_nil))))
  (jss_cons (js_set 12 sc_Scaled_right.nd (je_call h_over (takes_of rfl rfl rfl rfl) (hr.mono (by decide)) (g_over KX Gn c) (ja_cons (je_var 11) (ja_cons (je_fld (fl_growth KX Gn c) (je_var 4)) ja_nil))))
  (jss_cons (js_set 13 sc_Scaled_right.nd (je_call h_paid (takes_of rfl rfl rfl rfl) (hr.mono (by decide)) (g_paid KX Gn c) (ja_cons (je_call h_times (takes_of rfl rfl rfl rfl) (hr.mono (by decide)) (g_times KX Gn c) (ja_cons (je_var 10) (ja_cons (je_fld (fl_much KX Gn c) (je_var 0)) ja_nil))) (ja_cons (je_var 1) (ja_cons (je_var 2) ja_nil)))))
  (jss_one (js_expr (je_app (je_var 8) (je_if (jt_of (jw_and (jt_val (je_var 3)) (jw_and1 (jt_cmp jop_gt (je_call h_order (takes_of rfl rfl rfl rfl) (hr.mono (by decide)) (g_order KX Gn c) (ja_cons (je_var 13) (ja_cons (je_var 12) ja_nil))) je_int)))) (je_var 13) (je_var 12)))))))))
  (jss_one (js_set 6 sc_Scaled_right.nd (je_var 8))))))
  (jss_one (js_ret (je_ix (je_var 6) je_int))))))
theorem fn_Scaled___init__  : FnD P w K mg base (GK K) 1 (He.fAd K ("Scaled", some "__init__")) 3 (runD 3 (f_Scaled___init__)) := by
  obtain ⟨fd, F0⟩ := c.def_ 20 (d := d_Scaled___init__) rfl
  have F : FunD K "__init__" "Scaled.__init__" (defArgs s_Scaled___init__) (defBody s_Scaled___init__) (defScope s_Scaled___init__) [] [] (He.fAd K ("Scaled", some "__init__")) fd := F0
  have b : Binds K fd ["self", "tree", "much"] [] := F.bindsN fun _ _ _ _ _ _ us hl => match us, hl with | [_, _, _], _ => rfl
  exact fnD_of F sc_Scaled___init__ b fun cdv A outer s H E hl hcd hr => (jss_cons (js_fld (fl_tree KX Gn c) (je_var 0) (je_var 1))
  (jss_one (js_fld (fl_much KX Gn c) (je_var 0) (je_var 2))))
theorem fn_Tree_after {M_Scaled___init__ : DF} (h_Scaled___init__ : FnD P w K mg base (GK K) 1 (He.fAd K ("Scaled", some "__init__")) 3 M_Scaled___init__) {M_times : DF} (h_times : FnD P w K mg base (GK K) 2 (He.fAd K ("times", none)) 2 M_times) {M_Tree___init__ : DF} (h_Tree___init__ : FnD P w K mg base (GK K) 2 (He.fAd K ("Tree", some "__init__")) 6 M_Tree___init__) : FnD P w K mg base (GK K) 4 (He.fAd K ("Tree", some "after")) 2 (runD 4 (f_Tree_after M_Scaled___init__ M_times M_Tree___init__)) := by
  obtain ⟨fd, F0⟩ := c.def_ 18 (d := d_Tree_after) rfl
  have F : FunD K "after" "Tree.after" (defArgs s_Tree_after) (defBody s_Tree_after) (defScope s_Tree_after) [] [] (He.fAd K ("Tree", some "after")) fd := F0
  have b : Binds K fd ["self", "is_up"] [] := F.bindsN fun _ _ _ _ _ _ us hl => match us, hl with | [_, _], _ => rfl
  exact fnD_of F sc_Tree_after b fun cdv A outer s H E hl hcd hr => (jss_cons (js_set 2 sc_Tree_after.nd (je_make (c := "Tree") h_Tree___init__ (mk_Tree KX Gn c) (takes_of rfl rfl rfl rfl) (hr.mono (by decide)) (g_Tree KX Gn c) (ja_cons je_int (ja_cons (je_fld (fl_up KX Gn c) (je_var 0)) (ja_cons (je_fld (fl_down KX Gn c) (je_var 0)) (ja_cons (je_fld (fl_growth KX Gn c) (je_var 0)) (ja_cons (je_op jop_sub (je_fld (fl_many KX Gn c) (je_var 0)) je_int) ja_nil)))))))
  (jss_cons (js_set 3 sc_Tree_after.nd (je_call h_times (takes_of rfl rfl rfl rfl) (hr.mono (by decide)) (g_times KX Gn c) (ja_cons (je_tup (ja_cons (je_fld (fl_price KX Gn c) (je_var 0)) (ja_cons je_int ja_nil))) (ja_cons (je_if (jt_val (je_var 1)) (je_fld (fl_up KX Gn c) (je_var 0)) (je_fld (fl_down KX Gn c) (je_var 0))) ja_nil))))
  (jss_one (js_ret (je_make (c := "Scaled") h_Scaled___init__ (mk_Scaled KX Gn c) (takes_of rfl rfl rfl rfl) (hr.mono (by decide)) (g_Scaled KX Gn c) (ja_cons (je_var 2) (ja_cons (je_var 3) ja_nil)))))))
theorem fn_Tree_held {M_times : DF} (h_times : FnD P w K mg base (GK K) 2 (He.fAd K ("times", none)) 2 M_times) {M_less : DF} (h_less : FnD P w K mg base (GK K) 2 (He.fAd K ("less", none)) 2 M_less) {M_over : DF} (h_over : FnD P w K mg base (GK K) 2 (He.fAd K ("over", none)) 2 M_over) {M_Tree_prices : DF} (h_Tree_prices : FnD P w K mg base (GK K) 3 (He.fAd K ("Tree", some "prices")) 2 M_Tree_prices) {M_paid : DF} (h_paid : FnD P w K mg base (GK K) 3 (He.fAd K ("paid", none)) 3 M_paid) {M_Tree_after : DF} (h_Tree_after : FnD P w K mg base (GK K) 4 (He.fAd K ("Tree", some "after")) 2 M_Tree_after) {M_Scaled_right : DF} (h_Scaled_right : FnD P w K mg base (GK K) 4 (He.fAd K ("Scaled", some "right")) 4 M_Scaled_right) : FnD P w K mg base (GK K) 5 (He.fAd K ("Tree", some "held")) 3 (runD 9 (f_Tree_held M_times M_less M_over M_Tree_prices M_paid M_Tree_after M_Scaled_right)) := by
  obtain ⟨fd, F0⟩ := c.def_ 17 (d := d_Tree_held) rfl
  have F : FunD K "held" "Tree.held" (defArgs s_Tree_held) (defBody s_Tree_held) (defScope s_Tree_held) [] [] (He.fAd K ("Tree", some "held")) fd := F0
  have b : Binds K fd ["self", "strike", "is_buy"] [] := F.bindsN fun _ _ _ _ _ _ us hl => match us, hl with | [_, _, _], _ => rfl
  exact fnD_of F sc_Tree_held b fun cdv A outer s H E hl hcd hr => (jss_cons (js_if (jt_cmp (jop_eq hr.units) (je_fld (fl_many KX Gn c) (je_var 0)) je_int)
  (jss_one (js_asg (je_lc rfl sc_Tree_held.nd (blkOk_by (own := [("one", 8)]) (N := N_Tree_held) (sc := defScope s_Tree_held) (by decide +kernel)) (ji_seq (je_meth (c := "Tree") h_Tree_prices (takes_of rfl rfl rfl rfl) (hr.mono (by decide)) (cl_Tree KX Gn c) (mt_Tree_prices KX Gn c) (je_var 0) (ja_cons je_int ja_nil))) (fun _ _ _ _ _ => (jgv_name 8 sc_Tree_held.nd (by decide))) (fun _ _ _ _ _ => jts_nil) (fun _ _ _ _ _ => (je_call h_paid takes0 (hr.mono (by decide)) (g_paid KX Gn c) (ja_cons (je_var 8) (ja_cons (je_var 1) (ja_cons (je_var 2) ja_nil)))))) (jg_tup rfl (jgs_cons (jg_name 3 sc_Tree_held.nd) (jgs_cons (jg_name 4 sc_Tree_held.nd) jgs_nil)))))
  (jss_cons (js_set 3 sc_Tree_held.nd (je_meth (c := "Scaled") h_Scaled_right (takes_of rfl rfl rfl rfl) (hr.mono (by decide)) (cl_Scaled KX Gn c) (mt_Scaled_right KX Gn c) (je_meth (c := "Tree") h_Tree_after (takes_of rfl rfl rfl rfl) (hr.mono (by decide)) (cl_Tree KX Gn c) (mt_Tree_after KX Gn c) (je_var 0) (ja_cons je_bl ja_nil)) (ja_cons (je_var 1) (ja_cons (je_var 2) (ja_cons je_bl ja_nil)))))
  (jss_one (js_set 4 sc_Tree_held.nd (je_meth (c := "Scaled") h_Scaled_right (takes_of rfl rfl rfl rfl) (hr.mono (by decide)) (cl_Scaled KX Gn c) (mt_Scaled_right KX Gn c) (je_meth (c := "Tree") h_Tree_after (takes_of rfl rfl rfl rfl) (hr.mono (by decide)) (cl_Tree KX Gn c) (mt_Tree_after KX Gn c) (je_var 0) (ja_cons je_bl ja_nil)) (ja_cons (je_var 1) (ja_cons (je_var 2) (ja_cons je_bl ja_nil))))))))
  (jss_cons (js_asg (je_meth (c := "Tree") h_Tree_prices (takes_of rfl rfl rfl rfl) (hr.mono (by decide)) (cl_Tree KX Gn c) (mt_Tree_prices KX Gn c) (je_var 0) (ja_cons je_int ja_nil)) (jg_tup rfl (jgs_cons (jg_name 5 sc_Tree_held.nd) (jgs_cons (jg_name 6 sc_Tree_held.nd) jgs_nil))))
  (jss_cons (js_set 7 sc_Tree_held.nd (je_call h_over (takes_of rfl rfl rfl rfl) (hr.mono (by decide)) (g_over KX Gn c) (ja_cons (je_call h_less (takes_of rfl rfl rfl rfl) (hr.mono (by decide)) (g_less KX Gn c) (ja_cons (je_var 4) (ja_cons (je_var 3) ja_nil))) (ja_cons (je_call h_less (takes_of rfl rfl rfl rfl) (hr.mono (by decide)) (g_less KX Gn c) (ja_cons (je_var 6) (ja_cons (je_var 5) ja_nil))) ja_nil))))
  (jss_one (js_ret (je_tup (ja_cons (je_var 7) (ja_cons (je_call h_over (takes_of rfl rfl rfl rfl) (hr.mono (by decide)) (g_over KX Gn c) (ja_cons (je_call h_less (takes_of rfl rfl rfl rfl) (hr.mono (by decide)) (g_less KX Gn c) (ja_cons (je_var 3) (ja_cons (je_call h_times (takes_of rfl rfl rfl rfl) (hr.mono (by decide)) (g_times KX Gn c) (ja_cons (je_var 7) (ja_cons (je_var 5) ja_nil))) ja_nil))) (ja_cons (je_fld (fl_growth KX Gn c) (je_var 0)) ja_nil))) ja_nil))))))))
theorem fn_Bond___init__ {M_part : DF} (h_part : FnD P w K mg base (GK K) 1 (He.fAd K ("part", none)) 2 M_part) : FnD P w K mg base (GK K) 2 (He.fAd K ("Bond", some "__init__")) 4 (runD 4 (f_Bond___init__ M_part)) := by
  obtain ⟨fd, F0⟩ := c.def_ 6 (d := d_Bond___init__) rfl
  have F : FunD K "__init__" "Bond.__init__" (defArgs s_Bond___init__) (defBody s_Bond___init__) (defScope s_Bond___init__) [] [] (He.fAd K ("Bond", some "__init__")) fd := F0
  have b : Binds K fd ["self", "face", "much", "many"] [] := F.bindsN fun _ _ _ _ _ _ us hl => match us, hl with | [_, _, _, _], _ => rfl
  exact fnD_of F sc_Bond___init__ b fun cdv A outer s H E hl hcd hr => (jss_cons (js_if (jt_of (jw_or (jt_cmp jop_lt (je_var 1) je_int) (jw_or (jt_cmp jop_lt (je_ix (je_var 2) je_int) je_int) (jw_or (jt_cmp jop_lt (je_ix (je_var 2) je_int) je_int) (jw_or1 (jt_cmp jop_lt (je_var 3) je_int))))))
  (jss_one (js_raise (c := "BadRule") rfl (takes_of rfl rfl rfl rfl) PySem.F.excBase_ValueError (x_BadRule KX Gn c).1 (g_BadRule KX Gn c) (x_BadRule KX Gn c).2.1 (raises_own (x_BadRule KX Gn c).2.2.1 (x_BadRule KX Gn c).2.2.2)))
  jss_nil)
  (jss_cons (js_fld (fl_face KX Gn c) (je_var 0) (je_var 1))
  (jss_cons (js_fld (fl_much KX Gn c) (je_var 0) (je_call h_part (takes_of rfl rfl rfl rfl) (hr.mono (by decide)) (g_part KX Gn c) (ja_cons (je_ix (je_var 2) je_int) (ja_cons (je_ix (je_var 2) je_int) ja_nil))))
  (jss_one (js_fld (fl_many KX Gn c) (je_var 0) (je_var 3))))))
theorem fn__law_least  : FnD P w K mg base (GK K) 1 (He.fAd K ("_law_least", none)) 2 (runD 4 (f__law_least)) := by
  obtain ⟨fd, F0⟩ := c.def_ 29 (d := d__law_least) rfl
  have F : FunD K "_law_least" "_law_least" (defArgs s__law_least) (defBody s__law_least) (defScope s__law_least) [] [] (He.fAd K ("_law_least", none)) fd := F0
  have b : Binds K fd ["top", "bottom"] [] := F.bindsN fun _ _ _ _ _ _ us hl => match us, hl with | [_, _], _ => rfl
  exact fnD_of F sc__law_least b fun cdv A outer s H E hl hcd hr => (jss_cons (js_par2 2 3 rfl sc__law_least.nd (ja_cons (je_blt jb_abs (z_abs KX Gn c) boot_abs (ja_cons (je_var 0) ja_nil)) (ja_cons (je_var 1) ja_nil)))
  (jss_cons (js_while (passes_of rfl) (jt_cmp (jop_ne hr.units) (je_var 3) je_int) (jss_one (js_par2 2 3 rfl sc__law_least.nd (ja_cons (je_var 3) (ja_cons (je_op jop_mod (je_var 2) (je_var 3)) ja_nil)))))
  (jss_cons (js_set 2 sc__law_least.nd (je_blt (jb_max rfl) (z_max KX Gn c) boot_max (ja_cons (je_var 2) (ja_cons je_int ja_nil))))
  (jss_one (js_ret (je_tup (ja_cons (je_op jop_fdiv (je_var 0) (je_var 2)) (ja_cons (je_op jop_fdiv (je_var 1) (je_var 2)) ja_nil))))))))
theorem fn__law_worth {M__law_least : DF} (h__law_least : FnD P w K mg base (GK K) 1 (He.fAd K ("_law_least", none)) 2 M__law_least) : FnD P w K mg base (GK K) 2 (He.fAd K ("_law_worth", none)) 4 (runD 9 (f__law_worth M__law_least)) := by
  obtain ⟨fd, F0⟩ := c.def_ 30 (d := d__law_worth) rfl
  have F : FunD K "_law_worth" "_law_worth" (defArgs s__law_worth) (defBody s__law_worth) (defScope s__law_worth) [] [] (He.fAd K ("_law_worth", none)) fd := F0
  have b : Binds K fd ["face", "hundredths", "many", "rate"] [] := F.bindsN fun _ _ _ _ _ _ us hl => match us, hl with | [_, _, _, _], _ => rfl
  exact fnD_of F sc__law_worth b fun cdv A outer s H E hl hcd hr => (jss_cons (js_asg (je_tup (ja_cons je_int (ja_cons je_int (ja_cons je_int ja_nil)))) (jg_tup rfl (jgs_cons (jg_name 4 sc__law_worth.nd) (jgs_cons (jg_name 5 sc__law_worth.nd) (jgs_cons (jg_name 6 sc__law_worth.nd) jgs_nil)))))
  (jss_cons (js_for (passes_of rfl) rfl (ji_rev1 (z_reversed KX Gn c) (z_range KX Gn c) (je_var 2)) (jg_name 7 sc__law_worth.nd)
  (jss_cons (js_set 8 sc__law_worth.nd (je_op jop_add (je_op jop_mul (je_var 0) (je_var 1)) (je_if (jt_cmp (jop_eq hr.units) (je_var 7) (je_op jop_sub (je_var 2) je_int)) (je_op jop_mul je_int (je_var 0)) je_int)))
  (jss_cons (js_par2 4 5 rfl sc__law_worth.nd (ja_cons (je_op jop_add (je_op jop_mul (je_var 4) je_int) (je_op jop_mul (je_op jop_mul (je_var 8) (je_var 6)) je_int)) (ja_cons (je_op jop_add (je_op jop_mul (je_var 5) je_int) (je_op jop_mul (je_op jop_mul (je_op jop_mul (je_op jop_add (je_var 7) je_int) (je_var 8)) (je_var 6)) je_int)) ja_nil)))
  (jss_one (js_set 6 sc__law_worth.nd (je_op jop_mul (je_var 6) (je_op jop_add je_int (je_var 3))))))))
  (jss_one (js_ret (je_tup (ja_cons (je_call h__law_least (takes_of rfl rfl rfl rfl) (hr.mono (by decide)) (g__law_least KX Gn c) (ja_cons (je_var 4) (ja_cons (je_op jop_mul (je_var 6) je_int) ja_nil))) (ja_cons (je_tup (ja_cons (je_var 5) (ja_cons (je_var 4) ja_nil))) ja_nil)))))))
theorem fn_Bond_pays {M_add : DF} (h_add : FnD P w K mg base (GK K) 2 (He.fAd K ("add", none)) 2 M_add) {M_times : DF} (h_times : FnD P w K mg base (GK K) 2 (He.fAd K ("times", none)) 2 M_times) : FnD P w K mg base (GK K) 3 (He.fAd K ("Bond", some "pays")) 1 (runD 2 (f_Bond_pays M_add M_times)) := by
  obtain ⟨fd, F0⟩ := c.def_ 7 (d := d_Bond_pays) rfl
  have F : FunD K "pays" "Bond.pays" (defArgs s_Bond_pays) (defBody s_Bond_pays) (defScope s_Bond_pays) [] [] (He.fAd K ("Bond", some "pays")) fd := F0
  have b : Binds K fd ["self"] [] := F.bindsN fun _ _ _ _ _ _ us hl => match us, hl with | [_], _ => rfl
  exact fnD_of F sc_Bond_pays b fun cdv A outer s H E hl hcd hr => (jss_cons (js_set 1 sc_Bond_pays.nd (je_call h_times (takes_of rfl rfl rfl rfl) (hr.mono (by decide)) (g_times KX Gn c) (ja_cons (je_tup (ja_cons (je_fld (fl_face KX Gn c) (je_var 0)) (ja_cons je_int ja_nil))) (ja_cons (je_fld (fl_much KX Gn c) (je_var 0)) ja_nil))))
  (jss_one (js_ret (je_op jop_add (je_op jop_mul (je_tup (ja_cons (je_var 1) ja_nil)) (je_op jop_sub (je_fld (fl_many KX Gn c) (je_var 0)) je_int)) (je_tup (ja_cons (je_call h_add (takes_of rfl rfl rfl rfl) (hr.mono (by decide)) (g_add KX Gn c) (ja_cons (je_var 1) (ja_cons (je_tup (ja_cons (je_fld (fl_face KX Gn c) (je_var 0)) (ja_cons je_int ja_nil))) ja_nil))) ja_nil))))))
theorem fn_Bond_worth {M_Bond_pays : DF} (h_Bond_pays : FnD P w K mg base (GK K) 3 (He.fAd K ("Bond", some "pays")) 1 M_Bond_pays) {M_times : DF} (h_times : FnD P w K mg base (GK K) 2 (He.fAd K ("times", none)) 2 M_times) {M_add : DF} (h_add : FnD P w K mg base (GK K) 2 (He.fAd K ("add", none)) 2 M_add) {M_over : DF} (h_over : FnD P w K mg base (GK K) 2 (He.fAd K ("over", none)) 2 M_over) : FnD P w K mg base (GK K) 4 (He.fAd K ("Bond", some "worth")) 2 (runD 6 (f_Bond_worth M_Bond_pays M_times M_add M_over)) := by
  obtain ⟨fd, F0⟩ := c.def_ 8 (d := d_Bond_worth) rfl
  have F : FunD K "worth" "Bond.worth" (defArgs s_Bond_worth) (defBody s_Bond_worth) (defScope s_Bond_worth) [] [] (He.fAd K ("Bond", some "worth")) fd := F0
  have b : Binds K fd ["self", "rate"] [] := F.bindsN fun _ _ _ _ _ _ us hl => match us, hl with | [_, _], _ => rfl
  exact fnD_of F sc_Bond_worth b fun cdv A outer s H E hl hcd hr => (jss_cons (js_par3 2 3 4 rfl sc_Bond_worth.nd (ja_cons (je_tup (ja_cons je_int (ja_cons je_int ja_nil))) (ja_cons (je_tup (ja_cons je_int (ja_cons je_int ja_nil))) (ja_cons (je_call h_add (takes_of rfl rfl rfl rfl) (hr.mono (by decide)) (g_add KX Gn c) (ja_cons (je_tup (ja_cons je_int (ja_cons je_int ja_nil))) (ja_cons (je_var 1) ja_nil))) ja_nil))))
  (jss_cons (js_if (jt_cmp jop_le (je_ix (je_var 4) je_int) je_int)
  (jss_one (js_raise (c := "BadRule") rfl (takes_of rfl rfl rfl rfl) PySem.F.excBase_ValueError (x_BadRule KX Gn c).1 (g_BadRule KX Gn c) (x_BadRule KX Gn c).2.1 (raises_own (x_BadRule KX Gn c).2.2.1 (x_BadRule KX Gn c).2.2.2)))
  jss_nil)
  (jss_cons (js_for (passes_of rfl) rfl (ji_seq (je_meth0 (c := "Bond") h_Bond_pays (takes_of rfl rfl rfl rfl) (hr.mono (by decide)) (cl_Bond KX Gn c) (mt_Bond_pays KX Gn c) (je_var 0))) (jg_name 5 sc_Bond_worth.nd)
  (jss_cons (js_set 3 sc_Bond_worth.nd (je_call h_over (takes_of rfl rfl rfl rfl) (hr.mono (by decide)) (g_over KX Gn c) (ja_cons (je_var 3) (ja_cons (je_var 4) ja_nil))))
  (jss_one (js_set 2 sc_Bond_worth.nd (je_call h_add (takes_of rfl rfl rfl rfl) (hr.mono (by decide)) (g_add KX Gn c) (ja_cons (je_var 2) (ja_cons (je_call h_times (takes_of rfl rfl rfl rfl) (hr.mono (by decide)) (g_times KX Gn c) (ja_cons (je_var 5) (ja_cons (je_var 3) ja_nil))) ja_nil)))))))
  (jss_one (js_ret (je_var 2))))))
theorem fn_Bond_rate {M_part : DF} (h_part : FnD P w K mg base (GK K) 1 (He.fAd K ("part", none)) 2 M_part) {M_Bond_worth : DF} (h_Bond_worth : FnD P w K mg base (GK K) 4 (He.fAd K ("Bond", some "worth")) 2 M_Bond_worth) {M_order : DF} (h_order : FnD P w K mg base (GK K) 1 (He.fAd K ("order", none)) 2 M_order) : FnD P w K mg base (GK K) 5 (He.fAd K ("Bond", some "rate")) 3 (runD 6 (f_Bond_rate M_part M_Bond_worth M_order)) := by
  obtain ⟨fd, F0⟩ := c.def_ 9 (d := d_Bond_rate) rfl
  have F : FunD K "rate" "Bond.rate" (defArgs s_Bond_rate) (defBody s_Bond_rate) (defScope s_Bond_rate) [] [] (He.fAd K ("Bond", some "rate")) fd := F0
  have b : Binds K fd ["self", "price", "fine"] [] := F.bindsN fun _ _ _ _ _ _ us hl => match us, hl with | [_, _, _], _ => rfl
  exact fnD_of F sc_Bond_rate b fun cdv A outer s H E hl hcd hr => (jss_cons (js_if (jt_of (jw_or (jt_cmp jop_lt (je_call h_order (takes_of rfl rfl rfl rfl) (hr.mono (by decide)) (g_order KX Gn c) (ja_cons (je_meth (c := "Bond") h_Bond_worth (takes_of rfl rfl rfl rfl) (hr.mono (by decide)) (cl_Bond KX Gn c) (mt_Bond_worth KX Gn c) (je_var 0) (ja_cons (je_tup (ja_cons je_int (ja_cons je_int ja_nil))) ja_nil)) (ja_cons (je_var 1) ja_nil))) je_int) (jw_or1 (jt_cmp jop_le (je_ix (je_var 1) je_int) je_int))))
  (jss_one (js_raise (c := "NoAnswer") rfl (takes_of rfl rfl rfl rfl) PySem.F.excBase_ValueError (x_NoAnswer KX Gn c).1 (g_NoAnswer KX Gn c) (x_NoAnswer KX Gn c).2.1 (raises_own (x_NoAnswer KX Gn c).2.2.1 (x_NoAnswer KX Gn c).2.2.2)))
  jss_nil)
  (jss_cons (js_par2 3 4 rfl sc_Bond_rate.nd (ja_cons je_int (ja_cons (je_var 2) ja_nil)))
  (jss_cons (js_while (passes_of rfl) (jt_cmp jop_gt (je_call h_order (takes_of rfl rfl rfl rfl) (hr.mono (by decide)) (g_order KX Gn c) (ja_cons (je_meth (c := "Bond") h_Bond_worth (takes_of rfl rfl rfl rfl) (hr.mono (by decide)) (cl_Bond KX Gn c) (mt_Bond_worth KX Gn c) (je_var 0) (ja_cons (je_call h_part (takes_of rfl rfl rfl rfl) (hr.mono (by decide)) (g_part KX Gn c) (ja_cons (je_var 4) (ja_cons (je_var 2) ja_nil))) ja_nil)) (ja_cons (je_var 1) ja_nil))) je_int) (jss_cons (js_aug 4 sc_Bond_rate.nd jip_mul je_int)
  (jss_one (js_if (jt_cmp jop_gt (je_var 4) (je_op jop_mul je_int (je_var 2)))
  (jss_one (js_raise (c := "NoAnswer") rfl (takes_of rfl rfl rfl rfl) PySem.F.excBase_ValueError (x_NoAnswer KX Gn c).1 (g_NoAnswer KX Gn c) (x_NoAnswer KX Gn c).2.1 (raises_own (x_NoAnswer KX Gn c).2.2.1 (x_NoAnswer KX Gn c).2.2.2)))
  jss_nil))))
  (jss_cons (js_while (passes_of rfl) (jt_cmp jop_gt (je_op jop_sub (je_var 4) (je_var 3)) je_int) (jss_cons (js_set 5 sc_Bond_rate.nd (je_op jop_fdiv (je_op jop_add (je_var 3) (je_var 4)) je_int))
  (jss_one (js_if (jt_cmp jop_ge (je_call h_order (takes_of rfl rfl rfl rfl) (hr.mono (by decide)) (g_order KX Gn c) (ja_cons (je_meth (c := "Bond") h_Bond_worth (takes_of rfl rfl rfl rfl) (hr.mono (by decide)) (cl_Bond KX Gn c) (mt_Bond_worth KX Gn c) (je_var 0) (ja_cons (je_call h_part (takes_of rfl rfl rfl rfl) (hr.mono (by decide)) (g_part KX Gn c) (ja_cons (je_var 5) (ja_cons (je_var 2) ja_nil))) ja_nil)) (ja_cons (je_var 1) ja_nil))) je_int)
  (jss_one (js_set 3 sc_Bond_rate.nd (je_var 5)))
  (jss_one (js_set 4 sc_Bond_rate.nd (je_var 5)))))))
  (jss_one (js_ret (je_tup (ja_cons (je_call h_part (takes_of rfl rfl rfl rfl) (hr.mono (by decide)) (g_part KX Gn c) (ja_cons (je_var 3) (ja_cons (je_var 2) ja_nil))) (ja_cons (je_call h_part (takes_of rfl rfl rfl rfl) (hr.mono (by decide)) (g_part KX Gn c) (ja_cons (je_var 4) (ja_cons (je_var 2) ja_nil))) ja_nil)))))))))
theorem fn_Bond_moved {M_Bond_worth : DF} (h_Bond_worth : FnD P w K mg base (GK K) 4 (He.fAd K ("Bond", some "worth")) 2 M_Bond_worth) {M_less : DF} (h_less : FnD P w K mg base (GK K) 2 (He.fAd K ("less", none)) 2 M_less) {M_add : DF} (h_add : FnD P w K mg base (GK K) 2 (He.fAd K ("add", none)) 2 M_add) : FnD P w K mg base (GK K) 5 (He.fAd K ("Bond", some "moved")) 3 (runD 3 (f_Bond_moved M_Bond_worth M_less M_add)) := by
  obtain ⟨fd, F0⟩ := c.def_ 11 (d := d_Bond_moved) rfl
  have F : FunD K "moved" "Bond.moved" (defArgs s_Bond_moved) (defBody s_Bond_moved) (defScope s_Bond_moved) [] [] (He.fAd K ("Bond", some "moved")) fd := F0
  have b : Binds K fd ["self", "rate", "step"] [] := F.bindsN fun _ _ _ _ _ _ us hl => match us, hl with | [_, _, _], _ => rfl
  exact fnD_of F sc_Bond_moved b fun cdv A outer s H E hl hcd hr => (jss_one (js_ret (je_tup (ja_cons (je_meth (c := "Bond") h_Bond_worth (takes_of rfl rfl rfl rfl) (hr.mono (by decide)) (cl_Bond KX Gn c) (mt_Bond_worth KX Gn c) (je_var 0) (ja_cons (je_call h_add (takes_of rfl rfl rfl rfl) (hr.mono (by decide)) (g_add KX Gn c) (ja_cons (je_var 1) (ja_cons (je_var 2) ja_nil))) ja_nil)) (ja_cons (je_meth (c := "Bond") h_Bond_worth (takes_of rfl rfl rfl rfl) (hr.mono (by decide)) (cl_Bond KX Gn c) (mt_Bond_worth KX Gn c) (je_var 0) (ja_cons (je_var 1) ja_nil)) (ja_cons (je_meth (c := "Bond") h_Bond_worth (takes_of rfl rfl rfl rfl) (hr.mono (by decide)) (cl_Bond KX Gn c) (mt_Bond_worth KX Gn c) (je_var 0) (ja_cons (je_call h_less (takes_of rfl rfl rfl rfl) (hr.mono (by decide)) (g_less KX Gn c) (ja_cons (je_var 1) (ja_cons (je_var 2) ja_nil))) ja_nil)) ja_nil))))))
theorem fn_Bond_mean_time {M_Bond_worth : DF} (h_Bond_worth : FnD P w K mg base (GK K) 4 (He.fAd K ("Bond", some "worth")) 2 M_Bond_worth) {M_over : DF} (h_over : FnD P w K mg base (GK K) 2 (He.fAd K ("over", none)) 2 M_over) {M_Bond_pays : DF} (h_Bond_pays : FnD P w K mg base (GK K) 3 (He.fAd K ("Bond", some "pays")) 1 M_Bond_pays) {M_times : DF} (h_times : FnD P w K mg base (GK K) 2 (He.fAd K ("times", none)) 2 M_times) {M_add : DF} (h_add : FnD P w K mg base (GK K) 2 (He.fAd K ("add", none)) 2 M_add) : FnD P w K mg base (GK K) 5 (He.fAd K ("Bond", some "mean_time")) 2 (runD 7 (f_Bond_mean_time M_Bond_worth M_over M_Bond_pays M_times M_add)) := by
  obtain ⟨fd, F0⟩ := c.def_ 10 (d := d_Bond_mean_time) rfl
  have F : FunD K "mean_time" "Bond.mean_time" (defArgs s_Bond_mean_time) (defBody s_Bond_mean_time) (defScope s_Bond_mean_time) [] [] (He.fAd K ("Bond", some "mean_time")) fd := F0
  have b : Binds K fd ["self", "rate"] [] := F.bindsN fun _ _ _ _ _ _ us hl => match us, hl with | [_, _], _ => rfl
  exact fnD_of F sc_Bond_mean_time b fun cdv A outer s H E hl hcd hr => (jss_cons (js_par3 2 3 4 rfl sc_Bond_mean_time.nd (ja_cons (je_tup (ja_cons je_int (ja_cons je_int ja_nil))) (ja_cons (je_tup (ja_cons je_int (ja_cons je_int ja_nil))) (ja_cons (je_call h_add (takes_of rfl rfl rfl rfl) (hr.mono (by decide)) (g_add KX Gn c) (ja_cons (je_tup (ja_cons je_int (ja_cons je_int ja_nil))) (ja_cons (je_var 1) ja_nil))) ja_nil))))
  (jss_cons (js_for (passes_of rfl) rfl (ji_enum (z_enumerate KX Gn c) (je_meth0 (c := "Bond") h_Bond_pays (takes_of rfl rfl rfl rfl) (hr.mono (by decide)) (cl_Bond KX Gn c) (mt_Bond_pays KX Gn c) (je_var 0))) (jg_tup rfl (jgs_cons (jg_name 5 sc_Bond_mean_time.nd) (jgs_cons (jg_name 6 sc_Bond_mean_time.nd) jgs_nil)))
  (jss_cons (js_set 3 sc_Bond_mean_time.nd (je_call h_over (takes_of rfl rfl rfl rfl) (hr.mono (by decide)) (g_over KX Gn c) (ja_cons (je_var 3) (ja_cons (je_var 4) ja_nil))))
  (jss_one (js_set 2 sc_Bond_mean_time.nd (je_call h_add (takes_of rfl rfl rfl rfl) (hr.mono (by decide)) (g_add KX Gn c) (ja_cons (je_var 2) (ja_cons (je_call h_times (takes_of rfl rfl rfl rfl) (hr.mono (by decide)) (g_times KX Gn c) (ja_cons (je_tup (ja_cons (je_op jop_add (je_var 5) je_int) (ja_cons je_int ja_nil))) (ja_cons (je_call h_times (takes_of rfl rfl rfl rfl) (hr.mono (by decide)) (g_times KX Gn c) (ja_cons (je_var 6) (ja_cons (je_var 3) ja_nil))) ja_nil))) ja_nil)))))))
  (jss_one (js_ret (je_call h_over (takes_of rfl rfl rfl rfl) (hr.mono (by decide)) (g_over KX Gn c) (ja_cons (je_var 2) (ja_cons (je_meth (c := "Bond") h_Bond_worth (takes_of rfl rfl rfl rfl) (hr.mono (by decide)) (cl_Bond KX Gn c) (mt_Bond_worth KX Gn c) (je_var 0) (ja_cons (je_var 1) ja_nil)) ja_nil)))))))
theorem fn_met_by_two {M_Bond_worth : DF} (h_Bond_worth : FnD P w K mg base (GK K) 4 (He.fAd K ("Bond", some "worth")) 2 M_Bond_worth) {M_less : DF} (h_less : FnD P w K mg base (GK K) 2 (He.fAd K ("less", none)) 2 M_less) {M_times : DF} (h_times : FnD P w K mg base (GK K) 2 (He.fAd K ("times", none)) 2 M_times) {M_over : DF} (h_over : FnD P w K mg base (GK K) 2 (He.fAd K ("over", none)) 2 M_over) {M_add : DF} (h_add : FnD P w K mg base (GK K) 2 (He.fAd K ("add", none)) 2 M_add) {M_Bond_mean_time : DF} (h_Bond_mean_time : FnD P w K mg base (GK K) 5 (He.fAd K ("Bond", some "mean_time")) 2 M_Bond_mean_time) : FnD P w K mg base (GK K) 6 (He.fAd K ("met_by_two", none)) 4 (runD 12 (f_met_by_two M_Bond_worth M_less M_times M_over M_add M_Bond_mean_time)) := by
  obtain ⟨fd, F0⟩ := c.def_ 12 (d := d_met_by_two) rfl
  have F : FunD K "met_by_two" "met_by_two" (defArgs s_met_by_two) (defBody s_met_by_two) (defScope s_met_by_two) [] [] (He.fAd K ("met_by_two", none)) fd := F0
  have b : Binds K fd ["goal", "time", "bonds", "rate"] [] := F.bindsN fun _ _ _ _ _ _ us hl => match us, hl with | [_, _, _, _], _ => rfl
  exact fnD_of F sc_met_by_two b fun cdv A outer s H E hl hcd hr => (jss_cons (js_par2 4 5 rfl sc_met_by_two.nd (ja_cons (je_meth (c := "Bond") h_Bond_mean_time (takes_of rfl rfl rfl rfl) (hr.mono (by decide)) (cl_Bond KX Gn c) (mt_Bond_mean_time KX Gn c) (je_ix (je_var 2) je_int) (ja_cons (je_var 3) ja_nil)) (ja_cons (je_meth (c := "Bond") h_Bond_mean_time (takes_of rfl rfl rfl rfl) (hr.mono (by decide)) (cl_Bond KX Gn c) (mt_Bond_mean_time KX Gn c) (je_ix (je_var 2) je_int) (ja_cons (je_var 3) ja_nil)) ja_nil)))
  (jss_cons (js_if (jt_cmp (jop_eq hr.units) (je_var 4) (je_var 5))
  (jss_one (js_raise (c := "NoAnswer") rfl (takes_of rfl rfl rfl rfl) PySem.F.excBase_ValueError (x_NoAnswer KX Gn c).1 (g_NoAnswer KX Gn c) (x_NoAnswer KX Gn c).2.1 (raises_own (x_NoAnswer KX Gn c).2.2.1 (x_NoAnswer KX Gn c).2.2.2)))
  jss_nil)
  (jss_cons (js_set 6 sc_met_by_two.nd (je_call h_over (takes_of rfl rfl rfl rfl) (hr.mono (by decide)) (g_over KX Gn c) (ja_cons (je_call h_less (takes_of rfl rfl rfl rfl) (hr.mono (by decide)) (g_less KX Gn c) (ja_cons (je_tup (ja_cons (je_var 1) (ja_cons je_int ja_nil))) (ja_cons (je_var 5) ja_nil))) (ja_cons (je_call h_less (takes_of rfl rfl rfl rfl) (hr.mono (by decide)) (g_less KX Gn c) (ja_cons (je_var 4) (ja_cons (je_var 5) ja_nil))) ja_nil))))
  (jss_cons (js_par2 7 8 rfl sc_met_by_two.nd (ja_cons (je_tup (ja_cons (je_var 0) (ja_cons je_int ja_nil))) (ja_cons (je_call h_add (takes_of rfl rfl rfl rfl) (hr.mono (by decide)) (g_add KX Gn c) (ja_cons (je_tup (ja_cons je_int (ja_cons je_int ja_nil))) (ja_cons (je_var 3) ja_nil))) ja_nil)))
  (jss_cons (js_for (passes_of rfl) rfl (ji_range1 (z_range KX Gn c) (je_var 1)) (jg_name 9 sc_met_by_two.nd)
  (jss_one (js_set 7 sc_met_by_two.nd (je_call h_over (takes_of rfl rfl rfl rfl) (hr.mono (by decide)) (g_over KX Gn c) (ja_cons (je_var 7) (ja_cons (je_var 8) ja_nil))))))
  (jss_cons (js_set 10 sc_met_by_two.nd (je_call h_over (takes_of rfl rfl rfl rfl) (hr.mono (by decide)) (g_over KX Gn c) (ja_cons (je_call h_times (takes_of rfl rfl rfl rfl) (hr.mono (by decide)) (g_times KX Gn c) (ja_cons (je_var 7) (ja_cons (je_var 6) ja_nil))) (ja_cons (je_meth (c := "Bond") h_Bond_worth (takes_of rfl rfl rfl rfl) (hr.mono (by decide)) (cl_Bond KX Gn c) (mt_Bond_worth KX Gn c) (je_ix (je_var 2) je_int) (ja_cons (je_var 3) ja_nil)) ja_nil))))
  (jss_cons (js_set 11 sc_met_by_two.nd (je_call h_over (takes_of rfl rfl rfl rfl) (hr.mono (by decide)) (g_over KX Gn c) (ja_cons (je_call h_times (takes_of rfl rfl rfl rfl) (hr.mono (by decide)) (g_times KX Gn c) (ja_cons (je_var 7) (ja_cons (je_call h_less (takes_of rfl rfl rfl rfl) (hr.mono (by decide)) (g_less KX Gn c) (ja_cons (je_tup (ja_cons je_int (ja_cons je_int ja_nil))) (ja_cons (je_var 6) ja_nil))) ja_nil))) (ja_cons (je_meth (c := "Bond") h_Bond_worth (takes_of rfl rfl rfl rfl) (hr.mono (by decide)) (cl_Bond KX Gn c) (mt_Bond_worth KX Gn c) (je_ix (je_var 2) je_int) (ja_cons (je_var 3) ja_nil)) ja_nil))))
  (jss_one (js_ret (je_tup (ja_cons (je_var 10) (ja_cons (je_var 11) ja_nil))))))))))))
theorem fn__law_roll  : FnD P w K mg base (GK K) 1 (He.fAd K ("_law_roll", none)) 2 (runD 3 (f__law_roll)) := by
  obtain ⟨fd, F0⟩ := c.def_ 26 (d := d__law_roll) rfl
  have F : FunD K "_law_roll" "_law_roll" (defArgs s__law_roll) (defBody s__law_roll) (defScope s__law_roll) [] [] (He.fAd K ("_law_roll", none)) fd := F0
  have b : Binds K fd ["dice", "many"] [] := F.bindsN fun _ _ _ _ _ _ us hl => match us, hl with | [_, _], _ => rfl
  exact fnD_of F sc__law_roll b fun cdv A outer s H E hl hcd hr => (jss_cons (js_if (jt_of (jw_or (jt_cmp (jop_eq hr.units) (je_ix (je_var 0) je_int) je_int) (jw_or1 (jt_of (jw_and (jt_cmp (jop_eq hr.units) (je_ix (je_var 0) je_int) je_int) (jw_and1 (jt_cmp jop_gt (je_ix (je_var 0) je_int) je_int)))))))
  (jss_cons (js_set 2 sc__law_roll.nd (je_op jop_mod (je_bty jb_int (z_int KX Gn c) boot_int (ja_cons (je_ix (je_var 0) je_int) ja_nil)) (je_var 1)))
  (jss_cons (js_asg (je_op jop_fdiv (je_ix (je_var 0) je_int) (je_var 1)) (jg_ix (je_var 0) je_int))
  (jss_one (js_ret (je_var 2)))))
  jss_nil)
  (jss_cons (js_asg je_int (jg_ix (je_var 0) je_int))
  (jss_cons (js_asg (je_op jop_mod (je_bty jb_int (z_int KX Gn c) boot_int (ja_cons (je_op jop_add (je_op jop_add (je_op jop_mul (je_ix (je_var 0) je_int) je_int) (je_op jop_mul (je_ix (je_var 0) je_int) je_int)) je_int) ja_nil)) je_int) (jg_ix (je_var 0) je_int))
  (jss_cons (js_asg (je_op jop_add (je_ix (je_var 0) je_int) je_int) (jg_ix (je_var 0) je_int))
  (jss_one (js_ret (je_op jop_mod (je_bty jb_int (z_int KX Gn c) boot_int (ja_cons (je_op jop_add (je_op jop_fdiv (je_ix (je_var 0) je_int) je_int) (je_ix (je_var 0) je_int)) ja_nil)) (je_var 1))))))))
theorem fn__law_bonds {M_Bond___init__ : DF} (h_Bond___init__ : FnD P w K mg base (GK K) 2 (He.fAd K ("Bond", some "__init__")) 4 M_Bond___init__) {M_Bond_rate : DF} (h_Bond_rate : FnD P w K mg base (GK K) 5 (He.fAd K ("Bond", some "rate")) 3 M_Bond_rate) {M_met_by_two : DF} (h_met_by_two : FnD P w K mg base (GK K) 6 (He.fAd K ("met_by_two", none)) 4 M_met_by_two) {M_times : DF} (h_times : FnD P w K mg base (GK K) 2 (He.fAd K ("times", none)) 2 M_times) {M_add : DF} (h_add : FnD P w K mg base (GK K) 2 (He.fAd K ("add", none)) 2 M_add) {M_over : DF} (h_over : FnD P w K mg base (GK K) 2 (He.fAd K ("over", none)) 2 M_over) {M_Bond_worth : DF} (h_Bond_worth : FnD P w K mg base (GK K) 4 (He.fAd K ("Bond", some "worth")) 2 M_Bond_worth) {M_part : DF} (h_part : FnD P w K mg base (GK K) 1 (He.fAd K ("part", none)) 2 M_part) {M_order : DF} (h_order : FnD P w K mg base (GK K) 1 (He.fAd K ("order", none)) 2 M_order) {M_Bond_moved : DF} (h_Bond_moved : FnD P w K mg base (GK K) 5 (He.fAd K ("Bond", some "moved")) 3 M_Bond_moved) {M_less : DF} (h_less : FnD P w K mg base (GK K) 2 (He.fAd K ("less", none)) 2 M_less) {M__law_roll : DF} (h__law_roll : FnD P w K mg base (GK K) 1 (He.fAd K ("_law_roll", none)) 2 M__law_roll) {M_Bond_mean_time : DF} (h_Bond_mean_time : FnD P w K mg base (GK K) 5 (He.fAd K ("Bond", some "mean_time")) 2 M_Bond_mean_time) {M__law_least : DF} (h__law_least : FnD P w K mg base (GK K) 1 (He.fAd K ("_law_least", none)) 2 M__law_least) {M_Bond_pays : DF} (h_Bond_pays : FnD P w K mg base (GK K) 3 (He.fAd K ("Bond", some "pays")) 1 M_Bond_pays) {M__law_worth : DF} (h__law_worth : FnD P w K mg base (GK K) 2 (He.fAd K ("_law_worth", none)) 4 M__law_worth) (tb : ∀ p ∈ tf, LamX.TabB base mg (He.cT K p).1 (He.cT K p).2) (nd2 : (tf.map fun p => (He.cT K p).2).Nodup) : FnD P w K mg base (GK K) 9 (He.fAd K ("_law_bonds", none)) 1 (runD 23 (f__law_bonds M_Bond___init__ M_Bond_rate M_met_by_two M_times M_add M_over M_Bond_worth M_part M_order M_Bond_moved M_less M__law_roll M_Bond_mean_time M__law_least M_Bond_pays M__law_worth)) := by
  obtain ⟨fd, F0⟩ := c.def_ 32 (d := d__law_bonds) rfl
  have F : FunD K "_law_bonds" "_law_bonds" (defArgs s__law_bonds) (defBody s__law_bonds) (defScope s__law_bonds) [] [] (He.fAd K ("_law_bonds", none)) fd := F0
  have b : Binds K fd ["dice"] [] := F.bindsN fun _ _ _ _ _ _ us hl => match us, hl with | [_], _ => rfl
  obtain ⟨fdT, FT0⟩ := c.def_ 28 (d := d__law_told) rfl
  have FT : FunD K "_law_told" "_law_told" (defArgs s__law_told) (defBody s__law_told) (defScope s__law_told) [] [] (He.fAd K ("_law_told", none)) fdT := FT0
  have bT : Binds K fdT ["what"] [] := FT.bindsN fun _ _ _ _ _ _ us hl => match us, hl with | [_], _ => rfl
  have kT := FT.kp
  obtain ⟨ocT, odT, dVT, kVT, docT, pmT, anT, cdT, ctT, oslT, rfl, lkT, hcT, _, _⟩ := FT.ex
  have hu : ∀ p ∈ (GK K).T, p.1 = (He.cT K ("_law_bonds", none)).2 → p.2 = (("_law_bonds" : Str) ++ (".<locals>." : Str)) ++ ("<lambda>" : Str) := by
    have n2 := nd2
    simp only [tf, List.map_cons, List.map_nil, List.nodup_cons, List.mem_cons, List.not_mem_nil, or_false, not_or] at n2
    intro p hp e
    simp only [GK, List.mem_cons, List.not_mem_nil, or_false] at hp
    rcases hp with rfl | rfl
    · rfl
    · exfalso; simp_all
  refine fnD_of F sc__law_bonds b fun cdv A outer s H E hl hcd hr => ?_
  have ec := code_is (p := ("_law_bonds", none)) hl hcd
  subst ec
  exact (jss_cons (js_asg (je_tup (ja_cons (je_op jop_mul je_int (je_op jop_add je_int (je_call h__law_roll (takes_of rfl rfl rfl rfl) (hr.mono (by decide)) (g__law_roll KX Gn c) (ja_cons (je_var 0) (ja_cons je_int ja_nil))))) (ja_cons (je_call h__law_roll (takes_of rfl rfl rfl rfl) (hr.mono (by decide)) (g__law_roll KX Gn c) (ja_cons (je_var 0) (ja_cons je_int ja_nil))) (ja_cons (je_op jop_add je_int (je_call h__law_roll (takes_of rfl rfl rfl rfl) (hr.mono (by decide)) (g__law_roll KX Gn c) (ja_cons (je_var 0) (ja_cons je_int ja_nil)))) (ja_cons (je_op jop_add je_int (je_call h__law_roll (takes_of rfl rfl rfl rfl) (hr.mono (by decide)) (g__law_roll KX Gn c) (ja_cons (je_var 0) (ja_cons je_int ja_nil)))) ja_nil))))) (jg_tup rfl (jgs_cons (jg_name 1 sc__law_bonds.nd) (jgs_cons (jg_name 2 sc__law_bonds.nd) (jgs_cons (jg_name 3 sc__law_bonds.nd) (jgs_cons (jg_name 4 sc__law_bonds.nd) jgs_nil))))))
  (jss_cons (js_set 5 sc__law_bonds.nd (je_make (c := "Bond") h_Bond___init__ (mk_Bond KX Gn c) (takes_of rfl rfl rfl rfl) (hr.mono (by decide)) (g_Bond KX Gn c) (ja_cons (je_var 1) (ja_cons (je_call h_part (takes_of rfl rfl rfl rfl) (hr.mono (by decide)) (g_part KX Gn c) (ja_cons (je_var 2) (ja_cons je_int ja_nil))) (ja_cons (je_var 3) ja_nil)))))
  (jss_cons (js_asg (je_call h__law_worth (takes_of rfl rfl rfl rfl) (hr.mono (by decide)) (g__law_worth KX Gn c) (ja_cons (je_var 1) (ja_cons (je_var 2) (ja_cons (je_var 3) (ja_cons (je_var 4) ja_nil))))) (jg_tup rfl (jgs_cons (jg_name 6 sc__law_bonds.nd) (jgs_cons (jg_name 7 sc__law_bonds.nd) jgs_nil))))
  (jss_cons (js_if (jt_of (jw_or (jt_cmp (jop_ne hr.units) (je_meth (c := "Bond") h_Bond_worth (takes_of rfl rfl rfl rfl) (hr.mono (by decide)) (cl_Bond KX Gn c) (mt_Bond_worth KX Gn c) (je_var 5) (ja_cons (je_call h_part (takes_of rfl rfl rfl rfl) (hr.mono (by decide)) (g_part KX Gn c) (ja_cons (je_var 4) (ja_cons je_int ja_nil))) ja_nil)) (je_var 6)) (jw_or1 (jt_cmp (jop_ne hr.units) (je_blt jb_len (z_len KX Gn c) boot_len (ja_cons (je_meth0 (c := "Bond") h_Bond_pays (takes_of rfl rfl rfl rfl) (hr.mono (by decide)) (cl_Bond KX Gn c) (mt_Bond_pays KX Gn c) (je_var 5)) ja_nil)) (je_var 3)))))
  (jss_one (js_ret je_bl))
  jss_nil)
  (jss_cons (js_if (jt_cmp (jop_ne hr.units) (je_meth (c := "Bond") h_Bond_mean_time (takes_of rfl rfl rfl rfl) (hr.mono (by decide)) (cl_Bond KX Gn c) (mt_Bond_mean_time KX Gn c) (je_var 5) (ja_cons (je_call h_part (takes_of rfl rfl rfl rfl) (hr.mono (by decide)) (g_part KX Gn c) (ja_cons (je_var 4) (ja_cons je_int ja_nil))) ja_nil)) (je_call h__law_least (takes_of rfl rfl rfl rfl) (hr.mono (by decide)) (g__law_least KX Gn c) (ja_cons (je_ix (je_var 7) je_int) (ja_cons (je_ix (je_var 7) je_int) ja_nil))))
  (jss_one (js_ret je_bl))
  jss_nil)
  (jss_cons (js_set 8 sc__law_bonds.nd (je_tup (ja_cons (je_op jop_sub (je_var 1) (je_call h__law_roll (takes_of rfl rfl rfl rfl) (hr.mono (by decide)) (g__law_roll KX Gn c) (ja_cons (je_var 0) (ja_cons (je_op jop_fdiv (je_var 1) je_int) ja_nil)))) (ja_cons je_int ja_nil))))
  (jss_cons (js_asg (je_meth (c := "Bond") h_Bond_rate (takes_of rfl rfl rfl rfl) (hr.mono (by decide)) (cl_Bond KX Gn c) (mt_Bond_rate KX Gn c) (je_var 5) (ja_cons (je_var 8) (ja_cons je_int ja_nil))) (jg_tup rfl (jgs_cons (jg_name 9 sc__law_bonds.nd) (jgs_cons (jg_name 10 sc__law_bonds.nd) jgs_nil))))
  (jss_cons (js_if (jt_of (jw_or (jt_cmp jop_lt (je_call h_order (takes_of rfl rfl rfl rfl) (hr.mono (by decide)) (g_order KX Gn c) (ja_cons (je_meth (c := "Bond") h_Bond_worth (takes_of rfl rfl rfl rfl) (hr.mono (by decide)) (cl_Bond KX Gn c) (mt_Bond_worth KX Gn c) (je_var 5) (ja_cons (je_var 9) ja_nil)) (ja_cons (je_var 8) ja_nil))) je_int) (jw_or (jt_cmp jop_gt (je_call h_order (takes_of rfl rfl rfl rfl) (hr.mono (by decide)) (g_order KX Gn c) (ja_cons (je_meth (c := "Bond") h_Bond_worth (takes_of rfl rfl rfl rfl) (hr.mono (by decide)) (cl_Bond KX Gn c) (mt_Bond_worth KX Gn c) (je_var 5) (ja_cons (je_var 10) ja_nil)) (ja_cons (je_var 8) ja_nil))) je_int) (jw_or1 (jt_cmp (jop_ne hr.units) (je_call h_less (takes_of rfl rfl rfl rfl) (hr.mono (by decide)) (g_less KX Gn c) (ja_cons (je_var 10) (ja_cons (je_var 9) ja_nil))) (je_tup (ja_cons je_int (ja_cons je_int ja_nil))))))))
  (jss_one (js_ret je_bl))
  jss_nil)
  (jss_cons (js_asg (je_meth (c := "Bond") h_Bond_moved (takes_of rfl rfl rfl rfl) (hr.mono (by decide)) (cl_Bond KX Gn c) (mt_Bond_moved KX Gn c) (je_var 5) (ja_cons (je_call h_part (takes_of rfl rfl rfl rfl) (hr.mono (by decide)) (g_part KX Gn c) (ja_cons (je_var 4) (ja_cons je_int ja_nil))) (ja_cons (je_tup (ja_cons je_int (ja_cons je_int ja_nil))) ja_nil))) (jg_tup rfl (jgs_cons (jg_name 11 sc__law_bonds.nd) (jgs_cons (jg_name 12 sc__law_bonds.nd) (jgs_cons (jg_name 13 sc__law_bonds.nd) jgs_nil)))))
  (jss_cons (js_if (jt_of (jw_or (jt_cmp jop_le (je_call h_order (takes_of rfl rfl rfl rfl) (hr.mono (by decide)) (g_order KX Gn c) (ja_cons (je_call h_add (takes_of rfl rfl rfl rfl) (hr.mono (by decide)) (g_add KX Gn c) (ja_cons (je_var 11) (ja_cons (je_var 13) ja_nil))) (ja_cons (je_call h_times (takes_of rfl rfl rfl rfl) (hr.mono (by decide)) (g_times KX Gn c) (ja_cons (je_var 12) (ja_cons (je_tup (ja_cons je_int (ja_cons je_int ja_nil))) ja_nil))) ja_nil))) je_int) (jw_or1 (jt_cmp jop_ge (je_call h_order (takes_of rfl rfl rfl rfl) (hr.mono (by decide)) (g_order KX Gn c) (ja_cons (je_var 11) (ja_cons (je_var 13) ja_nil))) je_int))))
  (jss_one (js_ret je_bl))
  jss_nil)
  (jss_cons (js_asg (je_tup (ja_cons (je_make (c := "Bond") h_Bond___init__ (mk_Bond KX Gn c) (takes_of rfl rfl rfl rfl) (hr.mono (by decide)) (g_Bond KX Gn c) (ja_cons je_int (ja_cons (je_tup (ja_cons je_int (ja_cons je_int ja_nil))) (ja_cons je_int ja_nil)))) (ja_cons (je_make (c := "Bond") h_Bond___init__ (mk_Bond KX Gn c) (takes_of rfl rfl rfl rfl) (hr.mono (by decide)) (g_Bond KX Gn c) (ja_cons je_int (ja_cons (je_tup (ja_cons je_int (ja_cons je_int ja_nil))) (ja_cons je_int ja_nil)))) (ja_cons (je_call h_part (takes_of rfl rfl rfl rfl) (hr.mono (by decide)) (g_part KX Gn c) (ja_cons (je_var 4) (ja_cons je_int ja_nil))) ja_nil)))) (jg_tup rfl (jgs_cons (jg_name 14 sc__law_bonds.nd) (jgs_cons (jg_name 15 sc__law_bonds.nd) (jgs_cons (jg_name 16 sc__law_bonds.nd) jgs_nil)))))
  (jss_cons (js_asg (je_call h_met_by_two (takes_of rfl rfl rfl rfl) (hr.mono (by decide)) (g_met_by_two KX Gn c) (ja_cons je_int (ja_cons je_int (ja_cons (je_tup (ja_cons (je_var 14) (ja_cons (je_var 15) ja_nil))) (ja_cons (je_var 16) ja_nil))))) (jg_tup rfl (jgs_cons (jg_name 17 sc__law_bonds.nd) (jgs_cons (jg_name 18 sc__law_bonds.nd) jgs_nil))))
  (jss_cons (js_par2 19 20 rfl sc__law_bonds.nd (ja_cons (je_call h_times (takes_of rfl rfl rfl rfl) (hr.mono (by decide)) (g_times KX Gn c) (ja_cons (je_var 17) (ja_cons (je_meth (c := "Bond") h_Bond_worth (takes_of rfl rfl rfl rfl) (hr.mono (by decide)) (cl_Bond KX Gn c) (mt_Bond_worth KX Gn c) (je_var 14) (ja_cons (je_var 16) ja_nil)) ja_nil))) (ja_cons (je_call h_times (takes_of rfl rfl rfl rfl) (hr.mono (by decide)) (g_times KX Gn c) (ja_cons (je_var 18) (ja_cons (je_meth (c := "Bond") h_Bond_worth (takes_of rfl rfl rfl rfl) (hr.mono (by decide)) (cl_Bond KX Gn c) (mt_Bond_worth KX Gn c) (je_var 15) (ja_cons (je_var 16) ja_nil)) ja_nil))) ja_nil)))
  (jss_cons (js_set 21 sc__law_bonds.nd (je_tup (ja_cons je_int (ja_cons je_int ja_nil))))
  (jss_cons (js_for (passes_of rfl) rfl (ji_range1 (z_range KX Gn c) je_int) (jg_name 22 sc__law_bonds.nd)
  (jss_one (js_set 21 sc__law_bonds.nd (je_call h_over (takes_of rfl rfl rfl rfl) (hr.mono (by decide)) (g_over KX Gn c) (ja_cons (je_var 21) (ja_cons (je_call h_add (takes_of rfl rfl rfl rfl) (hr.mono (by decide)) (g_add KX Gn c) (ja_cons (je_tup (ja_cons je_int (ja_cons je_int ja_nil))) (ja_cons (je_var 16) ja_nil))) ja_nil))))))
  (jss_cons (js_if (jt_of (jw_or (jt_cmp (jop_ne hr.units) (je_call h_add (takes_of rfl rfl rfl rfl) (hr.mono (by decide)) (g_add KX Gn c) (ja_cons (je_var 19) (ja_cons (je_var 20) ja_nil))) (je_var 21)) (jw_or1 (jt_cmp (jop_ne hr.units) (je_call h_add (takes_of rfl rfl rfl rfl) (hr.mono (by decide)) (g_add KX Gn c) (ja_cons (je_var 19) (ja_cons (je_call h_times (takes_of rfl rfl rfl rfl) (hr.mono (by decide)) (g_times KX Gn c) (ja_cons (je_var 20) (ja_cons (je_tup (ja_cons je_int (ja_cons je_int ja_nil))) ja_nil))) ja_nil))) (je_call h_times (takes_of rfl rfl rfl rfl) (hr.mono (by decide)) (g_times KX Gn c) (ja_cons (je_var 21) (ja_cons (je_tup (ja_cons je_int (ja_cons je_int ja_nil))) ja_nil)))))))
  (jss_one (js_ret je_bl))
  jss_nil)
  (jss_cons (js_if (jt_cmp (jop_ne hr.units) (je_told (k := 6) (rs := raisable) (cs := tellers) (g__law_told KX Gn c) kT lkT hcT bT sc__law_told rfl (Or.inl rfl) (fun _ => rfl) (.cons rfl (g_BadMoney KX Gn c) (by decide) (.cons rfl (g_BadDay KX Gn c) (by decide) (.cons rfl (g_BadRule KX Gn c) (by decide) (.cons rfl (g_Unbalanced KX Gn c) (by decide) (.cons rfl (g_Shut KX Gn c) (by decide) (.cons rfl (g_Short KX Gn c) (by decide) (.cons rfl (g_BadText KX Gn c) (by decide) (.cons rfl (g_NoAnswer KX Gn c) (by decide) (.nil))))))))) (exall KX Gn c) (tb ("_law_bonds", none) (List.Mem.head _)) rfl (List.Mem.head _) hu (hr.mono (by decide)) (LamX.lamS_by (sc := defScope s__law_bonds) (by decide +kernel)) rfl (fun _ _ _ _ _ => rfl) (fun A2 outer2 s2 H2 E2 f2 c2 hr2 => (je_call h_met_by_two lam_takes (hr2.mono (by decide)) (g_met_by_two KX Gn c) (ja_cons je_int (ja_cons je_int (ja_cons (je_tup (ja_cons (je_var 14) (ja_cons (je_var 14) ja_nil))) (ja_cons (je_var 16) ja_nil))))))) je_str)
  (jss_one (js_ret je_bl))
  jss_nil)
  (jss_cons (js_if (jt_cmp (jop_ne hr.units) (je_told (k := 5) (rs := raisable) (cs := tellers) (g__law_told KX Gn c) kT lkT hcT bT sc__law_told rfl (Or.inl rfl) (fun _ => rfl) (.cons rfl (g_BadMoney KX Gn c) (by decide) (.cons rfl (g_BadDay KX Gn c) (by decide) (.cons rfl (g_BadRule KX Gn c) (by decide) (.cons rfl (g_Unbalanced KX Gn c) (by decide) (.cons rfl (g_Shut KX Gn c) (by decide) (.cons rfl (g_Short KX Gn c) (by decide) (.cons rfl (g_BadText KX Gn c) (by decide) (.cons rfl (g_NoAnswer KX Gn c) (by decide) (.nil))))))))) (exall KX Gn c) (tb ("_law_bonds", none) (List.Mem.head _)) rfl (List.Mem.head _) hu (hr.mono (by decide)) (LamX.lamS_by (sc := defScope s__law_bonds) (by decide +kernel)) rfl (fun _ _ _ _ _ => rfl) (fun A2 outer2 s2 H2 E2 f2 c2 hr2 => (je_meth (c := "Bond") h_Bond_rate lam_takes (hr2.mono (by decide)) (cl_Bond KX Gn c) (mt_Bond_rate KX Gn c) (je_var 5) (ja_cons (je_tup (ja_cons (je_op jop_mul (je_var 1) je_int) (ja_cons je_int ja_nil))) (ja_cons je_int ja_nil))))) je_str)
  (jss_one (js_ret je_bl))
  jss_nil)
  (jss_one (js_ret (je_cmp (jop_eq hr.units) (je_told (k := 3) (rs := raisable) (cs := tellers) (g__law_told KX Gn c) kT lkT hcT bT sc__law_told rfl (Or.inl rfl) (fun _ => rfl) (.cons rfl (g_BadMoney KX Gn c) (by decide) (.cons rfl (g_BadDay KX Gn c) (by decide) (.cons rfl (g_BadRule KX Gn c) (by decide) (.cons rfl (g_Unbalanced KX Gn c) (by decide) (.cons rfl (g_Shut KX Gn c) (by decide) (.cons rfl (g_Short KX Gn c) (by decide) (.cons rfl (g_BadText KX Gn c) (by decide) (.cons rfl (g_NoAnswer KX Gn c) (by decide) (.nil))))))))) (exall KX Gn c) (tb ("_law_bonds", none) (List.Mem.head _)) rfl (List.Mem.head _) hu (hr.mono (by decide)) (LamX.lamS_by (sc := defScope s__law_bonds) (by decide +kernel)) rfl (fun _ _ _ _ _ => rfl) (fun A2 outer2 s2 H2 E2 f2 c2 hr2 => (je_make (c := "Bond") h_Bond___init__ (mk_Bond KX Gn c) lam_takes (hr2.mono (by decide)) (g_Bond KX Gn c) (ja_cons je_int (ja_cons (je_tup (ja_cons je_int (ja_cons je_int ja_nil))) (ja_cons je_int ja_nil)))))) je_str)))))))))))))))))))))
theorem fn_Tree_right {M_Tree_prices : DF} (h_Tree_prices : FnD P w K mg base (GK K) 3 (He.fAd K ("Tree", some "prices")) 2 M_Tree_prices) {M_order : DF} (h_order : FnD P w K mg base (GK K) 1 (He.fAd K ("order", none)) 2 M_order) {M_paid : DF} (h_paid : FnD P w K mg base (GK K) 3 (He.fAd K ("paid", none)) 3 M_paid) {M_over : DF} (h_over : FnD P w K mg base (GK K) 2 (He.fAd K ("over", none)) 2 M_over) {M_less : DF} (h_less : FnD P w K mg base (GK K) 2 (He.fAd K ("less", none)) 2 M_less) {M_times : DF} (h_times : FnD P w K mg base (GK K) 2 (He.fAd K ("times", none)) 2 M_times) {M_add : DF} (h_add : FnD P w K mg base (GK K) 2 (He.fAd K ("add", none)) 2 M_add) {M_Tree_weight : DF} (h_Tree_weight : FnD P w K mg base (GK K) 3 (He.fAd K ("Tree", some "weight")) 1 M_Tree_weight) : FnD P w K mg base (GK K) 4 (He.fAd K ("Tree", some "right")) 4 (runD 13 (f_Tree_right M_Tree_prices M_order M_paid M_over M_less M_times M_add M_Tree_weight)) := by
  obtain ⟨fd, F0⟩ := c.def_ 16 (d := d_Tree_right) rfl
  have F : FunD K "right" "Tree.right" (defArgs s_Tree_right) (defBody s_Tree_right) (defScope s_Tree_right) [] [] (He.fAd K ("Tree", some "right")) fd := F0
  have b : Binds K fd ["self", "strike", "is_buy", "any_time"] [] := F.bindsN fun _ _ _ _ _ _ us hl => match us, hl with | [_, _, _, _], _ => rfl
  exact fnD_of F sc_Tree_right b fun cdv A outer s H E hl hcd hr => (jss_cons (js_set 4 sc_Tree_right.nd (je_meth0 (c := "Tree") h_Tree_weight (takes_of rfl rfl rfl rfl) (hr.mono (by decide)) (cl_Tree KX Gn c) (mt_Tree_weight KX Gn c) (je_var 0)))
  (jss_cons (js_setLc 5 rfl sc_Tree_right.nd (blkOk_by (own := [("one", 11)]) (N := N_Tree_right) (sc := defScope s_Tree_right) (by decide +kernel)) (ji_seq (je_meth (c := "Tree") h_Tree_prices (takes_of rfl rfl rfl rfl) (hr.mono (by decide)) (cl_Tree KX Gn c) (mt_Tree_prices KX Gn c) (je_var 0) (ja_cons (je_fld (fl_many KX Gn c) (je_var 0)) ja_nil))) (fun _ _ _ _ _ => (jgv_name 11 sc_Tree_right.nd (by decide))) (fun _ _ _ _ _ => jts_nil) (fun _ _ _ _ _ => (je_call h_paid takes0 (hr.mono (by decide)) (g_paid KX Gn c) (ja_cons (je_var 11) (ja_cons (je_var 1) (ja_cons (je_var 2) ja_nil))))) (sw_true rfl rfl rfl (by decide +kernel)))
  (jss_cons (js_for (passes_of rfl) rfl (ji_rev1 (z_reversed KX Gn c) (z_range KX Gn c) (je_fld (fl_many KX Gn c) (je_var 0))) (jg_name 6 sc_Tree_right.nd)
  (jss_cons (js_set 7 sc_Tree_right.nd (je_lst ja_nil))
  (jss_cons (js_for (passes_of rfl) rfl (ji_enum (z_enumerate KX Gn c) (je_meth (c := "Tree") h_Tree_prices (takes_of rfl rfl rfl rfl) (hr.mono (by decide)) (cl_Tree KX Gn c) (mt_Tree_prices KX Gn c) (je_var 0) (ja_cons (je_var 6) ja_nil))) (jg_tup rfl (jgs_cons (jg_name 8 sc_Tree_right.nd) (jgs_cons (jg_name 9 sc_Tree_right.nd) jgs_nil)))
  (jss_cons (js_set 10 sc_Tree_right.nd (je_call h_add (takes_of rfl rfl rfl rfl) (hr.mono (by decide)) (g_add KX Gn c) (ja_cons (je_call h_times (takes_of rfl rfl rfl rfl) (hr.mono (by decide)) (g_times KX Gn c) (ja_cons (je_var 4) (ja_cons (je_ix (je_var 5) (je_op jop_add (je_var 8) je_int)) ja_nil))) (ja_cons (je_call h_times (takes_of rfl rfl rfl rfl) (hr.mono (by decide)) (g_times KX Gn c) (ja_cons (je_call h_less (takes_of rfl rfl rfl rfl) (hr.mono (by decide)) (g_less KX Gn c) (ja_cons (je_tup (ja_cons je_int (ja_cons je_int ja_nil))) (ja_cons (je_var 4) ja_nil))) (ja_cons (je_ix (je_var 5) (je_var 8)) ja_nil))) ja_nil))))
  (jss_cons (js_set 11 sc_Tree_right.nd (je_call h_over (takes_of rfl rfl rfl rfl) (hr.mono (by decide)) (g_over KX Gn c) (ja_cons (je_var 10) (ja_cons (je_fld (fl_growth KX Gn c) (je_var 0)) ja_nil))))
  (jss_cons (js_set 12 sc_Tree_right.nd (je_call h_paid (takes_of rfl rfl rfl rfl) (hr.mono (by decide)) (g_paid KX Gn c) (ja_cons (je_var 9) (ja_cons (je_var 1) (ja_cons (je_var 2) ja_nil)))))
  (jss_one (js_expr (je_app (je_var 7) (je_if (jt_of (jw_and (jt_val (je_var 3)) (jw_and1 (jt_cmp jop_gt (je_call h_order (takes_of rfl rfl rfl rfl) (hr.mono (by decide)) (g_order KX Gn c) (ja_cons (je_var 12) (ja_cons (je_var 11) ja_nil))) je_int)))) (je_var 12) (je_var 11)))))))))
  (jss_one (js_set 5 sc_Tree_right.nd (je_var 7))))))
  (jss_one (js_ret (je_ix (je_var 5) je_int))))))
theorem fn_all_ways  : FnD P w K mg base (GK K) 1 (He.fAd K ("all_ways", none)) 1 (runD 5 (f_all_ways)) := by
  obtain ⟨fd, F0⟩ := c.def_ 23 (d := d_all_ways) rfl
  have F : FunD K "all_ways" "all_ways" (defArgs s_all_ways) (defBody s_all_ways) (defScope s_all_ways) [] [] (He.fAd K ("all_ways", none)) fd := F0
  have b : Binds K fd ["many"] [] := F.bindsN fun _ _ _ _ _ _ us hl => match us, hl with | [_], _ => rfl
  exact fnD_of F sc_all_ways b fun cdv A outer s H E hl hcd hr => (jss_cons (js_set 1 sc_all_ways.nd (je_lst (ja_cons (je_tup ja_nil) ja_nil)))
  (jss_cons (js_for (passes_of rfl) rfl (ji_range1 (z_range KX Gn c) (je_var 0)) (jg_name 2 sc_all_ways.nd)
  (jss_one (js_setLc2 1 (vs1 := [4]) rfl sc_all_ways.nd (blkOk_by (own := [("row", 3), ("one", 4)]) (N := N_all_ways) (sc := defScope s_all_ways) (by decide +kernel)) (by decide) (ji_seq (je_var 1)) (fun _ _ _ _ _ => (jgv_name 3 sc_all_ways.nd (by decide))) (fun _ _ _ _ _ => jts_nil) (fun _ _ _ _ _ => (ji_seq (je_tup (ja_cons je_bl (ja_cons je_bl ja_nil))))) (fun _ _ _ _ _ => (jgv_name 4 sc_all_ways.nd (by decide))) (fun _ _ _ _ _ => jts_nil) (fun _ _ _ _ _ => (je_op jop_add (je_var 3) (je_tup (ja_cons (je_var 4) ja_nil)))) (sw_true rfl rfl rfl (by decide +kernel)))))
  (jss_one (js_ret (je_var 1)))))
theorem fn__law_ways {M_all_ways : DF} (h_all_ways : FnD P w K mg base (GK K) 1 (He.fAd K ("all_ways", none)) 1 M_all_ways) {M_times : DF} (h_times : FnD P w K mg base (GK K) 2 (He.fAd K ("times", none)) 2 M_times) {M_add : DF} (h_add : FnD P w K mg base (GK K) 2 (He.fAd K ("add", none)) 2 M_add) {M_less : DF} (h_less : FnD P w K mg base (GK K) 2 (He.fAd K ("less", none)) 2 M_less) {M_over : DF} (h_over : FnD P w K mg base (GK K) 2 (He.fAd K ("over", none)) 2 M_over) : FnD P w K mg base (GK K) 3 (He.fAd K ("_law_ways", none)) 8 (runD 14 (f__law_ways M_all_ways M_times M_add M_less M_over)) := by
  obtain ⟨fd, F0⟩ := c.def_ 31 (d := d__law_ways) rfl
  have F : FunD K "_law_ways" "_law_ways" (defArgs s__law_ways) (defBody s__law_ways) (defScope s__law_ways) [] [] (He.fAd K ("_law_ways", none)) fd := F0
  have b : Binds K fd ["price", "up", "down", "weight", "growth", "many", "strike", "is_buy"] [] := F.bindsN fun _ _ _ _ _ _ us hl => match us, hl with | [_, _, _, _, _, _, _, _], _ => rfl
  exact fnD_of F sc__law_ways b fun cdv A outer s H E hl hcd hr => (jss_cons (js_set 8 sc__law_ways.nd (je_tup (ja_cons je_int (ja_cons je_int ja_nil))))
  (jss_cons (js_for (passes_of rfl) rfl (ji_seq (je_call h_all_ways (takes_of rfl rfl rfl rfl) (hr.mono (by decide)) (g_all_ways KX Gn c) (ja_cons (je_var 5) ja_nil))) (jg_name 9 sc__law_ways.nd)
  (jss_cons (js_par2 10 11 rfl sc__law_ways.nd (ja_cons (je_tup (ja_cons (je_var 0) (ja_cons je_int ja_nil))) (ja_cons (je_tup (ja_cons je_int (ja_cons je_int ja_nil))) ja_nil)))
  (jss_cons (js_for (passes_of rfl) rfl (ji_seq (je_var 9)) (jg_name 12 sc__law_ways.nd)
  (jss_cons (js_set 10 sc__law_ways.nd (je_call h_times (takes_of rfl rfl rfl rfl) (hr.mono (by decide)) (g_times KX Gn c) (ja_cons (je_var 10) (ja_cons (je_if (jt_val (je_var 12)) (je_var 1) (je_var 2)) ja_nil))))
  (jss_one (js_set 11 sc__law_ways.nd (je_call h_over (takes_of rfl rfl rfl rfl) (hr.mono (by decide)) (g_over KX Gn c) (ja_cons (je_call h_times (takes_of rfl rfl rfl rfl) (hr.mono (by decide)) (g_times KX Gn c) (ja_cons (je_var 11) (ja_cons (je_if (jt_val (je_var 12)) (je_var 3) (je_call h_less (takes_of rfl rfl rfl rfl) (hr.mono (by decide)) (g_less KX Gn c) (ja_cons (je_tup (ja_cons je_int (ja_cons je_int ja_nil))) (ja_cons (je_var 3) ja_nil)))) ja_nil))) (ja_cons (je_var 4) ja_nil)))))))
  (jss_cons (js_set 13 sc__law_ways.nd (je_if (jt_val (je_var 7)) (je_call h_less (takes_of rfl rfl rfl rfl) (hr.mono (by decide)) (g_less KX Gn c) (ja_cons (je_var 10) (ja_cons (je_tup (ja_cons (je_var 6) (ja_cons je_int ja_nil))) ja_nil))) (je_call h_less (takes_of rfl rfl rfl rfl) (hr.mono (by decide)) (g_less KX Gn c) (ja_cons (je_tup (ja_cons (je_var 6) (ja_cons je_int ja_nil))) (ja_cons (je_var 10) ja_nil)))))
  (jss_one (js_set 8 sc__law_ways.nd (je_call h_add (takes_of rfl rfl rfl rfl) (hr.mono (by decide)) (g_add KX Gn c) (ja_cons (je_var 8) (ja_cons (je_call h_times (takes_of rfl rfl rfl rfl) (hr.mono (by decide)) (g_times KX Gn c) (ja_cons (je_var 11) (ja_cons (je_if (jt_cmp jop_gt (je_ix (je_var 13) je_int) je_int) (je_var 13) (je_tup (ja_cons je_int (ja_cons je_int ja_nil)))) ja_nil))) ja_nil)))))))))
  (jss_one (js_ret (je_var 8)))))
theorem fn_Tree_by_ways {M_all_ways : DF} (h_all_ways : FnD P w K mg base (GK K) 1 (He.fAd K ("all_ways", none)) 1 M_all_ways) {M_paid : DF} (h_paid : FnD P w K mg base (GK K) 3 (He.fAd K ("paid", none)) 3 M_paid) {M_times : DF} (h_times : FnD P w K mg base (GK K) 2 (He.fAd K ("times", none)) 2 M_times) {M_add : DF} (h_add : FnD P w K mg base (GK K) 2 (He.fAd K ("add", none)) 2 M_add) {M_less : DF} (h_less : FnD P w K mg base (GK K) 2 (He.fAd K ("less", none)) 2 M_less) {M_over : DF} (h_over : FnD P w K mg base (GK K) 2 (He.fAd K ("over", none)) 2 M_over) {M_Tree_weight : DF} (h_Tree_weight : FnD P w K mg base (GK K) 3 (He.fAd K ("Tree", some "weight")) 1 M_Tree_weight) : FnD P w K mg base (GK K) 4 (He.fAd K ("Tree", some "by_ways")) 3 (runD 9 (f_Tree_by_ways M_all_ways M_paid M_times M_add M_less M_over M_Tree_weight)) := by
  obtain ⟨fd, F0⟩ := c.def_ 19 (d := d_Tree_by_ways) rfl
  have F : FunD K "by_ways" "Tree.by_ways" (defArgs s_Tree_by_ways) (defBody s_Tree_by_ways) (defScope s_Tree_by_ways) [] [] (He.fAd K ("Tree", some "by_ways")) fd := F0
  have b : Binds K fd ["self", "strike", "is_buy"] [] := F.bindsN fun _ _ _ _ _ _ us hl => match us, hl with | [_, _, _], _ => rfl
  exact fnD_of F sc_Tree_by_ways b fun cdv A outer s H E hl hcd hr => (jss_cons (js_par2 3 4 rfl sc_Tree_by_ways.nd (ja_cons (je_meth0 (c := "Tree") h_Tree_weight (takes_of rfl rfl rfl rfl) (hr.mono (by decide)) (cl_Tree KX Gn c) (mt_Tree_weight KX Gn c) (je_var 0)) (ja_cons (je_tup (ja_cons je_int (ja_cons je_int ja_nil))) ja_nil)))
  (jss_cons (js_for (passes_of rfl) rfl (ji_seq (je_call h_all_ways (takes_of rfl rfl rfl rfl) (hr.mono (by decide)) (g_all_ways KX Gn c) (ja_cons (je_fld (fl_many KX Gn c) (je_var 0)) ja_nil))) (jg_name 5 sc_Tree_by_ways.nd)
  (jss_cons (js_par2 6 7 rfl sc_Tree_by_ways.nd (ja_cons (je_tup (ja_cons (je_fld (fl_price KX Gn c) (je_var 0)) (ja_cons je_int ja_nil))) (ja_cons (je_tup (ja_cons je_int (ja_cons je_int ja_nil))) ja_nil)))
  (jss_cons (js_for (passes_of rfl) rfl (ji_seq (je_var 5)) (jg_name 8 sc_Tree_by_ways.nd)
  (jss_cons (js_set 6 sc_Tree_by_ways.nd (je_call h_times (takes_of rfl rfl rfl rfl) (hr.mono (by decide)) (g_times KX Gn c) (ja_cons (je_var 6) (ja_cons (je_if (jt_val (je_var 8)) (je_fld (fl_up KX Gn c) (je_var 0)) (je_fld (fl_down KX Gn c) (je_var 0))) ja_nil))))
  (jss_one (js_set 7 sc_Tree_by_ways.nd (je_call h_over (takes_of rfl rfl rfl rfl) (hr.mono (by decide)) (g_over KX Gn c) (ja_cons (je_call h_times (takes_of rfl rfl rfl rfl) (hr.mono (by decide)) (g_times KX Gn c) (ja_cons (je_var 7) (ja_cons (je_if (jt_val (je_var 8)) (je_var 3) (je_call h_less (takes_of rfl rfl rfl rfl) (hr.mono (by decide)) (g_less KX Gn c) (ja_cons (je_tup (ja_cons je_int (ja_cons je_int ja_nil))) (ja_cons (je_var 3) ja_nil)))) ja_nil))) (ja_cons (je_fld (fl_growth KX Gn c) (je_var 0)) ja_nil)))))))
  (jss_one (js_set 4 sc_Tree_by_ways.nd (je_call h_add (takes_of rfl rfl rfl rfl) (hr.mono (by decide)) (g_add KX Gn c) (ja_cons (je_var 4) (ja_cons (je_call h_times (takes_of rfl rfl rfl rfl) (hr.mono (by decide)) (g_times KX Gn c) (ja_cons (je_var 7) (ja_cons (je_call h_paid (takes_of rfl rfl rfl rfl) (hr.mono (by decide)) (g_paid KX Gn c) (ja_cons (je_var 6) (ja_cons (je_var 1) (ja_cons (je_var 2) ja_nil)))) ja_nil))) ja_nil))))))))
  (jss_one (js_ret (je_var 4)))))
theorem fn_parity {M_less : DF} (h_less : FnD P w K mg base (GK K) 2 (He.fAd K ("less", none)) 2 M_less) {M_over : DF} (h_over : FnD P w K mg base (GK K) 2 (He.fAd K ("over", none)) 2 M_over) : FnD P w K mg base (GK K) 3 (He.fAd K ("parity", none)) 4 (runD 6 (f_parity M_less M_over)) := by
  obtain ⟨fd, F0⟩ := c.def_ 24 (d := d_parity) rfl
  have F : FunD K "parity" "parity" (defArgs s_parity) (defBody s_parity) (defScope s_parity) [] [] (He.fAd K ("parity", none)) fd := F0
  have b : Binds K fd ["price", "strike", "interest", "many"] [] := F.bindsN fun _ _ _ _ _ _ us hl => match us, hl with | [_, _, _, _], _ => rfl
  exact fnD_of F sc_parity b fun cdv A outer s H E hl hcd hr => (jss_cons (js_set 4 sc_parity.nd (je_tup (ja_cons (je_var 1) (ja_cons je_int ja_nil))))
  (jss_cons (js_for (passes_of rfl) rfl (ji_range1 (z_range KX Gn c) (je_var 3)) (jg_name 5 sc_parity.nd)
  (jss_one (js_set 4 sc_parity.nd (je_call h_over (takes_of rfl rfl rfl rfl) (hr.mono (by decide)) (g_over KX Gn c) (ja_cons (je_var 4) (ja_cons (je_var 2) ja_nil))))))
  (jss_one (js_ret (je_call h_less (takes_of rfl rfl rfl rfl) (hr.mono (by decide)) (g_less KX Gn c) (ja_cons (je_tup (ja_cons (je_var 0) (ja_cons je_int ja_nil))) (ja_cons (je_var 4) ja_nil)))))))
theorem fn_law {M__law_rounds : DF} (h__law_rounds : FnD P w K mg base (GK K) 2 (He.fAd K ("_law_rounds", none)) 2 M__law_rounds) {M_Tree___init__ : DF} (h_Tree___init__ : FnD P w K mg base (GK K) 2 (He.fAd K ("Tree", some "__init__")) 6 M_Tree___init__) {M_all_ways : DF} (h_all_ways : FnD P w K mg base (GK K) 1 (He.fAd K ("all_ways", none)) 1 M_all_ways) {M_paid : DF} (h_paid : FnD P w K mg base (GK K) 3 (He.fAd K ("paid", none)) 3 M_paid) {M_Tree_after : DF} (h_Tree_after : FnD P w K mg base (GK K) 4 (He.fAd K ("Tree", some "after")) 2 M_Tree_after) {M_Scaled_right : DF} (h_Scaled_right : FnD P w K mg base (GK K) 4 (He.fAd K ("Scaled", some "right")) 4 M_Scaled_right) {M_times : DF} (h_times : FnD P w K mg base (GK K) 2 (He.fAd K ("times", none)) 2 M_times) {M_add : DF} (h_add : FnD P w K mg base (GK K) 2 (He.fAd K ("add", none)) 2 M_add) {M_Scaled___init__ : DF} (h_Scaled___init__ : FnD P w K mg base (GK K) 1 (He.fAd K ("Scaled", some "__init__")) 3 M_Scaled___init__) {M_Tree_held : DF} (h_Tree_held : FnD P w K mg base (GK K) 5 (He.fAd K ("Tree", some "held")) 3 M_Tree_held) {M_Tree_right : DF} (h_Tree_right : FnD P w K mg base (GK K) 4 (He.fAd K ("Tree", some "right")) 4 M_Tree_right) {M_order : DF} (h_order : FnD P w K mg base (GK K) 1 (He.fAd K ("order", none)) 2 M_order) {M_less : DF} (h_less : FnD P w K mg base (GK K) 2 (He.fAd K ("less", none)) 2 M_less) {M_parity : DF} (h_parity : FnD P w K mg base (GK K) 3 (He.fAd K ("parity", none)) 4 M_parity) {M_Tree_by_ways : DF} (h_Tree_by_ways : FnD P w K mg base (GK K) 4 (He.fAd K ("Tree", some "by_ways")) 3 M_Tree_by_ways) {M__law_ways : DF} (h__law_ways : FnD P w K mg base (GK K) 3 (He.fAd K ("_law_ways", none)) 8 M__law_ways) {M_Tree_prices : DF} (h_Tree_prices : FnD P w K mg base (GK K) 3 (He.fAd K ("Tree", some "prices")) 2 M_Tree_prices) {M_Tree_weight : DF} (h_Tree_weight : FnD P w K mg base (GK K) 3 (He.fAd K ("Tree", some "weight")) 1 M_Tree_weight) {M__law_roll : DF} (h__law_roll : FnD P w K mg base (GK K) 1 (He.fAd K ("_law_roll", none)) 2 M__law_roll) {M_part : DF} (h_part : FnD P w K mg base (GK K) 1 (He.fAd K ("part", none)) 2 M_part) {M__law_bonds : DF} (h__law_bonds : FnD P w K mg base (GK K) 9 (He.fAd K ("_law_bonds", none)) 1 M__law_bonds) (tb : ∀ p ∈ tf, LamX.TabB base mg (He.cT K p).1 (He.cT K p).2) (nd2 : (tf.map fun p => (He.cT K p).2).Nodup) {fd : FuncData} (F : FunD K "law" "law" (defArgs s_law) (defBody s_law) (defScope s_law) [] [] (He.fAd K ("law", none)) fd) : FnOk P w K mg base (L2.CX P w) 10 (He.fAd K ("law", none)) fd ["script"] (spD K (GK K) 1 (runD 17 (f_law M__law_rounds M_Tree___init__ M_all_ways M_paid M_Tree_after M_Scaled_right M_times M_add M_Scaled___init__ M_Tree_held M_Tree_right M_order M_less M_parity M_Tree_by_ways M__law_ways M_Tree_prices M_Tree_weight M__law_roll M_part M__law_bonds))) := by
  obtain ⟨fdT, FT0⟩ := c.def_ 28 (d := d__law_told) rfl
  have FT : FunD K "_law_told" "_law_told" (defArgs s__law_told) (defBody s__law_told) (defScope s__law_told) [] [] (He.fAd K ("_law_told", none)) fdT := FT0
  have bT : Binds K fdT ["what"] [] := FT.bindsN fun _ _ _ _ _ _ us hl => match us, hl with | [_], _ => rfl
  have kT := FT.kp
  obtain ⟨ocT, odT, dVT, kVT, docT, pmT, anT, cdT, ctT, oslT, rfl, lkT, hcT, _, _⟩ := FT.ex
  have hu : ∀ p ∈ (GK K).T, p.1 = (He.cT K ("law", none)).2 → p.2 = (("law" : Str) ++ (".<locals>." : Str)) ++ ("<lambda>" : Str) := by
    have n2 := nd2
    simp only [tf, List.map_cons, List.map_nil, List.nodup_cons, List.mem_cons, List.not_mem_nil, or_false, not_or] at n2
    intro p hp e
    simp only [GK, List.mem_cons, List.not_mem_nil, or_false] at hp
    rcases hp with rfl | rfl
    · exfalso; simp_all
    · rfl
  refine fnOk_of F sc_law fun cdv A outer s H E hl hcd hr => ?_
  have ec := code_is (p := ("law", none)) hl hcd
  subst ec
  exact (jss_cons (js_for (passes_of rfl) rfl (ji_seq (je_call h__law_rounds (takes_of rfl rfl rfl rfl) (hr.mono (by decide)) (g__law_rounds KX Gn c) (ja_cons (je_var 0) (ja_cons je_int ja_nil)))) (jg_name 1 sc_law.nd)
  (jss_cons (js_if (jt_not (jt_val (je_call h__law_bonds (takes_of rfl rfl rfl rfl) (hr.mono (by decide)) (g__law_bonds KX Gn c) (ja_cons (je_var 1) ja_nil))))
  (jss_one (js_ret je_bl))
  jss_nil)
  (jss_cons (js_asg (je_tup (ja_cons (je_op jop_add je_int (je_call h__law_roll (takes_of rfl rfl rfl rfl) (hr.mono (by decide)) (g__law_roll KX Gn c) (ja_cons (je_var 1) (ja_cons je_int ja_nil)))) (ja_cons (je_op jop_add je_int (je_call h__law_roll (takes_of rfl rfl rfl rfl) (hr.mono (by decide)) (g__law_roll KX Gn c) (ja_cons (je_var 1) (ja_cons je_int ja_nil)))) (ja_cons (je_op jop_add je_int (je_call h__law_roll (takes_of rfl rfl rfl rfl) (hr.mono (by decide)) (g__law_roll KX Gn c) (ja_cons (je_var 1) (ja_cons je_int ja_nil)))) ja_nil)))) (jg_tup rfl (jgs_cons (jg_name 2 sc_law.nd) (jgs_cons (jg_name 3 sc_law.nd) (jgs_cons (jg_name 4 sc_law.nd) jgs_nil)))))
  (jss_cons (js_asg (je_tup (ja_cons (je_call h_part (takes_of rfl rfl rfl rfl) (hr.mono (by decide)) (g_part KX Gn c) (ja_cons (je_op jop_add je_int (je_call h__law_roll (takes_of rfl rfl rfl rfl) (hr.mono (by decide)) (g__law_roll KX Gn c) (ja_cons (je_var 1) (ja_cons je_int ja_nil)))) (ja_cons je_int ja_nil))) (ja_cons (je_call h_part (takes_of rfl rfl rfl rfl) (hr.mono (by decide)) (g_part KX Gn c) (ja_cons (je_op jop_add je_int (je_call h__law_roll (takes_of rfl rfl rfl rfl) (hr.mono (by decide)) (g__law_roll KX Gn c) (ja_cons (je_var 1) (ja_cons je_int ja_nil)))) (ja_cons je_int ja_nil))) (ja_cons (je_call h_part (takes_of rfl rfl rfl rfl) (hr.mono (by decide)) (g_part KX Gn c) (ja_cons (je_op jop_add je_int (je_call h__law_roll (takes_of rfl rfl rfl rfl) (hr.mono (by decide)) (g__law_roll KX Gn c) (ja_cons (je_var 1) (ja_cons je_int ja_nil)))) (ja_cons je_int ja_nil))) ja_nil)))) (jg_tup rfl (jgs_cons (jg_name 5 sc_law.nd) (jgs_cons (jg_name 6 sc_law.nd) (jgs_cons (jg_name 7 sc_law.nd) jgs_nil)))))
  (jss_cons (js_set 8 sc_law.nd (je_make (c := "Tree") h_Tree___init__ (mk_Tree KX Gn c) (takes_of rfl rfl rfl rfl) (hr.mono (by decide)) (g_Tree KX Gn c) (ja_cons (je_var 2) (ja_cons (je_var 5) (ja_cons (je_var 6) (ja_cons (je_var 7) (ja_cons (je_var 4) ja_nil)))))))
  (jss_cons (js_set 9 sc_law.nd (je_meth0 (c := "Tree") h_Tree_weight (takes_of rfl rfl rfl rfl) (hr.mono (by decide)) (cl_Tree KX Gn c) (mt_Tree_weight KX Gn c) (je_var 8)))
  (jss_cons (js_if (jt_of (jw_or (jt_cmp (jop_ne hr.units) (je_call h_add (takes_of rfl rfl rfl rfl) (hr.mono (by decide)) (g_add KX Gn c) (ja_cons (je_call h_times (takes_of rfl rfl rfl rfl) (hr.mono (by decide)) (g_times KX Gn c) (ja_cons (je_var 9) (ja_cons (je_var 5) ja_nil))) (ja_cons (je_call h_times (takes_of rfl rfl rfl rfl) (hr.mono (by decide)) (g_times KX Gn c) (ja_cons (je_call h_less (takes_of rfl rfl rfl rfl) (hr.mono (by decide)) (g_less KX Gn c) (ja_cons (je_tup (ja_cons je_int (ja_cons je_int ja_nil))) (ja_cons (je_var 9) ja_nil))) (ja_cons (je_var 6) ja_nil))) ja_nil))) (je_var 7)) (jw_or1 (jt_cmp (jop_ne hr.units) (je_blt jb_len (z_len KX Gn c) boot_len (ja_cons (je_meth (c := "Tree") h_Tree_prices (takes_of rfl rfl rfl rfl) (hr.mono (by decide)) (cl_Tree KX Gn c) (mt_Tree_prices KX Gn c) (je_var 8) (ja_cons (je_var 4) ja_nil)) ja_nil)) (je_op jop_add (je_var 4) je_int)))))
  (jss_one (js_ret je_bl))
  jss_nil)
  (jss_cons (js_par2 10 11 rfl sc_law.nd (ja_cons (je_meth (c := "Tree") h_Tree_right (takes_of rfl rfl rfl rfl) (hr.mono (by decide)) (cl_Tree KX Gn c) (mt_Tree_right KX Gn c) (je_var 8) (ja_cons (je_var 3) (ja_cons je_bl (ja_cons je_bl ja_nil)))) (ja_cons (je_meth (c := "Tree") h_Tree_right (takes_of rfl rfl rfl rfl) (hr.mono (by decide)) (cl_Tree KX Gn c) (mt_Tree_right KX Gn c) (je_var 8) (ja_cons (je_var 3) (ja_cons je_bl (ja_cons je_bl ja_nil)))) ja_nil)))
  (jss_cons (js_if (jt_cmp (jop_ne hr.units) (je_var 10) (je_call h__law_ways (takes_of rfl rfl rfl rfl) (hr.mono (by decide)) (g__law_ways KX Gn c) (ja_cons (je_var 2) (ja_cons (je_var 5) (ja_cons (je_var 6) (ja_cons (je_var 9) (ja_cons (je_var 7) (ja_cons (je_var 4) (ja_cons (je_var 3) (ja_cons je_bl ja_nil))))))))))
  (jss_one (js_ret je_bl))
  jss_nil)
  (jss_cons (js_if (jt_of (jw_or (jt_cmp (jop_ne hr.units) (je_meth (c := "Tree") h_Tree_by_ways (takes_of rfl rfl rfl rfl) (hr.mono (by decide)) (cl_Tree KX Gn c) (mt_Tree_by_ways KX Gn c) (je_var 8) (ja_cons (je_var 3) (ja_cons je_bl ja_nil))) (je_var 11)) (jw_or1 (jt_cmp (jop_ne hr.units) (je_call h_less (takes_of rfl rfl rfl rfl) (hr.mono (by decide)) (g_less KX Gn c) (ja_cons (je_var 10) (ja_cons (je_var 11) ja_nil))) (je_call h_parity (takes_of rfl rfl rfl rfl) (hr.mono (by decide)) (g_parity KX Gn c) (ja_cons (je_var 2) (ja_cons (je_var 3) (ja_cons (je_var 7) (ja_cons (je_var 4) ja_nil)))))))))
  (jss_one (js_ret je_bl))
  jss_nil)
  (jss_cons (js_if (jt_of (jw_or (jt_cmp jop_lt (je_call h_order (takes_of rfl rfl rfl rfl) (hr.mono (by decide)) (g_order KX Gn c) (ja_cons (je_meth (c := "Tree") h_Tree_right (takes_of rfl rfl rfl rfl) (hr.mono (by decide)) (cl_Tree KX Gn c) (mt_Tree_right KX Gn c) (je_var 8) (ja_cons (je_var 3) (ja_cons je_bl (ja_cons je_bl ja_nil)))) (ja_cons (je_var 11) ja_nil))) je_int) (jw_or1 (jt_cmp (jop_ne hr.units) (je_meth (c := "Tree") h_Tree_right (takes_of rfl rfl rfl rfl) (hr.mono (by decide)) (cl_Tree KX Gn c) (mt_Tree_right KX Gn c) (je_var 8) (ja_cons (je_var 3) (ja_cons je_bl (ja_cons je_bl ja_nil)))) (je_var 10)))))
  (jss_one (js_ret je_bl))
  jss_nil)
  (jss_cons (js_asg (je_meth (c := "Tree") h_Tree_held (takes_of rfl rfl rfl rfl) (hr.mono (by decide)) (cl_Tree KX Gn c) (mt_Tree_held KX Gn c) (je_var 8) (ja_cons (je_var 3) (ja_cons je_bl ja_nil))) (jg_tup rfl (jgs_cons (jg_name 12 sc_law.nd) (jgs_cons (jg_name 13 sc_law.nd) jgs_nil))))
  (jss_cons (js_if (jt_cmp (jop_ne hr.units) (je_call h_add (takes_of rfl rfl rfl rfl) (hr.mono (by decide)) (g_add KX Gn c) (ja_cons (je_call h_times (takes_of rfl rfl rfl rfl) (hr.mono (by decide)) (g_times KX Gn c) (ja_cons (je_var 12) (ja_cons (je_tup (ja_cons (je_var 2) (ja_cons je_int ja_nil))) ja_nil))) (ja_cons (je_var 13) ja_nil))) (je_var 10))
  (jss_one (js_ret je_bl))
  jss_nil)
  (jss_cons (js_for (passes_of rfl) rfl (ji_seq (je_lst (ja_cons je_bl (ja_cons je_bl ja_nil)))) (jg_name 14 sc_law.nd)
  (jss_cons (js_set 15 sc_law.nd (je_call h_times (takes_of rfl rfl rfl rfl) (hr.mono (by decide)) (g_times KX Gn c) (ja_cons (je_tup (ja_cons (je_var 2) (ja_cons je_int ja_nil))) (ja_cons (je_if (jt_val (je_var 14)) (je_var 5) (je_var 6)) ja_nil))))
  (jss_cons (js_set 16 sc_law.nd (je_if (jt_cmp (jop_eq hr.units) (je_var 4) je_int) (je_call h_paid (takes_of rfl rfl rfl rfl) (hr.mono (by decide)) (g_paid KX Gn c) (ja_cons (je_var 15) (ja_cons (je_var 3) (ja_cons je_bl ja_nil)))) (je_meth (c := "Scaled") h_Scaled_right (takes_of rfl rfl rfl rfl) (hr.mono (by decide)) (cl_Scaled KX Gn c) (mt_Scaled_right KX Gn c) (je_make (c := "Scaled") h_Scaled___init__ (mk_Scaled KX Gn c) (takes_of rfl rfl rfl rfl) (hr.mono (by decide)) (g_Scaled KX Gn c) (ja_cons (je_make (c := "Tree") h_Tree___init__ (mk_Tree KX Gn c) (takes_of rfl rfl rfl rfl) (hr.mono (by decide)) (g_Tree KX Gn c) (ja_cons je_int (ja_cons (je_var 5) (ja_cons (je_var 6) (ja_cons (je_var 7) (ja_cons (je_op jop_sub (je_var 4) je_int) ja_nil)))))) (ja_cons (je_var 15) ja_nil))) (ja_cons (je_var 3) (ja_cons je_bl (ja_cons je_bl ja_nil))))))
  (jss_cons (js_if (jt_cmp (jop_ne hr.units) (je_call h_add (takes_of rfl rfl rfl rfl) (hr.mono (by decide)) (g_add KX Gn c) (ja_cons (je_call h_times (takes_of rfl rfl rfl rfl) (hr.mono (by decide)) (g_times KX Gn c) (ja_cons (je_var 12) (ja_cons (je_var 15) ja_nil))) (ja_cons (je_call h_times (takes_of rfl rfl rfl rfl) (hr.mono (by decide)) (g_times KX Gn c) (ja_cons (je_var 13) (ja_cons (je_var 7) ja_nil))) ja_nil))) (je_var 16))
  (jss_one (js_ret je_bl))
  jss_nil)
  (jss_one (js_if (jt_of (jw_and (jt_cmp jop_gt (je_var 4) je_int) (jw_and1 (jt_cmp (jop_ne hr.units) (je_meth (c := "Scaled") h_Scaled_right (takes_of rfl rfl rfl rfl) (hr.mono (by decide)) (cl_Scaled KX Gn c) (mt_Scaled_right KX Gn c) (je_meth (c := "Tree") h_Tree_after (takes_of rfl rfl rfl rfl) (hr.mono (by decide)) (cl_Tree KX Gn c) (mt_Tree_after KX Gn c) (je_var 8) (ja_cons (je_var 14) ja_nil)) (ja_cons (je_var 3) (ja_cons je_bl (ja_cons je_bl ja_nil)))) (je_var 16)))))
  (jss_one (js_ret je_bl))
  jss_nil))))))
  (jss_cons (js_if (jt_of (jw_or (jt_cmp (jop_ne hr.units) (je_call h_paid (takes_of rfl rfl rfl rfl) (hr.mono (by decide)) (g_paid KX Gn c) (ja_cons (je_tup (ja_cons je_int (ja_cons je_int ja_nil))) (ja_cons je_int (ja_cons je_bl ja_nil)))) (je_tup (ja_cons je_int (ja_cons je_int ja_nil)))) (jw_or (jt_cmp (jop_ne hr.units) (je_call h_paid (takes_of rfl rfl rfl rfl) (hr.mono (by decide)) (g_paid KX Gn c) (ja_cons (je_tup (ja_cons je_int (ja_cons je_int ja_nil))) (ja_cons je_int (ja_cons je_bl ja_nil)))) (je_tup (ja_cons je_int (ja_cons je_int ja_nil)))) (jw_or1 (jt_cmp (jop_ne hr.units) (je_blt jb_len (z_len KX Gn c) boot_len (ja_cons (je_call h_all_ways (takes_of rfl rfl rfl rfl) (hr.mono (by decide)) (g_all_ways KX Gn c) (ja_cons je_int ja_nil)) ja_nil)) je_int)))))
  (jss_one (js_ret je_bl))
  jss_nil)
  (jss_cons (js_if (jt_cmp (jop_ne hr.units) (je_told (k := 3) (rs := raisable) (cs := tellers) (g__law_told KX Gn c) kT lkT hcT bT sc__law_told rfl (Or.inl rfl) (fun _ => rfl) (.cons rfl (g_BadMoney KX Gn c) (by decide) (.cons rfl (g_BadDay KX Gn c) (by decide) (.cons rfl (g_BadRule KX Gn c) (by decide) (.cons rfl (g_Unbalanced KX Gn c) (by decide) (.cons rfl (g_Shut KX Gn c) (by decide) (.cons rfl (g_Short KX Gn c) (by decide) (.cons rfl (g_BadText KX Gn c) (by decide) (.cons rfl (g_NoAnswer KX Gn c) (by decide) (.nil))))))))) (exall KX Gn c) (tb ("law", none) (List.Mem.tail _ (List.Mem.head _))) rfl (List.Mem.tail _ (List.Mem.head _)) hu (hr.mono (by decide)) (LamX.lamS_by (sc := defScope s_law) (by decide +kernel)) rfl (fun _ _ _ _ _ => rfl) (fun A2 outer2 s2 H2 E2 f2 c2 hr2 => (je_make (c := "Tree") h_Tree___init__ (mk_Tree KX Gn c) lam_takes (hr2.mono (by decide)) (g_Tree KX Gn c) (ja_cons (je_var 2) (ja_cons (je_var 6) (ja_cons (je_var 5) (ja_cons (je_var 7) (ja_cons (je_var 4) ja_nil)))))))) je_str)
  (jss_one (js_ret je_bl))
  jss_nil)
  (jss_one (js_if (jt_cmp (jop_ne hr.units) (je_told (k := 3) (rs := raisable) (cs := tellers) (g__law_told KX Gn c) kT lkT hcT bT sc__law_told rfl (Or.inl rfl) (fun _ => rfl) (.cons rfl (g_BadMoney KX Gn c) (by decide) (.cons rfl (g_BadDay KX Gn c) (by decide) (.cons rfl (g_BadRule KX Gn c) (by decide) (.cons rfl (g_Unbalanced KX Gn c) (by decide) (.cons rfl (g_Shut KX Gn c) (by decide) (.cons rfl (g_Short KX Gn c) (by decide) (.cons rfl (g_BadText KX Gn c) (by decide) (.cons rfl (g_NoAnswer KX Gn c) (by decide) (.nil))))))))) (exall KX Gn c) (tb ("law", none) (List.Mem.tail _ (List.Mem.head _))) rfl (List.Mem.tail _ (List.Mem.head _)) hu (hr.mono (by decide)) (LamX.lamS_by (sc := defScope s_law) (by decide +kernel)) rfl (fun _ _ _ _ _ => rfl) (fun A2 outer2 s2 H2 E2 f2 c2 hr2 => (je_make (c := "Tree") h_Tree___init__ (mk_Tree KX Gn c) lam_takes (hr2.mono (by decide)) (g_Tree KX Gn c) (ja_cons (je_var 2) (ja_cons (je_var 5) (ja_cons (je_tup (ja_cons je_int (ja_cons je_int ja_nil))) (ja_cons (je_var 7) (ja_cons (je_var 4) ja_nil)))))))) je_str)
  (jss_one (js_ret je_bl))
  jss_nil))))))))))))))))))
  (jss_one (js_ret je_bl)))
end
end Pr
set_option Elab.async false
set_option linter.all false
set_option maxRecDepth 100000
set_option maxHeartbeats 0
namespace Pr
open PySem PySem.Spec PyProof.Rows L2 DL
section
variable {P : Program} {w : World} {K : PySem.W.Frag} {mg : Str → Option Value} {base h0 : Heap}
theorem walk_law (KX : K.In h0) (Gn : h0.Ns mainGlobals mg) (c : He.SaysD fa fn K)
    (tb : ∀ p ∈ tf, LamX.TabB base mg (He.cT K p).1 (He.cT K p).2) (nd2 : (tf.map fun p => (He.cT K p).2).Nodup) {fd : FuncData} (F : FunD K "law" "law" (defArgs s_law) (defBody s_law) (defScope s_law) [] [] (He.fAd K ("law", none)) fd) : FnOk P w K mg base (L2.CX P w) 10 (He.fAd K ("law", none)) fd ["script"] (spD K (GK K) 1 M_law) := by
  have h__law_dice : FnD P w K mg base (GK K) 1 (He.fAd K ("_law_dice", none)) 1 M__law_dice := fn__law_dice KX Gn c
  have h__law_rounds : FnD P w K mg base (GK K) 2 (He.fAd K ("_law_rounds", none)) 2 M__law_rounds := fn__law_rounds KX Gn c h__law_dice
  have h_order : FnD P w K mg base (GK K) 1 (He.fAd K ("order", none)) 2 M_order := fn_order KX Gn c
  have h_Tree___init__ : FnD P w K mg base (GK K) 2 (He.fAd K ("Tree", some "__init__")) 6 M_Tree___init__ := fn_Tree___init__ KX Gn c h_order
  have h_part : FnD P w K mg base (GK K) 1 (He.fAd K ("part", none)) 2 M_part := fn_part KX Gn c
  have h_over : FnD P w K mg base (GK K) 2 (He.fAd K ("over", none)) 2 M_over := fn_over KX Gn c h_part
  have h_less : FnD P w K mg base (GK K) 2 (He.fAd K ("less", none)) 2 M_less := fn_less KX Gn c h_part
  have h_Tree_weight : FnD P w K mg base (GK K) 3 (He.fAd K ("Tree", some "weight")) 1 M_Tree_weight := fn_Tree_weight KX Gn c h_less h_over
  have h_times : FnD P w K mg base (GK K) 2 (He.fAd K ("times", none)) 2 M_times := fn_times KX Gn c h_part
  have h_Tree_prices : FnD P w K mg base (GK K) 3 (He.fAd K ("Tree", some "prices")) 2 M_Tree_prices := fn_Tree_prices KX Gn c h_times
  have h_paid : FnD P w K mg base (GK K) 3 (He.fAd K ("paid", none)) 3 M_paid := fn_paid KX Gn c h_less
  have h_add : FnD P w K mg base (GK K) 2 (He.fAd K ("add", none)) 2 M_add := fn_add KX Gn c h_part
  have h_Scaled_right : FnD P w K mg base (GK K) 4 (He.fAd K ("Scaled", some "right")) 4 M_Scaled_right := fn_Scaled_right KX Gn c h_Tree_prices h_order h_times h_paid h_over h_less h_add h_Tree_weight
  have h_Scaled___init__ : FnD P w K mg base (GK K) 1 (He.fAd K ("Scaled", some "__init__")) 3 M_Scaled___init__ := fn_Scaled___init__ KX Gn c
  have h_Tree_after : FnD P w K mg base (GK K) 4 (He.fAd K ("Tree", some "after")) 2 M_Tree_after := fn_Tree_after KX Gn c h_Scaled___init__ h_times h_Tree___init__
  have h_Tree_held : FnD P w K mg base (GK K) 5 (He.fAd K ("Tree", some "held")) 3 M_Tree_held := fn_Tree_held KX Gn c h_times h_less h_over h_Tree_prices h_paid h_Tree_after h_Scaled_right
  have h_Bond___init__ : FnD P w K mg base (GK K) 2 (He.fAd K ("Bond", some "__init__")) 4 M_Bond___init__ := fn_Bond___init__ KX Gn c h_part
  have h__law_least : FnD P w K mg base (GK K) 1 (He.fAd K ("_law_least", none)) 2 M__law_least := fn__law_least KX Gn c
  have h__law_worth : FnD P w K mg base (GK K) 2 (He.fAd K ("_law_worth", none)) 4 M__law_worth := fn__law_worth KX Gn c h__law_least
  have h_Bond_pays : FnD P w K mg base (GK K) 3 (He.fAd K ("Bond", some "pays")) 1 M_Bond_pays := fn_Bond_pays KX Gn c h_add h_times
  have h_Bond_worth : FnD P w K mg base (GK K) 4 (He.fAd K ("Bond", some "worth")) 2 M_Bond_worth := fn_Bond_worth KX Gn c h_Bond_pays h_times h_add h_over
  have h_Bond_rate : FnD P w K mg base (GK K) 5 (He.fAd K ("Bond", some "rate")) 3 M_Bond_rate := fn_Bond_rate KX Gn c h_part h_Bond_worth h_order
  have h_Bond_moved : FnD P w K mg base (GK K) 5 (He.fAd K ("Bond", some "moved")) 3 M_Bond_moved := fn_Bond_moved KX Gn c h_Bond_worth h_less h_add
  have h_Bond_mean_time : FnD P w K mg base (GK K) 5 (He.fAd K ("Bond", some "mean_time")) 2 M_Bond_mean_time := fn_Bond_mean_time KX Gn c h_Bond_worth h_over h_Bond_pays h_times h_add
  have h_met_by_two : FnD P w K mg base (GK K) 6 (He.fAd K ("met_by_two", none)) 4 M_met_by_two := fn_met_by_two KX Gn c h_Bond_worth h_less h_times h_over h_add h_Bond_mean_time
  have h__law_roll : FnD P w K mg base (GK K) 1 (He.fAd K ("_law_roll", none)) 2 M__law_roll := fn__law_roll KX Gn c
  have h__law_bonds : FnD P w K mg base (GK K) 9 (He.fAd K ("_law_bonds", none)) 1 M__law_bonds := fn__law_bonds KX Gn c h_Bond___init__ h_Bond_rate h_met_by_two h_times h_add h_over h_Bond_worth h_part h_order h_Bond_moved h_less h__law_roll h_Bond_mean_time h__law_least h_Bond_pays h__law_worth tb nd2
  have h_Tree_right : FnD P w K mg base (GK K) 4 (He.fAd K ("Tree", some "right")) 4 M_Tree_right := fn_Tree_right KX Gn c h_Tree_prices h_order h_paid h_over h_less h_times h_add h_Tree_weight
  have h_all_ways : FnD P w K mg base (GK K) 1 (He.fAd K ("all_ways", none)) 1 M_all_ways := fn_all_ways KX Gn c
  have h__law_ways : FnD P w K mg base (GK K) 3 (He.fAd K ("_law_ways", none)) 8 M__law_ways := fn__law_ways KX Gn c h_all_ways h_times h_add h_less h_over
  have h_Tree_by_ways : FnD P w K mg base (GK K) 4 (He.fAd K ("Tree", some "by_ways")) 3 M_Tree_by_ways := fn_Tree_by_ways KX Gn c h_all_ways h_paid h_times h_add h_less h_over h_Tree_weight
  have h_parity : FnD P w K mg base (GK K) 3 (He.fAd K ("parity", none)) 4 M_parity := fn_parity KX Gn c h_less h_over
  exact fn_law KX Gn c h__law_rounds h_Tree___init__ h_all_ways h_paid h_Tree_after h_Scaled_right h_times h_add h_Scaled___init__ h_Tree_held h_Tree_right h_order h_less h_parity h_Tree_by_ways h__law_ways h_Tree_prices h_Tree_weight h__law_roll h_part h__law_bonds tb nd2 F
end
theorem at_law {l : PySem.W.OpenLaw} {w : World} {K : PySem.W.Frag} {mg : Str → Option Value} {h : Heap} {ad : Addr} (KX : K.In h) (Gn : h.Ns mainGlobals mg) (hm : mg ("law" : Str) = some (.ref ad)) (c : He.SaysX fa fn [] tf exB w h K)
    (ok : ∀ (ns : List Int) (d : D) (S : Store), ns.length ≤ 63 → (∀ z ∈ ns, Builtin.Int.intBits z ≤ 1048576) → ScriptAt ns d S → ∃ S2, M_law [d] S = .ok (.bl true) S2) : LamX.LawAtS l w K (L2.CX l.prog w) 10 63 "script" mg ad h := by
  have cd := c.t.d
  obtain ⟨fd, F0⟩ := cd.def_ 33 (d := d_law) rfl
  have F : FunD K "law" "law" (defArgs s_law) (defBody s_law) (defScope s_law) [] [] (He.fAd K ("law", none)) fd := F0
  have e := hm.symm.trans (g_law KX Gn cd)
  cases e
  have b := FunD.bindsA (ps := ["script"]) F fun _ _ _ _ _ _ us hl => match us, hl with | [_], _ => rfl
  have nd2 : (tf.map fun p => (He.cT K p).2).Nodup := of_decide_eq_true c.more
  refine ⟨fd, tf.map (He.cT K), spD K (GK K) 1 M_law, fun p hp => ?_, fun p hp => ?_, fun p hp => ?_, fun s v => b s [v] rfl, fun H a ns hl hb hT hS => ?_, fun base KB GB hB => ?_⟩
  · obtain ⟨q, hq, rfl⟩ := List.mem_map.mp hp
    exact c.empty q hq
  · obtain ⟨q, hq, rfl⟩ := List.mem_map.mp hp
    exact c.out q hq
  · obtain ⟨q, hq, rfl⟩ := List.mem_map.mp hp
    exact PySem.W.codeHd_of_K KX (c.hd q hq)
  · refine law_sp (fun p hp => ?_) hS fun d S hs => ok ns d S hl hb hs
    have hp2 : ∃ q ∈ tf, p.1 = (He.cT K q).2 := by
      simp only [GK, List.mem_cons, List.not_mem_nil, or_false] at hp
      rcases hp with rfl | rfl
      · exact ⟨_, (.head _), rfl⟩
      · exact ⟨_, (.tail _ (.head _)), rfl⟩
    obtain ⟨q, hq, e⟩ := hp2
    exact LamX.TabS.nil (e ▸ hT _ (List.mem_map.mpr ⟨q, hq, rfl⟩))
  · exact walk_law KX Gn cd (fun p hp => hB _ (List.mem_map.mpr ⟨p, hp, rfl⟩)) nd2 F
end Pr
open PySem PySem.W PySem.Calls PyProof.Rows
theorem holds_it (ok : ∀ (ns : List Int) (d : DL.D) (S : DL.Store), ns.length ≤ 63 → (∀ z ∈ ns, Builtin.Int.intBits z ≤ 1048576) → DL.ScriptAt ns d S → ∃ S2, Pr.M_law [d] S = .ok (.bl true) S2) : PySem.Challenge.rw_wagehall_k21_papers_of_worth.Holds := by
  w_on; o_law
  refine HandSHeadRun.head_any (r := OpenLaw.row PySem.Challenge.rw_wagehall_k21_papers_of_worth) (q := view (OpenLaw.row PySem.Challenge.rw_wagehall_k21_papers_of_worth).prog [34]) (H := Pr.hk) (ob := Pr.ob) (M := 20000) (loose := Pr.names) (d := HandSHeadRun.topDef (OpenLaw.row PySem.Challenge.rw_wagehall_k21_papers_of_worth).prog 34) (kwd := []) Pr.ob_eq
    (by kernel_rfl) (fun s => by kernel_rfl) Pr.run (by kernel_rfl) (by kernel_rfl) (by kernel_rfl) (by rfl) (by first | assumption | decide +kernel) (by decide +kernel) ⟨rfl, rfl, rfl, rfl, rfl, by decide +kernel⟩ ?hw ?hc
  case hw => w_witness2
  case hc =>
    refine LamX.walk_ofTsE (l := PySem.Challenge.rw_wagehall_k21_papers_of_worth) (n := 63) (k := 10) (x := "script") (CX := fun w => L2.CX PySem.Challenge.rw_wagehall_k21_papers_of_worth.prog w) rfl (by decide) (by kernel_rfl) ⟨rfl, by decide, by decide⟩ ?F (fun w H s e s2 z => ?cx)
    case cx =>
      obtain ⟨_, _, _, _, _, _, _, _, _, _, _, _, z⟩ := z
      exact z
    intro w mg ad h Y G hmg0
    obtain ⟨K, KX, c⟩ := Y
    have hmg : mg ("law" : PySem.Str) = some (.ref ad) := by
      have e : (HandSHeadRun.topDef (OpenLaw.row PySem.Challenge.rw_wagehall_k21_papers_of_worth).prog 34).name = ("law" : PySem.Str) := by kernel_rfl
      rw [← e]
      exact hmg0
    exact ⟨K, KX, Pr.at_law KX G hmg c ok⟩
set_option Elab.async false
set_option linter.all false
set_option maxRecDepth 100000
set_option maxHeartbeats 1000000
/-! DLE: the denotations, evaluated by simp. -/
namespace DL
open PySem PySem.Spec PyProof.Rows L2
theorem bind_congr1 {α β : Type} {o o2 : Out α} {k : α → Store → Out β} (h : o = o2) : o.bind k = o2.bind k := by rw [h]
theorem liftS_congr1 {α : Type} {o o2 : Out α} {ρ : DEnv} {k : α → Store → OutS} (h : o = o2) : liftS o ρ k = liftS o2 ρ k := by rw [h]
def seqS (o : OutS) (g : DS) : OutS := match o with
  | .nx ρ S => g ρ S
  | o => o
theorem seqS_congr1 {o o2 : OutS} {g : DS} (h : o = o2) : seqS o g = seqS o2 g := by rw [h]
@[simp] theorem seqS_nx (ρ : DEnv) (S : Store) (g : DS) : seqS (.nx ρ S) g = g ρ S := rfl
@[simp] theorem seqS_rt (d : D) (S : Store) (g : DS) : seqS (.rt d S) g = .rt d S := rfl
@[simp] theorem seqS_exn (e : Exc) (ρ : DEnv) (S : Store) (g : DS) : seqS (.exn e ρ S) g = .exn e ρ S := rfl
@[simp] theorem seqS_bk (ρ : DEnv) (S : Store) (g : DS) : seqS (.bk ρ S) g = .bk ρ S := rfl
@[simp] theorem seqS_ct (ρ : DEnv) (S : Store) (g : DS) : seqS (.ct ρ S) g = .ct ρ S := rfl
def finS (o : OutS) : Out D := match o with
  | .nx _ S1 => .ok .non S1
  | .rt d S1 => .ok d S1
  | .exn e _ S1 => .exn e S1
  | _ => .bad
@[simp] theorem finS_nx (ρ : DEnv) (S : Store) : finS (.nx ρ S) = .ok .non S := rfl
@[simp] theorem finS_rt (d : D) (S : Store) : finS (.rt d S) = .ok d S := rfl
@[simp] theorem finS_exn (e : Exc) (ρ : DEnv) (S : Store) : finS (.exn e ρ S) = .exn e S := rfl
def asgS (o : OutS) : OutS := match o with
  | .nx ρ S => .nx ρ S
  | .exn e ρ S => .exn e ρ S
  | _ => .bad
@[simp] theorem asgS_nx (ρ : DEnv) (S : Store) : asgS (.nx ρ S) = .nx ρ S := rfl
@[simp] theorem asgS_exn (e : Exc) (ρ : DEnv) (S : Store) : asgS (.exn e ρ S) = .exn e ρ S := rfl
def optV : Option (Option D) → Store → Out D
  | some (some d), S => .ok d S
  | _, _ => .bad
@[simp] theorem optV_some (d : D) (S : Store) : optV (some (some d)) S = .ok d S := rfl
def boolO (x : D) (S : Store) : Out Bool := match x with
  | .bl b => .ok b S
  | _ => .bad
@[simp] theorem boolO_bl (b : Bool) (S : Store) : boolO (.bl b) S = .ok b S := rfl
def fldO (o : Option (String × List (Str × D))) (cs : List String) (f : Str) (S : Store) : Out D := match o with
  | some (c, fs) => if c ∈ cs then (match fs.lookup f with
    | some d => .ok d S
    | none => .bad) else .bad
  | none => .bad
section
variable (ρ : DEnv) (S : Store) (fa fb fc fe fo fi : DE) (ga gb : DT) (fr : DA) (f g : DS)
@[simp] theorem e_runD (n : Nat) (ds : List D) : runD n f ds S = finS (f (startD n ds) S) := rfl
@[simp] theorem e_dVar (i : Nat) : dVar i ρ S = optV ρ[i]? S := by
  unfold dVar optV
  cases h : ρ[i]? with
  | none => rfl
  | some o => cases o <;> rfl
@[simp] theorem e_dC (d : D) : dC d ρ S = .ok d S := rfl
@[simp] theorem e_dOp (o : D2) : dOp o fa fb ρ S = (fa ρ S).bind fun x S1 => (fb ρ S1).bind fun y S2 => optO (o x y S2) := rfl
@[simp] theorem e_dUn (o : D1) : dUn o fa ρ S = (fa ρ S).bind fun x S1 => optO (o x S1) := rfl
@[simp] theorem e_dB : dB fa ρ S = (fa ρ S).bind boolO := rfl
@[simp] theorem e_dAndT : dAndT ga gb ρ S = (ga ρ S).bind fun x S1 => if x = true then gb ρ S1 else .ok false S1 := rfl
@[simp] theorem e_dOrT : dOrT ga gb ρ S = (ga ρ S).bind fun x S1 => if x = true then .ok true S1 else gb ρ S1 := rfl
@[simp] theorem e_dNotT : dNotT ga ρ S = (ga ρ S).bind fun x S1 => .ok (!x) S1 := rfl
@[simp] theorem e_dIf : dIf ga fa fb ρ S = (ga ρ S).bind fun x S1 => if x = true then fa ρ S1 else fb ρ S1 := rfl
@[simp] theorem e_daNil : daNil ρ S = .ok [] S := rfl
@[simp] theorem e_daCons : daCons fa fr ρ S = (fa ρ S).bind fun x S1 => (fr ρ S1).bind fun xs S2 => .ok (x :: xs) S2 := rfl
@[simp] theorem e_dTup : dTup fr ρ S = (fr ρ S).bind fun xs S1 => if xs.length ≤ 1000000 then .ok (.tup xs) S1 else .bad := rfl
@[simp] theorem e_dLst : dLst fr ρ S = (fr ρ S).bind fun xs S1 => if xs.length ≤ 1000000 then .ok (.obj S1.length) (S1 ++ [.lst xs]) else .bad := rfl
@[simp] theorem e_dCall (n : Nat) (F : DF) : dCall n F fr ρ S = (fr ρ S).bind fun ds S1 => if ds.length = n then F ds S1 else .bad := rfl
@[simp] theorem e_dBlt (o : DB) : dBlt o fr ρ S = (fr ρ S).bind fun ds S1 => optO (o ds S1) := rfl
@[simp] theorem e_dNext : dNext ρ S = .nx ρ S := rfl
@[simp] theorem e_dSeq : dSeq f g ρ S = seqS (f ρ S) g := by
  unfold dSeq seqS
  cases f ρ S <;> rfl
@[simp] theorem e_dRaise (c : String) : dRaise c ρ S = .exn ⟨c⟩ ρ S := rfl
@[simp] theorem e_dRet : dRet fe ρ S = liftS (fe ρ S) ρ fun d S1 => .rt d S1 := rfl
@[simp] theorem e_dDrop : dDrop fe ρ S = liftS (fe ρ S) ρ fun _ S1 => .nx ρ S1 := rfl
@[simp] theorem e_dIfS : dIfS ga f g ρ S = liftS (ga ρ S) ρ fun b S1 => if b = true then f ρ S1 else g ρ S1 := rfl
@[simp] theorem e_dAsg (tg : DG) : dAsg fe tg ρ S = liftS (fe ρ S) ρ fun d S1 => asgS (tg d ρ S1) := rfl
@[simp] theorem e_gN (i : Nat) (d : D) : gN i d ρ S = .nx (ρ.set i (some d)) S := rfl
@[simp] theorem e_gsNil : gsNil [] ρ S = .nx ρ S := rfl
@[simp] theorem e_gsCons (g : DG) (gs : DGs) (d : D) (ds : List D) : gsCons g gs (d :: ds) ρ S = seqS (asgS (g d ρ S)) (gs ds) := by
  show (match g d ρ S with
    | .nx ρ1 S1 => gs ds ρ1 S1
    | .exn e ρ1 S1 => .exn e ρ1 S1
    | _ => .bad) = _
  cases h : g d ρ S <;> rfl
def gT_go (o : Option (List D)) (n : Nat) (gs : DGs) (ρ : DEnv) (S : Store) : OutS := match o with
  | some xs => if xs.length = n then gs xs ρ S else .bad
  | none => .bad
@[simp] theorem gT_some (xs : List D) (n : Nat) (gs : DGs) : gT_go (some xs) n gs ρ S = if xs.length = n then gs xs ρ S else .bad := rfl
@[simp] theorem e_gT (n : Nat) (gs : DGs) (d : D) : gT n gs d ρ S = gT_go (seqAt S d) n gs ρ S := rfl
def par2 (i j : Nat) (ρ : DEnv) (ds : List D) (S : Store) : OutS := match ds with
  | [d, e] => .nx ((ρ.set i (some d)).set j (some e)) S
  | _ => .bad
@[simp] theorem par2_two (i j : Nat) (d e : D) : par2 i j ρ [d, e] S = .nx ((ρ.set i (some d)).set j (some e)) S := rfl
@[simp] theorem e_dPar2 (i j : Nat) : dPar2 i j fr ρ S = liftS (fr ρ S) ρ (par2 i j ρ) := rfl
def par3 (i j l : Nat) (ρ : DEnv) (ds : List D) (S : Store) : OutS := match ds with
  | [d, e, g] => .nx (((ρ.set i (some d)).set j (some e)).set l (some g)) S
  | _ => .bad
@[simp] theorem par3_three (i j l : Nat) (d e g : D) : par3 i j l ρ [d, e, g] S = .nx (((ρ.set i (some d)).set j (some e)).set l (some g)) S := rfl
@[simp] theorem e_dPar3 (i j l : Nat) : dPar3 i j l fr ρ S = liftS (fr ρ S) ρ (par3 i j l ρ) := rfl
@[simp] theorem fldO_some (c : String) (fs : List (Str × D)) (cs : List String) (x : Str) : fldO (some (c, fs)) cs x S = if c ∈ cs then (match fs.lookup x with
    | some d => .ok d S
    | none => .bad) else .bad := rfl
@[simp] theorem e_dFld (cs : List String) (x : Str) : dFld cs x fa ρ S = (fa ρ S).bind fun d S1 => fldO (insAt S1 d) cs x S1 := rfl
def methO (c : String) (mt : Str) (n : Nat) (F : DF) (fr : DA) (ρ : DEnv) (S : Store) (x : D) (o : Option (String × List (Str × D))) : Out D := match o with
  | some (c', fs) => if c' = c ∧ fs.lookup mt = none then (fr ρ S).bind fun ds S2 => if ds.length + 1 = n then F (x :: ds) S2 else .bad else .bad
  | none => .bad
@[simp] theorem methO_some (c : String) (mt : Str) (n : Nat) (F : DF) (x : D) (c' : String) (fs : List (Str × D)) : methO c mt n F fr ρ S x (some (c', fs)) = if c' = c ∧ fs.lookup mt = none then (fr ρ S).bind fun ds S2 => if ds.length + 1 = n then F (x :: ds) S2 else .bad else .bad := rfl
@[simp] theorem e_dMeth (c : String) (mt : Str) (n : Nat) (F : DF) : dMeth c mt n F fo fr ρ S = (fo ρ S).bind fun x S1 => methO c mt n F fr ρ S1 x (insAt S1 x) := rfl
def madeO (k : Nat) (r : D) (S : Store) : Out D := match r with
  | .non => .ok (.obj k) S
  | _ => .bad
@[simp] theorem madeO_non (k : Nat) : madeO k .non S = .ok (.obj k) S := rfl
@[simp] theorem e_dMake (c : String) (n : Nat) (F : DF) : dMake c n F fr ρ S = (fr ρ S).bind fun ds S1 => if ds.length + 1 = n then (F (.obj S1.length :: ds) (S1 ++ [.ins c []])).bind (madeO S1.length) else .bad := rfl
def putO (cs : List String) (x : Str) (ρ : DEnv) (S : Store) (d o : D) (q : Option (String × List (Str × D))) : OutS := match o, q with
  | .obj n, some (c, fs) => if c ∈ cs ∧ fs.length < 1000 then .nx ρ (S.set n (.ins c (putD x d fs))) else .bad
  | _, _ => .bad
@[simp] theorem putO_some (cs : List String) (x : Str) (d : D) (n : Nat) (c : String) (fs : List (Str × D)) : putO cs x ρ S d (.obj n) (some (c, fs)) = if c ∈ cs ∧ fs.length < 1000 then .nx ρ (S.set n (.ins c (putD x d fs))) else .bad := rfl
@[simp] theorem e_dPutF (cs : List String) (x : Str) : dPutF cs x fo fe ρ S = liftS (fe ρ S) ρ fun d S1 => liftS (fo ρ S1) ρ fun o S2 => putO cs x ρ S2 d o (insAt S2 o) := rfl
end
/-! ### numbers -/
@[simp] theorem sh_int (i : Int) : SeqAt.shaped (.int i) = true := rfl
@[simp] theorem eqD_int (i j : Int) (S : Store) : eqD (.int i) (.int j) S = some (.bl (decide (i = j)), S) := by
  simp [eqD, D.toPS, D.toP, PyData.eqv]
  cases h : (i == j) <;> simp_all
@[simp] theorem neD_int (i j : Int) (S : Store) : neD (.int i) (.int j) S = some (.bl (!decide (i = j)), S) := by
  simp [neD, D.toPS, D.toP, PyData.eqv]
  cases h : (i == j) <;> simp_all
@[simp] theorem addD_int (i j : Int) (S : Store) : addD (.int i) (.int j) S = some (.int (i + j), S) := rfl
@[simp] theorem subD_int (i j : Int) (S : Store) : subD (.int i) (.int j) S = some (.int (i - j), S) := rfl
@[simp] theorem subD_bl (i j : Bool) (S : Store) : subD (.bl i) (.bl j) S = some (.int (b2 i - b2 j), S) := rfl
@[simp] theorem cmpI_int (p : Int → Int → Bool) (i j : Int) (S : Store) : cmpI p (.int i) (.int j) S = some (.bl (p i j), S) := rfl
@[simp] theorem ixD_tup (xs : List D) (k : Int) (S : Store) : ixD (.tup xs) (.int k) S = (atI xs k).map fun d => (d, S) := rfl
@[simp] theorem negD_int (i : Int) (S : Store) : negD (.int i) S = some (.int (-i), S) := rfl
theorem modD_int {i j : Int} {S : Store} (h : 0 < j) : modD (.int i) (.int j) S = some (.int (i % j), S) := by simp [modD, h]
theorem log2_lt' {a n : Nat} (h : a < 2 ^ n) (hn : 0 < n) : a.log2 < n := by
  by_cases h0 : a = 0
  · subst h0; simpa using hn
  · exact (Nat.log2_lt h0).mpr h
theorem mulD_int {i j : Int} {S : Store} (h1 : i.natAbs < 2 ^ 9000) (h2 : j.natAbs < 2 ^ 9000) : mulD (.int i) (.int j) S = some (.int (i * j), S) := by
  have a := log2_lt' h1 (by decide)
  have b := log2_lt' h2 (by decide)
  exact if_pos (.inr (by omega))
theorem fdivD_int {i j : Int} {S : Store} (h : 0 < j) (h2 : j.natAbs < 2 ^ 9000) : fdivD (.int i) (.int j) S = some (.int (i / j), S) := by
  have b := log2_lt' h2 (by decide)
  exact if_pos ⟨h, b⟩
theorem abs_nat (i : Int) : (if i < 0 then -i else i) = (i.natAbs : Int) := by split <;> omega
@[simp] theorem absD_int (i : Int) (S : Store) : absD [.int i] S = some (.int (i.natAbs : Int), S) := by
  simp only [absD, abs_nat]
@[simp] theorem maxD_int (i j : Int) (S : Store) : maxD [.int i, .int j] S = some (.int (max i j), S) := by
  simp only [maxD]
  congr 3
  split <;> omega
@[simp] theorem minD_int (i j : Int) (S : Store) : minD [.int i, .int j] S = some (.int (min i j), S) := by
  simp only [minD]
  congr 3
  split <;> omega
theorem atI_nat (xs : List D) (j : Nat) : atI xs (j : Int) = xs[j]? := by
  unfold atI ixN
  by_cases h : j < xs.length
  · rw [if_pos (by omega), if_pos (by omega)]; rfl
  · rw [if_pos (by omega), if_neg (by omega), List.getElem?_eq_none (by omega)]; rfl
@[simp] theorem atI_lit (xs : List D) (n : Nat) : atI xs (@OfNat.ofNat Int n instOfNat) = xs[n]? := atI_nat xs n
@[simp] theorem atI_zero (xs : List D) : atI xs 0 = xs[0]? := atI_nat xs 0
@[simp] theorem atI_one (xs : List D) : atI xs 1 = xs[1]? := atI_nat xs 1
end DL
set_option Elab.async false
set_option linter.all false
set_option maxRecDepth 100000
set_option maxHeartbeats 1000000
/-! DLE2: loops, comprehensions, the store, evaluated by simp. -/
namespace DL
open PySem PySem.Spec PyProof.Rows L2
/-! ### for -/
def forK (o : OutS) (k : DS) : OutS := match o with
  | .nx ρ S => k ρ S
  | .ct ρ S => k ρ S
  | .bk ρ S => .nx ρ S
  | o => o
theorem forK_congr1 {o o2 : OutS} {k : DS} (h : o = o2) : forK o k = forK o2 k := by rw [h]
@[simp] theorem forK_nx (ρ : DEnv) (S : Store) (k : DS) : forK (.nx ρ S) k = k ρ S := rfl
@[simp] theorem forK_ct (ρ : DEnv) (S : Store) (k : DS) : forK (.ct ρ S) k = k ρ S := rfl
@[simp] theorem forK_bk (ρ : DEnv) (S : Store) (k : DS) : forK (.bk ρ S) k = .nx ρ S := rfl
@[simp] theorem forK_rt (d : D) (S : Store) (k : DS) : forK (.rt d S) k = .rt d S := rfl
@[simp] theorem forK_exn (e : Exc) (ρ : DEnv) (S : Store) (k : DS) : forK (.exn e ρ S) k = .exn e ρ S := rfl
section
variable (ρ : DEnv) (S : Store) (fa fb fc fe fo : DE) (ga gb : DT) (fr : DA) (f : DS) (tg : DG) (grd : Store → Bool)
@[simp] theorem grdT_eq : grdT S = true := rfl
@[simp] theorem e_dFor (fi : DI) : dFor fi tg f ρ S = liftS (fi ρ S) ρ fun src S1 => forD src.grd tg f src.items ρ S1 := rfl
@[simp] theorem forD_nil : forD grd tg f [] ρ S = if grd S = true then .nx ρ S else .bad := rfl
@[simp] theorem forD_cons (d : D) (ds : List D) : forD grd tg f (d :: ds) ρ S = if grd S = true then forK (seqS (asgS (tg d ρ S)) f) (forD grd tg f ds) else .bad := by
  rw [forD]
  congr 1
  cases tg d ρ S with
  | nx ρ1 S1 =>
    dsimp only [asgS_nx, seqS_nx]
    cases f ρ1 S1 <;> rfl
  | _ => rfl
@[simp] theorem e_diRange1 : diRange1 fe ρ S = (fe ρ S).bind fun d S1 => match d with
  | .int j => if -1000000000000 ≤ j ∧ j ≤ 1000000000000 then .ok ⟨rngD 0 1 j.toNat, grdT⟩ S1 else .bad
  | _ => .bad := rfl
@[simp] theorem e_diRev1 : diRev1 fe ρ S = (fe ρ S).bind fun d S1 => match d with
  | .int j => if -1000000000000 ≤ j ∧ j ≤ 1000000000000 then .ok ⟨rngD (j - 1) (-1) j.toNat, grdT⟩ S1 else .bad
  | _ => .bad := rfl
@[simp] theorem e_diRange2 : diRange2 fa fb ρ S = (fa ρ S).bind fun d S1 => (fb ρ S1).bind fun e S2 => match d, e with
  | .int i, .int j => if (-1000000000000 ≤ i ∧ i ≤ 1000000000000) ∧ -1000000000000 ≤ j ∧ j ≤ 1000000000000 then .ok ⟨rngD i 1 (j - i).toNat, grdT⟩ S2 else .bad
  | _, _ => .bad := rfl
@[simp] theorem e_diSeq : diSeq fe ρ S = (fe ρ S).bind fun d S1 => optO (srcOf d S1) := rfl
@[simp] theorem e_diEnum : diEnum fe ρ S = (fe ρ S).bind fun d S1 => optO (enumOf d S1) := rfl
@[simp] theorem srcOf_tup (xs : List D) : srcOf (.tup xs) S = some (⟨xs, grdT⟩, S) := rfl
@[simp] theorem srcOf_fl (xs : List D) : srcOf (.fl xs) S = some (⟨xs, grdT⟩, S) := rfl
@[simp] theorem srcOf_obj (n : Nat) : srcOf (.obj n) S = (lstAt S n).map fun xs => (⟨xs, grdL n xs⟩, S) := rfl
@[simp] theorem enumOf_tup (xs : List D) : enumOf (.tup xs) S = some (⟨enumL xs, grdT⟩, S) := rfl
@[simp] theorem rngD_zero (lo c : Int) : rngD lo c 0 = [] := rfl
theorem rngD_succ (lo c : Int) (n : Nat) : rngD lo c (n + 1) = .int lo :: rngD (lo + c) c n := by
  unfold rngD
  rw [List.range_succ_eq_map, List.map_cons, List.map_map]
  congr 1
  · simp
  · refine List.map_congr_left fun i _ => ?_
    simp only [Function.comp, D.int.injEq]
    show lo + ((i + 1 : Nat) : Int) * c = lo + c + (i : Int) * c
    rw [Int.natCast_add, Int.add_mul]
    simp; omega
@[simp] theorem rng_1 : rngD 0 1 1 = [.int 0] := rfl
@[simp] theorem rng_2 : rngD 0 1 2 = [.int 0, .int 1] := rfl
@[simp] theorem rng_3 : rngD 0 1 3 = [.int 0, .int 1, .int 2] := rfl
@[simp] theorem rng_4 : rngD 0 1 4 = [.int 0, .int 1, .int 2, .int 3] := rfl
@[simp] theorem rng_5 : rngD 0 1 5 = [.int 0, .int 1, .int 2, .int 3, .int 4] := rfl
@[simp] theorem rev_1 : rngD 0 (-1) 1 = [.int 0] := rfl
@[simp] theorem rev_2 : rngD 1 (-1) 2 = [.int 1, .int 0] := rfl
@[simp] theorem rev_3 : rngD 2 (-1) 3 = [.int 2, .int 1, .int 0] := rfl
@[simp] theorem rev_4 : rngD 3 (-1) 4 = [.int 3, .int 2, .int 1, .int 0] := rfl
/-! ### comprehensions -/
def outU (n : Nat) (k : Store → Out Unit) (y : D) (S : Store) : Out Unit := match lstAt S n with
  | some acc => if acc.length < 1000000 then k (S.set n (.lst (acc ++ [y]))) else .bad
  | none => .bad
theorem outU_some {n : Nat} {k : Store → Out Unit} {y : D} {S : Store} {acc : List D} (h : lstAt S n = some acc) (h2 : acc.length < 1000000) : outU n k y S = k (S.set n (.lst (acc ++ [y]))) := by
  unfold outU
  rw [h]
  exact if_pos h2
/-- what a comprehension's part may end in -/
def lcE {α β : Type} (o : Out α) (k : α → Store → Out β) : Out β := match o with
  | .ok a S => k a S
  | _ => .bad
theorem lcE_congr1 {α β : Type} {o o2 : Out α} {k : α → Store → Out β} (h : o = o2) : lcE o k = lcE o2 k := by rw [h]
@[simp] theorem lcE_ok {α β : Type} (a : α) (S : Store) (k : α → Store → Out β) : lcE (.ok a S) k = k a S := rfl
def lcG {β : Type} (o : OutS) (k : DEnv → Store → Out β) : Out β := match o with
  | .nx ρ S => k ρ S
  | _ => .bad
theorem lcG_congr1 {β : Type} {o o2 : OutS} {k : DEnv → Store → Out β} (h : o = o2) : lcG o k = lcG o2 k := by rw [h]
@[simp] theorem lcG_nx {β : Type} (ρ : DEnv) (S : Store) (k : DEnv → Store → Out β) : lcG (.nx ρ S) k = k ρ S := rfl
@[simp] theorem e_dYes : dYes ρ S = .ok true S := rfl
@[simp] theorem e_dLc (fi : DI) (tt : DT) (vs : List Nat) : dLc fi tg tt fe vs ρ S = (fi ρ S).bind fun src S1 => (lcD src.grd tg tt fe S1.length (wipeD ρ vs) src.items (S1 ++ [.lst []])).bind fun _ S2 => .ok (.obj S1.length) S2 := rfl
@[simp] theorem lcD_nil (tt : DT) (n : Nat) : lcD grd tg tt fe n ρ [] S = if grd S = true then .ok () S else .bad := rfl
@[simp] theorem lcD_cons (tt : DT) (n : Nat) (d : D) (ds : List D) : lcD grd tg tt fe n ρ (d :: ds) S = if grd S = true then lcG (tg d ρ S) (fun ρ1 S1 => lcE (tt ρ1 S1) fun b S2 => if b = true then lcE (fe ρ1 S2) (outU n (lcD grd tg tt fe n ρ ds)) else lcD grd tg tt fe n ρ ds S2) else .bad := by
  rw [lcD]
  congr 1
  cases tg d ρ S with
  | nx ρ1 S1 =>
    dsimp only [lcG_nx]
    cases tt ρ1 S1 with
    | ok b S2 =>
      cases b with
      | true =>
        dsimp only [lcE_ok]
        rw [if_pos rfl]
        cases fe ρ1 S2 <;> rfl
      | false => rfl
    | _ => rfl
  | _ => rfl
@[simp] theorem wipeD_nil : wipeD ρ [] = ρ := rfl
@[simp] theorem wipeD_cons (v : Nat) (vs : List Nat) : wipeD ρ (v :: vs) = (wipeD ρ vs).set v none := rfl
@[simp] theorem e_dLc2 (fi : DI) (tt : DT) (fi1 : DI) (g1 : DG) (tt1 : DT) (vs vs1 : List Nat) : dLc2 fi tg tt fi1 g1 tt1 fe vs vs1 ρ S = (fi ρ S).bind fun src S1 => (lcD2 src.grd tg tt fi1 g1 tt1 fe vs1 S1.length (wipeD ρ vs) src.items (S1 ++ [.lst []])).bind fun _ S2 => .ok (.obj S1.length) S2 := rfl
@[simp] theorem lcD2_nil (tt : DT) (fi1 : DI) (g1 : DG) (tt1 : DT) (vs1 : List Nat) (n : Nat) : lcD2 grd tg tt fi1 g1 tt1 fe vs1 n ρ [] S = if grd S = true then .ok () S else .bad := rfl
@[simp] theorem lcD2_cons (tt : DT) (fi1 : DI) (g1 : DG) (tt1 : DT) (vs1 : List Nat) (n : Nat) (d : D) (ds : List D) : lcD2 grd tg tt fi1 g1 tt1 fe vs1 n ρ (d :: ds) S = if grd S = true then lcG (tg d ρ S) (fun ρ1 S1 => lcE (tt ρ1 S1) fun b S2 => if b = true then lcE (fi1 ρ1 S2) (fun src S3 => (lcD src.grd g1 tt1 fe n (wipeD ρ1 vs1) src.items S3).bind fun _ S4 => lcD2 grd tg tt fi1 g1 tt1 fe vs1 n ρ ds S4) else lcD2 grd tg tt fi1 g1 tt1 fe vs1 n ρ ds S2) else .bad := by
  rw [lcD2]
  congr 1
  cases tg d ρ S with
  | nx ρ1 S1 =>
    dsimp only [lcG_nx]
    cases tt ρ1 S1 with
    | ok b S2 =>
      cases b with
      | true =>
        dsimp only [lcE_ok]
        rw [if_pos rfl]
        cases fi1 ρ1 S2 <;> rfl
      | false => rfl
    | _ => rfl
  | _ => rfl
/-! ### append, slices, augmented -/
def appO (fe : DE) (ρ : DEnv) (n : Nat) (S : Store) : Option (List D) → Out D
  | some _ => (fe ρ S).bind fun d S2 => (match lstAt S2 n with
      | some xs => if xs.length < 1000000 then .ok .non (S2.set n (.lst (xs ++ [d]))) else .bad
      | none => .bad)
  | none => .bad
def app2 (n : Nat) (d : D) (S : Store) : Option (List D) → Out D
  | some xs => if xs.length < 1000000 then .ok .non (S.set n (.lst (xs ++ [d]))) else .bad
  | none => .bad
@[simp] theorem app2_some (n : Nat) (d : D) (xs : List D) : app2 n d S (some xs) = if xs.length < 1000000 then .ok .non (S.set n (.lst (xs ++ [d]))) else .bad := rfl
@[simp] theorem appO_some (n : Nat) (xs : List D) : appO fe ρ n S (some xs) = (fe ρ S).bind fun d S2 => app2 n d S2 (lstAt S2 n) := by
  unfold appO
  congr 1
@[simp] theorem e_dApp : dApp fo fe ρ S = (fo ρ S).bind fun o S1 => match o with
  | .obj n => appO fe ρ n S1 (lstAt S1 n)
  | _ => .bad := by
  unfold dApp
  congr 1
@[simp] theorem e_dSl (fl fh : DP) : dSl fa fl fh ρ S = (fa ρ S).bind fun x S1 => (fl ρ S1).bind fun l S2 => (fh ρ S2).bind fun h S3 => optO (sliceD x l h S3) := rfl
@[simp] theorem e_dpNone : dpNone ρ S = .ok none S := rfl
@[simp] theorem e_dpSome : dpSome fa ρ S = (fa ρ S).bind fun x S1 => match x with
  | .int i => .ok (some i) S1
  | _ => .bad := rfl
def augO (i : Nat) (ρ : DEnv) : Option (D × Store) → OutS
  | some (d, S2) => .nx (ρ.set i (some d)) S2
  | none => .bad
@[simp] theorem augO_some (i : Nat) (d : D) : augO i ρ (some (d, S)) = .nx (ρ.set i (some d)) S := rfl
def augS (i : Nat) (o : D2) (fe : DE) (ρ : DEnv) (S : Store) : Option (Option D) → OutS
  | some (some x) => liftS (fe ρ S) ρ fun y S1 => augO i ρ (o x y S1)
  | _ => .bad
@[simp] theorem augS_some (i : Nat) (o : D2) (x : D) : augS i o fe ρ S (some (some x)) = liftS (fe ρ S) ρ fun y S1 => augO i ρ (o x y S1) := rfl
@[simp] theorem e_dAug (i : Nat) (o : D2) : dAug i o fe ρ S = augS i o fe ρ S ρ[i]? := by
  unfold dAug augS
  cases ρ[i]? with
  | none => rfl
  | some x => cases x with
    | none => rfl
    | some d =>
      dsimp only
      congr 1
end
@[simp] theorem e_tupleD (d : D) (S : Store) : tupleD [d] S = (seqAt S d).map fun xs => (.tup xs, S) := rfl
@[simp] theorem e_listD (d : D) (S : Store) : listD [d] S = (seqAt S d).map fun xs => newO (.lst xs) S := rfl
@[simp] theorem e_lenT (xs : List D) (S : Store) : lenD [.tup xs] S = some (.int xs.length, S) := rfl
@[simp] theorem e_lenO (n : Nat) (S : Store) : lenD [.obj n] S = (lstAt S n).map fun xs => (.int xs.length, S) := rfl
@[simp] theorem e_newO (o : DO) (S : Store) : newO o S = (.obj S.length, S ++ [o]) := rfl
@[simp] theorem e_intD (i : Int) (S : Store) : intD [.int i] S = some (.int i, S) := rfl
@[simp] theorem e_intB (b : Bool) (S : Store) : intD [.bl b] S = some (.int (if b = true then 1 else 0), S) := rfl
/-! ### the store -/
section
variable (S T : Store) (k : Nat)
@[simp] theorem lstAt_cons0 (xs : List D) : lstAt (.lst xs :: T) 0 = some xs := rfl
@[simp] theorem lstAt_consS (o : DO) : lstAt (o :: T) (k + 1) = lstAt T k := rfl
@[simp] theorem lstAt_app : lstAt (S ++ T) (S.length + k) = lstAt T k := by
  unfold lstAt
  rw [List.getElem?_append_right (by omega)]
  simp
@[simp] theorem lstAt_app0 : lstAt (S ++ T) S.length = lstAt T 0 := lstAt_app S T 0
theorem lstAt_old {n : Nat} (h : n < S.length) : lstAt (S ++ T) n = lstAt S n := by
  unfold lstAt
  rw [List.getElem?_append_left h]
theorem lstAt_keep {n : Nat} {xs : List D} (h : lstAt S n = some xs) : lstAt (S ++ T) n = some xs := by
  have hn : n < S.length := by
    by_cases z : n < S.length
    · exact z
    · unfold lstAt at h
      rw [List.getElem?_eq_none (by omega)] at h
      cases h
  rw [lstAt_old S T hn, h]
@[simp] theorem set_app (o : DO) : (S ++ T).set (S.length + k) o = S ++ T.set k o := by
  rw [List.set_append_right _ _ (by omega)]
  simp
@[simp] theorem set_app0 (o : DO) : (S ++ T).set S.length o = S ++ T.set 0 o := set_app S T 0 o
theorem insAt_keep {d : D} {x : String × List (Str × D)} (h : insAt S d = some x) : insAt (S ++ T) d = some x := by
  cases d with
  | obj n =>
    have e : insAt (S ++ T) (.obj n) = insAt S (.obj n) := by
      unfold insAt
      by_cases z : n < S.length
      · dsimp only; rw [List.getElem?_append_left z]
      · exfalso
        unfold insAt at h
        dsimp only at h
        rw [List.getElem?_eq_none (by omega)] at h
        cases h
    rw [e, h]
  | _ => cases h
@[simp] theorem insAt_app : insAt (S ++ T) (.obj (S.length + k)) = insAt T (.obj k) := by
  unfold insAt
  dsimp only
  rw [List.getElem?_append_right (by omega)]
  simp
@[simp] theorem insAt_app0 : insAt (S ++ T) (.obj S.length) = insAt T (.obj 0) := insAt_app S T 0
@[simp] theorem insAt_cons0 (c : String) (fs : List (Str × D)) : insAt (.ins c fs :: T) (.obj 0) = some (c, fs) := rfl
@[simp] theorem insAt_consS (o : DO) : insAt (o :: T) (.obj (k + 1)) = insAt T (.obj k) := rfl
@[simp] theorem seqAt_tup (xs : List D) : seqAt S (.tup xs) = some xs := rfl
@[simp] theorem seqAt_fl (xs : List D) : seqAt S (.fl xs) = some xs := rfl
@[simp] theorem seqAt_obj (n : Nat) : seqAt S (.obj n) = lstAt S n := rfl
end
end DL
set_option Elab.async false
set_option linter.all false
set_option maxRecDepth 100000
set_option maxHeartbeats 1000000
namespace DL
open PySem PySem.Spec PyProof.Rows L2
/-! ### a comprehension whose parts change nothing -/
theorem lcD_map {α : Type} {grd : Store → Bool} {tg : DG} {fe : DE} {ρ : DEnv} {a f : α → D} {S1 : Store} (hg : ∀ X, grd (S1 ++ [.lst X]) = true) : ∀ (xs : List α) (acc : List D), (∀ x ∈ xs, ∀ X, ∃ ρ1, tg (a x) ρ (S1 ++ [.lst X]) = .nx ρ1 (S1 ++ [.lst X]) ∧ fe ρ1 (S1 ++ [.lst X]) = .ok (f x) (S1 ++ [.lst X])) → acc.length + xs.length < 1000000 →
    lcD grd tg dYes fe S1.length ρ (xs.map a) (S1 ++ [.lst acc]) = .ok () (S1 ++ [.lst (acc ++ xs.map f)])
  | [], acc, h, hl => by simp only [List.map_nil, lcD_nil, hg, if_true, List.append_nil]
  | x :: xs, acc, h, hl => by
    obtain ⟨ρ1, h1, h2⟩ := h x List.mem_cons_self acc
    rw [List.length_cons] at hl
    have ih := lcD_map hg xs (acc ++ [f x]) (fun y hy => h y (List.mem_cons_of_mem _ hy)) (by rw [List.length_append, List.length_singleton]; omega)
    have h3 : lstAt (S1 ++ [.lst acc]) S1.length = some acc := by simp
    simp -implicitDefEqProofs only [List.map_cons, lcD_cons, hg, if_true, h1, lcG_nx, e_dYes, lcE_ok, h2]
    rw [outU_some h3 (by omega)]
    simp -implicitDefEqProofs only [set_app0, List.set_cons_zero]
    rw [ih, List.append_assoc, List.singleton_append]
theorem dLc_map {α : Type} {fi : DI} {tg : DG} {fe : DE} {vs : List Nat} {ρ : DEnv} {S S1 : Store} {grd : Store → Bool} (xs : List α) (a f : α → D) (hi : fi ρ S = .ok ⟨xs.map a, grd⟩ S1) (hg : ∀ X, grd (S1 ++ [.lst X]) = true)
    (h : ∀ x ∈ xs, ∀ X, ∃ ρ1, tg (a x) (wipeD ρ vs) (S1 ++ [.lst X]) = .nx ρ1 (S1 ++ [.lst X]) ∧ fe ρ1 (S1 ++ [.lst X]) = .ok (f x) (S1 ++ [.lst X])) (hl : xs.length < 1000000) :
    dLc fi tg dYes fe vs ρ S = .ok (.obj S1.length) (S1 ++ [.lst (xs.map f)]) := by
  rw [e_dLc, hi]
  simp only [Out.bind_ok]
  rw [lcD_map hg xs [] h (by rw [List.length_nil]; omega)]
  simp only [Out.bind_ok, List.nil_append]
/-! ### guards, what a comprehension puts out -/
@[simp] theorem grdL_iff {n : Nat} {xs : List D} {S : Store} : grdL n xs S = true ↔ lstAt S n = some xs := by
  constructor
  · exact grdL_ok
  · intro h
    unfold grdL
    rw [h]
    exact D.beqs_refl xs
def outO (n : Nat) (k : Store → Out Unit) (y : D) (S : Store) : Option (List D) → Out Unit
  | some acc => if acc.length < 1000000 then k (S.set n (.lst (acc ++ [y]))) else .bad
  | none => .bad
@[simp] theorem e_outU (n : Nat) (k : Store → Out Unit) (y : D) (S : Store) : outU n k y S = outO n k y S (lstAt S n) := by
  unfold outU outO
  cases lstAt S n <;> rfl
@[simp] theorem outO_some (n : Nat) (k : Store → Out Unit) (y : D) (S : Store) (acc : List D) : outO n k y S (some acc) = if acc.length < 1000000 then k (S.set n (.lst (acc ++ [y]))) else .bad := rfl
@[simp] theorem addD_tup (xs ys : List D) (S : Store) : addD (.tup xs) (.tup ys) S = if xs.length + ys.length ≤ 1000000 then some (.tup (xs ++ ys), S) else none := rfl
end DL
set_option Elab.async false
set_option linter.all false
set_option maxRecDepth 100000
set_option maxHeartbeats 1000000
namespace DL
open PySem PySem.Spec PyProof.Rows L2
/-! ### told, put at an index -/
theorem told_exn {rs : List String} {cs : List (String × Str)} {f : DE} {ρ : DEnv} {S S1 : Store} {c : String} {t : Str} (h : f ρ S = .exn ⟨c⟩ S1) (hc : c ∈ rs) (hp : pickD cs c = some t) : dTold rs cs f ρ S = .ok (.str t) S1 := by
  unfold dTold
  rw [h]
  dsimp only
  rw [if_pos hc, hp]
theorem told_ok {rs : List String} {cs : List (String × Str)} {f : DE} {ρ : DEnv} {S S1 : Store} {d : D} (h : f ρ S = .ok d S1) : dTold rs cs f ρ S = .ok d S1 := by
  unfold dTold
  rw [h]
def ixPut (d : D) (ρ : DEnv) (n : Nat) (k : Int) (S : Store) : Option (List D) → OutS
  | some xs => (match ixN xs.length k with
    | some j => .nx ρ (S.set n (.lst (xs.set j d)))
    | none => .bad)
  | none => .bad
@[simp] theorem e_gIx (fo fi : DE) (d : D) (ρ : DEnv) (S : Store) : gIx fo fi d ρ S = liftS (fo ρ S) ρ fun o S1 => liftS (fi ρ S1) ρ fun i S2 => match o, i with
  | .obj n, .int k => ixPut d ρ n k S2 (lstAt S2 n)
  | _, _ => .bad := by
  unfold gIx
  congr 1
@[simp] theorem ixPut_some (d : D) (ρ : DEnv) (n : Nat) (k : Int) (S : Store) (xs : List D) : ixPut d ρ n k S (some xs) = (match ixN xs.length k with
    | some j => .nx ρ (S.set n (.lst (xs.set j d)))
    | none => .bad) := rfl
@[simp] theorem e_ixO' (n : Nat) (k : Int) (S : Store) : ixD (.obj n) (.int k) S = ((lstAt S n).bind fun xs => (atI xs k).map fun d => (d, S)) := by
  unfold ixD
  simp only [seqAt_obj]
  cases lstAt S n <;> rfl
/-! ### what stays -/
structure Kp (n : Nat) (S S' : Store) : Prop where
  len : S.length ≤ S'.length
  at_ : ∀ i, i ≠ n → i < S.length → S'[i]? = S[i]?
theorem lt_of_lst {S : Store} {n : Nat} {xs : List D} (h : lstAt S n = some xs) : n < S.length := by
  by_cases z : n < S.length
  · exact z
  · unfold lstAt at h
    rw [List.getElem?_eq_none (by omega)] at h
    cases h
theorem lt_of_ins {S : Store} {n : Nat} {x : String × List (Str × D)} (h : insAt S (.obj n) = some x) : n < S.length := by
  by_cases z : n < S.length
  · exact z
  · unfold insAt at h
    dsimp only at h
    rw [List.getElem?_eq_none (by omega)] at h
    cases h
section
variable {n : Nat} {S S1 S2 T : Store}
theorem Kp.refl : Kp n S S := ⟨Nat.le_refl _, fun _ _ _ => rfl⟩
theorem Kp.trans (a : Kp n S S1) (b : Kp n S1 S2) : Kp n S S2 := ⟨Nat.le_trans a.len b.len, fun i h1 h2 => (b.at_ i h1 (Nat.lt_of_lt_of_le h2 a.len)).trans (a.at_ i h1 h2)⟩
theorem Kp.app : Kp n S (S ++ T) := ⟨by simp, fun i _ h => by rw [List.getElem?_append_left h]⟩
theorem Kp.set {o : DO} : Kp n S (S.set n o) := ⟨by simp, fun i h _ => by rw [List.getElem?_set_ne (Ne.symm h)]⟩
theorem Kp.lst (a : Kp n S S1) {i : Nat} {xs : List D} (hi : i ≠ n) (h : lstAt S i = some xs) : lstAt S1 i = some xs := by
  have := a.at_ i hi (lt_of_lst h)
  unfold lstAt at h ⊢
  rw [this]
  exact h
theorem Kp.ins (a : Kp n S S1) {i : Nat} {x : String × List (Str × D)} (hi : i ≠ n) (h : insAt S (.obj i) = some x) : insAt S1 (.obj i) = some x := by
  have := a.at_ i hi (lt_of_ins h)
  unfold insAt at h ⊢
  dsimp only at h ⊢
  rw [this]
  exact h
theorem lst_set {l acc : List D} (h : lstAt S n = some acc) : lstAt (S.set n (.lst l)) n = some l := by
  unfold lstAt
  rw [List.getElem?_set_self (lt_of_lst h)]
theorem ne_lst_ins {i : Nat} {xs : List D} {x : String × List (Str × D)} (h : lstAt S n = some xs) (q : insAt S (.obj i) = some x) : i ≠ n := by
  rintro rfl
  unfold insAt at q
  unfold lstAt at h
  dsimp only at q
  cases z : S[i]? with
  | none => rw [z] at h; cases h
  | some o => cases o with
    | lst xs => rw [z] at q; cases q
    | ins c fs => rw [z] at h; cases h
end
/-! ### dice -/
def DiceAt (S : Store) (n : Nat) : Prop := ∃ a b f : Int, lstAt S n = some [.int a, .int b, .int f]
theorem DiceAt.app {S T : Store} {n : Nat} (h : DiceAt S n) : DiceAt (S ++ T) n := by
  obtain ⟨a, b, f, h⟩ := h
  exact ⟨a, b, f, lstAt_keep _ _ h⟩
theorem DiceAt.kp {S S1 : Store} {n i : Nat} (h : DiceAt S i) (k : Kp n S S1) (hi : i ≠ n) : DiceAt S1 i := by
  obtain ⟨a, b, f, h⟩ := h
  exact ⟨a, b, f, k.lst hi h⟩
def rollF : DS :=
  (dSeq (dIfS (dOrT (dB (dOp eqD (dOp ixD (dVar 0) (dC (.int 2))) (dC (.int 2)))) (dAndT (dB (dOp eqD (dOp ixD (dVar 0) (dC (.int 2))) (dC (.int 1)))) (dB (dOp gtD (dOp ixD (dVar 0) (dC (.int 0))) (dC (.int 0))))))
  (dSeq (dAsg (dOp modD (dBlt intD (daCons (dOp ixD (dVar 0) (dC (.int 0))) daNil)) (dVar 1)) (gN 2))
  (dSeq (dAsg (dOp fdivD (dOp ixD (dVar 0) (dC (.int 0))) (dVar 1)) (gIx (dVar 0) (dC (.int 0))))
  (dRet (dVar 2))))
  dNext)
  (dSeq (dAsg (dC (.int 0)) (gIx (dVar 0) (dC (.int 2))))
  (dSeq (dAsg (dOp modD (dBlt intD (daCons (dOp addD (dOp addD (dOp mulD (dOp ixD (dVar 0) (dC (.int 0))) (dC (.int 48271))) (dOp mulD (dOp ixD (dVar 0) (dC (.int 1))) (dC (.int 69621)))) (dC (.int 11))) daNil)) (dC (.int 2147483647))) (gIx (dVar 0) (dC (.int 0))))
  (dSeq (dAsg (dOp addD (dOp ixD (dVar 0) (dC (.int 1))) (dC (.int 1))) (gIx (dVar 0) (dC (.int 1))))
  (dRet (dOp modD (dBlt intD (daCons (dOp addD (dOp fdivD (dOp ixD (dVar 0) (dC (.int 0))) (dC (.int 7))) (dOp ixD (dVar 0) (dC (.int 0)))) daNil)) (dVar 1)))))))
theorem mul_small {i j : Int} {S : Store} (h : j.natAbs < 18446744073709551616) : mulD (.int i) (.int j) S = some (.int (i * j), S) := if_pos (.inl (.inr h))
theorem fdiv_small {i j : Int} {S : Store} (h : 0 < j) (h2 : j.natAbs < 18446744073709551616) : fdivD (.int i) (.int j) S = some (.int (i / j), S) := by
  have b := log2_lt' (n := 64) h2 (by decide)
  exact if_pos ⟨h, by omega⟩
@[simp] theorem atI_two (xs : List D) : atI xs 2 = xs[2]? := atI_nat xs 2
@[simp] theorem atI_three (xs : List D) : atI xs 3 = xs[3]? := atI_nat xs 3
@[simp] theorem ixN_30 : ixN 3 0 = some 0 := rfl
@[simp] theorem ixN_31 : ixN 3 1 = some 1 := rfl
@[simp] theorem ixN_32 : ixN 3 2 = some 2 := rfl
theorem set_set {S : Store} {n : Nat} {a b : DO} : (S.set n a).set n b = S.set n b := List.set_set ..
theorem roll_ok {S : Store} {n : Nat} {k : Int} (h : DiceAt S n) (hk : 0 < k) (hk2 : k.natAbs < 18446744073709551616) : ∃ (v : Nat) (S' : Store), (v : Int) < k ∧ runD 3 rollF [.obj n, .int k] S = .ok (.int (v : Int)) S' ∧ Kp n S S' ∧ DiceAt S' n := by
  obtain ⟨a, b, f, h⟩ := h
  have h0 : ∀ (l : List D), lstAt (S.set n (.lst l)) n = some l := fun l => lst_set h
  by_cases c : f = 2 ∨ f = 1 ∧ 0 < a
  · refine ⟨(a % k).toNat, S.set n (.lst [.int (a / k), .int b, .int f]), ?_, ?_, Kp.set, ⟨_, _, _, h0 _⟩⟩
    · have := Int.emod_lt_of_pos a hk
      have := Int.emod_nonneg a (by omega : k ≠ 0)
      omega
    · have e : ((a % k).toNat : Int) = a % k := by have := Int.emod_nonneg a (by omega : k ≠ 0); omega
      rw [e]
      rcases c with c | ⟨c1, c2⟩
      · subst c
        simp -implicitDefEqProofs only [e_runD, rollF]
        simp -implicitDefEqProofs [startD, h, h0, modD_int hk, fdiv_small hk hk2]
      · subst c1
        simp -implicitDefEqProofs only [e_runD, rollF]
        simp -implicitDefEqProofs [startD, h, h0, modD_int hk, fdiv_small hk hk2, c2]
  · have c1 : ¬ f = 2 := fun z => c (.inl z)
    have s1 : (48271 : Int).natAbs < 18446744073709551616 := by decide
    have s2 : (69621 : Int).natAbs < 18446744073709551616 := by decide
    have s3 : (0 : Int) < 2147483647 := by decide
    have s4 : (0 : Int) < 7 := by decide
    have s5 : (7 : Int).natAbs < 18446744073709551616 := by decide
    generalize hx : (a * 48271 + b * 69621 + 11) % 2147483647 = x
    refine ⟨((x / 7 + x) % k).toNat, S.set n (.lst [.int x, .int (b + 1), .int 0]), ?_, ?_, Kp.set, ⟨_, _, _, h0 _⟩⟩
    · have := Int.emod_lt_of_pos (x / 7 + x) hk
      have := Int.emod_nonneg (x / 7 + x) (by omega : k ≠ 0)
      omega
    · have e : (((x / 7 + x) % k).toNat : Int) = (x / 7 + x) % k := by have := Int.emod_nonneg (x / 7 + x) (by omega : k ≠ 0); omega
      rw [e]
      by_cases c2 : f = 1
      · have c3 : ¬ 0 < a := fun z => c (.inr ⟨c2, z⟩)
        subst c2
        simp -implicitDefEqProofs only [e_runD, rollF]
        simp -implicitDefEqProofs [startD, h, h0, modD_int hk, fdiv_small s4 s5, mul_small s1, mul_small s2, modD_int s3, hx, c3, set_set]
      · simp -implicitDefEqProofs only [e_runD, rollF]
        simp -implicitDefEqProofs [startD, h, h0, modD_int hk, fdiv_small s4 s5, mul_small s1, mul_small s2, modD_int s3, hx, c1, c2, set_set]
end DL
set_option Elab.async false
set_option linter.all false
set_option maxRecDepth 100000
set_option maxHeartbeats 1000000
namespace DL
open PySem PySem.Spec PyProof.Rows L2
/-! ### a list of whole numbers, told empty or not -/
theorem toPs_ints : ∀ (cs : List Int), D.toPs (cs.map D.int) = some (cs.map PyData.int)
  | [] => rfl
  | c :: cs => by
    rw [List.map_cons, List.map_cons]
    unfold D.toPs
    rw [toPs_ints cs]
    rfl
theorem lay_ints : ∀ (cs : List Int), PyData.canLayAll0 (cs.map PyData.int) = true
  | [] => rfl
  | c :: cs => by rw [List.map_cons, PyData.canLayAll0, lay_ints cs]; rfl
theorem depth_ints : ∀ (cs : List Int), PyData.depthAll (cs.map PyData.int) = 0
  | [] => rfl
  | c :: cs => by rw [List.map_cons, PyData.depthAll, depth_ints cs]; rfl
theorem shaped_ints (cs : List Int) : SeqAt.shaped (.list (cs.map PyData.int)) = true := by
  unfold SeqAt.shaped
  rw [PyData.canLay0, lay_ints, PyData.depth, depth_ints]
  rfl
theorem eqD_nil {S : Store} {n k : Nat} {cs : List Int} (h : lstAt S n = some (cs.map D.int)) (h2 : lstAt S k = some []) : eqD (.obj n) (.obj k) S = some (.bl (decide (cs = [])), S) := by
  unfold eqD D.toPS
  dsimp only
  rw [h, h2]
  dsimp only
  rw [toPs_ints]
  show (if SeqAt.shaped (.list (cs.map PyData.int)) = true ∧ SeqAt.shaped (.list []) = true then some (D.bl (PyData.eqv (.list (cs.map PyData.int)) (.list [])), S) else none) = _
  rw [if_pos ⟨shaped_ints cs, shaped_ints []⟩]
  cases cs <;> rfl
def diceF : DS :=
  (dSeq (dIfS (dB (dChain ltD ltD (dOp subD (dC (.int 0)) (dC (.int 10))) (dVar 0) (dC (.int 10))))
  (dRet (dLst (daCons (dBlt absD (daCons (dVar 0) daNil)) (daCons (dC (.int 0)) (daCons (dC (.int 2)) daNil)))))
  dNext)
  (dRet (dLst (daCons (dVar 0) (daCons (dOp addD (dC (.int 1)) (dOp modD (dBlt intD (daCons (dVar 0) daNil)) (dC (.int 1009)))) (daCons (dBlt intD (daCons (dOp geD (dVar 0) (dOp powD (dC (.int 10)) (dC (.int 18)))) daNil)) daNil))))))
theorem dice_ok (c : Int) (S : Store) : ∃ x y z : Int, runD 1 diceF [.int c] S = .ok (.obj S.length) (S ++ [.lst [.int x, .int y, .int z]]) := by
  by_cases h : -10 < c ∧ c < 10
  · refine ⟨c.natAbs, 0, 2, ?_⟩
    simp -implicitDefEqProofs [diceF, startD, dChain, h.1, h.2]
  · have hp : powD (.int 10) (.int 18) S = some (.int (10 ^ 18), S) := rfl
    have hm : modD (.int c) (.int 1009) S = some (.int (c % 1009), S) := modD_int (by decide)
    refine ⟨c, 1 + c % 1009, if 10 ^ 18 ≤ c then 1 else 0, ?_⟩
    by_cases h1 : -10 < c
    · have h2 : ¬ c < 10 := fun z => h ⟨h1, z⟩
      simp -implicitDefEqProofs only [diceF, e_runD]
      simp -implicitDefEqProofs [startD, dChain, h1, h2, hp, hm]
    · simp -implicitDefEqProofs only [diceF, e_runD]
      simp -implicitDefEqProofs [startD, dChain, h1, hp, hm]
def DiceO : DO → Prop
  | .lst [.int _, .int _, .int _] => True
  | _ => False
theorem DiceO.at {S : Store} {n : Nat} {o : DO} (h : DiceO o) (e : S[n]? = some o) : DiceAt S n := by
  unfold DiceO at h
  split at h
  · rename_i a b c
    exact ⟨a, b, c, by unfold lstAt; rw [e]⟩
  · exact h.elim
def roundsF (M : DF) : DS :=
  (dSeq (dAsg (dSl (dVar 0) dpNone (dpSome (dVar 1))) (gN 2))
  (dSeq (dIfS (dB (dOp eqD (dVar 2) (dLst daNil)))
  (dAsg (dLst (daCons (dC (.int 0)) daNil)) (gN 2))
  dNext)
  (dRet (dLc (diSeq (dVar 2)) (gN 3) dYes (dCall 1 M (daCons (dVar 3) daNil)) [3]))))
def objsFrom (k n : Nat) : List D := (List.range' k n).map D.obj
theorem objs_succ (k n : Nat) : objsFrom k (n + 1) = .obj k :: objsFrom (k + 1) n := by simp [objsFrom, List.range'_succ]
theorem rounds_lc {S1 : Store} {q : Nat} {cs0 : List Int} {o0 o1 o2 o3 : Option D} (hq : lstAt S1 q = some (cs0.map D.int)) : ∀ (cs : List Int) (acc : List D) (ds : List DO), acc.length + cs.length < 1000000 → ∃ es : List DO, es.length = cs.length ∧ (∀ e ∈ es, DiceO e) ∧
    lcD (grdL q (cs0.map D.int)) (gN 3) dYes (dCall 1 (runD 1 diceF) (daCons (dVar 3) daNil)) S1.length [o0, o1, o2, o3] (cs.map D.int) (S1 ++ .lst acc :: ds) = .ok () (S1 ++ .lst (acc ++ objsFrom (S1.length + 1 + ds.length) cs.length) :: (ds ++ es)) := by
  intro cs
  induction cs with
  | nil =>
    intro acc ds hl
    refine ⟨[], rfl, (fun _ h => nomatch h), ?_⟩
    simp [objsFrom, lstAt_keep _ _ hq]
  | cons c cs ih =>
    intro acc ds hl
    rw [List.length_cons] at hl
    obtain ⟨x, y, z, e⟩ := dice_ok c (S1 ++ .lst acc :: ds)
    obtain ⟨es, h1, h2, h3⟩ := ih (acc ++ [.obj (S1.length + 1 + ds.length)]) (ds ++ [.lst [.int x, .int y, .int z]]) (by rw [List.length_append, List.length_singleton]; omega)
    refine ⟨.lst [.int x, .int y, .int z] :: es, by simp [h1], ?_, ?_⟩
    · intro e he
      rcases List.mem_cons.mp he with rfl | he
      · trivial
      · exact h2 e he
    · have el : (S1 ++ .lst acc :: ds).length = S1.length + 1 + ds.length := by simp; omega
      rw [el] at e
      have hl2 : acc.length < 1000000 := by omega
      have hg : lstAt (S1 ++ .lst acc :: ds) q = some (cs0.map D.int) := lstAt_keep _ _ hq
      rw [List.map_cons, lcD_cons, if_pos (grdL_iff.mpr hg)]
      simp -implicitDefEqProofs only [e_gN, lcG_nx, e_dYes, lcE_ok, e_dCall, e_daCons, e_dVar, e_daNil]
      simp -implicitDefEqProofs [-e_runD, e, hl2]
      rw [show S1 ++ DO.lst (acc ++ [D.obj (S1.length + 1 + ds.length)]) :: (ds ++ [DO.lst [D.int x, D.int y, D.int z]]) = S1 ++ DO.lst (acc ++ [D.obj (S1.length + 1 + ds.length)]) :: (ds ++ [DO.lst [D.int x, D.int y, D.int z]]) from rfl, h3]
      simp [objs_succ, Nat.add_assoc]
theorem rounds_ok {ns : List Int} {d : D} {S : Store} (hs : ScriptAt ns d S) (k : Nat) (hk : 1 ≤ k) (hk2 : k ≤ 1000) : ∃ (j n : Nat) (S1 : Store) (es : List DO), 1 ≤ n ∧ n ≤ k ∧ es.length = n ∧ S1.length = j ∧ (∀ e ∈ es, DiceO e) ∧ runD 4 (roundsF (runD 1 diceF)) [d, .int (k : Int)] S = .ok (.obj j) (S1 ++ .lst (objsFrom (j + 1) n) :: es) := by
  have cut : ∀ xs : List D, cutD xs none (some (k : Int)) = xs.take k := by
    intro xs
    unfold cutD
    rw [HT.sIx_nat, HT.sIx_none]
    simp
  have sl : sliceD d none (some (k : Int)) S = some (.obj S.length, S ++ [.lst ((ns.take k).map D.int)]) := by
    rcases hs with ⟨rfl, rfl⟩ | ⟨rfl, rfl⟩
    · unfold sliceD
      dsimp only
      rw [cut, ← List.map_take]
      rfl
    · unfold sliceD
      dsimp only
      rw [show lstAt [DO.lst (ns.map D.int)] 0 = some (ns.map D.int) from rfl, Option.map_some, cut, ← List.map_take]
      rfl
  have e1 := eqD_nil (S := S ++ [.lst ((ns.take k).map D.int), .lst []]) (n := S.length) (k := S.length + 1) (cs := ns.take k) (by simp) (by simp)
  by_cases z : ns.take k = []
  · obtain ⟨es, h1, h2, h3⟩ := rounds_lc (S1 := S ++ [.lst ((ns.take k).map D.int), .lst [], .lst [.int 0]]) (q := S.length + 2) (cs0 := [0]) (o0 := some d) (o1 := some (.int (k : Int))) (o2 := some (.obj (S.length + 2))) (o3 := none) (by simp) [0] [] [] (by simp)
    refine ⟨S.length + 3, 1, S ++ [.lst ((ns.take k).map D.int), .lst [], .lst [.int 0]], es, by omega, hk, h1, by simp, h2, ?_⟩
    simp -implicitDefEqProofs only [roundsF, e_runD, startD]
    rw [z] at e1 sl h3 ⊢
    simp at e1 sl
    simp [-e_runD] at h3
    simp -implicitDefEqProofs [-e_runD, sl, e1, h3]
  · obtain ⟨es, h1, h2, h3⟩ := rounds_lc (S1 := S ++ [.lst ((ns.take k).map D.int), .lst []]) (q := S.length) (cs0 := ns.take k) (o0 := some d) (o1 := some (.int (k : Int))) (o2 := some (.obj S.length)) (o3 := none) (by simp) (ns.take k) [] [] (by have := List.length_take_le k ns; simp; omega)
    refine ⟨S.length + 2, (ns.take k).length, S ++ [.lst ((ns.take k).map D.int), .lst []], es, ?_, List.length_take_le k ns, h1, by simp, h2, ?_⟩
    · have := List.length_pos_iff.mpr z
      omega
    · simp -implicitDefEqProofs only [roundsF, e_runD, startD]
      generalize ns.take k = cs at *
      simp [z] at e1
      simp [-e_runD] at h3
      simp -implicitDefEqProofs [-e_runD, sl, e1, h3, z]
end DL
set_option Elab.async false
set_option linter.all false
set_option maxRecDepth 100000
set_option maxHeartbeats 1000000
namespace DL
open PySem PySem.Spec PyProof.Rows L2
theorem rounds_loop {body : DS} {all : List D} {j i N : Nat} (hb : ∀ (ρ : DEnv) (S : Store) (k : Nat), ρ.length = N → DiceAt S k → ∃ ρ' S', ρ'.length = N ∧ body (ρ.set i (some (.obj k))) S = .nx ρ' S' ∧ Kp k S S' ∧ DiceAt S' k) :
    ∀ (m k : Nat) (ρ : DEnv) (S : Store), ρ.length = N → lstAt S j = some all → j < k → (∀ x, k ≤ x → x < k + m → DiceAt S x) → ∃ ρ' S', ρ'.length = N ∧ forD (grdL j all) (gN i) body (objsFrom k m) ρ S = .nx ρ' S' := by
  intro m
  induction m with
  | zero =>
    intro k ρ S hN hj hk hd
    exact ⟨ρ, S, hN, by simp [objsFrom, hj]⟩
  | succ m ih =>
    intro k ρ S hN hj hk hd
    obtain ⟨ρ', S', h1, h2, h3, h4⟩ := hb ρ S k hN (hd k (Nat.le_refl _) (by omega))
    obtain ⟨ρ2, S2, q1, q2⟩ := ih (k + 1) ρ' S' h1 (h3.lst (by omega) hj) (by omega) (fun x hx hx2 => (hd x (by omega) (by omega)).kp h3 (by omega))
    refine ⟨ρ2, S2, q1, ?_⟩
    rw [objs_succ, forD_cons, if_pos (grdL_iff.mpr hj)]
    simp -implicitDefEqProofs only [e_gN, asgS_nx, seqS_nx, h2, forK_nx]
    exact q2
theorem law_rounds {body : DS} {N : Nat} {k : Nat} (hN : 2 ≤ N) (hk : 1 ≤ k) (hk2 : k ≤ 1000) (hb : ∀ (ρ : DEnv) (S : Store) (n : Nat), ρ.length = N → DiceAt S n → ∃ ρ' S', ρ'.length = N ∧ body (ρ.set 1 (some (.obj n))) S = .nx ρ' S' ∧ Kp n S S' ∧ DiceAt S' n)
    {ns : List Int} {d : D} {S : Store} (hs : ScriptAt ns d S) :
    ∃ S2, runD N (dSeq (dFor (diSeq (dCall 2 (runD 4 (roundsF (runD 1 diceF))) (daCons (dVar 0) (daCons (dC (.int (k : Int))) daNil)))) (gN 1) body) (dRet (dC (.bl true)))) [d] S = .ok (.bl true) S2 := by
  obtain ⟨j, n, S1, es, h1, h2, h3, h4, h5, h6⟩ := rounds_ok hs k hk hk2
  have hl : lstAt (S1 ++ .lst (objsFrom (j + 1) n) :: es) j = some (objsFrom (j + 1) n) := by rw [← h4, lstAt_app0]; rfl
  obtain ⟨ρ', S', q1, q2⟩ := rounds_loop (all := objsFrom (j + 1) n) (j := j) hb n (j + 1) (startD N [d]) (S1 ++ .lst (objsFrom (j + 1) n) :: es) (by simp [startD]; omega) hl (by omega) (fun x hx hx2 => by
    have e : (S1 ++ .lst (objsFrom (j + 1) n) :: es)[x]? = es[x - (j + 1)]? := by
      rw [List.getElem?_append_right (by omega), h4]
      rw [show x - j = (x - (j + 1)) + 1 from by omega, List.getElem?_cons_succ]
    have hx3 : x - (j + 1) < es.length := by omega
    rw [List.getElem?_eq_getElem hx3] at e
    exact DiceO.at (h5 _ (List.getElem_mem hx3)) e)
  refine ⟨S', ?_⟩
  have e0 : (startD N [d])[0]? = some (some d) := by
    unfold startD
    simp
  rw [e_runD, e_dSeq, e_dFor, e_diSeq, e_dCall, e_daCons, e_dVar, e0]
  simp -implicitDefEqProofs only [optV_some, Out.bind_ok, e_daCons, e_dC, e_daNil, List.length_cons, List.length_nil, if_true, Nat.reduceAdd, h6, srcOf_obj, hl, Option.map_some, optO_some, liftS_ok, q2, seqS_nx, e_dRet, finS_rt]
end DL
set_option Elab.async false
set_option linter.all false
set_option maxRecDepth 100000
set_option maxHeartbeats 1000000
namespace Pr
open PySem PySem.Spec PyProof.Rows L2 DL
def pt (q : Rat) : D := .tup [.int q.num, .int q.den]
/-! ### the loop of Euclid -/
theorem gcd_loop {e : Nat} : ∀ (n a b : Nat) (x y : Option D) (rest : List (Option D)) (S : Store), b ≤ a → a * b < 2 ^ n →
    ∃ z, whileD (dB (dOp neD (dVar 3) (dC (.int 0)))) (dPar2 2 3 (daCons (dVar 3) (daCons (dOp modD (dVar 2) (dVar 3)) daNil))) (n + 1 + e) (x :: y :: some (.int (a : Int)) :: some (.int (b : Int)) :: rest) S
      = .nx (x :: y :: some (.int (Nat.gcd a b : Int)) :: some (.int z) :: rest) S := by
  intro n
  induction n with
  | zero =>
    intro a b x y rest S h h2
    have : b = 0 := by
      cases b with
      | zero => rfl
      | succ b => exfalso; have : 1 * 1 ≤ a * (b + 1) := Nat.mul_le_mul (by omega) (by omega); omega
    subst this
    rw [show 0 + 1 + e = e + 1 from by omega]
    exact ⟨0, by simp [whileD]⟩
  | succ n ih =>
    intro a b x y rest S h h2
    rw [show n + 1 + 1 + e = (n + 1 + e) + 1 from by omega]
    by_cases hb : b = 0
    · subst hb
      exact ⟨0, by simp [whileD]⟩
    · have hr := Nat.mod_lt a (Nat.pos_of_ne_zero hb)
      have h3 : 2 * (a % b) ≤ a := by
        have h5 := Nat.div_add_mod a b
        have h6 : 1 ≤ a / b := Nat.div_pos h (Nat.pos_of_ne_zero hb)
        have h7 : b * 1 ≤ b * (a / b) := Nat.mul_le_mul_left b h6
        omega
      have h4 : b * (a % b) < 2 ^ n := by
        have h5 : b * (2 * (a % b)) ≤ b * a := Nat.mul_le_mul_left b h3
        rw [Nat.mul_comm b a] at h5
        rw [Nat.pow_succ] at h2
        have h6 : b * (2 * (a % b)) = 2 * (b * (a % b)) := by rw [← Nat.mul_assoc, Nat.mul_comm b 2, Nat.mul_assoc]
        omega
      obtain ⟨z, hz⟩ := ih b (a % b) x y rest S (Nat.le_of_lt hr) h4
      refine ⟨z, ?_⟩
      have e1 : Nat.gcd b (a % b) = Nat.gcd a b := by rw [Nat.gcd_comm b, Nat.gcd_comm a b]; exact (Nat.gcd_rec b a).symm
      rw [e1] at hz
      have p : 0 < b := by omega
      rw [whileD]
      simp [hb, modD, p]
      exact hz
theorem gcd_any {a b : Nat} {x y : Option D} {rest : List (Option D)} {S : Store} (h : a * b < 2 ^ 20000) :
    ∃ z, whileD (dB (dOp neD (dVar 3) (dC (.int 0)))) (dPar2 2 3 (daCons (dVar 3) (daCons (dOp modD (dVar 2) (dVar 3)) daNil))) fuel (x :: y :: some (.int (a : Int)) :: some (.int (b : Int)) :: rest) S
      = .nx (x :: y :: some (.int (Nat.gcd a b : Int)) :: some (.int z) :: rest) S := by
  by_cases hab : b ≤ a
  · rw [show fuel = 20000 + 1 + 979999 from rfl]
    exact gcd_loop 20000 a b x y rest S hab h
  · rw [show fuel = (20000 + 1 + 979998) + 1 from rfl]
    obtain ⟨z, hz⟩ := gcd_loop (e := 979998) 20000 b a x y rest S (by omega) (by rw [Nat.mul_comm]; exact h)
    refine ⟨z, ?_⟩
    rw [whileD]
    have p : 0 < b := by omega
    have p2 : b ≠ 0 := by omega
    have e2 : (a : Int) % (b : Int) = (a : Int) := Int.emod_eq_of_lt (by omega) (by omega)
    rw [Nat.gcd_comm] at hz
    simp [p2, modD, p, e2]
    exact hz
theorem M_part_ok {t b : Int} (hb : b ≠ 0) (h1 : t.natAbs < 2 ^ 9000) (h2 : b.natAbs < 2 ^ 9000) (S : Store) : M_part [.int t, .int b] S = .ok (pt (Rat.divInt t b)) S := by
  have hm : t.natAbs * b.natAbs < 2 ^ 20000 := by
    have := Nat.mul_le_mul (Nat.le_of_lt h1) (Nat.le_of_lt h2)
    rw [← Nat.pow_add] at this
    exact Nat.lt_of_le_of_lt this (Nat.pow_lt_pow_right (by decide) (by decide))
  obtain ⟨z, hz⟩ := gcd_any (x := some (.int t)) (y := some (.int b)) (rest := [none]) (S := S) hm
  have hg : 0 < Nat.gcd t.natAbs b.natAbs := Nat.gcd_pos_of_pos_right _ (by omega)
  have hg2 : Nat.gcd t.natAbs b.natAbs < 2 ^ 9000 := Nat.lt_of_le_of_lt (Nat.gcd_le_right _ (by omega)) h2
  have hmax : (if (1 : Int) > (Nat.gcd t.natAbs b.natAbs : Int) then (1 : Int) else (Nat.gcd t.natAbs b.natAbs : Int)) = (Nat.gcd t.natAbs b.natAbs : Int) := by
    rw [if_neg (by omega)]
  have q1 : (Rat.divInt t b).num = (b.sign * t) / (Nat.gcd t.natAbs b.natAbs : Int) := by
    rw [Rat.num_divInt]; congr 2; rw [Int.gcd, Nat.gcd_comm]
  have q2 : ((Rat.divInt t b).den : Int) = (b.natAbs : Int) / (Nat.gcd t.natAbs b.natAbs : Int) := by
    rw [Rat.den_divInt, if_neg hb, Int.gcd, Nat.gcd_comm]; simp
  have sg : (if 0 < b then (1 : Int) else -1) = b.sign := by
    by_cases p : 0 < b
    · rw [if_pos p, Int.sign_eq_one_of_pos p]
    · rw [if_neg p, Int.sign_eq_neg_one_of_neg (by omega)]
  have t1 : (b.sign).natAbs < 2 ^ 9000 := by
    have h1 := Int.natAbs_sign_of_ne_zero hb
    rw [h1]
    exact Nat.one_lt_two_pow (by decide)
  have hg3 : ((Nat.gcd t.natAbs b.natAbs : Int)).natAbs < 2 ^ 9000 := hg2
  have hmx : max (Nat.gcd t.natAbs b.natAbs : Int) 1 = (Nat.gcd t.natAbs b.natAbs : Int) := by omega
  simp only [M_part, e_runD, f_part]
  simp [startD, hb, hz, hmx]
  have e9 : (if 0 < b then Out.ok (D.int 1) S else Out.ok (D.int (-1)) S) = Out.ok (D.int b.sign) S := by
    rw [← sg]; split <;> rfl
  have hg4 : (0 : Int) < (Nat.gcd t.natAbs b.natAbs : Int) := by omega
  rw [e9]
  simp [hmx, mulD_int t1 h1, fdivD_int hg4 hg3, pt, q1, q2]
/-! ### sizes -/
def Sz (n : Nat) (q : Rat) : Prop := q.num.natAbs < 2 ^ n ∧ q.den < 2 ^ n
theorem Sz.up {n m : Nat} {q : Rat} (h : Sz n q) (k : n ≤ m) : Sz m q := ⟨Nat.lt_of_lt_of_le h.1 (Nat.pow_le_pow_right (by decide) k), Nat.lt_of_lt_of_le h.2 (Nat.pow_le_pow_right (by decide) k)⟩
theorem mul_lt_pow {a b m n : Nat} (h1 : a < 2 ^ m) (h2 : b < 2 ^ n) : a * b < 2 ^ (m + n) := by
  rw [Nat.pow_add]
  by_cases h : a = 0
  · subst h; rw [Nat.zero_mul]; exact Nat.mul_pos (Nat.two_pow_pos m) (Nat.two_pow_pos n)
  · exact Nat.mul_lt_mul_of_lt_of_le h1 (Nat.le_of_lt h2) (Nat.two_pow_pos n)
theorem divInt_sz {t b : Int} {n : Nat} (hb : b ≠ 0) (h1 : t.natAbs < 2 ^ n) (h2 : b.natAbs < 2 ^ n) : Sz n (Rat.divInt t b) := by
  refine ⟨?_, ?_⟩
  · rw [Rat.num_divInt]
    have h3 : (b.sign * t / (b.gcd t : Int)).natAbs ≤ (b.sign * t).natAbs := by
      rw [Int.natAbs_ediv_of_dvd]
      · exact Nat.div_le_self _ _
      · exact Int.dvd_trans (Int.gcd_dvd_right b t) (Int.dvd_mul_left _ _)
    rw [Int.natAbs_mul, Int.natAbs_sign_of_ne_zero hb, Nat.one_mul] at h3
    omega
  · rw [Rat.den_divInt, if_neg hb]
    exact Nat.lt_of_le_of_lt (Nat.div_le_self _ _) h2
theorem lt_up {a m n : Nat} (h : a < 2 ^ m) (k : m ≤ n) : a < 2 ^ n := Nat.lt_of_lt_of_le h (Nat.pow_le_pow_right (by decide) k)
section
variable {q r : Rat} {m n : Nat}
theorem mulA (h1 : q.num.natAbs < 2 ^ m) (h2 : r.den < 2 ^ n) : (q.num * (r.den : Int)).natAbs < 2 ^ (m + n) := by
  rw [Int.natAbs_mul]; exact mul_lt_pow h1 h2
theorem add_b (h1 : Sz m q) (h2 : Sz n r) : (q.num * (r.den : Int) + r.num * (q.den : Int)).natAbs < 2 ^ (m + n + 1) := by
  have a := mulA (q := q) (r := r) h1.1 h2.2
  have b := mulA (q := r) (r := q) h2.1 h1.2
  rw [Nat.add_comm n m] at b
  rw [Nat.pow_succ]
  omega
theorem sub_b (h1 : Sz m q) (h2 : Sz n r) : (q.num * (r.den : Int) - r.num * (q.den : Int)).natAbs < 2 ^ (m + n + 1) := by
  have a := mulA (q := q) (r := r) h1.1 h2.2
  have b := mulA (q := r) (r := q) h2.1 h1.2
  rw [Nat.add_comm n m] at b
  rw [Nat.pow_succ]
  omega
theorem den_b (h1 : Sz m q) (h2 : Sz n r) : ((q.den : Int) * (r.den : Int)).natAbs < 2 ^ (m + n) := by
  rw [Int.natAbs_mul]; exact mul_lt_pow h1.2 h2.2
theorem num_b (h1 : Sz m q) (h2 : Sz n r) : (q.num * r.num).natAbs < 2 ^ (m + n) := by
  rw [Int.natAbs_mul]; exact mul_lt_pow h1.1 h2.1
theorem den_ne : (q.den : Int) * (r.den : Int) ≠ 0 := Int.mul_ne_zero (by have := q.den_nz; omega) (by have := r.den_nz; omega)
theorem add_di : q + r = Rat.divInt (q.num * (r.den : Int) + r.num * (q.den : Int)) ((q.den : Int) * (r.den : Int)) := by
  rw [Rat.add_def', ← Int.natCast_mul, Rat.divInt_ofNat]
theorem sub_di : q - r = Rat.divInt (q.num * (r.den : Int) - r.num * (q.den : Int)) ((q.den : Int) * (r.den : Int)) := by
  rw [Rat.sub_def', ← Int.natCast_mul, Rat.divInt_ofNat]
theorem mul_di : q * r = Rat.divInt (q.num * r.num) ((q.den : Int) * (r.den : Int)) := by
  rw [Rat.mul_def', ← Int.natCast_mul, Rat.divInt_ofNat]
theorem div_di : q / r = Rat.divInt (q.num * (r.den : Int)) ((q.den : Int) * r.num) := by
  rw [Rat.div_def, Rat.inv_def]
  conv => lhs; rw [← Rat.num_divInt_den q]
  rw [Rat.divInt_mul_divInt]
theorem Sz.add (h1 : Sz m q) (h2 : Sz n r) : Sz (m + n + 1) (q + r) := by
  rw [add_di]; exact divInt_sz den_ne (add_b h1 h2) (lt_up (den_b h1 h2) (by omega))
theorem Sz.sub (h1 : Sz m q) (h2 : Sz n r) : Sz (m + n + 1) (q - r) := by
  rw [sub_di]; exact divInt_sz den_ne (sub_b h1 h2) (lt_up (den_b h1 h2) (by omega))
theorem Sz.mul (h1 : Sz m q) (h2 : Sz n r) : Sz (m + n) (q * r) := by
  rw [mul_di]; exact divInt_sz den_ne (num_b h1 h2) (den_b h1 h2)
theorem Sz.div (h1 : Sz m q) (h2 : Sz n r) (h : r ≠ 0) : Sz (m + n) (q / r) := by
  rw [div_di]
  have hr : r.num ≠ 0 := fun z => h (Rat.num_eq_zero.mp z)
  refine divInt_sz (Int.mul_ne_zero (by have := q.den_nz; omega) hr) (mulA h1.1 h2.2) ?_
  rw [Int.mul_comm, Nat.add_comm]
  exact mulA h2.1 h1.2
theorem M_add_ok (h1 : Sz 4000 q) (h2 : Sz 4000 r) (S : Store) : M_add [pt q, pt r] S = .ok (pt (q + r)) S := by
  have a1 := lt_up (n := 9000) h1.1 (by decide)
  have a2 : ((q.den : Int)).natAbs < 2 ^ 9000 := lt_up (n := 9000) h1.2 (by decide)
  have a3 := lt_up (n := 9000) h2.1 (by decide)
  have a4 : ((r.den : Int)).natAbs < 2 ^ 9000 := lt_up (n := 9000) h2.2 (by decide)
  have b1 := M_part_ok (t := q.num * (r.den : Int) + r.num * (q.den : Int)) den_ne (lt_up (add_b h1 h2) (by decide)) (lt_up (den_b h1 h2) (by decide)) S
  rw [← add_di] at b1
  simp [M_add, f_add, startD, pt, mulD_int a1 a4, mulD_int a3 a2, mulD_int a2 a4]
  rw [b1]; rfl
theorem M_less_ok (h1 : Sz 4000 q) (h2 : Sz 4000 r) (S : Store) : M_less [pt q, pt r] S = .ok (pt (q - r)) S := by
  have a1 := lt_up (n := 9000) h1.1 (by decide)
  have a2 : ((q.den : Int)).natAbs < 2 ^ 9000 := lt_up (n := 9000) h1.2 (by decide)
  have a3 := lt_up (n := 9000) h2.1 (by decide)
  have a4 : ((r.den : Int)).natAbs < 2 ^ 9000 := lt_up (n := 9000) h2.2 (by decide)
  have b1 := M_part_ok (t := q.num * (r.den : Int) - r.num * (q.den : Int)) den_ne (lt_up (sub_b h1 h2) (by decide)) (lt_up (den_b h1 h2) (by decide)) S
  rw [← sub_di] at b1
  simp [M_less, f_less, startD, pt, mulD_int a1 a4, mulD_int a3 a2, mulD_int a2 a4]
  rw [b1]; rfl
theorem M_times_ok (h1 : Sz 4000 q) (h2 : Sz 4000 r) (S : Store) : M_times [pt q, pt r] S = .ok (pt (q * r)) S := by
  have a1 := lt_up (n := 9000) h1.1 (by decide)
  have a2 : ((q.den : Int)).natAbs < 2 ^ 9000 := lt_up (n := 9000) h1.2 (by decide)
  have a3 := lt_up (n := 9000) h2.1 (by decide)
  have a4 : ((r.den : Int)).natAbs < 2 ^ 9000 := lt_up (n := 9000) h2.2 (by decide)
  have b1 := M_part_ok (t := q.num * r.num) den_ne (lt_up (num_b h1 h2) (by decide)) (lt_up (den_b h1 h2) (by decide)) S
  rw [← mul_di] at b1
  simp [M_times, f_times, startD, pt, mulD_int a1 a3, mulD_int a2 a4]
  rw [b1]; rfl
theorem M_over_ok (h1 : Sz 4000 q) (h2 : Sz 4000 r) (h : r ≠ 0) (S : Store) : M_over [pt q, pt r] S = .ok (pt (q / r)) S := by
  have a1 := lt_up (n := 9000) h1.1 (by decide)
  have a2 : ((q.den : Int)).natAbs < 2 ^ 9000 := lt_up (n := 9000) h1.2 (by decide)
  have a3 := lt_up (n := 9000) h2.1 (by decide)
  have a4 : ((r.den : Int)).natAbs < 2 ^ 9000 := lt_up (n := 9000) h2.2 (by decide)
  have hr : r.num ≠ 0 := fun z => h (Rat.num_eq_zero.mp z)
  have c1 : ((q.den : Int) * r.num).natAbs < 2 ^ (4000 + 4000) := by rw [Int.mul_comm]; exact mulA h2.1 h1.2
  have b1 := M_part_ok (t := q.num * (r.den : Int)) (b := (q.den : Int) * r.num) (Int.mul_ne_zero (by have := q.den_nz; omega) hr) (lt_up (mulA h1.1 h2.2) (by decide)) (lt_up c1 (by decide)) S
  rw [← div_di] at b1
  simp [M_over, f_over, startD, pt, mulD_int a1 a4, mulD_int a2 a3]
  rw [b1]; rfl
def cmpQ (q r : Rat) : Int := if q < r then -1 else if q = r then 0 else 1
theorem M_order_ok (h1 : Sz 4000 q) (h2 : Sz 4000 r) (S : Store) : M_order [pt q, pt r] S = .ok (.int (cmpQ q r)) S := by
  have a1 := lt_up (n := 9000) h1.1 (by decide)
  have a2 : ((q.den : Int)).natAbs < 2 ^ 9000 := lt_up (n := 9000) h1.2 (by decide)
  have a3 := lt_up (n := 9000) h2.1 (by decide)
  have a4 : ((r.den : Int)).natAbs < 2 ^ 9000 := lt_up (n := 9000) h2.2 (by decide)
  simp [M_order, f_order, startD, pt, mulD_int a1 a4, mulD_int a3 a2, b2, cmpQ]
  have e1 := Rat.lt_iff q r
  have e2 := @Rat.eq_iff_mul_eq_mul q r
  by_cases p : q < r
  · have p1 := e1.mp p
    rw [if_pos p, if_neg (by omega), if_pos (by omega)]; rfl
  · have p1 : ¬ q.num * (r.den : Int) < r.num * (q.den : Int) := fun z => p (e1.mpr z)
    rw [if_neg p]
    by_cases p2 : q = r
    · have p3 := e2.mp p2
      rw [if_pos p2, if_neg (by omega), if_neg (by omega)]; rfl
    · have p3 : ¬ q.num * (r.den : Int) = r.num * (q.den : Int) := fun z => p2 (e2.mpr z)
      rw [if_neg p2, if_pos (by omega), if_neg (by omega)]; rfl
theorem pt_inj : pt q = pt r ↔ q = r := by
  constructor
  · intro h
    simp only [pt, D.tup.injEq, List.cons.injEq, D.int.injEq, and_true] at h
    exact Rat.ext h.1 (by omega)
  · rintro rfl; rfl
theorem eqv_pt : PyData.eqv (.tuple [.int q.num, .int q.den]) (.tuple [.int r.num, .int r.den]) = decide (q = r) := by
  have e : PyData.eqv (.tuple [.int q.num, .int q.den]) (.tuple [.int r.num, .int r.den]) = (decide (q.num = r.num) && decide ((q.den : Int) = (r.den : Int))) := by
    simp [PyData.eqv, PyData.eqvAll, Bool.beq_eq_decide_eq]
  rw [e]
  by_cases h : q = r
  · subst h; simp
  · rw [decide_eq_false h]
    cases z : (decide (q.num = r.num) && decide ((q.den : Int) = (r.den : Int))) with
    | false => rfl
    | true =>
      simp at z
      exact absurd (Rat.ext z.1 (by omega)) h
@[simp] theorem eqD_pt (S : Store) : eqD (pt q) (pt r) S = some (.bl (decide (q = r)), S) := by
  unfold eqD
  simp only [pt, D.toPS, D.toP, D.toPs, Option.map_some]
  rw [if_pos ⟨rfl, rfl⟩, eqv_pt]
@[simp] theorem neD_pt (S : Store) : neD (pt q) (pt r) S = some (.bl (!decide (q = r)), S) := by
  unfold neD
  simp only [pt, D.toPS, D.toP, D.toPs, Option.map_some]
  rw [if_pos ⟨rfl, rfl⟩, eqv_pt]
end
end Pr
set_option Elab.async false
set_option linter.all false
set_option maxRecDepth 100000
set_option maxHeartbeats 1000000
namespace Pr
open PySem PySem.Spec PyProof.Rows L2 DL
/-! ### whole numbers as parts -/
theorem tup_int (k : Int) : D.tup [.int k, .int 1] = pt (k : Rat) := rfl
@[simp] theorem ix0_pt (q : Rat) (S : Store) : ixD (pt q) (.int 0) S = some (.int q.num, S) := by simp [pt]
@[simp] theorem ix1_pt (q : Rat) (S : Store) : ixD (pt q) (.int 1) S = some (.int q.den, S) := by simp [pt]
theorem sz_int {k : Int} {n : Nat} (h : k.natAbs < 2 ^ (n + 1)) : Sz (n + 1) (k : Rat) := ⟨h, by
  show 1 < 2 ^ (n + 1)
  exact Nat.one_lt_two_pow (by omega)⟩
theorem num_pos {q : Rat} : 0 < q.num ↔ 0 < q := by
  rw [Rat.lt_iff]; simp
def maxQ (q : Rat) : Rat := if 0 < q then q else 0
def paidQ (p k : Rat) (b : Bool) : Rat := maxQ (if b = true then p - k else k - p)
theorem M_paid_ok {p : Rat} {k : Int} {b : Bool} (h1 : Sz 3900 p) (h2 : k.natAbs < 2 ^ 50) (S : Store) : M_paid [pt p, .int k, .bl b] S = .ok (pt (paidQ p k b)) S := by
  have a1 : Sz 4000 p := h1.up (by decide)
  have a2 : Sz 4000 (k : Rat) := (sz_int (n := 49) h2).up (by decide)
  have b1 := M_less_ok a1 a2 S
  have b2 := M_less_ok a2 a1 S
  cases b with
  | true =>
    by_cases h : 0 < p - (k : Rat)
    · have h3 := num_pos.mpr h
      simp [M_paid, f_paid, startD, tup_int, b1, h3, paidQ, maxQ, h]
    · have h3 : ¬ 0 < (p - (k : Rat)).num := fun z => h (num_pos.mp z)
      simp [M_paid, f_paid, startD, tup_int, b1, h3, paidQ, maxQ, h]
  | false =>
    by_cases h : 0 < (k : Rat) - p
    · have h3 := num_pos.mpr h
      simp [M_paid, f_paid, startD, tup_int, b2, h3, paidQ, maxQ, h]
    · have h3 : ¬ 0 < ((k : Rat) - p).num := fun z => h (num_pos.mp z)
      simp [M_paid, f_paid, startD, tup_int, b2, h3, paidQ, maxQ, h]
/-! ### the tree -/
def treeFs (P : Int) (u d g : Rat) (m : Int) : List (Str × D) := [(("price" : Str), .int P), (("up" : Str), pt u), (("down" : Str), pt d), (("growth" : Str), pt g), (("many" : Str), .int m)]
structure TreeAt (S : Store) (n : Nat) (P : Int) (u d g : Rat) (m : Int) : Prop where
  at_ : insAt S (.obj n) = some ("Tree", treeFs P u d g m)
section
variable {P : Int} {u d g : Rat} {m : Int}
@[simp] theorem tf_price : (treeFs P u d g m).lookup ("price" : Str) = some (.int P) := rfl
@[simp] theorem tf_up : (treeFs P u d g m).lookup ("up" : Str) = some (pt u) := rfl
@[simp] theorem tf_down : (treeFs P u d g m).lookup ("down" : Str) = some (pt d) := rfl
@[simp] theorem tf_growth : (treeFs P u d g m).lookup ("growth" : Str) = some (pt g) := rfl
@[simp] theorem tf_many : (treeFs P u d g m).lookup ("many" : Str) = some (.int m) := rfl
@[simp] theorem tf_weight : (treeFs P u d g m).lookup ("weight" : Str) = none := rfl
@[simp] theorem tf_prices : (treeFs P u d g m).lookup ("prices" : Str) = none := rfl
@[simp] theorem tf_right : (treeFs P u d g m).lookup ("right" : Str) = none := rfl
@[simp] theorem tf_held : (treeFs P u d g m).lookup ("held" : Str) = none := rfl
@[simp] theorem tf_after : (treeFs P u d g m).lookup ("after" : Str) = none := rfl
@[simp] theorem tf_by_ways : (treeFs P u d g m).lookup ("by_ways" : Str) = none := rfl
end
theorem TreeAt.keep {S T : Store} {n : Nat} {P : Int} {u d g : Rat} {m : Int} (h : TreeAt S n P u d g m) : TreeAt (S ++ T) n P u d g m := ⟨insAt_keep S T h.at_⟩
section
variable {S : Store} {n : Nat} {P m : Int} {u d g : Rat}
def wQ (u d g : Rat) : Rat := (g - d) / (u - d)
theorem M_weight_ok (h : TreeAt S n P u d g m) (hu : Sz 30 u) (hd : Sz 30 d) (hg : Sz 30 g) (hne : u - d ≠ 0) : M_Tree_weight [.obj n] S = .ok (pt (wQ u d g)) S := by
  have a1 : Sz 4000 u := hu.up (by decide)
  have a2 : Sz 4000 d := hd.up (by decide)
  have a3 : Sz 4000 g := hg.up (by decide)
  have a4 : Sz 4000 (g - d) := (hg.sub hd).up (by decide)
  have a5 : Sz 4000 (u - d) := (hu.sub hd).up (by decide)
  simp [M_Tree_weight, f_Tree_weight, startD, h.at_, M_less_ok, M_over_ok, a1, a2, a3, a4, a5, hne, wQ]
theorem TreeAt.more (h : TreeAt S n P u d g m) (T : Store) : insAt (S ++ T) (.obj n) = some ("Tree", treeFs P u d g m) := insAt_keep S T h.at_
def prs (P u d : Rat) : Nat → List Rat
  | 0 => [P]
  | 1 => [P * d, P * u]
  | 2 => [P * d * d, P * u * d, P * u * u]
  | _ => [P * d * d * d, P * u * d * d, P * u * u * d, P * u * u * u]
theorem M_prices_ok (h : TreeAt S n P u d g m) (hP : P.natAbs < 2 ^ 30) (hu : Sz 30 u) (hd : Sz 30 d) (hg : Sz 30 g) (t : Nat) (ht : t ≤ 3) : M_Tree_prices [.obj n, .int t] S = .ok (.tup ((prs P u d t).map pt)) (S ++ [.lst ((prs P u d t).map pt)]) := by
  have a0 : Sz 30 (P : Rat) := sz_int (n := 29) hP
  have b0 : Sz 4000 (P : Rat) := a0.up (by decide)
  have a1 : Sz 4000 u := hu.up (by decide)
  have a2 : Sz 4000 d := hd.up (by decide)
  have c1 := a0.mul hu
  have c2 := a0.mul hd
  have c3 := c1.mul hu
  have c4 := c1.mul hd
  have c5 := c2.mul hd
  have d1 := c1.up (m := 4000) (by decide)
  have d2 := c2.up (m := 4000) (by decide)
  have d3 := c3.up (m := 4000) (by decide)
  have d4 := c4.up (m := 4000) (by decide)
  have d5 := c5.up (m := 4000) (by decide)
  match t, ht with
  | 0, _ => simp [M_Tree_prices, f_Tree_prices, startD, h.at_, h.more, M_times_ok, a1, a2, b0, tup_int, prs]
  | 1, _ => simp [M_Tree_prices, f_Tree_prices, startD, h.at_, h.more, M_times_ok, a1, a2, b0, tup_int, prs, d1, d2, d3, d4, d5]
  | 2, _ => simp [M_Tree_prices, f_Tree_prices, startD, h.at_, h.more, M_times_ok, a1, a2, b0, tup_int, prs, d1, d2, d3, d4, d5]
  | 3, _ => simp [M_Tree_prices, f_Tree_prices, startD, h.at_, h.more, M_times_ok, a1, a2, b0, tup_int, prs, d1, d2, d3, d4, d5]
end
end Pr
set_option Elab.async false
set_option linter.all false
set_option maxRecDepth 100000
set_option maxHeartbeats 4000000
namespace Pr
open PySem PySem.Spec PyProof.Rows L2 DL
/-- the size of a part -/
def bits (q : Rat) : Nat := max (q.num.natAbs.log2 + 1) (q.den.log2 + 1)
theorem lt_log2 (a : Nat) : a < 2 ^ (a.log2 + 1) := Nat.lt_log2_self
theorem sz_bits {q : Rat} {n : Nat} (h : bits q ≤ n) : Sz n q := by
  have := Nat.le_max_left (q.num.natAbs.log2 + 1) (q.den.log2 + 1)
  have := Nat.le_max_right (q.num.natAbs.log2 + 1) (q.den.log2 + 1)
  unfold bits at h
  exact ⟨lt_up (lt_log2 _) (by omega), lt_up (lt_log2 _) (by omega)⟩
theorem bits_sz {q : Rat} {n : Nat} (h : Sz (n + 1) q) : bits q ≤ n + 1 := by
  have a := log2_lt' h.1 (by omega)
  have b := log2_lt' h.2 (by omega)
  unfold bits
  omega
theorem bits_pos (q : Rat) : 1 ≤ bits q := by unfold bits; omega
theorem bits_add (q r : Rat) : bits (q + r) ≤ bits q + bits r + 1 := bits_sz (Sz.add (sz_bits (Nat.le_refl _)) (sz_bits (Nat.le_refl _)))
theorem bits_sub (q r : Rat) : bits (q - r) ≤ bits q + bits r + 1 := bits_sz (Sz.sub (sz_bits (Nat.le_refl _)) (sz_bits (Nat.le_refl _)))
theorem bits_mul (q r : Rat) : bits (q * r) ≤ bits q + bits r := by
  have h := bits_pos q
  obtain ⟨k, e⟩ : ∃ k, bits q + bits r = k + 1 := ⟨bits q + bits r - 1, by omega⟩
  have z := Sz.mul (sz_bits (Nat.le_refl (bits q))) (sz_bits (Nat.le_refl (bits r)))
  rw [e] at z ⊢
  exact bits_sz z
theorem bits_div (q r : Rat) : bits (q / r) ≤ bits q + bits r := by
  by_cases h0 : r = 0
  · subst h0
    have : q / 0 = 0 := by rw [Rat.div_def]; simp
    rw [this]
    have h := bits_pos q
    have h2 : bits 0 = 1 := by decide
    omega
  · have h := bits_pos q
    obtain ⟨k, e⟩ : ∃ k, bits q + bits r = k + 1 := ⟨bits q + bits r - 1, by omega⟩
    have z := Sz.div (sz_bits (Nat.le_refl (bits q))) (sz_bits (Nat.le_refl (bits r))) h0
    rw [e] at z ⊢
    exact bits_sz z
theorem bits_ite (c : Prop) [Decidable c] (q r : Rat) : bits (if c then q else r) ≤ bits q + bits r := by
  split <;> omega
theorem bits_int {k : Int} {n : Nat} (h : k.natAbs < 2 ^ (n + 1)) : bits (k : Rat) ≤ n + 1 := bits_sz (sz_int h)
theorem bits_one : bits 1 = 1 := by decide
theorem bits_zero : bits 0 = 1 := by decide
theorem bits_max (q : Rat) : bits (maxQ q) ≤ bits q + 1 := by
  unfold maxQ
  split
  · omega
  · rw [bits_zero]; omega
theorem bits_paid (p k : Rat) (b : Bool) : bits (paidQ p k b) ≤ bits p + bits k + 2 := by
  unfold paidQ
  have := bits_max (if b = true then p - k else k - p)
  have := bits_sub p k
  have := bits_sub k p
  cases b <;> simp_all <;> omega
section
variable {q r : Rat} {S : Store}
theorem B_add (h1 : bits q ≤ 4000) (h2 : bits r ≤ 4000) : M_add [pt q, pt r] S = .ok (pt (q + r)) S := M_add_ok (sz_bits h1) (sz_bits h2) S
theorem B_less (h1 : bits q ≤ 4000) (h2 : bits r ≤ 4000) : M_less [pt q, pt r] S = .ok (pt (q - r)) S := M_less_ok (sz_bits h1) (sz_bits h2) S
theorem B_times (h1 : bits q ≤ 4000) (h2 : bits r ≤ 4000) : M_times [pt q, pt r] S = .ok (pt (q * r)) S := M_times_ok (sz_bits h1) (sz_bits h2) S
theorem B_over (h1 : bits q ≤ 4000) (h2 : bits r ≤ 4000) (h : r ≠ 0) : M_over [pt q, pt r] S = .ok (pt (q / r)) S := M_over_ok (sz_bits h1) (sz_bits h2) h S
theorem B_order (h1 : bits q ≤ 4000) (h2 : bits r ≤ 4000) : M_order [pt q, pt r] S = .ok (.int (cmpQ q r)) S := M_order_ok (sz_bits h1) (sz_bits h2) S
theorem B_paid {k : Int} {b : Bool} (h1 : bits q ≤ 3900) (h2 : k.natAbs < 2 ^ 50) : M_paid [pt q, .int k, .bl b] S = .ok (pt (paidQ q k b)) S := M_paid_ok (sz_bits h1) h2 S
end
theorem ite_ok {α : Type} (c : Prop) [Decidable c] (a b : α) (S : Store) : (if c then Out.ok a S else Out.ok b S) = Out.ok (if c then a else b) S := by split <;> rfl
theorem ite_pt (c : Prop) [Decidable c] (q r : Rat) : (if c then pt q else pt r) = pt (if c then q else r) := by split <;> rfl
example (u d g : Rat) (h : bits u ≤ 30) (h2 : bits d ≤ 30) : bits (u * d + (1 - u) * (d / u)) ≤ 4000 := by grind [bits_add, bits_sub, bits_mul, bits_div, bits_one]
end Pr
set_option Elab.async false
set_option linter.all false
set_option maxRecDepth 100000
set_option maxHeartbeats 1000000
namespace Pr
open PySem PySem.Spec PyProof.Rows L2 DL
structure BLe (q : Rat) (n : Nat) : Prop where
  le : bits q ≤ n
section
variable {q r : Rat} {m n k : Nat} {S : Store}
theorem BLe.fin (h : BLe q n) (e : Nat.ble n k = true) : BLe q k := ⟨Nat.le_trans h.le (Nat.le_of_ble_eq_true e)⟩
theorem BLe.mul (h1 : BLe q m) (h2 : BLe r n) : BLe (q * r) (m + n) := ⟨by have := bits_mul q r; have := h1.le; have := h2.le; omega⟩
theorem BLe.div (h1 : BLe q m) (h2 : BLe r n) : BLe (q / r) (m + n) := ⟨by have := bits_div q r; have := h1.le; have := h2.le; omega⟩
theorem BLe.add (h1 : BLe q m) (h2 : BLe r n) : BLe (q + r) (m + n + 1) := ⟨by have := bits_add q r; have := h1.le; have := h2.le; omega⟩
theorem BLe.sub (h1 : BLe q m) (h2 : BLe r n) : BLe (q - r) (m + n + 1) := ⟨by have := bits_sub q r; have := h1.le; have := h2.le; omega⟩
theorem BLe.paid {b : Bool} (h1 : BLe q m) (h2 : BLe r n) : BLe (paidQ q r b) (m + n + 2) := ⟨by have := bits_paid q r b; have := h1.le; have := h2.le; omega⟩
theorem BLe.ite {c : Prop} [Decidable c] (h1 : BLe q m) (h2 : BLe r n) : BLe (if c then q else r) (m + n) := ⟨by have := bits_ite c q r; have := h1.le; have := h2.le; omega⟩
theorem BLe.one : BLe 1 1 := ⟨by decide⟩
theorem BLe.zero : BLe 0 1 := ⟨by decide⟩
theorem C_add (h1 : BLe q 4000) (h2 : BLe r 4000) : M_add [pt q, pt r] S = .ok (pt (q + r)) S := B_add h1.le h2.le
theorem C_less (h1 : BLe q 4000) (h2 : BLe r 4000) : M_less [pt q, pt r] S = .ok (pt (q - r)) S := B_less h1.le h2.le
theorem C_times (h1 : BLe q 4000) (h2 : BLe r 4000) : M_times [pt q, pt r] S = .ok (pt (q * r)) S := B_times h1.le h2.le
theorem C_over (h1 : BLe q 4000) (h2 : BLe r 4000) (h : r ≠ 0) : M_over [pt q, pt r] S = .ok (pt (q / r)) S := B_over h1.le h2.le h
theorem C_order (h1 : BLe q 4000) (h2 : BLe r 4000) : M_order [pt q, pt r] S = .ok (.int (cmpQ q r)) S := B_order h1.le h2.le
theorem C_paid {k : Int} {b : Bool} (h1 : BLe q 3900) (h2 : k.natAbs < 2 ^ 50) : M_paid [pt q, .int k, .bl b] S = .ok (pt (paidQ q k b)) S := B_paid h1.le h2
end
example (u d g : Rat) (h : BLe u 30) (h2 : BLe d 30) : BLe (u * d + (1 - u) * (d / u)) 4000 := by
  refine BLe.fin (by repeat (with_reducible (first | assumption | exact BLe.one | apply BLe.mul | apply BLe.add | apply BLe.sub | apply BLe.div | apply BLe.paid))) rfl
end Pr
set_option Elab.async false
set_option linter.all false
set_option maxRecDepth 100000
set_option maxHeartbeats 1000000
namespace Pr
open PySem PySem.Spec PyProof.Rows L2 DL
def meanQ (w g a b : Rat) : Rat := (w * b + (1 - w) * a) / g
def nodeQ (any : Bool) (now one : Rat) : Rat := if any = true ∧ 0 < cmpQ now one then now else one
def stepQ (w g K : Rat) (buy any : Bool) : List Rat → List Rat → List Rat
  | p :: ps, a :: b :: row => nodeQ any (paidQ p K buy) (meanQ w g a b) :: stepQ w g K buy any ps (b :: row)
  | _, _ => []
def backQ (ps : Nat → List Rat) (w g K : Rat) (buy any : Bool) : Nat → List Rat → List Rat
  | 0, row => row
  | t + 1, row => backQ ps w g K buy any t (stepQ w g K buy any (ps t) row)
def bodyR : DS :=
  (dSeq (dAsg (dCall 2 M_add (daCons (dCall 2 M_times (daCons (dVar 4) (daCons (dOp ixD (dVar 5) (dOp addD (dVar 8) (dC (.int 1)))) daNil))) (daCons (dCall 2 M_times (daCons (dCall 2 M_less (daCons (dTup (daCons (dC (.int 1)) (daCons (dC (.int 1)) daNil))) (daCons (dVar 4) daNil))) (daCons (dOp ixD (dVar 5) (dVar 8)) daNil))) daNil))) (gN 10))
  (dSeq (dAsg (dCall 2 M_over (daCons (dVar 10) (daCons (dFld ["Tree"] "growth" (dVar 0)) daNil))) (gN 11))
  (dSeq (dAsg (dCall 3 M_paid (daCons (dVar 9) (daCons (dVar 1) (daCons (dVar 2) daNil)))) (gN 12))
  (dDrop (dApp (dVar 7) (dIf (dAndT (dB (dVar 3)) (dB (dOp gtD (dCall 2 M_order (daCons (dVar 12) (daCons (dVar 11) daNil))) (dC (.int 0))))) (dVar 12) (dVar 11)))))))
theorem one_pt : D.tup [.int 1, .int 1] = pt 1 := rfl
@[simp] theorem e_ixO (n : Nat) (k : Int) (S : Store) : ixD (.obj n) (.int k) S = ((lstAt S n).bind fun xs => (atI xs k).map fun d => (d, S)) := by
  unfold ixD
  simp only [seqAt_obj]
  cases lstAt S n <;> rfl
theorem bodyR_ok {S : Store} {n r f k : Nat} {P K m : Int} {u d g w p a b : Rat} {any buy : Bool} {row acc : List D} {o6 o10 o11 o12 : Option D} (h : TreeAt S n P u d g m) (hK : K.natAbs < 2 ^ 50) (hr : lstAt S r = some row) (hf : lstAt S f = some acc) (hl : acc.length < 1000000)
    (ha : row[k]? = some (pt a)) (hb : row[k + 1]? = some (pt b)) (jw : BLe w 40) (ja : BLe a 1800) (jb : BLe b 1800) (jg : BLe g 10) (jp : BLe p 1000) (jK : BLe (K : Rat) 51) (g0 : g ≠ 0) :
    bodyR [some (.obj n), some (.int K), some (.bl buy), some (.bl any), some (pt w), some (.obj r), o6, some (.obj f), some (.int k), some (pt p), o10, o11, o12] S
      = .nx [some (.obj n), some (.int K), some (.bl buy), some (.bl any), some (pt w), some (.obj r), o6, some (.obj f), some (.int k), some (pt p), some (pt (w * b + (1 - w) * a)), some (pt (meanQ w g a b)), some (pt (paidQ p K buy))] (S.set f (.lst (acc ++ [pt (nodeQ any (paidQ p K buy) (meanQ w g a b))]))) := by
  have c1 : BLe w 4000 := jw.fin rfl
  have c2 : BLe a 4000 := ja.fin rfl
  have c3 : BLe b 4000 := jb.fin rfl
  have c4 : BLe g 4000 := jg.fin rfl
  have c5 : BLe p 3900 := jp.fin rfl
  have d1 := jw.mul jb
  have d2 := BLe.one.sub jw
  have d3 := d2.mul ja
  have d4 := d1.add d3
  have d5 := d4.div jg
  have d6 := jp.paid (b := buy) jK
  have f1 : BLe (w * b) 4000 := d1.fin rfl
  have f2 : BLe (1 - w) 4000 := d2.fin rfl
  have f3 : BLe ((1 - w) * a) 4000 := d3.fin rfl
  have f4 : BLe (w * b + (1 - w) * a) 4000 := d4.fin rfl
  have f5 : BLe (meanQ w g a b) 4000 := d5.fin rfl
  have f6 : BLe (paidQ p K buy) 4000 := d6.fin rfl
  have f7 : BLe 1 4000 := BLe.one.fin rfl
  have hb2 : atI row ((k : Int) + 1) = some (pt b) := by
    have := DL.atI_nat row (k + 1)
    rw [hb] at this
    exact this
  have ha2 : atI row (k : Int) = some (pt a) := by rw [DL.atI_nat, ha]
  have e5 : (w * b + (1 - w) * a) / g = meanQ w g a b := rfl
  cases any with
  | false =>
    simp [bodyR, hr, hf, hl, ha2, hb2, one_pt, C_add, C_times, C_less, C_over, C_paid, h.at_, c1, c2, c3, c4, c5, f1, f2, f3, f4, f7, g0, hK, e5, nodeQ]
  | true =>
    by_cases z : 0 < cmpQ (paidQ p K buy) (meanQ w g a b)
    · simp [bodyR, hr, hf, hl, ha2, hb2, one_pt, C_add, C_times, C_less, C_over, C_paid, C_order, h.at_, c1, c2, c3, c4, c5, f1, f2, f3, f4, f5, f6, f7, g0, hK, e5, nodeQ, z]
    · simp [bodyR, hr, hf, hl, ha2, hb2, one_pt, C_add, C_times, C_less, C_over, C_paid, C_order, h.at_, c1, c2, c3, c4, c5, f1, f2, f3, f4, f5, f6, f7, g0, hK, e5, nodeQ, z]
end Pr
set_option Elab.async false
set_option linter.all false
set_option maxRecDepth 100000
set_option maxHeartbeats 1000000
namespace Pr
open PySem PySem.Spec PyProof.Rows L2 DL
def enumK (k : Nat) : List Rat → List D
  | [] => []
  | p :: ps => .tup [.int (k : Int), pt p] :: enumK (k + 1) ps
theorem enumK_len (ps : List Rat) : ∀ k, (enumK k ps).length = ps.length := by
  induction ps with
  | nil => intro k; rfl
  | cons p ps ih => intro k; simp [enumK, ih]
theorem enumK_at (ps : List Rat) : ∀ (k i : Nat), (enumK k ps)[i]? = ps[i]?.map fun p => D.tup [.int ((k + i : Nat) : Int), pt p] := by
  induction ps with
  | nil => intro k i; simp [enumK]
  | cons p ps ih =>
    intro k i
    cases i with
    | zero => simp [enumK]
    | succ i => simp only [enumK, List.getElem?_cons_succ, ih]; congr 2; funext p; congr 4; omega
theorem enumL_pt (ps : List Rat) : enumL (ps.map pt) = enumK 0 ps := by
  refine List.ext_getElem? fun i => ?_
  rw [enumK_at]
  by_cases h : i < ps.length
  · rw [enumL_at (by simpa using h)]
    simp [h]
  · rw [List.getElem?_eq_none (by rw [enumL_len]; simpa using h), List.getElem?_eq_none (by omega)]; rfl
theorem lstAt_set {S : Store} {f : Nat} {l acc : List D} (h : lstAt S f = some acc) : lstAt (S.set f (.lst l)) f = some l := by
  have hn : f < S.length := by
    by_cases z : f < S.length
    · exact z
    · unfold lstAt at h
      rw [List.getElem?_eq_none (by omega)] at h
      cases h
  unfold lstAt
  rw [List.getElem?_set_self hn]
theorem lstAt_ne {S : Store} {f r : Nat} {o : DO} (h : f ≠ r) : lstAt (S.set f o) r = lstAt S r := by
  unfold lstAt
  rw [List.getElem?_set_ne h]
theorem insAt_set {S : Store} {f n : Nat} {l acc : List D} {x : String × List (Str × D)} (hf : lstAt S f = some acc) (h : insAt S (.obj n) = some x) : insAt (S.set f (.lst l)) (.obj n) = some x := by
  have hne : f ≠ n := by
    rintro rfl
    unfold insAt at h
    unfold lstAt at hf
    dsimp only at h
    cases z : S[f]? with
    | none => rw [z] at h; cases h
    | some o => cases o with
      | lst xs => rw [z] at h; cases h
      | ins c fs => rw [z] at hf; cases hf
  unfold insAt at h ⊢
  dsimp only at h ⊢
  rw [List.getElem?_set_ne hne]
  exact h
theorem innerR {n r f : Nat} {P K m : Int} {u d g w : Rat} {any buy : Bool} {row : List Rat} {o6 : Option D} (hK : K.natAbs < 2 ^ 50) (hrf : f ≠ r) (jw : BLe w 40) (jg : BLe g 10) (jK : BLe (K : Rat) 51) (g0 : g ≠ 0) (jr : ∀ x ∈ row, BLe x 1800) (hrl : row.length < 1000) :
    ∀ (ps : List Rat) (k : Nat) (S : Store) (acc : List D) (o8 o9 o10 o11 o12 : Option D), TreeAt S n P u d g m → lstAt S r = some (row.map pt) → lstAt S f = some acc → acc.length + ps.length < 1000000 → (∀ p ∈ ps, BLe p 1000) → k + ps.length < row.length →
      ∃ a8 a9 a10 a11 a12, forD grdT (gT 2 (gsCons (gN 8) (gsCons (gN 9) gsNil))) bodyR (enumK k ps) [some (.obj n), some (.int K), some (.bl buy), some (.bl any), some (pt w), some (.obj r), o6, some (.obj f), o8, o9, o10, o11, o12] S
        = .nx [some (.obj n), some (.int K), some (.bl buy), some (.bl any), some (pt w), some (.obj r), o6, some (.obj f), a8, a9, a10, a11, a12] (S.set f (.lst (acc ++ (stepQ w g K buy any ps (row.drop k)).map pt))) := by
  intro ps
  induction ps with
  | nil =>
    intro k S acc o8 o9 o10 o11 o12 ht hr hf hl hp hk
    refine ⟨o8, o9, o10, o11, o12, ?_⟩
    have e : stepQ w g K buy any [] (row.drop k) = [] := by unfold stepQ; rfl
    have e2 : S.set f (.lst acc) = S := by
      refine List.ext_getElem? fun i => ?_
      by_cases z : f = i
      · subst z
        unfold lstAt at hf
        cases y : S[f]? with
        | none => rw [y] at hf; cases hf
        | some o =>
          rw [y] at hf
          cases o with
          | lst xs =>
            cases hf
            rw [List.getElem?_set_self (List.getElem?_eq_some_iff.mp y).1]
          | ins c fs => cases hf
      · rw [List.getElem?_set_ne z]
    simp [enumK, e, e2]
  | cons p ps ih =>
    intro k S acc o8 o9 o10 o11 o12 ht hr hf hl hp hk
    have hk1 : k < row.length := by simp at hk; omega
    have hk2 : k + 1 < row.length := by simp at hk; omega
    have ha : (row.map pt)[k]? = some (pt row[k]) := by simp [hk1]
    have hb : (row.map pt)[k + 1]? = some (pt row[k + 1]) := by simp [hk2]
    have hd : row.drop k = row[k] :: row[k + 1] :: row.drop (k + 1 + 1) := by
      rw [List.drop_eq_getElem_cons hk1, List.drop_eq_getElem_cons hk2]
    have hd1 : row.drop (k + 1) = row[k + 1] :: row.drop (k + 1 + 1) := List.drop_eq_getElem_cons hk2
    have bo := bodyR_ok (o6 := o6) (o10 := o10) (o11 := o11) (o12 := o12) (any := any) (buy := buy) ht hK hr hf (by simp at hl; omega) ha hb jw (jr _ (List.getElem_mem hk1)) (jr _ (List.getElem_mem hk2)) jg (hp p List.mem_cons_self) jK g0
    obtain ⟨a8, a9, a10, a11, a12, e⟩ := ih (k + 1) (S.set f (.lst (acc ++ [pt (nodeQ any (paidQ p K buy) (meanQ w g row[k] row[k + 1]))]))) (acc ++ [pt (nodeQ any (paidQ p K buy) (meanQ w g row[k] row[k + 1]))]) (some (.int k)) (some (pt p)) (some (pt (w * row[k + 1] + (1 - w) * row[k]))) (some (pt (meanQ w g row[k] row[k + 1]))) (some (pt (paidQ p K buy))) ⟨insAt_set (l := _) hf ht.at_⟩ ((lstAt_ne hrf).trans hr) (lstAt_set hf) (by simp at hl ⊢; omega) (fun q hq => hp q (List.mem_cons_of_mem _ hq)) (by simp at hk ⊢; omega)
    refine ⟨a8, a9, a10, a11, a12, ?_⟩
    simp [enumK, bo]
    rw [e, hd, hd1]
    simp [stepQ]
end Pr
set_option Elab.async false
set_option linter.all false
set_option maxRecDepth 100000
set_option maxHeartbeats 1000000
namespace Pr
open PySem PySem.Spec PyProof.Rows L2 DL
def outR : DS :=
  (dSeq (dAsg (dLst daNil) (gN 7))
  (dSeq (dFor (diEnum (dMeth "Tree" "prices" 2 M_Tree_prices (dVar 0) (daCons (dVar 6) daNil))) (gT 2 (gsCons (gN 8) (gsCons (gN 9) gsNil)))
  bodyR)
  (dAsg (dVar 7) (gN 5))))
section
variable {n : Nat} {P K m : Int} {u d g w : Rat} {any buy : Bool}
theorem prs_len (P u d : Rat) : ∀ t, t ≤ 3 → (prs P u d t).length = t + 1
  | 0, _ => rfl
  | 1, _ => rfl
  | 2, _ => rfl
  | 3, _ => rfl
theorem prs_b {p0 : Rat} (hP : BLe p0 8) (hu : BLe u 8) (hd : BLe d 8) : ∀ t, t ≤ 3 → ∀ p ∈ prs p0 u d t, BLe p 40
  | 0, _, p, h => by simp [prs] at h; subst h; exact hP.fin rfl
  | 1, _, p, h => by
    simp [prs] at h
    rcases h with rfl | rfl
    · exact (hP.mul hd).fin rfl
    · exact (hP.mul hu).fin rfl
  | 2, _, p, h => by
    simp [prs] at h
    rcases h with rfl | rfl | rfl
    · exact ((hP.mul hd).mul hd).fin rfl
    · exact ((hP.mul hu).mul hd).fin rfl
    · exact ((hP.mul hu).mul hu).fin rfl
  | 3, _, p, h => by
    simp [prs] at h
    rcases h with rfl | rfl | rfl | rfl
    · exact (((hP.mul hd).mul hd).mul hd).fin rfl
    · exact (((hP.mul hu).mul hd).mul hd).fin rfl
    · exact (((hP.mul hu).mul hu).mul hd).fin rfl
    · exact (((hP.mul hu).mul hu).mul hu).fin rfl
theorem step_b {N : Nat} {K : Rat} (jw : BLe w 40) (jg : BLe g 10) (jK : BLe K 8) : ∀ (ps row : List Rat), (∀ p ∈ ps, BLe p 40) → (∀ x ∈ row, BLe x N) → ∀ y ∈ stepQ w g K buy any ps row, BLe y (2 * N + 200)
  | [], row, h1, h2, y, hy => by simp [stepQ] at hy
  | p :: ps, [], h1, h2, y, hy => by simp [stepQ] at hy
  | p :: ps, [a], h1, h2, y, hy => by simp [stepQ] at hy
  | p :: ps, a :: b :: row, h1, h2, y, hy => by
    simp only [stepQ, List.mem_cons] at hy
    rcases hy with rfl | hy
    · have ja := h2 a List.mem_cons_self
      have jb := h2 b (List.mem_cons_of_mem _ List.mem_cons_self)
      have jp := h1 p List.mem_cons_self
      have q1 := (((jw.mul jb).add ((BLe.one.sub jw).mul ja)).div jg).le
      have q2 := (jp.paid (b := buy) jK).le
      have q3 := bits_ite (any = true ∧ 0 < cmpQ (paidQ p K buy) (meanQ w g a b)) (paidQ p K buy) (meanQ w g a b)
      have e : bits (meanQ w g a b) ≤ _ := q1
      refine ⟨?_⟩
      show bits (nodeQ any (paidQ p K buy) (meanQ w g a b)) ≤ _
      unfold nodeQ
      omega
    · exact step_b jw jg jK ps (b :: row) (fun q hq => h1 q (List.mem_cons_of_mem _ hq)) (fun q hq => h2 q (List.mem_cons_of_mem _ hq)) y hy
theorem step_len {K : Rat} : ∀ (ps row : List Rat), ps.length + 1 = row.length → (stepQ w g K buy any ps row).length = ps.length
  | [], row, h => by simp [stepQ]
  | p :: ps, [], h => by simp at h
  | p :: ps, [a], h => by simp at h
  | p :: ps, a :: b :: row, h => by simp [stepQ]; exact step_len ps (b :: row) (by simp at h ⊢; omega)
theorem outR_ok (hP : P.natAbs < 2 ^ 8) (hK : K.natAbs < 2 ^ 8) (hu : BLe u 8) (hd : BLe d 8) (hg : BLe g 8) (jw : BLe w 40) (g0 : g ≠ 0) (S : Store) (ht : TreeAt S n P u d g m) (t : Nat) (ht3 : t ≤ 3) (r : Nat) (row : List Rat) (hr : lstAt S r = some (row.map pt)) (hl : row.length = t + 2)
    (jr : ∀ x ∈ row, BLe x 1800) (o7 o8 o9 o10 o11 o12 : Option D) :
    ∃ r2 T a7 a8 a9 a10 a11 a12, outR [some (.obj n), some (.int K), some (.bl buy), some (.bl any), some (pt w), some (.obj r), some (.int t), o7, o8, o9, o10, o11, o12] S
      = .nx [some (.obj n), some (.int K), some (.bl buy), some (.bl any), some (pt w), some (.obj r2), some (.int t), a7, a8, a9, a10, a11, a12] (S ++ T) ∧ lstAt (S ++ T) r2 = some ((stepQ w g K buy any (prs P u d t) row).map pt) := by
  have jP : BLe (P : Rat) 8 := ⟨bits_int (n := 7) hP⟩
  have jK : BLe (K : Rat) 8 := ⟨bits_int (n := 7) hK⟩
  have hr1 : r < S.length := by
    by_cases z : r < S.length
    · exact z
    · unfold lstAt at hr
      rw [List.getElem?_eq_none (by omega)] at hr
      cases hr
  have tk : TreeAt (S ++ [.lst []]) n P u d g m := ht.keep
  have pr := M_prices_ok tk (by omega) (sz_bits (Nat.le_trans hu.le (by decide))) (sz_bits (Nat.le_trans hd.le (by decide))) (sz_bits (Nat.le_trans hg.le (by decide))) t ht3
  have tk2 : TreeAt (S ++ [.lst [], .lst ((prs P u d t).map pt)]) n P u d g m := ht.keep
  obtain ⟨a8, a9, a10, a11, a12, e⟩ := innerR (any := any) (buy := buy) (o6 := some (.int t)) (f := S.length) (r := r) (by omega) (by omega) jw (hg.fin rfl) (jK.fin rfl) g0 jr (by omega) (prs P u d t) 0 (S ++ [.lst [], .lst ((prs P u d t).map pt)]) [] o8 o9 o10 o11 o12 tk2
    (lstAt_keep _ _ hr) (by simp) (by rw [prs_len _ _ _ t ht3]; simp; omega) (fun p hp => (prs_b jP hu hd t ht3 p hp).fin rfl) (by rw [prs_len _ _ _ t ht3]; omega)
  refine ⟨S.length, [.lst ((stepQ w g K buy any (prs P u d t) row).map pt), .lst ((prs P u d t).map pt)], some (.obj S.length), a8, a9, a10, a11, a12, ?_, by simp⟩
  simp at e pr
  simp -implicitDefEqProofs [outR, ht.at_, ht.more, pr, enumL_pt, e]
end
end Pr
set_option Elab.async false
set_option linter.all false
set_option maxRecDepth 100000
set_option maxHeartbeats 1000000
namespace Pr
open PySem PySem.Spec PyProof.Rows L2 DL
def RQ (u d g w K : Rat) (buy any : Bool) : Nat → Rat → Rat
  | 0, p => paidQ p K buy
  | m + 1, p => nodeQ any (paidQ p K buy) (meanQ w g (RQ u d g w K buy any m (p * d)) (RQ u d g w K buy any m (p * u)))
section
variable {u d g w K : Rat}
theorem node_f (now one : Rat) : nodeQ false now one = one := by simp [nodeQ]
theorem node_ge (any : Bool) (now one : Rat) : one ≤ nodeQ any now one := by
  unfold nodeQ cmpQ
  split <;> grind
theorem node_same {now one : Rat} (h : now ≤ one) (any : Bool) : nodeQ any now one = one := by
  unfold nodeQ cmpQ
  split <;> grind
theorem div_le_div {a b c : Rat} (h : a ≤ b) (hc : 0 < c) : a / c ≤ b / c := by
  rw [Rat.div_def, Rat.div_def]
  exact Rat.mul_le_mul_of_nonneg_right h (Rat.le_of_lt (Rat.inv_pos.mpr hc))
theorem mul_le {a b c : Rat} (h : a ≤ b) (hc : 0 ≤ c) : c * a ≤ c * b := Rat.mul_le_mul_of_nonneg_left h hc
theorem mean_mono {a b a' b' : Rat} (w0 : 0 ≤ w) (w1 : w ≤ 1) (g0 : 0 < g) (ha : a ≤ a') (hb : b ≤ b') : meanQ w g a b ≤ meanQ w g a' b' := by
  unfold meanQ
  refine div_le_div ?_ g0
  have h1 := mul_le hb w0
  have h2 := mul_le ha (show 0 ≤ 1 - w by grind)
  grind
theorem paid_nn (p k : Rat) (b : Bool) : 0 ≤ paidQ p k b := by
  unfold paidQ maxQ
  grind
theorem paid_buy (p k : Rat) : p - k ≤ paidQ p k true := by
  unfold paidQ maxQ
  grind
theorem any_ge (w0 : 0 ≤ w) (w1 : w ≤ 1) (g0 : 0 < g) (buy : Bool) : ∀ (m : Nat) (p : Rat), RQ u d g w K buy false m p ≤ RQ u d g w K buy true m p
  | 0, p => Rat.le_refl
  | m + 1, p => by
    have h := mean_mono w0 w1 g0 (any_ge w0 w1 g0 buy m (p * d)) (any_ge w0 w1 g0 buy m (p * u))
    simp only [RQ, node_f]
    exact Rat.le_trans h (node_ge _ _ _)
theorem mean_lin (g0 : 0 < g) (hw : w * u + (1 - w) * d = g) (p c : Rat) : meanQ w g (p * d - c) (p * u - c) = p - c / g := by
  unfold meanQ
  have : w * (p * u - c) + (1 - w) * (p * d - c) = p * g - c := by rw [← hw]; grind
  rw [this]
  grind
theorem buy_any (w0 : 0 ≤ w) (w1 : w ≤ 1) (g1 : 1 ≤ g) (K0 : 0 ≤ K) (hw : w * u + (1 - w) * d = g) : ∀ (m : Nat) (p : Rat), RQ u d g w K true true m p = RQ u d g w K true false m p ∧ p - K ≤ RQ u d g w K true false m p ∧ 0 ≤ RQ u d g w K true false m p
  | 0, p => ⟨rfl, paid_buy p K, paid_nn _ _ _⟩
  | m + 1, p => by
    have g0 : 0 < g := by grind
    obtain ⟨a1, a2, a3⟩ := buy_any w0 w1 g1 K0 hw m (p * d)
    obtain ⟨b1, b2, b3⟩ := buy_any w0 w1 g1 K0 hw m (p * u)
    have h1 := mean_mono w0 w1 g0 a2 b2
    rw [mean_lin g0 hw] at h1
    have h2 := mean_mono w0 w1 g0 a3 b3
    have e0 : meanQ w g 0 0 = 0 := by unfold meanQ; grind
    rw [e0] at h2
    have h3 : K / g ≤ K := by
      have h5 := div_le_div (show K ≤ K * g by have := mul_le g1 K0; grind) g0
      have h6 : K * g / g = K := by grind
      rw [h6] at h5
      exact h5
    have h4 : p - K ≤ meanQ w g (RQ u d g w K true false m (p * d)) (RQ u d g w K true false m (p * u)) := by grind
    simp only [RQ, node_f, a1, b1]
    refine ⟨node_same ?_ _, h4, h2⟩
    unfold paidQ maxQ
    grind
theorem mean_sub (w g a b a' b' : Rat) : meanQ w g a b - meanQ w g a' b' = meanQ w g (a - a') (b - b') := by
  unfold meanQ
  by_cases h : g = 0
  · subst h; grind
  · grind
theorem parityQ (g0 : 0 < g) (hw : w * u + (1 - w) * d = g) : ∀ (m : Nat) (p : Rat), RQ u d g w K true false m p - RQ u d g w K false false m p = p - K / g ^ m
  | 0, p => by simp only [RQ, paidQ, maxQ]; grind
  | m + 1, p => by
    have h1 := parityQ g0 hw m (p * d)
    have h2 := parityQ g0 hw m (p * u)
    simp only [RQ, node_f]
    rw [mean_sub, h1, h2, mean_lin g0 hw]
    have : g ^ (m + 1) = g ^ m * g := by grind
    rw [this]
    have : g ^ m ≠ 0 := by
      have : 0 < g ^ m := Rat.pow_pos g0
      grind
    grind
end
section
variable {u d g w K : Rat}
def wayP (u d : Rat) : Rat → List Bool → Rat
  | p, [] => p
  | p, b :: bs => wayP u d (p * (if b = true then u else d)) bs
def wayM (w g : Rat) : Rat → List Bool → Rat
  | p, [] => p
  | p, b :: bs => wayM w g (p * (if b = true then w else 1 - w) / g) bs
def waysQ (u d g w K P : Rat) (buy : Bool) : Rat → List (List Bool) → Rat
  | s, [] => s
  | s, x :: xs => waysQ u d g w K P buy (s + wayM w g 1 x * paidQ (wayP u d P x) K buy) xs
def aw : Nat → List (List Bool)
  | 0 => [[]]
  | n + 1 => (aw n).flatMap fun r => [r ++ [false], r ++ [true]]
theorem ways1 (buy : Bool) (g0 : g ≠ 0) (P : Rat) : waysQ u d g w K P buy 0 (aw 1) = RQ u d g w K buy false 1 P := by
  simp [aw, waysQ, wayM, wayP, RQ, node_f, meanQ]
  generalize paidQ (P * d) K buy = a
  generalize paidQ (P * u) K buy = b
  grind
theorem ways2 (buy : Bool) (g0 : g ≠ 0) (P : Rat) : waysQ u d g w K P buy 0 (aw 2) = RQ u d g w K buy false 2 P := by
  simp [aw, waysQ, wayM, wayP, RQ, node_f, meanQ]
  generalize paidQ (P * d * d) K buy = a
  generalize paidQ (P * d * u) K buy = b
  generalize paidQ (P * u * d) K buy = c
  generalize paidQ (P * u * u) K buy = e
  grind
theorem ways3 (buy : Bool) (g0 : g ≠ 0) (P : Rat) : waysQ u d g w K P buy 0 (aw 3) = RQ u d g w K buy false 3 P := by
  simp [aw, waysQ, wayM, wayP, RQ, node_f, meanQ]
  generalize paidQ (P * d * d * d) K buy = a
  generalize paidQ (P * d * d * u) K buy = b
  generalize paidQ (P * d * u * d) K buy = c
  generalize paidQ (P * d * u * u) K buy = e
  generalize paidQ (P * u * d * d) K buy = a1
  generalize paidQ (P * u * d * u) K buy = b1
  generalize paidQ (P * u * u * d) K buy = c1
  generalize paidQ (P * u * u * u) K buy = e1
  grind
end
def worthL (b : Rat) : List Rat → Rat → Rat → Rat
  | [], f, _ => f
  | p :: ps, f, o => worthL b ps (f + p * (o / b)) (o / b)
def timeL (b : Rat) : Nat → List Rat → Rat → Rat → Rat
  | _, [], f, _ => f
  | k, p :: ps, f, o => timeL b (k + 1) ps (f + ((k : Rat) + 1) * (p * (o / b))) (o / b)
def paysQ (F c : Rat) (n : Nat) : List Rat := List.replicate (n - 1) (F * c) ++ [F * c + F]
def worthQ (F c : Rat) (n : Nat) (r : Rat) : Rat := worthL (1 + r) (paysQ F c n) 0 1
def timeQ (F c : Rat) (n : Nat) (r : Rat) : Rat := timeL (1 + r) 0 (paysQ F c n) 0 1
theorem moved_ok : ∀ f < 3, ∀ h < 10, ∀ n < 4, ∀ r < 9, 2 * worthQ (100 * (f + 1 : Nat)) ((h : Nat) / 100) (n + 1) ((r + 1 : Nat) / 100) < worthQ (100 * (f + 1 : Nat)) ((h : Nat) / 100) (n + 1) ((r + 1 : Nat) / 100 + 1 / 200) + worthQ (100 * (f + 1 : Nat)) ((h : Nat) / 100) (n + 1) ((r + 1 : Nat) / 100 - 1 / 200)
   ∧ worthQ (100 * (f + 1 : Nat)) ((h : Nat) / 100) (n + 1) ((r + 1 : Nat) / 100 + 1 / 200) < worthQ (100 * (f + 1 : Nat)) ((h : Nat) / 100) (n + 1) ((r + 1 : Nat) / 100 - 1 / 200) := by
  decide +kernel
end Pr
set_option Elab.async false
set_option linter.all false
set_option maxRecDepth 100000
set_option maxHeartbeats 1000000
namespace Pr
open PySem PySem.Spec PyProof.Rows L2 DL
section
variable {n : Nat} {P K m : Int} {u d g w : Rat} {any buy : Bool}
theorem step_RQ (u d g w K P : Rat) (buy any : Bool) : ∀ (t j : Nat), t + 1 ≤ 3 → stepQ w g K buy any (prs P u d t) ((prs P u d (t + 1)).map (RQ u d g w K buy any j)) = (prs P u d t).map (RQ u d g w K buy any (j + 1))
  | 0, j, _ => by simp [prs, stepQ, RQ]
  | 1, j, _ => by
    have e : P * u * d = P * d * u := by grind
    simp [prs, stepQ, RQ, e]
  | 2, j, _ => by
    have e1 : P * u * d * d = P * d * d * u := by grind
    have e2 : P * u * d * u = P * u * u * d := by grind
    simp [prs, stepQ, RQ, e1, e2]
def NB (j : Nat) : Nat := 260 * 2 ^ j - 200
theorem NB_s (j : Nat) : 2 * NB j + 200 = NB (j + 1) := by
  unfold NB
  have := Nat.two_pow_pos j
  rw [Nat.pow_succ]
  omega
theorem NB_le {j : Nat} (h : j ≤ 2) : NB j ≤ 1800 := by
  match j, h with
  | 0, _ => decide
  | 1, _ => decide
  | 2, _ => decide
theorem loopR (hP : P.natAbs < 2 ^ 8) (hK : K.natAbs < 2 ^ 8) (hu : BLe u 8) (hd : BLe d 8) (hg : BLe g 8) (jw : BLe w 40) (g0 : g ≠ 0) : ∀ (t j : Nat), t + j ≤ 3 → ∀ (S : Store) (r : Nat) (o6 o7 o8 o9 o10 o11 o12 : Option D), TreeAt S n P u d g m → lstAt S r = some (((prs P u d t).map (RQ u d g w K buy any j)).map pt) → (∀ x ∈ (prs P u d t).map (RQ u d g w K buy any j), BLe x (NB j)) →
    ∃ r2 T a6 a7 a8 a9 a10 a11 a12, forD grdT (gN 6) outR (rngD ((t : Int) - 1) (-1) t) [some (.obj n), some (.int K), some (.bl buy), some (.bl any), some (pt w), some (.obj r), o6, o7, o8, o9, o10, o11, o12] S
      = .nx [some (.obj n), some (.int K), some (.bl buy), some (.bl any), some (pt w), some (.obj r2), a6, a7, a8, a9, a10, a11, a12] (S ++ T) ∧ lstAt (S ++ T) r2 = some [pt (RQ u d g w K buy any (t + j) P)] := by
  intro t
  induction t with
  | zero =>
    intro j hj S r o6 o7 o8 o9 o10 o11 o12 ht hr jr
    refine ⟨r, [], o6, o7, o8, o9, o10, o11, o12, ?_, ?_⟩
    · simp
    · simpa [prs] using hr
  | succ t ih =>
    intro j hj S r o6 o7 o8 o9 o10 o11 o12 ht hr jr
    have jr2 : ∀ x ∈ (prs P u d (t + 1)).map (RQ u d g w K buy any j), BLe x 1800 := fun x hx => ⟨Nat.le_trans (jr x hx).le (NB_le (by omega))⟩
    have hl : ((prs P u d (t + 1)).map (RQ u d g w K buy any j)).length = t + 2 := by rw [List.length_map, prs_len _ _ _ _ (by omega)]
    obtain ⟨r2, T, a7, a8, a9, a10, a11, a12, e, hr2⟩ := outR_ok (any := any) (buy := buy) (m := m) hP hK hu hd hg jw g0 S ht t (by omega) r _ hr hl jr2 o7 o8 o9 o10 o11 o12
    rw [step_RQ u d g w K P buy any t j (by omega)] at hr2
    have jP : BLe (P : Rat) 8 := ⟨bits_int (n := 7) hP⟩
    have jK : BLe (K : Rat) 8 := ⟨bits_int (n := 7) hK⟩
    have jr3 := step_b (N := NB j) (any := any) (buy := buy) jw (hg.fin (k := 10) rfl) jK (prs P u d t) _ (prs_b jP hu hd t (by omega)) jr
    rw [step_RQ u d g w K P buy any t j (by omega), NB_s] at jr3
    obtain ⟨r3, T2, b6, b7, b8, b9, b10, b11, b12, e2, hr3⟩ := ih (j + 1) (by omega) (S ++ T) r2 (some (.int t)) a7 a8 a9 a10 a11 a12 ht.keep hr2 jr3
    refine ⟨r3, T ++ T2, b6, b7, b8, b9, b10, b11, b12, ?_, ?_⟩
    · have q : ((t + 1 : Nat) : Int) - 1 = (t : Int) := by omega
      have q2 : (t : Int) + -1 = (t : Int) - 1 := by omega
      rw [q, rngD_succ, q2]
      simp -implicitDefEqProofs [e]
      rw [e2, List.append_assoc]
    · rw [← List.append_assoc, hr3, show t + (j + 1) = t + 1 + j from by omega]
end
end Pr
set_option Elab.async false
set_option linter.all false
set_option maxRecDepth 100000
set_option maxHeartbeats 1000000
namespace Pr
open PySem PySem.Spec PyProof.Rows L2 DL
section
variable {n : Nat} {P K m : Int} {u d g w : Rat} {any buy : Bool}
theorem lcR (hK : K.natAbs < 2 ^ 8) {ρ : DEnv} {S S1 : Store} {ps : List Rat} {fi : DI} (hi : fi ρ S = .ok ⟨ps.map pt, grdT⟩ S1) (hp : ∀ p ∈ ps, BLe p 3900) (hl : ps.length < 1000000) {o0 : Option D} {o3 o4 o5 o6 o7 o8 o9 o10 o11 o12 : Option D}
   (hρ : ρ = [o0, some (.int K), some (.bl buy), o3, o4, o5, o6, o7, o8, o9, o10, o11, o12]) :
   dLc fi (gN 11) dYes (dCall 3 M_paid (daCons (dVar 11) (daCons (dVar 1) (daCons (dVar 2) daNil)))) [11] ρ S = .ok (.obj S1.length) (S1 ++ [.lst ((ps.map fun p => paidQ p K buy).map pt)]) := by
  subst hρ
  rw [dLc_map ps pt (fun p => pt (paidQ p K buy)) hi (fun _ => rfl) (fun p h X => ⟨_, rfl, ?_⟩) hl, List.map_map]
  · rfl
  · have := C_paid (S := S1 ++ [.lst X]) (b := buy) (hp p h) (show K.natAbs < 2 ^ 50 by omega)
    simp -implicitDefEqProofs [this]
theorem M_right_ok (S : Store) (t : Nat) (ht : TreeAt S n P u d g t) (h3 : t ≤ 3) (hP : P.natAbs < 2 ^ 8) (hK : K.natAbs < 2 ^ 8) (hu : BLe u 8) (hd : BLe d 8) (hg : BLe g 8) (g0 : g ≠ 0) (hne : u - d ≠ 0) :
    ∃ T, M_Tree_right [.obj n, .int K, .bl buy, .bl any] S = .ok (pt (RQ u d g (wQ u d g) K buy any t P)) (S ++ T) := by
  have jP : BLe (P : Rat) 8 := ⟨bits_int (n := 7) hP⟩
  have jK : BLe (K : Rat) 8 := ⟨bits_int (n := 7) hK⟩
  have zu : Sz 30 u := sz_bits (Nat.le_trans hu.le (by decide))
  have zd : Sz 30 d := sz_bits (Nat.le_trans hd.le (by decide))
  have zg : Sz 30 g := sz_bits (Nat.le_trans hg.le (by decide))
  have jw : BLe (wQ u d g) 40 := ((hg.sub hd).div (hu.sub hd)).fin rfl
  have w1 := M_weight_ok ht zu zd zg hne
  have pr := M_prices_ok ht (by omega) zu zd zg t h3
  have pl := prs_len P u d t h3
  have pb := prs_b jP hu hd t h3
  obtain ⟨r2, T, a6, a7, a8, a9, a10, a11, a12, e, hr⟩ := loopR (n := n) (m := t) (any := any) (buy := buy) (w := wQ u d g) hP hK hu hd hg jw g0 t 0 (by omega)
    (S ++ [.lst ((prs P u d t).map pt)] ++ [.lst (((prs P u d t).map fun p => paidQ p K buy).map pt)]) (S.length + 1) none none none none none none none (ht.keep.keep) (by simp [RQ]) (by
      intro x hx
      obtain ⟨p, hp, rfl⟩ := List.mem_map.mp hx
      exact ((pb p hp).paid jK).fin rfl)
  refine ⟨[.lst ((prs P u d t).map pt), .lst (((prs P u d t).map fun p => paidQ p K buy).map pt)] ++ T, ?_⟩
  have lc := lcR (K := K) (buy := buy) (ps := prs P u d t) (ρ := [some (.obj n), some (.int K), some (.bl buy), some (.bl any), some (pt (wQ u d g)), none, none, none, none, none, none, none, none]) (S := S) hK (fi := diSeq (dMeth "Tree" "prices" 2 M_Tree_prices (dVar 0) (daCons (dFld ["Bond", "Tree"] "many" (dVar 0)) daNil))) (S1 := S ++ [.lst ((prs P u d t).map pt)]) (by simp -implicitDefEqProofs [ht.at_, pr]) (fun p hp => (pb p hp).fin rfl) (by omega) rfl
  have q1 : -1000000000000 ≤ (t : Int) ∧ (t : Int) ≤ 1000000000000 := by omega
  unfold outR bodyR at e
  simp -implicitDefEqProofs only [M_Tree_right, f_Tree_right, e_runD, startD, e_dSeq, e_dAsg]
  simp -implicitDefEqProofs [-e_dLc, -e_dFor, ht.at_, w1, lc]
  simp at e hr
  simp -implicitDefEqProofs [ht.more, q1, e, hr]
end
end Pr
set_option Elab.async false
set_option linter.all false
set_option maxRecDepth 100000
set_option maxHeartbeats 1000000
namespace Pr
open PySem PySem.Spec PyProof.Rows L2 DL
def scFs (tn : Nat) (M : Rat) : List (Str × D) := [(("tree" : Str), .obj tn), (("much" : Str), pt M)]
structure ScAt (S : Store) (n tn : Nat) (M : Rat) : Prop where
  at_ : insAt S (.obj n) = some ("Scaled", scFs tn M)
section
variable {tn : Nat} {M : Rat}
@[simp] theorem sf_tree : (scFs tn M).lookup ("tree" : Str) = some (.obj tn) := rfl
@[simp] theorem sf_much : (scFs tn M).lookup ("much" : Str) = some (pt M) := rfl
@[simp] theorem sf_right : (scFs tn M).lookup ("right" : Str) = none := rfl
end
theorem ScAt.keep {S T : Store} {n tn : Nat} {M : Rat} (h : ScAt S n tn M) : ScAt (S ++ T) n tn M := ⟨insAt_keep S T h.at_⟩
theorem ScAt.more {S : Store} {n tn : Nat} {M : Rat} (h : ScAt S n tn M) (T : Store) : insAt (S ++ T) (.obj n) = some ("Scaled", scFs tn M) := insAt_keep S T h.at_
def bodyS : DS :=
  (dSeq (dAsg (dCall 2 M_add (daCons (dCall 2 M_times (daCons (dVar 5) (daCons (dOp ixD (dVar 6) (dOp addD (dVar 9) (dC (.int 1)))) daNil))) (daCons (dCall 2 M_times (daCons (dCall 2 M_less (daCons (dTup (daCons (dC (.int 1)) (daCons (dC (.int 1)) daNil))) (daCons (dVar 5) daNil))) (daCons (dOp ixD (dVar 6) (dVar 9)) daNil))) daNil))) (gN 11))
  (dSeq (dAsg (dCall 2 M_over (daCons (dVar 11) (daCons (dFld ["Tree"] "growth" (dVar 4)) daNil))) (gN 12))
  (dSeq (dAsg (dCall 3 M_paid (daCons (dCall 2 M_times (daCons (dVar 10) (daCons (dFld ["Bond", "Scaled"] "much" (dVar 0)) daNil))) (daCons (dVar 1) (daCons (dVar 2) daNil)))) (gN 13))
  (dDrop (dApp (dVar 8) (dIf (dAndT (dB (dVar 3)) (dB (dOp gtD (dCall 2 M_order (daCons (dVar 13) (daCons (dVar 12) daNil))) (dC (.int 0))))) (dVar 13) (dVar 12)))))))
theorem bodyS_ok {S : Store} {n tn r f k : Nat} {P K m : Int} {u d g w p a b M : Rat} {any buy : Bool} {row acc : List D} {o7 o11 o12 o13 : Option D} (hs : ScAt S n tn M) (h : TreeAt S tn P u d g m) (hK : K.natAbs < 2 ^ 50) (hr : lstAt S r = some row) (hf : lstAt S f = some acc) (hl : acc.length < 1000000)
    (ha : row[k]? = some (pt a)) (hb : row[k + 1]? = some (pt b)) (jw : BLe w 40) (ja : BLe a 1800) (jb : BLe b 1800) (jg : BLe g 10) (jp : BLe p 1000) (jM : BLe M 1000) (jK : BLe (K : Rat) 51) (g0 : g ≠ 0) :
    bodyS [some (.obj n), some (.int K), some (.bl buy), some (.bl any), some (.obj tn), some (pt w), some (.obj r), o7, some (.obj f), some (.int k), some (pt p), o11, o12, o13] S
      = .nx [some (.obj n), some (.int K), some (.bl buy), some (.bl any), some (.obj tn), some (pt w), some (.obj r), o7, some (.obj f), some (.int k), some (pt p), some (pt (w * b + (1 - w) * a)), some (pt (meanQ w g a b)), some (pt (paidQ (p * M) K buy))] (S.set f (.lst (acc ++ [pt (nodeQ any (paidQ (p * M) K buy) (meanQ w g a b))]))) := by
  have c1 : BLe w 4000 := jw.fin rfl
  have c2 : BLe a 4000 := ja.fin rfl
  have c3 : BLe b 4000 := jb.fin rfl
  have c4 : BLe g 4000 := jg.fin rfl
  have c5 : BLe p 4000 := jp.fin rfl
  have c6 : BLe M 4000 := jM.fin rfl
  have c7 : BLe (p * M) 3900 := (jp.mul jM).fin rfl
  have d1 := jw.mul jb
  have d2 := BLe.one.sub jw
  have d3 := d2.mul ja
  have d4 := d1.add d3
  have d5 := d4.div jg
  have d6 := (jp.mul jM).paid (b := buy) jK
  have f1 : BLe (w * b) 4000 := d1.fin rfl
  have f2 : BLe (1 - w) 4000 := d2.fin rfl
  have f3 : BLe ((1 - w) * a) 4000 := d3.fin rfl
  have f4 : BLe (w * b + (1 - w) * a) 4000 := d4.fin rfl
  have f5 : BLe (meanQ w g a b) 4000 := d5.fin rfl
  have f6 : BLe (paidQ (p * M) K buy) 4000 := d6.fin rfl
  have f7 : BLe 1 4000 := BLe.one.fin rfl
  have hb2 : atI row ((k : Int) + 1) = some (pt b) := by
    have := DL.atI_nat row (k + 1)
    rw [hb] at this
    exact this
  have ha2 : atI row (k : Int) = some (pt a) := by rw [DL.atI_nat, ha]
  have e5 : (w * b + (1 - w) * a) / g = meanQ w g a b := rfl
  cases any with
  | false =>
    simp -implicitDefEqProofs [bodyS, hr, hf, hl, ha2, hb2, one_pt, C_add, C_times, C_less, C_over, C_paid, h.at_, hs.at_, c1, c2, c3, c4, c5, c6, c7, f1, f2, f3, f4, f7, g0, hK, e5, nodeQ]
  | true =>
    by_cases z : 0 < cmpQ (paidQ (p * M) K buy) (meanQ w g a b)
    · simp -implicitDefEqProofs [bodyS, hr, hf, hl, ha2, hb2, one_pt, C_add, C_times, C_less, C_over, C_paid, C_order, h.at_, hs.at_, c1, c2, c3, c4, c5, c6, c7, f1, f2, f3, f4, f5, f6, f7, g0, hK, e5, nodeQ, z]
    · simp -implicitDefEqProofs [bodyS, hr, hf, hl, ha2, hb2, one_pt, C_add, C_times, C_less, C_over, C_paid, C_order, h.at_, hs.at_, c1, c2, c3, c4, c5, c6, c7, f1, f2, f3, f4, f5, f6, f7, g0, hK, e5, nodeQ, z]
theorem set_lst_self {S : Store} {f : Nat} {acc : List D} (hf : lstAt S f = some acc) : S.set f (.lst acc) = S := by
  refine List.ext_getElem? fun i => ?_
  by_cases z : f = i
  · subst z
    unfold lstAt at hf
    cases y : S[f]? with
    | none => rw [y] at hf; cases hf
    | some o =>
      rw [y] at hf
      cases o with
      | lst xs =>
        cases hf
        rw [List.getElem?_set_self (List.getElem?_eq_some_iff.mp y).1]
      | ins c fs => cases hf
  · rw [List.getElem?_set_ne z]
theorem innerS {n tn r f : Nat} {P K m : Int} {u d g w M : Rat} {any buy : Bool} {row : List Rat} {o7 : Option D} (hK : K.natAbs < 2 ^ 50) (hrf : f ≠ r) (jw : BLe w 40) (jg : BLe g 10) (jM : BLe M 1000) (jK : BLe (K : Rat) 51) (g0 : g ≠ 0) (jr : ∀ x ∈ row, BLe x 1800) (hrl : row.length < 1000) :
    ∀ (ps : List Rat) (k : Nat) (S : Store) (acc : List D) (o9 o10 o11 o12 o13 : Option D), ScAt S n tn M → TreeAt S tn P u d g m → lstAt S r = some (row.map pt) → lstAt S f = some acc → acc.length + ps.length < 1000000 → (∀ p ∈ ps, BLe p 1000) → k + ps.length < row.length →
      ∃ a9 a10 a11 a12 a13, forD grdT (gT 2 (gsCons (gN 9) (gsCons (gN 10) gsNil))) bodyS (enumK k ps) [some (.obj n), some (.int K), some (.bl buy), some (.bl any), some (.obj tn), some (pt w), some (.obj r), o7, some (.obj f), o9, o10, o11, o12, o13] S
        = .nx [some (.obj n), some (.int K), some (.bl buy), some (.bl any), some (.obj tn), some (pt w), some (.obj r), o7, some (.obj f), a9, a10, a11, a12, a13] (S.set f (.lst (acc ++ (stepQ w g K buy any (ps.map (· * M)) (row.drop k)).map pt))) := by
  intro ps
  induction ps with
  | nil =>
    intro k S acc o9 o10 o11 o12 o13 hs ht hr hf hl hp hk
    refine ⟨o9, o10, o11, o12, o13, ?_⟩
    have e : stepQ w g K buy any [] (row.drop k) = [] := by unfold stepQ; rfl
    simp -implicitDefEqProofs [enumK, e, set_lst_self hf]
  | cons p ps ih =>
    intro k S acc o9 o10 o11 o12 o13 hs ht hr hf hl hp hk
    have hk1 : k < row.length := by simp at hk; omega
    have hk2 : k + 1 < row.length := by simp at hk; omega
    have ha : (row.map pt)[k]? = some (pt row[k]) := by simp [hk1]
    have hb : (row.map pt)[k + 1]? = some (pt row[k + 1]) := by simp [hk2]
    have hd : row.drop k = row[k] :: row[k + 1] :: row.drop (k + 1 + 1) := by
      rw [List.drop_eq_getElem_cons hk1, List.drop_eq_getElem_cons hk2]
    have hd1 : row.drop (k + 1) = row[k + 1] :: row.drop (k + 1 + 1) := List.drop_eq_getElem_cons hk2
    have bo := bodyS_ok (o7 := o7) (o11 := o11) (o12 := o12) (o13 := o13) (any := any) (buy := buy) hs ht hK hr hf (by simp at hl; omega) ha hb jw (jr _ (List.getElem_mem hk1)) (jr _ (List.getElem_mem hk2)) jg (hp p List.mem_cons_self) jM jK g0
    obtain ⟨a9, a10, a11, a12, a13, e⟩ := ih (k + 1) (S.set f (.lst (acc ++ [pt (nodeQ any (paidQ (p * M) K buy) (meanQ w g row[k] row[k + 1]))]))) (acc ++ [pt (nodeQ any (paidQ (p * M) K buy) (meanQ w g row[k] row[k + 1]))]) (some (.int k)) (some (pt p)) (some (pt (w * row[k + 1] + (1 - w) * row[k]))) (some (pt (meanQ w g row[k] row[k + 1]))) (some (pt (paidQ (p * M) K buy))) ⟨insAt_set (l := _) hf hs.at_⟩ ⟨insAt_set (l := _) hf ht.at_⟩ ((lstAt_ne hrf).trans hr) (lstAt_set hf) (by simp at hl ⊢; omega) (fun q hq => hp q (List.mem_cons_of_mem _ hq)) (by simp at hk ⊢; omega)
    refine ⟨a9, a10, a11, a12, a13, ?_⟩
    simp -implicitDefEqProofs [enumK, bo]
    rw [e, hd, hd1]
    simp [stepQ]
def outS : DS :=
  (dSeq (dAsg (dLst daNil) (gN 8))
  (dSeq (dFor (diEnum (dMeth "Tree" "prices" 2 M_Tree_prices (dVar 4) (daCons (dVar 7) daNil))) (gT 2 (gsCons (gN 9) (gsCons (gN 10) gsNil)))
  bodyS)
  (dAsg (dVar 8) (gN 6))))
section
variable {n tn : Nat} {P K m : Int} {u d g w M : Rat} {any buy : Bool}
theorem outS_ok (hP : P.natAbs < 2 ^ 8) (hK : K.natAbs < 2 ^ 8) (hu : BLe u 8) (hd : BLe d 8) (hg : BLe g 8) (jM : BLe M 16) (jw : BLe w 40) (g0 : g ≠ 0) (S : Store) (hs : ScAt S n tn M) (ht : TreeAt S tn P u d g m) (t : Nat) (ht3 : t ≤ 3) (r : Nat) (row : List Rat) (hr : lstAt S r = some (row.map pt)) (hl : row.length = t + 2)
    (jr : ∀ x ∈ row, BLe x 1800) (o8 o9 o10 o11 o12 o13 : Option D) :
    ∃ r2 T a8 a9 a10 a11 a12 a13, outS [some (.obj n), some (.int K), some (.bl buy), some (.bl any), some (.obj tn), some (pt w), some (.obj r), some (.int t), o8, o9, o10, o11, o12, o13] S
      = .nx [some (.obj n), some (.int K), some (.bl buy), some (.bl any), some (.obj tn), some (pt w), some (.obj r2), some (.int t), a8, a9, a10, a11, a12, a13] (S ++ T) ∧ lstAt (S ++ T) r2 = some ((stepQ w g K buy any ((prs P u d t).map (· * M)) row).map pt) := by
  have jP : BLe (P : Rat) 8 := ⟨bits_int (n := 7) hP⟩
  have jK : BLe (K : Rat) 8 := ⟨bits_int (n := 7) hK⟩
  have hr1 : r < S.length := by
    by_cases z : r < S.length
    · exact z
    · unfold lstAt at hr
      rw [List.getElem?_eq_none (by omega)] at hr
      cases hr
  have tk : TreeAt (S ++ [.lst []]) tn P u d g m := ht.keep
  have pr := M_prices_ok tk (by omega) (sz_bits (Nat.le_trans hu.le (by decide))) (sz_bits (Nat.le_trans hd.le (by decide))) (sz_bits (Nat.le_trans hg.le (by decide))) t ht3
  have tk2 : TreeAt (S ++ [.lst [], .lst ((prs P u d t).map pt)]) tn P u d g m := ht.keep
  have sk2 : ScAt (S ++ [.lst [], .lst ((prs P u d t).map pt)]) n tn M := hs.keep
  obtain ⟨a9, a10, a11, a12, a13, e⟩ := innerS (any := any) (buy := buy) (o7 := some (.int t)) (f := S.length) (r := r) (by omega) (by omega) jw (hg.fin rfl) (jM.fin rfl) (jK.fin rfl) g0 jr (by omega) (prs P u d t) 0 (S ++ [.lst [], .lst ((prs P u d t).map pt)]) [] o9 o10 o11 o12 o13 sk2 tk2
    (lstAt_keep _ _ hr) (by simp) (by rw [prs_len _ _ _ t ht3]; simp; omega) (fun p hp => (prs_b jP hu hd t ht3 p hp).fin rfl) (by rw [prs_len _ _ _ t ht3]; omega)
  refine ⟨S.length, [.lst ((stepQ w g K buy any ((prs P u d t).map (· * M)) row).map pt), .lst ((prs P u d t).map pt)], some (.obj S.length), a9, a10, a11, a12, a13, ?_, by simp⟩
  simp at e pr
  simp -implicitDefEqProofs [outS, ht.at_, ht.more, pr, enumL_pt, e]
theorem step_SQ (u d g w K P M : Rat) (buy any : Bool) : ∀ (t j : Nat), t + 1 ≤ 3 → stepQ w g K buy any ((prs P u d t).map (· * M)) ((prs P u d (t + 1)).map fun p => RQ u d g w K buy any j (p * M)) = (prs P u d t).map fun p => RQ u d g w K buy any (j + 1) (p * M)
  | 0, j, _ => by
    have e1 : P * d * M = P * M * d := by grind
    have e2 : P * u * M = P * M * u := by grind
    simp [prs, stepQ, RQ, e1, e2]
  | 1, j, _ => by
    have e1 : P * d * d * M = P * d * M * d := by grind
    have e2 : P * u * d * M = P * d * M * u := by grind
    have e3 : P * u * M * d = P * d * M * u := by grind
    have e4 : P * u * u * M = P * u * M * u := by grind
    simp [prs, stepQ, RQ, e1, e2, e3, e4]
  | 2, j, _ => by
    have e1 : P * d * d * d * M = P * d * d * M * d := by grind
    have e2 : P * u * d * d * M = P * d * d * M * u := by grind
    have e3 : P * u * d * M * d = P * d * d * M * u := by grind
    have e4 : P * u * u * d * M = P * u * d * M * u := by grind
    have e5 : P * u * u * M * d = P * u * d * M * u := by grind
    have e6 : P * u * u * u * M = P * u * u * M * u := by grind
    simp [prs, stepQ, RQ, e1, e2, e3, e4, e5, e6]
theorem loopS (hP : P.natAbs < 2 ^ 8) (hK : K.natAbs < 2 ^ 8) (hu : BLe u 8) (hd : BLe d 8) (hg : BLe g 8) (jM : BLe M 16) (jp : ∀ t ≤ 2, ∀ p ∈ (prs P u d t).map (· * M), BLe p 40) (jw : BLe w 40) (g0 : g ≠ 0) : ∀ (t j : Nat), t + j ≤ 3 → ∀ (S : Store) (r : Nat) (o7 o8 o9 o10 o11 o12 o13 : Option D), ScAt S n tn M → TreeAt S tn P u d g m → lstAt S r = some (((prs P u d t).map fun p => RQ u d g w K buy any j (p * M)).map pt) → (∀ x ∈ (prs P u d t).map fun p => RQ u d g w K buy any j (p * M), BLe x (NB j)) →
    ∃ r2 T a7 a8 a9 a10 a11 a12 a13, forD grdT (gN 7) outS (rngD ((t : Int) - 1) (-1) t) [some (.obj n), some (.int K), some (.bl buy), some (.bl any), some (.obj tn), some (pt w), some (.obj r), o7, o8, o9, o10, o11, o12, o13] S
      = .nx [some (.obj n), some (.int K), some (.bl buy), some (.bl any), some (.obj tn), some (pt w), some (.obj r2), a7, a8, a9, a10, a11, a12, a13] (S ++ T) ∧ lstAt (S ++ T) r2 = some [pt (RQ u d g w K buy any (t + j) (P * M))] := by
  intro t
  induction t with
  | zero =>
    intro j hj S r o7 o8 o9 o10 o11 o12 o13 hs ht hr jr
    refine ⟨r, [], o7, o8, o9, o10, o11, o12, o13, ?_, ?_⟩
    · simp
    · simpa [prs] using hr
  | succ t ih =>
    intro j hj S r o7 o8 o9 o10 o11 o12 o13 hs ht hr jr
    have jr2 : ∀ x ∈ (prs P u d (t + 1)).map fun p => RQ u d g w K buy any j (p * M), BLe x 1800 := fun x hx => ⟨Nat.le_trans (jr x hx).le (NB_le (by omega))⟩
    have hl : ((prs P u d (t + 1)).map fun p => RQ u d g w K buy any j (p * M)).length = t + 2 := by rw [List.length_map, prs_len _ _ _ _ (by omega)]
    obtain ⟨r2, T, a8, a9, a10, a11, a12, a13, e, hr2⟩ := outS_ok (any := any) (buy := buy) (m := m) hP hK hu hd hg jM jw g0 S hs ht t (by omega) r _ hr hl jr2 o8 o9 o10 o11 o12 o13
    rw [step_SQ u d g w K P M buy any t j (by omega)] at hr2
    have jK : BLe (K : Rat) 8 := ⟨bits_int (n := 7) hK⟩
    have jr3 := step_b (N := NB j) (any := any) (buy := buy) jw (hg.fin (k := 10) rfl) jK ((prs P u d t).map (· * M)) _ (jp t (by omega)) jr
    rw [step_SQ u d g w K P M buy any t j (by omega), NB_s] at jr3
    obtain ⟨r3, T2, b7, b8, b9, b10, b11, b12, b13, e2, hr3⟩ := ih (j + 1) (by omega) (S ++ T) r2 (some (.int t)) a8 a9 a10 a11 a12 a13 hs.keep ht.keep hr2 jr3
    refine ⟨r3, T ++ T2, b7, b8, b9, b10, b11, b12, b13, ?_, ?_⟩
    · have q : ((t + 1 : Nat) : Int) - 1 = (t : Int) := by omega
      have q2 : (t : Int) + -1 = (t : Int) - 1 := by omega
      rw [q, rngD_succ, q2]
      simp -implicitDefEqProofs [e]
      rw [e2, List.append_assoc]
    · rw [← List.append_assoc, hr3, show t + (j + 1) = t + 1 + j from by omega]
theorem lcS (hK : K.natAbs < 2 ^ 8) {ρ : DEnv} {S S1 : Store} {ps : List Rat} {fi : DI} (hi : fi ρ S = .ok ⟨ps.map pt, grdT⟩ S1) (hs : ScAt S1 n tn M) (jM : BLe M 16) (hp : ∀ p ∈ ps, BLe p 40) (hl : ps.length < 1000000) {o3 o4 o5 o6 o7 o8 o9 o10 o11 o12 o13 : Option D}
   (hρ : ρ = [some (.obj n), some (.int K), some (.bl buy), o3, o4, o5, o6, o7, o8, o9, o10, o11, o12, o13]) :
   dLc fi (gN 12) dYes (dCall 3 M_paid (daCons (dCall 2 M_times (daCons (dVar 12) (daCons (dFld ["Bond", "Scaled"] "much" (dVar 0)) daNil))) (daCons (dVar 1) (daCons (dVar 2) daNil)))) [12] ρ S = .ok (.obj S1.length) (S1 ++ [.lst ((ps.map fun p => paidQ (p * M) K buy).map pt)]) := by
  subst hρ
  rw [dLc_map ps pt (fun p => pt (paidQ (p * M) K buy)) hi (fun _ => rfl) (fun p h X => ⟨_, rfl, ?_⟩) hl, List.map_map]
  · rfl
  · have h1 := C_times (S := S1 ++ [.lst X]) ((hp p h).fin (k := 4000) rfl) (jM.fin (k := 4000) rfl)
    have := C_paid (S := S1 ++ [.lst X]) (b := buy) (q := p * M) (((hp p h).mul jM).fin rfl) (show K.natAbs < 2 ^ 50 by omega)
    simp -implicitDefEqProofs [h1, this, hs.more]
theorem M_sright_ok (S : Store) (t : Nat) (hs : ScAt S n tn M) (ht : TreeAt S tn 1 u d g t) (h2 : t ≤ 2) (hK : K.natAbs < 2 ^ 8) (hu : BLe u 8) (hd : BLe d 8) (hg : BLe g 8) (jM : BLe M 16) (g0 : g ≠ 0) (hne : u - d ≠ 0) :
    ∃ T, M_Scaled_right [.obj n, .int K, .bl buy, .bl any] S = .ok (pt (RQ u d g (wQ u d g) K buy any t M)) (S ++ T) := by
  have h3 : t ≤ 3 := by omega
  have hP : (1 : Int).natAbs < 2 ^ 8 := by decide
  have jP : BLe ((1 : Int) : Rat) 1 := BLe.one
  have jP8 : BLe ((1 : Int) : Rat) 8 := jP.fin rfl
  have jK : BLe (K : Rat) 8 := ⟨bits_int (n := 7) hK⟩
  have zu : Sz 30 u := sz_bits (Nat.le_trans hu.le (by decide))
  have zd : Sz 30 d := sz_bits (Nat.le_trans hd.le (by decide))
  have zg : Sz 30 g := sz_bits (Nat.le_trans hg.le (by decide))
  have jw : BLe (wQ u d g) 40 := ((hg.sub hd).div (hu.sub hd)).fin rfl
  have w1 := M_weight_ok ht zu zd zg hne
  have pr := M_prices_ok ht (by decide) zu zd zg t h3
  have pl := prs_len ((1 : Int) : Rat) u d t h3
  have pb := prs_b jP8 hu hd t h3
  have jp : ∀ t ≤ 2, ∀ p ∈ (prs ((1 : Int) : Rat) u d t).map (· * M), BLe p 40 := by
    intro t ht3 p hp
    match t, ht3 with
    | 0, _ => simp only [prs, List.map_cons, List.map_nil, List.mem_cons, List.not_mem_nil, or_false] at hp; subst hp; exact (jP.mul jM).fin rfl
    | 1, _ =>
      simp only [prs, List.map_cons, List.map_nil, List.mem_cons, List.not_mem_nil, or_false] at hp
      rcases hp with rfl | rfl
      · exact ((jP.mul hd).mul jM).fin rfl
      · exact ((jP.mul hu).mul jM).fin rfl
    | 2, _ =>
      simp only [prs, List.map_cons, List.map_nil, List.mem_cons, List.not_mem_nil, or_false] at hp
      rcases hp with rfl | rfl | rfl
      · exact (((jP.mul hd).mul hd).mul jM).fin rfl
      · exact (((jP.mul hu).mul hd).mul jM).fin rfl
      · exact (((jP.mul hu).mul hu).mul jM).fin rfl
  obtain ⟨r2, T, a7, a8, a9, a10, a11, a12, a13, e, hr⟩ := loopS (n := n) (tn := tn) (m := t) (any := any) (buy := buy) (P := 1) (M := M) (w := wQ u d g) hP hK hu hd hg jM jp jw g0 t 0 (by omega)
    (S ++ [.lst ((prs ((1 : Int) : Rat) u d t).map pt)] ++ [.lst (((prs ((1 : Int) : Rat) u d t).map fun p => paidQ (p * M) K buy).map pt)]) (S.length + 1) none none none none none none none hs.keep.keep ht.keep.keep (by simp [RQ]) (by
      intro x hx
      obtain ⟨p, hp, rfl⟩ := List.mem_map.mp hx
      exact ((jp t h2 _ (List.mem_map.mpr ⟨p, hp, rfl⟩)).paid jK).fin rfl)
  refine ⟨[.lst ((prs ((1 : Int) : Rat) u d t).map pt), .lst (((prs ((1 : Int) : Rat) u d t).map fun p => paidQ (p * M) K buy).map pt)] ++ T, ?_⟩
  have lc := lcS (K := K) (buy := buy) (n := n) (tn := tn) (M := M) (ps := prs ((1 : Int) : Rat) u d t) (ρ := [some (.obj n), some (.int K), some (.bl buy), some (.bl any), some (.obj tn), some (pt (wQ u d g)), none, none, none, none, none, none, none, none]) (S := S) hK (fi := diSeq (dMeth "Tree" "prices" 2 M_Tree_prices (dVar 4) (daCons (dFld ["Bond", "Tree"] "many" (dVar 4)) daNil))) (S1 := S ++ [.lst ((prs ((1 : Int) : Rat) u d t).map pt)]) (by simp -implicitDefEqProofs [ht.at_, pr]) hs.keep jM pb (by omega) rfl
  have q1 : -1000000000000 ≤ (t : Int) ∧ (t : Int) ≤ 1000000000000 := by omega
  have eM : ((1 : Int) : Rat) * M = M := by
    show (1 : Rat) * M = M
    grind
  rw [eM] at hr
  unfold outS bodyS at e
  simp -implicitDefEqProofs only [M_Scaled_right, f_Scaled_right, e_runD, startD, e_dSeq, e_dAsg]
  simp -implicitDefEqProofs [-e_dLc, -e_dFor, ht.at_, hs.at_, w1, lc]
  simp at e hr
  simp -implicitDefEqProofs [ht.more, q1, e, hr]
end
end Pr
set_option Elab.async false
set_option linter.all false
set_option maxRecDepth 100000
set_option maxHeartbeats 1000000
namespace Pr
open PySem PySem.Spec PyProof.Rows L2 DL
def wayD (bs : List Bool) : D := .tup (bs.map D.bl)
theorem M_ways1 (S : Store) : ∃ T k, M_all_ways [.int 1] S = .ok (.obj k) (S ++ T) ∧ lstAt (S ++ T) k = some ((aw 1).map wayD) := by
  refine ⟨[.lst [.tup []], .lst ((aw 1).map wayD)], S.length + 1, ?_, by simp⟩
  simp -implicitDefEqProofs [M_all_ways, f_all_ways, startD, aw, wayD]
theorem M_ways2 (S : Store) : ∃ T k, M_all_ways [.int 2] S = .ok (.obj k) (S ++ T) ∧ lstAt (S ++ T) k = some ((aw 2).map wayD) := by
  refine ⟨[.lst [.tup []], .lst ((aw 1).map wayD), .lst ((aw 2).map wayD)], S.length + 2, ?_, by simp⟩
  simp -implicitDefEqProofs [M_all_ways, f_all_ways, startD, aw, wayD]
theorem M_ways3 (S : Store) : ∃ T k, M_all_ways [.int 3] S = .ok (.obj k) (S ++ T) ∧ lstAt (S ++ T) k = some ((aw 3).map wayD) := by
  refine ⟨[.lst [.tup []], .lst ((aw 1).map wayD), .lst ((aw 2).map wayD), .lst ((aw 3).map wayD)], S.length + 3, ?_, by simp⟩
  simp -implicitDefEqProofs [M_all_ways, f_all_ways, startD, aw, wayD]
end Pr
set_option Elab.async false
set_option linter.all false
set_option maxRecDepth 100000
set_option maxHeartbeats 1000000
namespace Pr
open PySem PySem.Spec PyProof.Rows L2 DL
theorem zero_pt : D.tup [.int 0, .int 1] = pt 0 := rfl
/-! ### by_ways -/
def wayB : DS :=
  (dSeq (dAsg (dCall 2 M_times (daCons (dVar 6) (daCons (dIf (dB (dVar 8)) (dFld ["Tree"] "up" (dVar 0)) (dFld ["Tree"] "down" (dVar 0))) daNil))) (gN 6))
  (dAsg (dCall 2 M_over (daCons (dCall 2 M_times (daCons (dVar 7) (daCons (dIf (dB (dVar 8)) (dVar 3) (dCall 2 M_less (daCons (dTup (daCons (dC (.int 1)) (daCons (dC (.int 1)) daNil))) (daCons (dVar 3) daNil)))) daNil))) (daCons (dFld ["Tree"] "growth" (dVar 0)) daNil))) (gN 7)))
section
variable {S : Store} {n : Nat} {P K m : Int} {u d g w : Rat} {buy : Bool}
theorem ways_in (ht : TreeAt S n P u d g m) (hu : BLe u 8) (hd : BLe d 8) (hg : BLe g 8) (jw : BLe w 40) (g0 : g ≠ 0) (o1 o2 o4 o5 : Option D) : ∀ (bs : List Bool) (p q : Rat) (a b : Nat) (o8 : Option D), BLe p a → BLe q b → a + 8 * bs.length ≤ 3000 → b + 50 * bs.length ≤ 3000 →
    ∃ a8, forD grdT (gN 8) wayB (bs.map D.bl) [some (.obj n), o1, o2, some (pt w), o4, o5, some (pt p), some (pt q), o8] S = .nx [some (.obj n), o1, o2, some (pt w), o4, o5, some (pt (wayP u d p bs)), some (pt (wayM w g q bs)), a8] S := by
  intro bs
  induction bs with
  | nil =>
    intro p q a b o8 jp jq ha hb
    exact ⟨o8, by simp [wayP, wayM]⟩
  | cons x bs ih =>
    intro p q a b o8 jp jq ha hb
    rw [List.length_cons] at ha hb
    have c1 : BLe p 4000 := ⟨Nat.le_trans jp.le (by omega)⟩
    have c2 : BLe q 4000 := ⟨Nat.le_trans jq.le (by omega)⟩
    have c3 : BLe u 4000 := hu.fin rfl
    have c4 : BLe d 4000 := hd.fin rfl
    have c5 : BLe g 4000 := hg.fin rfl
    have c6 : BLe w 4000 := jw.fin rfl
    have f7 : BLe 1 4000 := BLe.one.fin rfl
    have f2 : BLe (1 - w) 42 := (BLe.one.sub jw).fin rfl
    have f3 : BLe (1 - w) 4000 := f2.fin rfl
    cases x with
    | false =>
      have e1 := jp.mul hd
      have e2 := jq.mul f2
      have e3 := e2.div hg
      have e4 : BLe (q * (1 - w)) 4000 := ⟨Nat.le_trans e2.le (by omega)⟩
      obtain ⟨a8, e⟩ := ih (p * d) (q * (1 - w) / g) (a + 8) (b + 50) (some (.bl false)) e1 ⟨Nat.le_trans e3.le (by omega)⟩ (by omega) (by omega)
      refine ⟨a8, ?_⟩
      have step : wayB [some (.obj n), o1, o2, some (pt w), o4, o5, some (pt p), some (pt q), some (.bl false)] S = .nx [some (.obj n), o1, o2, some (pt w), o4, o5, some (pt (p * d)), some (pt (q * (1 - w) / g)), some (.bl false)] S := by
        simp -implicitDefEqProofs [wayB, ht.at_, C_times, C_over, C_less, one_pt, c1, c2, c3, c4, c5, c6, f7, f3, e4, g0]
      simp -implicitDefEqProofs [step]
      rw [e]
      simp [wayP, wayM]
    | true =>
      have e1 := jp.mul hu
      have e2 := jq.mul jw
      have e3 := e2.div hg
      have e4 : BLe (q * w) 4000 := ⟨Nat.le_trans e2.le (by omega)⟩
      obtain ⟨a8, e⟩ := ih (p * u) (q * w / g) (a + 8) (b + 50) (some (.bl true)) e1 ⟨Nat.le_trans e3.le (by omega)⟩ (by omega) (by omega)
      refine ⟨a8, ?_⟩
      have step : wayB [some (.obj n), o1, o2, some (pt w), o4, o5, some (pt p), some (pt q), some (.bl true)] S = .nx [some (.obj n), o1, o2, some (pt w), o4, o5, some (pt (p * u)), some (pt (q * w / g)), some (.bl true)] S := by
        simp -implicitDefEqProofs [wayB, ht.at_, C_times, C_over, C_less, one_pt, c1, c2, c3, c4, c5, c6, f7, f3, e4, g0]
      simp -implicitDefEqProofs [step]
      rw [e]
      simp [wayP, wayM]
theorem wayP_b (hu : BLe u 8) (hd : BLe d 8) : ∀ (bs : List Bool) (p : Rat) (a : Nat), BLe p a → BLe (wayP u d p bs) (a + 8 * bs.length)
  | [], p, a, h => by simpa [wayP] using h
  | x :: bs, p, a, h => by
    have h1 : BLe (p * (if x = true then u else d)) (a + 8) := by cases x; exact h.mul hd; exact h.mul hu
    have h2 := wayP_b hu hd bs _ _ h1
    refine ⟨Nat.le_trans h2.le ?_⟩
    rw [List.length_cons]; omega
theorem wayM_b (hg : BLe g 8) (jw : BLe w 40) : ∀ (bs : List Bool) (p : Rat) (a : Nat), BLe p a → BLe (wayM w g p bs) (a + 50 * bs.length)
  | [], p, a, h => by simpa [wayM] using h
  | x :: bs, p, a, h => by
    have h1 : BLe (p * (if x = true then w else 1 - w) / g) (a + 50) := by
      cases x
      · exact ⟨Nat.le_trans ((h.mul (BLe.one.sub jw)).div hg).le (by omega)⟩
      · exact ⟨Nat.le_trans ((h.mul jw).div hg).le (by omega)⟩
    have h2 := wayM_b hg jw bs _ _ h1
    refine ⟨Nat.le_trans h2.le ?_⟩
    rw [List.length_cons]; omega
def wayO : DS :=
  (dSeq (dPar2 6 7 (daCons (dTup (daCons (dFld ["Tree"] "price" (dVar 0)) (daCons (dC (.int 1)) daNil))) (daCons (dTup (daCons (dC (.int 1)) (daCons (dC (.int 1)) daNil))) daNil)))
  (dSeq (dFor (diSeq (dVar 5)) (gN 8) wayB)
  (dAsg (dCall 2 M_add (daCons (dVar 4) (daCons (dCall 2 M_times (daCons (dVar 7) (daCons (dCall 3 M_paid (daCons (dVar 6) (daCons (dVar 1) (daCons (dVar 2) daNil)))) daNil))) daNil))) (gN 4))))
theorem ways_out (ht : TreeAt S n P u d g m) (hP : P.natAbs < 2 ^ 8) (hK : K.natAbs < 2 ^ 8) (hu : BLe u 8) (hd : BLe d 8) (hg : BLe g 8) (jw : BLe w 40) (g0 : g ≠ 0) {grd : Store → Bool} (hg2 : grd S = true) : ∀ (xs : List (List Bool)) (s : Rat) (c : Nat) (o5 o6 o7 o8 : Option D), (∀ x ∈ xs, x.length ≤ 3) → BLe s c → c + 300 * xs.length ≤ 3500 →
    ∃ a5 a6 a7 a8, forD grd (gN 5) wayO (xs.map wayD) [some (.obj n), some (.int K), some (.bl buy), some (pt w), some (pt s), o5, o6, o7, o8] S = .nx [some (.obj n), some (.int K), some (.bl buy), some (pt w), some (pt (waysQ u d g w K P buy s xs)), a5, a6, a7, a8] S := by
  intro xs
  induction xs with
  | nil =>
    intro s c o5 o6 o7 o8 hx js hc
    exact ⟨o5, o6, o7, o8, by simp [waysQ, hg2]⟩
  | cons x xs ih =>
    intro s c o5 o6 o7 o8 hx js hc
    rw [List.length_cons] at hc
    have hl := hx x List.mem_cons_self
    have jP : BLe (P : Rat) 8 := ⟨bits_int (n := 7) hP⟩
    have jK : BLe (K : Rat) 8 := ⟨bits_int (n := 7) hK⟩
    obtain ⟨b8, e1⟩ := ways_in (S := S) ht hu hd hg jw g0 (some (.int K)) (some (.bl buy)) (some (pt s)) (some (wayD x)) x (P : Rat) 1 8 1 o8 jP BLe.one (by omega) (by omega)
    have k1 := wayP_b (u := u) (d := d) hu hd x P 8 jP
    have k2 := wayM_b (w := w) (g := g) hg jw x 1 1 BLe.one
    have k3 := k1.paid (b := buy) jK
    have k4 := k2.mul k3
    have k5 := js.add k4
    have c1 : BLe s 4000 := ⟨Nat.le_trans js.le (by omega)⟩
    have c2 : BLe (wayM w g 1 x) 4000 := ⟨Nat.le_trans k2.le (by omega)⟩
    have c3 : BLe (wayP u d P x) 3900 := ⟨Nat.le_trans k1.le (by omega)⟩
    have c4 : BLe (paidQ (wayP u d P x) K buy) 4000 := ⟨Nat.le_trans k3.le (by omega)⟩
    have c5 : BLe (wayM w g 1 x * paidQ (wayP u d P x) K buy) 4000 := ⟨Nat.le_trans k4.le (by omega)⟩
    have hK2 : K.natAbs < 2 ^ 50 := by omega
    have step : wayO [some (.obj n), some (.int K), some (.bl buy), some (pt w), some (pt s), some (wayD x), o6, o7, o8] S = .nx [some (.obj n), some (.int K), some (.bl buy), some (pt w), some (pt (s + wayM w g 1 x * paidQ (wayP u d P x) K buy)), some (wayD x), some (pt (wayP u d P x)), some (pt (wayM w g 1 x)), b8] S := by
      unfold wayD at e1 ⊢
      simp -implicitDefEqProofs [wayO, ht.at_, C_times, C_add, C_paid, one_pt, tup_int, e1, c1, c2, c3, c4, c5, hK2]
    obtain ⟨a5, a6, a7, a8, e⟩ := ih (s + wayM w g 1 x * paidQ (wayP u d P x) K buy) (c + 300) (some (wayD x)) (some (pt (wayP u d P x))) (some (pt (wayM w g 1 x))) b8 (fun y hy => hx y (List.mem_cons_of_mem _ hy)) ⟨Nat.le_trans k5.le (by omega)⟩ (by omega)
    refine ⟨a5, a6, a7, a8, ?_⟩
    simp -implicitDefEqProofs [hg2, step]
    rw [e]
    simp [waysQ]
theorem aw_len : ∀ t, t ≤ 3 → ∀ x ∈ aw t, x.length ≤ 3 := by decide
theorem aw_n : ∀ t, t ≤ 3 → (aw t).length ≤ 8 := by decide
theorem M_by_ways_ok (t : Nat) (ht : TreeAt S n P u d g t) (h1 : 1 ≤ t) (h3 : t ≤ 3) (hP : P.natAbs < 2 ^ 8) (hK : K.natAbs < 2 ^ 8) (hu : BLe u 8) (hd : BLe d 8) (hg : BLe g 8) (g0 : g ≠ 0) (hne : u - d ≠ 0) :
    ∃ T, M_Tree_by_ways [.obj n, .int K, .bl buy] S = .ok (pt (RQ u d g (wQ u d g) K buy false t P)) (S ++ T) := by
  have zu : Sz 30 u := sz_bits (Nat.le_trans hu.le (by decide))
  have zd : Sz 30 d := sz_bits (Nat.le_trans hd.le (by decide))
  have zg : Sz 30 g := sz_bits (Nat.le_trans hg.le (by decide))
  have jw : BLe (wQ u d g) 40 := ((hg.sub hd).div (hu.sub hd)).fin rfl
  have w1 := M_weight_ok ht zu zd zg hne
  have aw' : ∃ T k, M_all_ways [.int t] S = .ok (.obj k) (S ++ T) ∧ lstAt (S ++ T) k = some ((aw t).map wayD) := by
    match t, h1, h3 with
    | 1, _, _ => exact M_ways1 S
    | 2, _, _ => exact M_ways2 S
    | 3, _, _ => exact M_ways3 S
  obtain ⟨T, k, e1, e2⟩ := aw'
  have hq : waysQ u d g (wQ u d g) K P buy 0 (aw t) = RQ u d g (wQ u d g) K buy false t P := by
    clear e1 e2 w1 ht
    obtain rfl | rfl | rfl : t = 1 ∨ t = 2 ∨ t = 3 := by omega
    · exact ways1 buy g0 P
    · exact ways2 buy g0 P
    · exact ways3 buy g0 P
  obtain ⟨a5, a6, a7, a8, e⟩ := ways_out (S := S ++ T) (buy := buy) (m := t) ht.keep hP hK hu hd hg jw g0 (grd := grdL k ((aw t).map wayD)) (grdL_iff.mpr e2) (aw t) 0 1 none none none none (aw_len t h3) BLe.zero (by have := aw_n t h3; omega)
  rw [hq] at e
  refine ⟨T, ?_⟩
  unfold wayO wayB at e
  simp -implicitDefEqProofs [M_Tree_by_ways, f_Tree_by_ways, startD, ht.at_, w1, zero_pt, e1, e2, e]
end
end Pr
set_option Elab.async false
set_option linter.all false
set_option maxRecDepth 100000
set_option maxHeartbeats 1000000
namespace Pr
open PySem PySem.Spec PyProof.Rows L2 DL
/-! ### _law_ways -/
def lwB : DS :=
  (dSeq (dAsg (dCall 2 M_times (daCons (dVar 10) (daCons (dIf (dB (dVar 12)) (dVar 1) (dVar 2)) daNil))) (gN 10))
  (dAsg (dCall 2 M_over (daCons (dCall 2 M_times (daCons (dVar 11) (daCons (dIf (dB (dVar 12)) (dVar 3) (dCall 2 M_less (daCons (dTup (daCons (dC (.int 1)) (daCons (dC (.int 1)) daNil))) (daCons (dVar 3) daNil)))) daNil))) (daCons (dVar 4) daNil))) (gN 11)))
section
variable {S : Store} {n : Nat} {P K m : Int} {u d g w : Rat} {buy : Bool}
theorem lw_in (hu : BLe u 8) (hd : BLe d 8) (hg : BLe g 8) (jw : BLe w 40) (g0 : g ≠ 0) (o0 o5 o6 o7 o8 o9 o13 : Option D) : ∀ (bs : List Bool) (p q : Rat) (a b : Nat) (o12 : Option D), BLe p a → BLe q b → a + 8 * bs.length ≤ 3000 → b + 50 * bs.length ≤ 3000 →
    ∃ a12, forD grdT (gN 12) lwB (bs.map D.bl) [o0, some (pt u), some (pt d), some (pt w), some (pt g), o5, o6, o7, o8, o9, some (pt p), some (pt q), o12, o13] S = .nx [o0, some (pt u), some (pt d), some (pt w), some (pt g), o5, o6, o7, o8, o9, some (pt (wayP u d p bs)), some (pt (wayM w g q bs)), a12, o13] S := by
  intro bs
  induction bs with
  | nil =>
    intro p q a b o12 jp jq ha hb
    exact ⟨o12, by simp [wayP, wayM]⟩
  | cons x bs ih =>
    intro p q a b o12 jp jq ha hb
    rw [List.length_cons] at ha hb
    have c1 : BLe p 4000 := ⟨Nat.le_trans jp.le (by omega)⟩
    have c2 : BLe q 4000 := ⟨Nat.le_trans jq.le (by omega)⟩
    have c3 : BLe u 4000 := hu.fin rfl
    have c4 : BLe d 4000 := hd.fin rfl
    have c5 : BLe g 4000 := hg.fin rfl
    have c6 : BLe w 4000 := jw.fin rfl
    have f7 : BLe 1 4000 := BLe.one.fin rfl
    have f2 : BLe (1 - w) 42 := (BLe.one.sub jw).fin rfl
    have f3 : BLe (1 - w) 4000 := f2.fin rfl
    cases x with
    | false =>
      have e1 := jp.mul hd
      have e2 := jq.mul f2
      have e3 := e2.div hg
      have e4 : BLe (q * (1 - w)) 4000 := ⟨Nat.le_trans e2.le (by omega)⟩
      obtain ⟨a8, e⟩ := ih (p * d) (q * (1 - w) / g) (a + 8) (b + 50) (some (.bl false)) e1 ⟨Nat.le_trans e3.le (by omega)⟩ (by omega) (by omega)
      refine ⟨a8, ?_⟩
      have step : lwB [o0, some (pt u), some (pt d), some (pt w), some (pt g), o5, o6, o7, o8, o9, some (pt p), some (pt q), some (.bl false), o13] S = .nx [o0, some (pt u), some (pt d), some (pt w), some (pt g), o5, o6, o7, o8, o9, some (pt (p * d)), some (pt (q * (1 - w) / g)), some (.bl false), o13] S := by
        simp -implicitDefEqProofs [lwB, C_times, C_over, C_less, one_pt, c1, c2, c3, c4, c5, c6, f7, f3, e4, g0]
      simp -implicitDefEqProofs [step]
      rw [e]
      simp [wayP, wayM]
    | true =>
      have e1 := jp.mul hu
      have e2 := jq.mul jw
      have e3 := e2.div hg
      have e4 : BLe (q * w) 4000 := ⟨Nat.le_trans e2.le (by omega)⟩
      obtain ⟨a8, e⟩ := ih (p * u) (q * w / g) (a + 8) (b + 50) (some (.bl true)) e1 ⟨Nat.le_trans e3.le (by omega)⟩ (by omega) (by omega)
      refine ⟨a8, ?_⟩
      have step : lwB [o0, some (pt u), some (pt d), some (pt w), some (pt g), o5, o6, o7, o8, o9, some (pt p), some (pt q), some (.bl true), o13] S = .nx [o0, some (pt u), some (pt d), some (pt w), some (pt g), o5, o6, o7, o8, o9, some (pt (p * u)), some (pt (q * w / g)), some (.bl true), o13] S := by
        simp -implicitDefEqProofs [lwB, C_times, C_over, C_less, one_pt, c1, c2, c3, c4, c5, c6, f7, f3, e4, g0]
      simp -implicitDefEqProofs [step]
      rw [e]
      simp [wayP, wayM]
def lwO : DS :=
  (dSeq (dPar2 10 11 (daCons (dTup (daCons (dVar 0) (daCons (dC (.int 1)) daNil))) (daCons (dTup (daCons (dC (.int 1)) (daCons (dC (.int 1)) daNil))) daNil)))
  (dSeq (dFor (diSeq (dVar 9)) (gN 12) lwB)
  (dSeq (dAsg (dIf (dB (dVar 7)) (dCall 2 M_less (daCons (dVar 10) (daCons (dTup (daCons (dVar 6) (daCons (dC (.int 1)) daNil))) daNil))) (dCall 2 M_less (daCons (dTup (daCons (dVar 6) (daCons (dC (.int 1)) daNil))) (daCons (dVar 10) daNil)))) (gN 13))
  (dAsg (dCall 2 M_add (daCons (dVar 8) (daCons (dCall 2 M_times (daCons (dVar 11) (daCons (dIf (dB (dOp gtD (dOp ixD (dVar 13) (dC (.int 0))) (dC (.int 0)))) (dVar 13) (dTup (daCons (dC (.int 0)) (daCons (dC (.int 1)) daNil)))) daNil))) daNil))) (gN 8)))))
theorem lw_out (hP : P.natAbs < 2 ^ 8) (hK : K.natAbs < 2 ^ 8) (hu : BLe u 8) (hd : BLe d 8) (hg : BLe g 8) (jw : BLe w 40) (g0 : g ≠ 0) {grd : Store → Bool} (hg2 : grd S = true) (o5 : Option D) : ∀ (xs : List (List Bool)) (s : Rat) (c : Nat) (o9 o10 o11 o12 o13 : Option D), (∀ x ∈ xs, x.length ≤ 3) → BLe s c → c + 300 * xs.length ≤ 3500 →
    ∃ a9 a10 a11 a12 a13, forD grd (gN 9) lwO (xs.map wayD) [some (.int P), some (pt u), some (pt d), some (pt w), some (pt g), o5, some (.int K), some (.bl true), some (pt s), o9, o10, o11, o12, o13] S = .nx [some (.int P), some (pt u), some (pt d), some (pt w), some (pt g), o5, some (.int K), some (.bl true), some (pt (waysQ u d g w K P true s xs)), a9, a10, a11, a12, a13] S := by
  intro xs
  induction xs with
  | nil =>
    intro s c o9 o10 o11 o12 o13 hx js hc
    exact ⟨o9, o10, o11, o12, o13, by simp [waysQ, hg2]⟩
  | cons x xs ih =>
    intro s c o9 o10 o11 o12 o13 hx js hc
    rw [List.length_cons] at hc
    have hl := hx x List.mem_cons_self
    have jP : BLe (P : Rat) 8 := ⟨bits_int (n := 7) hP⟩
    have jK : BLe (K : Rat) 8 := ⟨bits_int (n := 7) hK⟩
    obtain ⟨b8, e1⟩ := lw_in (S := S) (w := w) hu hd hg jw g0 (some (.int P)) o5 (some (.int K)) (some (.bl true)) (some (pt s)) (some (wayD x)) o13 x (P : Rat) 1 8 1 o12 jP BLe.one (by omega) (by omega)
    have k1 := wayP_b (u := u) (d := d) hu hd x P 8 jP
    have k2 := wayM_b (w := w) (g := g) hg jw x 1 1 BLe.one
    have k3 := k1.paid (b := true) jK
    have k4 := k2.mul k3
    have k5 := js.add k4
    have c0 : BLe (K : Rat) 4000 := jK.fin rfl
    have c1 : BLe s 4000 := ⟨Nat.le_trans js.le (by omega)⟩
    have c2 : BLe (wayM w g 1 x) 4000 := ⟨Nat.le_trans k2.le (by omega)⟩
    have c3 : BLe (wayP u d P x) 4000 := ⟨Nat.le_trans k1.le (by omega)⟩
    have c4 : BLe (paidQ (wayP u d P x) K true) 4000 := ⟨Nat.le_trans k3.le (by omega)⟩
    have c5 : BLe (wayM w g 1 x * paidQ (wayP u d P x) K true) 4000 := ⟨Nat.le_trans k4.le (by omega)⟩
    have step : lwO [some (.int P), some (pt u), some (pt d), some (pt w), some (pt g), o5, some (.int K), some (.bl true), some (pt s), some (wayD x), o10, o11, o12, o13] S = .nx [some (.int P), some (pt u), some (pt d), some (pt w), some (pt g), o5, some (.int K), some (.bl true), some (pt (s + wayM w g 1 x * paidQ (wayP u d P x) K true)), some (wayD x), some (pt (wayP u d P x)), some (pt (wayM w g 1 x)), b8, some (pt (wayP u d P x - K))] S := by
      unfold wayD at e1 ⊢
      by_cases z : 0 < wayP u d P x - K
      · have z1 := num_pos.mpr z
        have z2 : paidQ (wayP u d P x) K true = wayP u d P x - K := by simp [paidQ, maxQ, z]
        rw [z2] at c4 c5 ⊢
        simp -implicitDefEqProofs [lwO, C_times, C_add, C_less, one_pt, tup_int, e1, c0, c1, c2, c3, c4, c5, z1]
      · have z1 : ¬ 0 < (wayP u d P x - K).num := fun h => z (num_pos.mp h)
        have z2 : paidQ (wayP u d P x) K true = 0 := by simp [paidQ, maxQ, z]
        rw [z2] at c4 c5 ⊢
        simp -implicitDefEqProofs only [lwO]
        simp -implicitDefEqProofs [C_times, C_add, C_less, one_pt, zero_pt, tup_int, e1, c0, c1, c2, c3, c4, c5, z1]
    obtain ⟨a9, a10, a11, a12, a13, e⟩ := ih (s + wayM w g 1 x * paidQ (wayP u d P x) K true) (c + 300) (some (wayD x)) (some (pt (wayP u d P x))) (some (pt (wayM w g 1 x))) b8 (some (pt (wayP u d P x - K))) (fun y hy => hx y (List.mem_cons_of_mem _ hy)) ⟨Nat.le_trans k5.le (by omega)⟩ (by omega)
    refine ⟨a9, a10, a11, a12, a13, ?_⟩
    simp -implicitDefEqProofs [hg2, step]
    rw [e]
    simp [waysQ]
theorem M_law_ways_ok (S : Store) (t : Nat) (h1 : 1 ≤ t) (h3 : t ≤ 3) (hP : P.natAbs < 2 ^ 8) (hK : K.natAbs < 2 ^ 8) (hu : BLe u 8) (hd : BLe d 8) (hg : BLe g 8) (jw : BLe w 40) (g0 : g ≠ 0) :
    ∃ T, M__law_ways [.int P, pt u, pt d, pt w, pt g, .int t, .int K, .bl true] S = .ok (pt (RQ u d g w K true false t P)) (S ++ T) := by
  have aw' : ∃ T k, M_all_ways [.int t] S = .ok (.obj k) (S ++ T) ∧ lstAt (S ++ T) k = some ((aw t).map wayD) := by
    obtain rfl | rfl | rfl : t = 1 ∨ t = 2 ∨ t = 3 := by omega
    · exact M_ways1 S
    · exact M_ways2 S
    · exact M_ways3 S
  obtain ⟨T, k, e1, e2⟩ := aw'
  have hq : waysQ u d g w K P true 0 (aw t) = RQ u d g w K true false t P := by
    clear e1 e2
    obtain rfl | rfl | rfl : t = 1 ∨ t = 2 ∨ t = 3 := by omega
    · exact ways1 true g0 P
    · exact ways2 true g0 P
    · exact ways3 true g0 P
  obtain ⟨a5, a6, a7, a8, a9, e⟩ := lw_out (S := S ++ T) (w := w) hP hK hu hd hg jw g0 (grd := grdL k ((aw t).map wayD)) (grdL_iff.mpr e2) (some (.int t)) (aw t) 0 1 none none none none none (aw_len t h3) BLe.zero (by have := aw_n t h3; omega)
  rw [hq] at e
  refine ⟨T, ?_⟩
  unfold lwO lwB at e
  simp -implicitDefEqProofs [M__law_ways, f__law_ways, startD, zero_pt, e1, e2, e]
/-! ### parity -/
theorem M_parity_ok (S : Store) (t : Nat) (h1 : 1 ≤ t) (h3 : t ≤ 3) (hP : P.natAbs < 2 ^ 8) (hK : K.natAbs < 2 ^ 8) (hg : BLe g 8) (g0 : g ≠ 0) : M_parity [.int P, .int K, pt g, .int t] S = .ok (pt (P - K / g ^ t)) S := by
  have jP : BLe (P : Rat) 8 := ⟨bits_int (n := 7) hP⟩
  have jK : BLe (K : Rat) 8 := ⟨bits_int (n := 7) hK⟩
  have d1 := jK.div hg
  have d2 := d1.div hg
  have d3 := d2.div hg
  have c1 : BLe (P : Rat) 4000 := jP.fin rfl
  have c2 : BLe (K : Rat) 4000 := jK.fin rfl
  have c3 : BLe g 4000 := hg.fin rfl
  have c4 := d1.fin (k := 4000) rfl
  have c5 := d2.fin (k := 4000) rfl
  have c6 := d3.fin (k := 4000) rfl
  obtain rfl | rfl | rfl : t = 1 ∨ t = 2 ∨ t = 3 := by omega
  · have e : (P : Rat) - K / g ^ 1 = P - K / g := by grind
    rw [e]
    simp -implicitDefEqProofs [M_parity, f_parity, startD, tup_int, C_over, C_less, c1, c2, c3, c4, c5, c6, g0]
  · have e : (P : Rat) - K / g ^ 2 = P - K / g / g := by grind
    rw [e]
    simp -implicitDefEqProofs [M_parity, f_parity, startD, tup_int, C_over, C_less, c1, c2, c3, c4, c5, c6, g0]
  · have e : (P : Rat) - K / g ^ 3 = P - K / g / g / g := by grind
    rw [e]
    simp -implicitDefEqProofs [M_parity, f_parity, startD, tup_int, C_over, C_less, c1, c2, c3, c4, c5, c6, g0]
/-! ### a tree made -/
theorem cmp_lt {q r : Rat} (h : q < r) : cmpQ q r = -1 := by simp [cmpQ, h]
theorem M_Tree_init_ok (S : Store) (t : Int) (h0 : 0 < t) (h3 : t ≤ 12) (hP1 : 1 ≤ P) (jd : BLe d 8) (ju : BLe u 8) (jg : BLe g 8) (hd : 0 < d) (hdg : d < g) (hgu : g < u) :
    M_Tree___init__ [.obj S.length, .int P, pt u, pt d, pt g, .int t] (S ++ [.ins "Tree" []]) = .ok .non (S ++ [.ins "Tree" (treeFs P u d g t)]) := by
  have n1 : ¬ d.num < 1 := by have := num_pos.mpr hd; omega
  have n2 : ¬ P < 1 := by omega
  have c1 : BLe d 4000 := jd.fin rfl
  have c2 : BLe u 4000 := ju.fin rfl
  have c3 : BLe g 4000 := jg.fin rfl
  have p0 : putD ("price" : Str) (.int P) [] = [(("price" : Str), .int P)] := rfl
  have p1 : putD ("up" : Str) (pt u) [(("price" : Str), .int P)] = [(("price" : Str), .int P), (("up" : Str), pt u)] := rfl
  have p2 : putD ("down" : Str) (pt d) [(("price" : Str), .int P), (("up" : Str), pt u)] = [(("price" : Str), .int P), (("up" : Str), pt u), (("down" : Str), pt d)] := rfl
  have p3 : putD ("growth" : Str) (pt g) [(("price" : Str), .int P), (("up" : Str), pt u), (("down" : Str), pt d)] = [(("price" : Str), .int P), (("up" : Str), pt u), (("down" : Str), pt d), (("growth" : Str), pt g)] := rfl
  have p4 : putD ("many" : Str) (.int t) [(("price" : Str), .int P), (("up" : Str), pt u), (("down" : Str), pt d), (("growth" : Str), pt g)] = treeFs P u d g t := rfl
  simp -implicitDefEqProofs [M_Tree___init__, f_Tree___init__, startD, C_order, c1, c2, c3, cmp_lt hdg, cmp_lt hgu, n1, n2, h0, h3, dChain, p0, p1, p2, p3, p4]
end
end Pr
set_option Elab.async false
set_option linter.all false
set_option maxRecDepth 100000
set_option maxHeartbeats 1000000
namespace Pr
open PySem PySem.Spec PyProof.Rows L2 DL
section
variable {S : Store} {n tn : Nat} {P K m : Int} {u d g w M : Rat} {buy : Bool}
theorem M_Scaled_init_ok (S : Store) : M_Scaled___init__ [.obj S.length, .obj tn, pt M] (S ++ [.ins "Scaled" []]) = .ok .non (S ++ [.ins "Scaled" (scFs tn M)]) := by
  have p0 : putD ("tree" : Str) (.obj tn) [] = [(("tree" : Str), .obj tn)] := rfl
  have p1 : putD ("much" : Str) (pt M) [(("tree" : Str), .obj tn)] = scFs tn M := rfl
  simp -implicitDefEqProofs [M_Scaled___init__, f_Scaled___init__, startD, p0, p1]
theorem M_Scaled_init_ok1 (S : Store) (o : DO) : M_Scaled___init__ [.obj (S.length + 1), .obj tn, pt M] (S ++ [o, .ins "Scaled" []]) = .ok .non (S ++ [o, .ins "Scaled" (scFs tn M)]) := by
  have h := M_Scaled_init_ok (tn := tn) (M := M) (S ++ [o])
  simpa using h
theorem M_after_ok {b : Bool} (t : Nat) (ht : TreeAt S n P u d g t) (h2 : 2 ≤ t) (h3 : t ≤ 3) (hP : P.natAbs < 2 ^ 8) (ju : BLe u 8) (jd : BLe d 8) (jg : BLe g 8) (hd : 0 < d) (hdg : d < g) (hgu : g < u) :
    M_Tree_after [.obj n, .bl b] S = .ok (.obj (S.length + 1)) (S ++ [.ins "Tree" (treeFs 1 u d g ((t - 1 : Nat) : Int)), .ins "Scaled" (scFs S.length (P * (if b = true then u else d)))]) := by
  have jP : BLe (P : Rat) 8 := ⟨bits_int (n := 7) hP⟩
  have c1 : BLe (P : Rat) 4000 := jP.fin rfl
  have c2 : BLe u 4000 := ju.fin rfl
  have c3 : BLe d 4000 := jd.fin rfl
  have e : (t : Int) - 1 = ((t - 1 : Nat) : Int) := by omega
  have i1 := M_Tree_init_ok (P := 1) (u := u) (d := d) (g := g) S ((t - 1 : Nat) : Int) (by omega) (by omega) (by omega) jd ju jg hd hdg hgu
  cases b with
  | true => simp -implicitDefEqProofs [M_Tree_after, f_Tree_after, startD, ht.at_, ht.more, e, i1, tup_int, C_times, c1, c2, c3, M_Scaled_init_ok1]
  | false => simp -implicitDefEqProofs [M_Tree_after, f_Tree_after, startD, ht.at_, ht.more, e, i1, tup_int, C_times, c1, c2, c3, M_Scaled_init_ok1]
theorem NB_m (j : Nat) : 60 ≤ NB j := by
  unfold NB
  have : 1 ≤ 2 ^ j := Nat.one_le_two_pow
  omega
theorem RQ_b {any : Bool} {K : Rat} (hu : BLe u 8) (hd : BLe d 8) (hg : BLe g 8) (jw : BLe w 40) (jK : BLe K 8) : ∀ (j : Nat) (p : Rat) (a : Nat), BLe p a → a + 8 * j ≤ 40 → BLe (RQ u d g w K buy any j p) (NB j)
  | 0, p, a, h, hj => ⟨Nat.le_trans (h.paid (b := buy) jK).le (by show a + 8 + 2 ≤ 60; omega)⟩
  | j + 1, p, a, h, hj => by
    have q1 := RQ_b (any := any) hu hd hg jw jK j (p * d) (a + 8) (h.mul hd) (by omega)
    have q2 := RQ_b (any := any) hu hd hg jw jK j (p * u) (a + 8) (h.mul hu) (by omega)
    have q3 := (((jw.mul q2).add ((BLe.one.sub jw).mul q1)).div hg).le
    have q4 := (h.paid (b := buy) jK).le
    have e : bits (meanQ w g (RQ u d g w K buy any j (p * d)) (RQ u d g w K buy any j (p * u))) ≤ _ := q3
    have q5 := bits_ite (any = true ∧ 0 < cmpQ (paidQ p K buy) (meanQ w g (RQ u d g w K buy any j (p * d)) (RQ u d g w K buy any j (p * u)))) (paidQ p K buy) (meanQ w g (RQ u d g w K buy any j (p * d)) (RQ u d g w K buy any j (p * u)))
    have := NB_s j
    refine ⟨?_⟩
    show bits (nodeQ any (paidQ p K buy) (meanQ w g (RQ u d g w K buy any j (p * d)) (RQ u d g w K buy any j (p * u)))) ≤ _
    unfold nodeQ
    omega
def sharesQ (P u d lo hi : Rat) : Rat := (hi - lo) / (P * u - P * d)
def moneyQ (P u d g lo hi : Rat) : Rat := (lo - sharesQ P u d lo hi * (P * d)) / g
theorem M_held_ok (t : Nat) (ht : TreeAt S n P u d g t) (h1 : 1 ≤ t) (h3 : t ≤ 3) (hP1 : 1 ≤ P) (hP : P.natAbs < 2 ^ 8) (hK : K.natAbs < 2 ^ 8) (ju : BLe u 8) (jd : BLe d 8) (jg : BLe g 8) (hd : 0 < d) (hdg : d < g) (hgu : g < u) :
    ∃ T lo hi, lo = RQ u d g (wQ u d g) K true false (t - 1) (P * d) ∧ hi = RQ u d g (wQ u d g) K true false (t - 1) (P * u) ∧ M_Tree_held [.obj n, .int K, .bl true] S = .ok (.tup [pt (sharesQ P u d lo hi), pt (moneyQ P u d g lo hi)]) (S ++ T) := by
  have jP : BLe (P : Rat) 8 := ⟨bits_int (n := 7) hP⟩
  have jK : BLe (K : Rat) 8 := ⟨bits_int (n := 7) hK⟩
  have zu : Sz 30 u := sz_bits (Nat.le_trans ju.le (by decide))
  have zd : Sz 30 d := sz_bits (Nat.le_trans jd.le (by decide))
  have zg : Sz 30 g := sz_bits (Nat.le_trans jg.le (by decide))
  have jw : BLe (wQ u d g) 40 := ((jg.sub jd).div (ju.sub jd)).fin rfl
  have g0 : g ≠ 0 := by grind
  have hne : u - d ≠ 0 := by grind
  have P0 : (0 : Rat) < P := by
    have : (0 : Int) < P := by omega
    exact_mod_cast this
  have hne2 : (P : Rat) * u - P * d ≠ 0 := by
    have : (P : Rat) * u - P * d = P * (u - d) := by grind
    rw [this]
    intro z
    rcases Rat.mul_eq_zero.mp z with z | z <;> grind
  -- the end: from low and high
  have fin : ∀ (S' : Store) (lo hi : Rat) (o8 : Option D), TreeAt S' n P u d g t → BLe lo 840 → BLe hi 840 → ∃ T, finS (((dSeq (dAsg (dMeth "Tree" "prices" 2 M_Tree_prices (dVar 0) (daCons (dC (.int 1)) daNil)) (gT 2 (gsCons (gN 5) (gsCons (gN 6) gsNil))))
  (dSeq (dAsg (dCall 2 M_over (daCons (dCall 2 M_less (daCons (dVar 4) (daCons (dVar 3) daNil))) (daCons (dCall 2 M_less (daCons (dVar 6) (daCons (dVar 5) daNil))) daNil))) (gN 7))
  (dRet (dTup (daCons (dVar 7) (daCons (dCall 2 M_over (daCons (dCall 2 M_less (daCons (dVar 3) (daCons (dCall 2 M_times (daCons (dVar 7) (daCons (dVar 5) daNil))) daNil))) (daCons (dFld ["Tree"] "growth" (dVar 0)) daNil))) daNil))))))) [some (.obj n), some (.int K), some (.bl true), some (pt lo), some (pt hi), none, none, none, o8] S') = .ok (.tup [pt (sharesQ P u d lo hi), pt (moneyQ P u d g lo hi)]) (S' ++ T) := by
    intro S' lo hi o8 ht' jl jh
    have pr := M_prices_ok ht' (by omega) zu zd zg 1 (by decide)
    have e1 := jP.mul jd
    have e2 := jP.mul ju
    have e3 := jh.sub jl
    have e4 := e2.sub e1
    have e5 := e3.div e4
    have e6 := e5.mul e1
    have e7 := jl.sub e6
    have c1 : BLe lo 4000 := jl.fin rfl
    have c2 : BLe hi 4000 := jh.fin rfl
    have c3 : BLe (P * d : Rat) 4000 := e1.fin rfl
    have c4 : BLe (P * u : Rat) 4000 := e2.fin rfl
    have c5 : BLe (hi - lo) 4000 := e3.fin rfl
    have c6 : BLe (P * u - P * d : Rat) 4000 := e4.fin rfl
    have c7 : BLe (sharesQ P u d lo hi) 4000 := e5.fin rfl
    have c8 : BLe (sharesQ P u d lo hi * (P * d)) 4000 := e6.fin rfl
    have c9 : BLe (lo - sharesQ P u d lo hi * (P * d)) 4000 := e7.fin rfl
    have c10 : BLe g 4000 := jg.fin rfl
    have es : (hi - lo) / (P * u - P * d : Rat) = sharesQ P u d lo hi := rfl
    have em : (lo - sharesQ P u d lo hi * (P * d)) / g = moneyQ P u d g lo hi := rfl
    refine ⟨[.lst ((prs P u d 1).map pt)], ?_⟩
    simp only [prs, List.map_cons, List.map_nil] at pr ⊢
    simp at pr
    simp -implicitDefEqProofs [ht'.at_, ht'.more, pr, C_less, C_over, C_times, c1, c2, c3, c4, c5, c6, c7, c8, c9, c10, g0, hne2, es, em]
  by_cases z : t = 1
  · subst z
    have pr := M_prices_ok ht (by omega) zu zd zg 1 (by decide)
    have e1 := jP.mul jd
    have e2 := jP.mul ju
    have q1 : BLe (paidQ (P * d) K true) 840 := (e1.paid jK).fin rfl
    have q2 : BLe (paidQ (P * u) K true) 840 := (e2.paid jK).fin rfl
    have c1 : BLe (P * d : Rat) 3900 := e1.fin rfl
    have c2 : BLe (P * u : Rat) 3900 := e2.fin rfl
    have hK2 : K.natAbs < 2 ^ 50 := by omega
    obtain ⟨T, e⟩ := fin (S ++ [.lst ((prs P u d 1).map pt), .lst [pt (paidQ (P * d) K true), pt (paidQ (P * u) K true)]]) _ _ none ht.keep q1 q2
    refine ⟨[.lst ((prs P u d 1).map pt), .lst [pt (paidQ (P * d) K true), pt (paidQ (P * u) K true)]] ++ T, _, _, rfl, rfl, ?_⟩
    simp only [prs, List.map_cons, List.map_nil] at pr e ⊢
    simp at pr
    simp -implicitDefEqProofs only [M_Tree_held, f_Tree_held, e_runD, startD]
    rw [e_dSeq]
    rw [show seqS _ _ = _ from congrArg (fun o => seqS o _) (show _ = OutS.nx [some (.obj n), some (.int K), some (.bl true), some (pt (paidQ (P * d) K true)), some (pt (paidQ (P * u) K true)), none, none, none, none] (S ++ [.lst [pt (P * d), pt (P * u)], .lst [pt (paidQ (P * d) K true), pt (paidQ (P * u) K true)]]) from by
      simp -implicitDefEqProofs [ht.at_, ht.more, pr, C_paid, c1, c2, hK2])]
    rw [seqS_nx]
    rw [← List.append_assoc]
    exact e
  · have h2 : 2 ≤ t := by omega
    have af := M_after_ok (b := false) t ht h2 h3 hP ju jd jg hd hdg hgu
    have s1 : ScAt (S ++ [.ins "Tree" (treeFs 1 u d g ((t - 1 : Nat) : Int)), .ins "Scaled" (scFs S.length (P * (if false = true then u else d)))]) (S.length + 1) S.length (P * d) := ⟨by simp⟩
    have t1 : TreeAt (S ++ [.ins "Tree" (treeFs 1 u d g ((t - 1 : Nat) : Int)), .ins "Scaled" (scFs S.length (P * (if false = true then u else d)))]) S.length 1 u d g ((t - 1 : Nat) : Int) := ⟨by simp⟩
    obtain ⟨T1, r1⟩ := M_sright_ok (K := K) (buy := true) (any := false) _ (t - 1) s1 t1 (by omega) hK ju jd jg ((jP.mul jd).fin rfl) g0 hne
    generalize hS1 : S ++ [.ins "Tree" (treeFs 1 u d g ((t - 1 : Nat) : Int)), .ins "Scaled" (scFs S.length (P * (if false = true then u else d)))] = S1 at *
    have htA : TreeAt (S1 ++ T1) n P u d g t := by rw [← hS1]; exact ht.keep.keep
    have af2 := M_after_ok (b := true) t htA h2 h3 hP ju jd jg hd hdg hgu
    have s2 : ScAt (S1 ++ T1 ++ [.ins "Tree" (treeFs 1 u d g ((t - 1 : Nat) : Int)), .ins "Scaled" (scFs (S1 ++ T1).length (P * (if true = true then u else d)))]) ((S1 ++ T1).length + 1) (S1 ++ T1).length (P * u) := ⟨by rw [insAt_app]; simp⟩
    have t2 : TreeAt (S1 ++ T1 ++ [.ins "Tree" (treeFs 1 u d g ((t - 1 : Nat) : Int)), .ins "Scaled" (scFs (S1 ++ T1).length (P * (if true = true then u else d)))]) (S1 ++ T1).length 1 u d g ((t - 1 : Nat) : Int) := ⟨by rw [insAt_app0]; simp⟩
    obtain ⟨T2, r2⟩ := M_sright_ok (K := K) (buy := true) (any := false) _ (t - 1) s2 t2 (by omega) hK ju jd jg ((jP.mul ju).fin rfl) g0 hne
    generalize hS2 : S1 ++ T1 ++ [.ins "Tree" (treeFs 1 u d g ((t - 1 : Nat) : Int)), .ins "Scaled" (scFs (S1 ++ T1).length (P * (if true = true then u else d)))] = S2 at *
    have htB : TreeAt (S2 ++ T2) n P u d g t := by rw [← hS2]; exact htA.keep.keep
    have q1 := RQ_b (any := false) (buy := true) ju jd jg jw jK (t - 1) (P * d) 16 (jP.mul jd) (by omega)
    have q2 := RQ_b (any := false) (buy := true) ju jd jg jw jK (t - 1) (P * u) 16 (jP.mul ju) (by omega)
    have nb : NB (t - 1) ≤ 840 := by
      obtain rfl | rfl : t = 2 ∨ t = 3 := by omega
      · decide
      · decide
    obtain ⟨T3, e⟩ := fin (S2 ++ T2) _ _ none htB ⟨Nat.le_trans q1.le nb⟩ ⟨Nat.le_trans q2.le nb⟩
    have ex : ∃ T, S2 ++ T2 ++ T3 = S ++ T := by
      rw [← hS2, ← hS1]
      simp only [List.append_assoc]
      exact ⟨_, rfl⟩
    obtain ⟨T, eT⟩ := ex
    refine ⟨T, _, _, rfl, rfl, ?_⟩
    rw [← eT, ← e]
    have zt : ¬ (t : Int) = 1 := by omega
    have i1 : insAt S1 (.obj (S.length + 1)) = _ := s1.at_
    have i2 : insAt S2 (.obj ((S1 ++ T1).length + 1)) = _ := s2.at_
    simp -implicitDefEqProofs only [M_Tree_held, f_Tree_held, e_runD, startD]
    rw [e_dSeq]
    rw [show seqS _ _ = _ from congrArg (fun o => seqS o _) (show _ = OutS.nx [some (.obj n), some (.int K), some (.bl true), some (pt (RQ u d g (wQ u d g) K true false (t - 1) (P * d))), some (pt (RQ u d g (wQ u d g) K true false (t - 1) (P * u))), none, none, none, none] (S2 ++ T2) from by
      simp -implicitDefEqProofs [-List.length_append, ht.at_, htA.at_, zt, af, af2, i1, i2, r1, r2])]
    rw [seqS_nx]
end
end Pr
set_option Elab.async false
set_option linter.all false
set_option maxRecDepth 100000
set_option maxHeartbeats 1000000
namespace Pr
open PySem PySem.Spec PyProof.Rows L2 DL
def bondFs (F : Int) (c : Rat) (m : Int) : List (Str × D) := [(("face" : Str), .int F), (("much" : Str), pt c), (("many" : Str), .int m)]
structure BondAt (S : Store) (n : Nat) (F : Int) (c : Rat) (m : Int) : Prop where
  at_ : insAt S (.obj n) = some ("Bond", bondFs F c m)
section
variable {F : Int} {c : Rat} {m : Int}
@[simp] theorem bf_face : (bondFs F c m).lookup ("face" : Str) = some (.int F) := rfl
@[simp] theorem bf_much : (bondFs F c m).lookup ("much" : Str) = some (pt c) := rfl
@[simp] theorem bf_many : (bondFs F c m).lookup ("many" : Str) = some (.int m) := rfl
@[simp] theorem bf_pays : (bondFs F c m).lookup ("pays" : Str) = none := rfl
@[simp] theorem bf_worth : (bondFs F c m).lookup ("worth" : Str) = none := rfl
@[simp] theorem bf_rate : (bondFs F c m).lookup ("rate" : Str) = none := rfl
@[simp] theorem bf_time : (bondFs F c m).lookup ("mean_time" : Str) = none := rfl
@[simp] theorem bf_moved : (bondFs F c m).lookup ("moved" : Str) = none := rfl
end
theorem BondAt.keep {S T : Store} {n : Nat} {F : Int} {c : Rat} {m : Int} (h : BondAt S n F c m) : BondAt (S ++ T) n F c m := ⟨insAt_keep S T h.at_⟩
section
variable {S : Store} {n : Nat} {F : Int} {c r : Rat}
theorem M_Bond_init_ok (S : Store) (m : Int) (hF : 1 ≤ F) (hm : 1 ≤ m) (hc : 0 ≤ c) (jc : BLe c 8) : M_Bond___init__ [.obj S.length, .int F, pt c, .int m] (S ++ [.ins "Bond" []]) = .ok .non (S ++ [.ins "Bond" (bondFs F c m)]) := by
  have p0 : putD ("face" : Str) (.int F) [] = [(("face" : Str), .int F)] := rfl
  have p1 : putD ("much" : Str) (pt c) [(("face" : Str), .int F)] = [(("face" : Str), .int F), (("much" : Str), pt c)] := rfl
  have p2 : putD ("many" : Str) (.int m) [(("face" : Str), .int F), (("much" : Str), pt c)] = bondFs F c m := rfl
  have n1 : ¬ F < 1 := by omega
  have n2 : ¬ c.num < 0 := by
    have := Rat.num_nonneg.mpr hc
    omega
  have n3 : ¬ (c.den : Int) < 1 := by have := c.den_pos; omega
  have n4 : ¬ m < 1 := by omega
  have s1 : Sz 9000 c := sz_bits (Nat.le_trans jc.le (by decide))
  have d0 : (c.den : Int) ≠ 0 := by have := c.den_pos; omega
  have e : ∀ S, M_part [.int c.num, .int c.den] S = .ok (pt c) S := fun S => by
    rw [M_part_ok d0 s1.1 s1.2, Rat.num_divInt_den]
  simp -implicitDefEqProofs [M_Bond___init__, f_Bond___init__, startD, n1, n2, n3, n4, e, p0, p1, p2]
theorem rep_pt (k : Nat) (x : D) : (List.replicate k [x]).flatten = List.replicate k x := by
  induction k with
  | zero => rfl
  | succ k ih => rw [List.replicate_succ, List.flatten_cons, ih, List.replicate_succ]; rfl
theorem M_pays_ok (m : Nat) (h : BondAt S n F c m) (h1 : 1 ≤ m) (h4 : m ≤ 4) (jF : BLe (F : Rat) 9) (jc : BLe c 8) : M_Bond_pays [.obj n] S = .ok (.tup ((paysQ F c m).map pt)) S := by
  have c1 : BLe (F : Rat) 4000 := jF.fin rfl
  have c2 : BLe c 4000 := jc.fin rfl
  have c3 : BLe (F * c : Rat) 4000 := (jF.mul jc).fin rfl
  have e : (m : Int) - 1 = ((m - 1 : Nat) : Int) := by omega
  have mu : mulD (.tup [pt (F * c)]) (.int ((m - 1 : Nat) : Int)) S = some (.tup (List.replicate (m - 1) (pt (F * c))), S) := by
    unfold mulD
    dsimp only
    rw [if_pos ⟨by omega, by simp, by simp, by omega⟩, Int.toNat_natCast, rep_pt]
  have l1 : (m - 1) + 1 ≤ 1000000 := by omega
  have ef : paysQ F c m = List.replicate (m - 1) (F * c) ++ [F * c + F] := rfl
  simp -implicitDefEqProofs [M_Bond_pays, f_Bond_pays, startD, h.at_, tup_int, C_times, C_add, c1, c2, c3, e, mu, l1, ef]
theorem pays_b (m : Nat) (h4 : m ≤ 4) (jF : BLe (F : Rat) 9) (jc : BLe c 8) : ∀ p ∈ paysQ F c m, BLe p 30 := by
  intro p hp
  unfold paysQ at hp
  rcases List.mem_append.mp hp with hp | hp
  · rw [List.eq_of_mem_replicate hp]; exact (jF.mul jc).fin rfl
  · rw [List.mem_singleton.mp hp]; exact ((jF.mul jc).add jF).fin rfl
theorem pays_len (F c : Rat) (m : Nat) (h1 : 1 ≤ m) : (paysQ F c m).length = m := by simp [paysQ]; omega
def bwB : DS :=
  (dSeq (dAsg (dCall 2 M_over (daCons (dVar 3) (daCons (dVar 4) daNil))) (gN 3))
  (dAsg (dCall 2 M_add (daCons (dVar 2) (daCons (dCall 2 M_times (daCons (dVar 5) (daCons (dVar 3) daNil))) daNil))) (gN 2)))
theorem worth_loop {b : Rat} (jb : BLe b 20) (b0 : b ≠ 0) (o0 o1 : Option D) : ∀ (ps : List Rat) (f o : Rat) (x y : Nat) (o5 : Option D), (∀ p ∈ ps, BLe p 30) → BLe o x → BLe f y → x + 20 * ps.length ≤ 200 → y + 300 * ps.length ≤ 3000 →
    BLe (worthL b ps f o) (y + 300 * ps.length) ∧ ∃ a3 a5, forD grdT (gN 5) bwB (ps.map pt) [o0, o1, some (pt f), some (pt o), some (pt b), o5] S = .nx [o0, o1, some (pt (worthL b ps f o)), a3, some (pt b), a5] S := by
  intro ps
  induction ps with
  | nil => intro f o x y o5 hp jo jf hx hy; exact ⟨jf, _, o5, by simp [worthL]; rfl⟩
  | cons p ps ih =>
    intro f o x y o5 hp jo jf hx hy
    rw [List.length_cons] at hx hy
    have jp := hp p List.mem_cons_self
    have k1 := jo.div jb
    have k2 := jp.mul k1
    have k3 := jf.add k2
    have c1 : BLe o 4000 := ⟨Nat.le_trans jo.le (by omega)⟩
    have c2 : BLe b 4000 := jb.fin rfl
    have c3 : BLe (o / b) 4000 := ⟨Nat.le_trans k1.le (by omega)⟩
    have c4 : BLe p 4000 := jp.fin rfl
    have c5 : BLe (p * (o / b)) 4000 := ⟨Nat.le_trans k2.le (by omega)⟩
    have c6 : BLe f 4000 := ⟨Nat.le_trans jf.le (by omega)⟩
    obtain ⟨i1, a3, a5, e⟩ := ih (f + p * (o / b)) (o / b) (x + 20) (y + 300) (some (pt p)) (fun q hq => hp q (List.mem_cons_of_mem _ hq)) k1 ⟨Nat.le_trans k3.le (by omega)⟩ (by omega) (by omega)
    refine ⟨⟨Nat.le_trans i1.le (by rw [List.length_cons]; omega)⟩, a3, a5, ?_⟩
    have step : bwB [o0, o1, some (pt f), some (pt o), some (pt b), some (pt p)] S = .nx [o0, o1, some (pt (f + p * (o / b))), some (pt (o / b)), some (pt b), some (pt p)] S := by
      simp -implicitDefEqProofs [bwB, C_over, C_times, C_add, c1, c2, c3, c4, c5, c6, b0]
    simp -implicitDefEqProofs [step]
    rw [e]
    simp [worthL]
theorem M_worth_ok (m : Nat) (h : BondAt S n F c m) (h1 : 1 ≤ m) (h4 : m ≤ 4) (jF : BLe (F : Rat) 9) (jc : BLe c 8) (jr : BLe r 18) (hr : 0 < 1 + r) : M_Bond_worth [.obj n, pt r] S = .ok (pt (worthQ F c m r)) S ∧ BLe (worthQ F c m r) 1300 := by
  have jb : BLe (1 + r) 20 := (BLe.one.add jr).fin rfl
  have b0 : 1 + r ≠ 0 := by grind
  have pl := pays_len F c m h1
  obtain ⟨i1, a3, a5, e⟩ := worth_loop (S := S) jb b0 (some (.obj n)) (some (pt r)) (paysQ F c m) 0 1 1 1 none (pays_b m h4 jF jc) BLe.one BLe.zero (by omega) (by omega)
  refine ⟨?_, ⟨Nat.le_trans i1.le (by omega)⟩⟩
  have pa := M_pays_ok m h h1 h4 jF jc
  have c1 : BLe 1 4000 := BLe.one.fin rfl
  have c2 : BLe r 4000 := jr.fin rfl
  have n1 : ¬ (1 + r).num ≤ 0 := by have := num_pos.mpr hr; omega
  unfold bwB at e
  simp -implicitDefEqProofs [M_Bond_worth, f_Bond_worth, startD, h.at_, one_pt, zero_pt, C_add, c1, c2, n1, pa, e, worthQ]
def btB : DS :=
  (dSeq (dAsg (dCall 2 M_over (daCons (dVar 3) (daCons (dVar 4) daNil))) (gN 3))
  (dAsg (dCall 2 M_add (daCons (dVar 2) (daCons (dCall 2 M_times (daCons (dTup (daCons (dOp addD (dVar 5) (dC (.int 1))) (daCons (dC (.int 1)) daNil))) (daCons (dCall 2 M_times (daCons (dVar 6) (daCons (dVar 3) daNil))) daNil))) daNil))) (gN 2)))
theorem time_loop {b : Rat} (jb : BLe b 20) (b0 : b ≠ 0) (o0 o1 : Option D) : ∀ (ps : List Rat) (k : Nat) (f o : Rat) (x y : Nat) (o5 o6 : Option D), (∀ p ∈ ps, BLe p 30) → k + ps.length ≤ 10 → BLe o x → BLe f y → x + 20 * ps.length ≤ 200 → y + 300 * ps.length ≤ 3000 →
    BLe (timeL b k ps f o) (y + 300 * ps.length) ∧ ∃ a3 a5 a6, forD grdT (gT 2 (gsCons (gN 5) (gsCons (gN 6) gsNil))) btB (enumK k ps) [o0, o1, some (pt f), some (pt o), some (pt b), o5, o6] S = .nx [o0, o1, some (pt (timeL b k ps f o)), a3, some (pt b), a5, a6] S := by
  intro ps
  induction ps with
  | nil => intro k f o x y o5 o6 hp hk jo jf hx hy; exact ⟨jf, _, o5, o6, by simp [timeL, enumK]; rfl⟩
  | cons p ps ih =>
    intro k f o x y o5 o6 hp hk jo jf hx hy
    rw [List.length_cons] at hx hy hk
    have jp := hp p List.mem_cons_self
    have jk : BLe ((k : Rat) + 1) 5 := by
      have : ((k : Rat) + 1) = (((k : Int) + 1 : Int) : Rat) := by push_cast; rfl
      rw [this]
      exact ⟨bits_int (n := 4) (by omega)⟩
    have k1 := jo.div jb
    have k2 := jp.mul k1
    have k3 := jk.mul k2
    have k4 := jf.add k3
    have c1 : BLe o 4000 := ⟨Nat.le_trans jo.le (by omega)⟩
    have c2 : BLe b 4000 := jb.fin rfl
    have c3 : BLe (o / b) 4000 := ⟨Nat.le_trans k1.le (by omega)⟩
    have c4 : BLe p 4000 := jp.fin rfl
    have c5 : BLe (p * (o / b)) 4000 := ⟨Nat.le_trans k2.le (by omega)⟩
    have c6 : BLe f 4000 := ⟨Nat.le_trans jf.le (by omega)⟩
    have c7 : BLe ((k : Rat) + 1) 4000 := jk.fin rfl
    have c8 : BLe (((k : Rat) + 1) * (p * (o / b))) 4000 := ⟨Nat.le_trans k3.le (by omega)⟩
    have ck : ((((k : Int) + 1 : Int)) : Rat) = (k : Rat) + 1 := by push_cast; rfl
    obtain ⟨i1, a3, a5, a6, e⟩ := ih (k + 1) (f + ((k : Rat) + 1) * (p * (o / b))) (o / b) (x + 20) (y + 300) (some (.int k)) (some (pt p)) (fun q hq => hp q (List.mem_cons_of_mem _ hq)) (by omega) k1 ⟨Nat.le_trans k4.le (by omega)⟩ (by omega) (by omega)
    refine ⟨⟨Nat.le_trans i1.le (by rw [List.length_cons]; omega)⟩, a3, a5, a6, ?_⟩
    have step : btB [o0, o1, some (pt f), some (pt o), some (pt b), some (.int k), some (pt p)] S = .nx [o0, o1, some (pt (f + ((k : Rat) + 1) * (p * (o / b)))), some (pt (o / b)), some (pt b), some (.int k), some (pt p)] S := by
      simp -implicitDefEqProofs only [btB]
      simp -implicitDefEqProofs [C_over, C_times, C_add, tup_int, ck, c1, c2, c3, c4, c5, c6, c7, c8, b0]
    simp -implicitDefEqProofs [enumK, step]
    rw [e]
    simp [timeL]
theorem M_time_ok (m : Nat) (h : BondAt S n F c m) (h1 : 1 ≤ m) (h4 : m ≤ 4) (jF : BLe (F : Rat) 9) (jc : BLe c 8) (jr : BLe r 18) (hr : 0 < 1 + r) (hw : worthQ F c m r ≠ 0) : M_Bond_mean_time [.obj n, pt r] S = .ok (pt (timeQ F c m r / worthQ F c m r)) S := by
  have jb : BLe (1 + r) 20 := (BLe.one.add jr).fin rfl
  have b0 : 1 + r ≠ 0 := by grind
  have pl := pays_len F c m h1
  obtain ⟨w1, w2⟩ := M_worth_ok m h h1 h4 jF jc jr hr
  obtain ⟨i1, a3, a5, a6, e⟩ := time_loop (S := S) jb b0 (some (.obj n)) (some (pt r)) (paysQ F c m) 0 0 1 1 1 none none (pays_b m h4 jF jc) (by omega) BLe.one BLe.zero (by omega) (by omega)
  have pa := M_pays_ok m h h1 h4 jF jc
  have c1 : BLe 1 4000 := BLe.one.fin rfl
  have c2 : BLe r 4000 := jr.fin rfl
  have c3 : BLe (timeQ F c m r) 4000 := ⟨Nat.le_trans i1.le (by omega)⟩
  have c4 : BLe (worthQ F c m r) 4000 := w2.fin rfl
  have et : timeL (1 + r) 0 (paysQ F c m) 0 1 = timeQ F c m r := rfl
  rw [et] at e
  unfold btB at e
  simp -implicitDefEqProofs [M_Bond_mean_time, f_Bond_mean_time, startD, h.at_, one_pt, zero_pt, C_add, C_over, c1, c2, c3, c4, hw, pa, w1, enumL_pt, e]
end
end Pr
set_option Elab.async false
set_option linter.all false
set_option maxRecDepth 100000
set_option maxHeartbeats 1000000
namespace Pr
open PySem PySem.Spec PyProof.Rows L2 DL
def lwI (F h r : Int) (m : Nat) : Nat → Int → Int → Int → Int × Int × Int
  | 0, t, q, b => (t, q, b)
  | k + 1, t, q, b => lwI F h r m k (t * 100 + (F * h + (if k + 1 = m then 100 * F else 0)) * b * 100) (q * 100 + ((k : Int) + 1) * (F * h + (if k + 1 = m then 100 * F else 0)) * b * 100) (b * (100 + r))
section
variable (F h r : Int)
theorem worth_eq (hr : 0 < r) : ∀ m, 1 ≤ m → m ≤ 4 → ((lwI F h r m m 0 0 1).1 : Rat) / ((lwI F h r m m 0 0 1).2.2 * 100) = worthQ F (h / 100) m (r / 100) := by
  intro m h1 h4
  have x0 : (0 : Rat) < r := by exact_mod_cast hr
  have x1 : (100 : Rat) + r ≠ 0 := by grind
  have x2 : (1 : Rat) + r / 100 = (100 + r) / 100 := by grind
  obtain rfl | rfl | rfl | rfl : m = 1 ∨ m = 2 ∨ m = 3 ∨ m = 4 := by omega
  all_goals
    simp [lwI, worthQ, paysQ, worthL, List.replicate]
    push_cast
    rw [x2]
    generalize (100 : Rat) + r = x at *
    grind
theorem time_eq (hr : 0 < r) : ∀ m, 1 ≤ m → m ≤ 4 → ((lwI F h r m m 0 0 1).2.1 : Rat) / ((lwI F h r m m 0 0 1).2.2 * 100) = timeQ F (h / 100) m (r / 100) := by
  intro m h1 h4
  have x0 : (0 : Rat) < r := by exact_mod_cast hr
  have x1 : (100 : Rat) + r ≠ 0 := by grind
  have x2 : (1 : Rat) + r / 100 = (100 + r) / 100 := by grind
  obtain rfl | rfl | rfl | rfl : m = 1 ∨ m = 2 ∨ m = 3 ∨ m = 4 := by omega
  all_goals
    simp [lwI, timeQ, paysQ, timeL, List.replicate]
    push_cast
    rw [x2]
    generalize (100 : Rat) + r = x at *
    grind
theorem bot_ne (hr : 0 < r) : ∀ m, 1 ≤ m → m ≤ 4 → 0 < (lwI F h r m m 0 0 1).2.2 := by
  intro m h1 h4
  have x1 : (0 : Int) < 100 + r := by omega
  have x2 := Int.mul_pos x1 x1
  have x3 := Int.mul_pos x2 x1
  have x4 := Int.mul_pos x3 x1
  obtain rfl | rfl | rfl | rfl : m = 1 ∨ m = 2 ∨ m = 3 ∨ m = 4 := by omega
  all_goals simp [lwI]
  all_goals assumption
end
theorem worthL_pos {b : Rat} (hb : 0 < b) : ∀ (ps : List Rat) (f o : Rat), 0 < o → (∀ p ∈ ps, 0 ≤ p) → 0 ≤ f → (0 < f ∨ ∃ p ∈ ps, 0 < p) → 0 < worthL b ps f o
  | [], f, o, ho, hp, hf, h => by
    rcases h with h | ⟨p, hp, _⟩
    · exact h
    · cases hp
  | p :: ps, f, o, ho, hp, hf, h => by
    have i1 : 0 < o / b := by rw [Rat.div_def]; exact Rat.mul_pos ho (Rat.inv_pos.mpr hb)
    have i2 : 0 ≤ p * (o / b) := Rat.mul_nonneg (hp p List.mem_cons_self) (Rat.le_of_lt i1)
    refine worthL_pos hb ps _ _ i1 (fun q hq => hp q (List.mem_cons_of_mem _ hq)) (by grind) ?_
    rcases h with h | ⟨q, hq, h⟩
    · left; grind
    · rcases List.mem_cons.mp hq with rfl | hq
      · left
        have := Rat.mul_pos h i1
        grind
      · exact .inr ⟨q, hq, h⟩
theorem worthQ_pos {F c r : Rat} (hF : 0 < F) (hc : 0 ≤ c) (hr : 0 < 1 + r) (m : Nat) : 0 < worthQ F c m r := by
  have h1 : 0 ≤ F * c := Rat.mul_nonneg (Rat.le_of_lt hF) hc
  refine worthL_pos hr _ _ _ (by decide) ?_ (by decide) (.inr ⟨F * c + F, by simp [paysQ], by grind⟩)
  intro p hp
  unfold paysQ at hp
  rcases List.mem_append.mp hp with hp | hp
  · rw [List.eq_of_mem_replicate hp]; exact h1
  · rw [List.mem_singleton.mp hp]; grind
theorem worth_0 {F c : Rat} (hF : 0 < F) (hc : 0 ≤ c) (hc2 : c ≤ 9 / 100) : ∀ m, 1 ≤ m → m ≤ 4 → F ≤ worthQ F c m 0 ∧ worthQ F c m 0 ≤ 2 * F := by
  intro m h1 h4
  have q1 : 0 ≤ F * c := Rat.mul_nonneg (Rat.le_of_lt hF) hc
  have q2 : F * c ≤ F * (9 / 100) := Rat.mul_le_mul_of_nonneg_left hc2 (Rat.le_of_lt hF)
  obtain rfl | rfl | rfl | rfl : m = 1 ∨ m = 2 ∨ m = 3 ∨ m = 4 := by omega
  all_goals
    simp [worthQ, paysQ, worthL, List.replicate]
    grind
theorem worth_1 {F c : Rat} (hF : 0 < F) (hc : 0 ≤ c) (hc2 : c ≤ 9 / 100) : ∀ m, 1 ≤ m → m ≤ 4 → worthQ F c m 1 ≤ F * (2 / 3) := by
  intro m h1 h4
  have q1 : 0 ≤ F * c := Rat.mul_nonneg (Rat.le_of_lt hF) hc
  have q2 : F * c ≤ F * (9 / 100) := Rat.mul_le_mul_of_nonneg_left hc2 (Rat.le_of_lt hF)
  obtain rfl | rfl | rfl | rfl : m = 1 ∨ m = 2 ∨ m = 3 ∨ m = 4 := by omega
  all_goals
    simp [worthQ, paysQ, worthL, List.replicate]
    grind
theorem short_w {r : Rat} (hr : 1 + r ≠ 0) : worthQ 100 0 1 r = 100 / (1 + r) ∧ timeQ 100 0 1 r = 100 / (1 + r) := by
  constructor
  · simp [worthQ, paysQ, worthL]; grind
  · simp [timeQ, paysQ, timeL]; grind
theorem long_w {r : Rat} (hr : 1 + r ≠ 0) : worthQ 100 0 4 r = 100 / (1 + r) / (1 + r) / (1 + r) / (1 + r) ∧ timeQ 100 0 4 r = 400 / (1 + r) / (1 + r) / (1 + r) / (1 + r) := by
  constructor
  · simp [worthQ, paysQ, worthL, List.replicate]; grind
  · simp [timeQ, paysQ, timeL, List.replicate]; grind
end Pr
set_option Elab.async false
set_option linter.all false
set_option maxRecDepth 100000
set_option maxHeartbeats 1000000
namespace Pr
open PySem PySem.Spec PyProof.Rows L2 DL
theorem divInt_div (a b : Int) : Rat.divInt a b = (a : Rat) / b := Rat.divInt_eq_div a b
theorem M_least_ok {t b : Int} (hb : 0 < b) (h1 : t.natAbs < 2 ^ 9000) (h2 : b.natAbs < 2 ^ 9000) (S : Store) : M__law_least [.int t, .int b] S = .ok (pt ((t : Rat) / b)) S := by
  have hm : t.natAbs * b.natAbs < 2 ^ 20000 := by
    have := Nat.mul_le_mul (Nat.le_of_lt h1) (Nat.le_of_lt h2)
    rw [← Nat.pow_add] at this
    exact Nat.lt_of_le_of_lt this (Nat.pow_lt_pow_right (by decide) (by decide))
  obtain ⟨z, hz⟩ := gcd_any (x := some (.int t)) (y := some (.int b)) (rest := []) (S := S) hm
  have hbn : (b.natAbs : Int) = b := by omega
  rw [hbn] at hz
  have hb0 : b ≠ 0 := by omega
  have hg : 0 < Nat.gcd t.natAbs b.natAbs := Nat.gcd_pos_of_pos_right _ (by omega)
  have hg2 : Nat.gcd t.natAbs b.natAbs < 2 ^ 9000 := Nat.lt_of_le_of_lt (Nat.gcd_le_right _ (by omega)) h2
  have q1 : (Rat.divInt t b).num = t / (Nat.gcd t.natAbs b.natAbs : Int) := by
    rw [Rat.num_divInt, Int.sign_eq_one_of_pos hb, Int.one_mul]; congr 2; rw [Int.gcd, Nat.gcd_comm]
  have q2 : ((Rat.divInt t b).den : Int) = b / (Nat.gcd t.natAbs b.natAbs : Int) := by
    rw [Rat.den_divInt, if_neg hb0, Int.gcd, Nat.gcd_comm, Int.natCast_ediv, hbn]
  have hg3 : ((Nat.gcd t.natAbs b.natAbs : Int)).natAbs < 2 ^ 9000 := hg2
  have hmx : max (Nat.gcd t.natAbs b.natAbs : Int) 1 = (Nat.gcd t.natAbs b.natAbs : Int) := by omega
  have hg4 : (0 : Int) < (Nat.gcd t.natAbs b.natAbs : Int) := by omega
  rw [← divInt_div]
  simp -implicitDefEqProofs only [M__law_least, e_runD, f__law_least]
  simp -implicitDefEqProofs [startD, hz, hmx, fdivD_int hg4 hg3, pt, q1, q2]
theorem mulD_l {i j : Int} {S : Store} (h : i.natAbs < 18446744073709551616) : mulD (.int i) (.int j) S = some (.int (i * j), S) := if_pos (.inl (.inl h))
theorem mulD_r {i j : Int} {S : Store} (h : j.natAbs < 18446744073709551616) : mulD (.int i) (.int j) S = some (.int (i * j), S) := if_pos (.inl (.inr h))
def lwBody : DS :=
  (dSeq (dAsg (dOp addD (dOp mulD (dVar 0) (dVar 1)) (dIf (dB (dOp eqD (dVar 7) (dOp subD (dVar 2) (dC (.int 1))))) (dOp mulD (dC (.int 100)) (dVar 0)) (dC (.int 0)))) (gN 8))
  (dSeq (dPar2 4 5 (daCons (dOp addD (dOp mulD (dVar 4) (dC (.int 100))) (dOp mulD (dOp mulD (dVar 8) (dVar 6)) (dC (.int 100)))) (daCons (dOp addD (dOp mulD (dVar 5) (dC (.int 100))) (dOp mulD (dOp mulD (dOp mulD (dOp addD (dVar 7) (dC (.int 1))) (dVar 8)) (dVar 6)) (dC (.int 100)))) daNil)))
  (dAsg (dOp mulD (dVar 6) (dOp addD (dC (.int 100)) (dVar 3))) (gN 6))))
theorem lw_loop {S : Store} {F h r : Int} {m : Nat} (hF : 0 ≤ F) (hF2 : F ≤ 300) (hh : 0 ≤ h) (hh2 : h ≤ 9) (hr : 0 ≤ r) (hr2 : r ≤ 9) (hm : m ≤ 4) : ∀ (k : Nat) (t q b : Int) (o7 o8 : Option D), k ≤ m → b.natAbs * 110 ^ k < 1000000000 →
    ∃ a7 a8, forD grdT (gN 7) lwBody (rngD ((k : Int) - 1) (-1) k) [some (.int F), some (.int h), some (.int m), some (.int r), some (.int t), some (.int q), some (.int b), o7, o8] S = .nx [some (.int F), some (.int h), some (.int m), some (.int r), some (.int (lwI F h r m k t q b).1), some (.int (lwI F h r m k t q b).2.1), some (.int (lwI F h r m k t q b).2.2), a7, a8] S := by
  intro k
  induction k with
  | zero => intro t q b o7 o8 hk hb; exact ⟨o7, o8, by simp [lwI]⟩
  | succ k ih =>
    intro t q b o7 o8 hk hb
    have e0 : ((k + 1 : Nat) : Int) - 1 = (k : Int) := by omega
    have e1 : (k : Int) + -1 = (k : Int) - 1 := by omega
    rw [e0, rngD_succ, e1]
    have p110 : 1 ≤ 110 ^ k := Nat.pow_pos (by decide)
    have hbk : b.natAbs * 1 ≤ b.natAbs * 110 ^ (k + 1) := Nat.mul_le_mul_left _ (Nat.le_trans p110 (Nat.pow_le_pow_right (by decide) (by omega)))
    have hb1 : b.natAbs < 18446744073709551616 := by omega
    have fh : 0 ≤ F * h := Int.mul_nonneg hF hh
    have fh2 : F * h ≤ 300 * 9 := Int.mul_le_mul hF2 hh2 hh (by omega)
    have sF : F.natAbs < 18446744073709551616 := by omega
    have s100 : (100 : Int).natAbs < 18446744073709551616 := by decide
    have sr : (100 + r).natAbs < 18446744073709551616 := by omega
    have sk : ((k : Int) + 1).natAbs < 18446744073709551616 := by omega
    have nb : (b * (100 + r)).natAbs * 110 ^ k < 1000000000 := by
      rw [Int.natAbs_mul]
      have x1 : (100 + r).natAbs ≤ 110 := by omega
      have x2 : b.natAbs * (100 + r).natAbs * 110 ^ k ≤ b.natAbs * 110 * 110 ^ k := Nat.mul_le_mul_right _ (Nat.mul_le_mul_left _ x1)
      have x3 : b.natAbs * 110 * 110 ^ k = b.natAbs * 110 ^ (k + 1) := by rw [Nat.pow_succ, Nat.mul_assoc, Nat.mul_comm (110 ^ k)]
      omega
    by_cases z : k + 1 = m
    · have z1 : ((k : Int) = (m : Int) - 1) = True := eq_true (by omega)
      have sp : (F * h + 100 * F).natAbs < 18446744073709551616 := by omega
      obtain ⟨a7, a8, e⟩ := ih (t * 100 + (F * h + 100 * F) * b * 100) (q * 100 + ((k : Int) + 1) * (F * h + 100 * F) * b * 100) (b * (100 + r)) (some (.int k)) (some (.int (F * h + 100 * F))) (by omega) nb
      refine ⟨a7, a8, ?_⟩
      have step : lwBody [some (.int F), some (.int h), some (.int m), some (.int r), some (.int t), some (.int q), some (.int b), some (.int k), o8] S = .nx [some (.int F), some (.int h), some (.int m), some (.int r), some (.int (t * 100 + (F * h + 100 * F) * b * 100)), some (.int (q * 100 + ((k : Int) + 1) * (F * h + 100 * F) * b * 100)), some (.int (b * (100 + r))), some (.int k), some (.int (F * h + 100 * F))] S := by
        simp -implicitDefEqProofs [lwBody, mulD_l sF, mulD_l s100, mulD_r s100, mulD_l sp, mulD_l sk, mulD_r hb1, mulD_r sr, z1]
      simp -implicitDefEqProofs [step]
      rw [e]
      simp [lwI, z]
    · have z1 : ¬ (k : Int) = (m : Int) - 1 := by omega
      have sp : (F * h).natAbs < 18446744073709551616 := by omega
      obtain ⟨a7, a8, e⟩ := ih (t * 100 + (F * h + 0) * b * 100) (q * 100 + ((k : Int) + 1) * (F * h + 0) * b * 100) (b * (100 + r)) (some (.int k)) (some (.int (F * h + 0))) (by omega) nb
      refine ⟨a7, a8, ?_⟩
      have step : lwBody [some (.int F), some (.int h), some (.int m), some (.int r), some (.int t), some (.int q), some (.int b), some (.int k), o8] S = .nx [some (.int F), some (.int h), some (.int m), some (.int r), some (.int (t * 100 + (F * h + 0) * b * 100)), some (.int (q * 100 + ((k : Int) + 1) * (F * h + 0) * b * 100)), some (.int (b * (100 + r))), some (.int k), some (.int (F * h + 0))] S := by
        simp -implicitDefEqProofs [lwBody, mulD_l sF, mulD_l s100, mulD_r s100, mulD_l sp, mulD_l sk, mulD_r hb1, mulD_r sr, z1]
      simp only [Int.add_zero] at e step
      simp -implicitDefEqProofs [step]
      rw [e]
      simp [lwI, z]
end Pr
set_option Elab.async false
set_option linter.all false
set_option maxRecDepth 100000
set_option maxHeartbeats 1000000
namespace Pr
open PySem PySem.Spec PyProof.Rows L2 DL
abbrev faceN (f : Nat) : Int := 100 * (1 + (f : Int))
def lwC (f h r m : Nat) : Int × Int × Int := lwI (faceN f) (h : Int) (1 + (r : Int)) (m + 1) (m + 1) 0 0 1
def lwOk (L : Int × Int × Int) : Bool := decide (0 < L.1) && decide (L.1.natAbs < 2 ^ 200) && decide (L.2.1.natAbs < 2 ^ 200) && decide (0 < L.2.2) && decide ((L.2.2 * 100).natAbs < 2 ^ 200)
theorem lwI_c : ∀ f < 3, ∀ h < 10, ∀ r < 9, ∀ m < 4, lwOk (lwC f h r m) = true := by
  decide +kernel
theorem lwI_b (f : Nat) (hf : f < 3) (h : Nat) (hh : h < 10) (r : Nat) (hr : r < 9) (m : Nat) (hm : m < 4) : 0 < (lwC f h r m).1 ∧ (lwC f h r m).1.natAbs < 2 ^ 200 ∧ (lwC f h r m).2.1.natAbs < 2 ^ 200 ∧ 0 < (lwC f h r m).2.2 ∧ ((lwC f h r m).2.2 * 100).natAbs < 2 ^ 200 := by
  have h := lwI_c f hf h hh r hr m hm
  simp only [lwOk, Bool.and_eq_true, decide_eq_true_eq] at h
  exact ⟨h.1.1.1.1, h.1.1.1.2, h.1.1.2, h.1.2, h.2⟩
section
variable {S : Store} {f h r m : Nat}
theorem up200 {a : Nat} (h : a < 2 ^ 200) : a < 2 ^ 9000 := Nat.lt_of_lt_of_le h (Nat.pow_le_pow_right (by decide) (by decide))
theorem M_law_worth_ok (hf : f < 3) (hh : h < 10) (hr : r < 9) (hm : m < 4) : M__law_worth [.int (faceN f), .int h, .int ((m + 1 : Nat) : Int), .int (1 + (r : Int))] S
    = .ok (.tup [pt (worthQ (faceN f) ((h : Int) / 100) (m + 1) ((1 + (r : Int) : Int) / 100)), .tup [.int (lwC f h r m).2.1, .int (lwC f h r m).1]]) S := by
  obtain ⟨b1, b2, b3, b4, b5⟩ := lwI_b f hf h hh r hr m hm
  have hF : faceN f = 100 * (1 + (f : Int)) := rfl
  obtain ⟨a7, a8, e⟩ := lw_loop (S := S) (F := faceN f) (h := h) (r := 1 + (r : Int)) (m := m + 1) (by omega) (by omega) (by omega) (by omega) (by omega) (by omega) (by omega) (m + 1) 0 0 1 none none (Nat.le_refl _) (by
    obtain rfl | rfl | rfl | rfl : m = 0 ∨ m = 1 ∨ m = 2 ∨ m = 3 := by omega
    all_goals decide)
  have we := worth_eq (faceN f) h (1 + (r : Int)) (by omega) (m + 1) (by omega) (by omega)
  have eC : lwI (faceN f) (h : Int) (1 + (r : Int)) (m + 1) (m + 1) 0 0 1 = lwC f h r m := rfl
  rw [eC] at e we
  generalize hL : lwC f h r m = L at *
  have le := M_least_ok (t := L.1) (b := L.2.2 * 100) (by omega) (up200 b2) (up200 b5) S
  have ce : ((L.2.2 * 100 : Int) : Rat) = (L.2.2 : Rat) * 100 := by push_cast; rfl
  rw [ce, we] at le
  have q1 : -1000000000000 ≤ ((m + 1 : Nat) : Int) ∧ ((m + 1 : Nat) : Int) ≤ 1000000000000 := by omega
  have q2 : (((m + 1 : Nat) : Int)).toNat = m + 1 := rfl
  have s100 : (100 : Int).natAbs < 18446744073709551616 := by decide
  unfold lwBody at e
  simp -implicitDefEqProofs only [M__law_worth, f__law_worth, e_runD, startD]
  clear eC hL
  generalize faceN f = F at *
  generalize ((m + 1 : Nat) : Int) = mi at *
  simp -implicitDefEqProofs [q1, q2, e, mulD_r s100, le]
theorem cmp_neg {q r : Rat} : cmpQ q r < 0 ↔ q < r := by
  unfold cmpQ
  split
  · simp_all
  · split
    · simp_all
    · simp_all
theorem cmp_pos {q r : Rat} : 0 < cmpQ q r ↔ r < q := by
  unfold cmpQ
  split
  · grind
  · split
    · grind
    · grind
theorem cmp_nn {q r : Rat} : 0 ≤ cmpQ q r ↔ r ≤ q := by
  unfold cmpQ
  split
  · grind
  · split
    · grind
    · grind
theorem cmp_np {q r : Rat} : cmpQ q r ≤ 0 ↔ q ≤ r := by
  unfold cmpQ
  split
  · grind
  · split
    · grind
    · grind
theorem M_part_h (k : Nat) (hk : k ≤ 1000) (S : Store) : M_part [.int k, .int 100] S = .ok (pt ((k : Rat) / 100)) S := by
  rw [M_part_ok (by decide) (Nat.lt_of_lt_of_le (show (k : Int).natAbs < 2 ^ 10 by omega) (Nat.pow_le_pow_right (by decide) (by decide))) (Nat.lt_of_lt_of_le (show (100 : Int).natAbs < 2 ^ 10 by decide) (Nat.pow_le_pow_right (by decide) (by decide))), divInt_div]
  rfl
theorem ble_h (k : Nat) (hk : k ≤ 127) : BLe ((k : Rat) / 100) 14 := by
  have h1 : BLe (k : Rat) 7 := by
    have : ((k : Int) : Rat) = (k : Rat) := rfl
    rw [← this]
    exact ⟨bits_int (n := 6) (by omega)⟩
  have h2 : BLe (100 : Rat) 7 := ⟨by decide⟩
  exact (h1.div h2).fin rfl
end
end Pr
set_option Elab.async false
set_option linter.all false
set_option maxRecDepth 100000
set_option maxHeartbeats 1000000
namespace Pr
open PySem PySem.Spec PyProof.Rows L2 DL
section
variable {S : Store} {n m : Nat} {F : Int} {c p : Rat}
abbrev rtC : DT := dB (dOp gtD (dOp subD (dVar 4) (dVar 3)) (dC (.int 1)))
abbrev rtB : DS := (dSeq (dAsg (dOp fdivD (dOp addD (dVar 3) (dVar 4)) (dC (.int 2))) (gN 5))
  (dIfS (dB (dOp geD (dCall 2 M_order (daCons (dMeth "Bond" "worth" 2 M_Bond_worth (dVar 0) (daCons (dCall 2 M_part (daCons (dVar 5) (daCons (dVar 2) daNil))) daNil)) (daCons (dVar 1) daNil))) (dC (.int 0))))
  (dAsg (dVar 5) (gN 3))
  (dAsg (dVar 5) (gN 4))))
theorem fdiv2 (i : Int) (S : Store) : fdivD (.int i) (.int 2) S = some (.int (i / 2), S) := by
  unfold fdivD
  dsimp only
  rw [if_pos ⟨by decide, by decide⟩]
theorem rate_loop (h : BondAt S n F c m) (h1 : 1 ≤ m) (h4 : m ≤ 4) (jF : BLe (F : Rat) 9) (jc : BLe c 8) (jp : BLe p 9) : ∀ (k e lo hi : Nat) (o5 : Option D), lo < hi → hi ≤ 100 → hi - lo ≤ k → p ≤ worthQ F c m ((lo : Rat) / 100) → worthQ F c m ((hi : Rat) / 100) ≤ p →
    ∃ (l : Nat) (a5 : Option D), l + 1 ≤ 100 ∧ p ≤ worthQ F c m ((l : Rat) / 100) ∧ worthQ F c m (((l + 1 : Nat) : Rat) / 100) ≤ p ∧ whileD rtC rtB (k + e) [some (.obj n), some (pt p), some (.int 100), some (.int lo), some (.int hi), o5] S = .nx [some (.obj n), some (pt p), some (.int 100), some (.int l), some (.int ((l + 1 : Nat) : Int)), a5] S := by
  intro k
  induction k with
  | zero => intro e lo hi o5 hl hh hk; omega
  | succ k ih =>
    intro e lo hi o5 hl hh hk w1 w2
    rw [show k + 1 + e = (k + e) + 1 from by omega, whileD]
    by_cases z : hi - lo = 1
    · obtain rfl : hi = lo + 1 := by omega
      refine ⟨lo, o5, hh, w1, w2, ?_⟩
      have z1 : ¬ (1 : Int) < (lo : Int) + 1 - (lo : Int) := by omega
      simp -implicitDefEqProofs only [rtC]
      simp -implicitDefEqProofs [z1]
    · have z1 : (1 : Int) < (hi : Int) - (lo : Int) := by omega
      have em : ((lo : Int) + (hi : Int)) / 2 = (((lo + hi) / 2 : Nat) : Int) := by omega
      have hm1 : lo < (lo + hi) / 2 := by omega
      have hm2 : (lo + hi) / 2 < hi := by omega
      generalize (lo + hi) / 2 = md at *
      have pa := M_part_h md (by omega) S
      have jr : BLe ((md : Rat) / 100) 18 := (ble_h md (by omega)).fin rfl
      have r0 : (0 : Rat) ≤ (md : Rat) / 100 := by
        have : (0 : Rat) ≤ (md : Rat) := by exact_mod_cast Nat.zero_le md
        grind
      obtain ⟨wo, wb⟩ := M_worth_ok (r := (md : Rat) / 100) m h h1 h4 jF jc jr (by grind)
      have or := C_order (S := S) (wb.fin (k := 4000) rfl) (jp.fin (k := 4000) rfl)
      by_cases y : p ≤ worthQ F c m ((md : Rat) / 100)
      · have y1 : 0 ≤ cmpQ (worthQ F c m ((md : Rat) / 100)) p := cmp_nn.mpr y
        obtain ⟨l, a5, q1, q2, q3, q4⟩ := ih e md hi (some (.int md)) hm2 hh (by omega) y w2
        refine ⟨l, a5, q1, q2, q3, ?_⟩
        simp -implicitDefEqProofs [z1, em, fdiv2, pa, h.at_, wo, or, y1]
        exact q4
      · have y1 : ¬ 0 ≤ cmpQ (worthQ F c m ((md : Rat) / 100)) p := fun q => y (cmp_nn.mp q)
        obtain ⟨l, a5, q1, q2, q3, q4⟩ := ih e lo md (some (.int md)) hm1 (by omega) (by omega) w1 (by grind)
        refine ⟨l, a5, q1, q2, q3, ?_⟩
        simp -implicitDefEqProofs [z1, em, fdiv2, pa, h.at_, wo, or, y1]
        exact q4
theorem M_rate_ok (h : BondAt S n F c m) (h1 : 1 ≤ m) (h4 : m ≤ 4) (hF : 0 < F) (jF : BLe (F : Rat) 9) (jc : BLe c 8) (hc : 0 ≤ c) (hc2 : c ≤ 9 / 100) (jp : BLe p 9) (p0 : 0 < p) (hp1 : p ≤ F) (hp2 : F * (2 / 3) ≤ p) :
    ∃ l : Nat, l + 1 ≤ 100 ∧ p ≤ worthQ F c m ((l : Rat) / 100) ∧ worthQ F c m (((l + 1 : Nat) : Rat) / 100) ≤ p ∧ M_Bond_rate [.obj n, pt p, .int 100] S = .ok (.tup [pt ((l : Rat) / 100), pt (((l + 1 : Nat) : Rat) / 100)]) S := by
  have F0 : (0 : Rat) < F := by exact_mod_cast hF
  obtain ⟨k1, k2⟩ := worth_0 F0 hc hc2 m h1 h4
  have k3 := worth_1 F0 hc hc2 m h1 h4
  obtain ⟨wo0, wb0⟩ := M_worth_ok (r := 0) m h h1 h4 jF jc (BLe.zero.fin rfl) (by grind)
  obtain ⟨wo1, wb1⟩ := M_worth_ok (r := 1) m h h1 h4 jF jc (BLe.one.fin rfl) (by grind)
  have or0 := C_order (S := S) (wb0.fin (k := 4000) rfl) (jp.fin (k := 4000) rfl)
  have or1 := C_order (S := S) (wb1.fin (k := 4000) rfl) (jp.fin (k := 4000) rfl)
  have y0 : ¬ cmpQ (worthQ F c m 0) p < 0 := fun z => by have := cmp_neg.mp z; grind
  have y1 : ¬ 0 < cmpQ (worthQ F c m 1) p := fun z => by have := cmp_pos.mp z; grind
  have pn : ¬ p.num ≤ 0 := by have := num_pos.mpr p0; omega
  have p100 : M_part [.int 100, .int 100] S = .ok (pt 1) S := by
    have := M_part_h 100 (by omega) S
    have e : (((100 : Nat) : Rat) / 100) = 1 := by decide +kernel
    rw [e] at this
    exact this
  have z0 : (((0 : Nat) : Rat) / 100) = 0 := by decide +kernel
  have z1 : (((100 : Nat) : Rat) / 100) = 1 := by decide +kernel
  obtain ⟨l, a5, q1, q2, q3, q4⟩ := rate_loop (p := p) h h1 h4 jF jc jp 100 (fuel - 100) 0 100 none (by omega) (by omega) (by omega) (by rw [z0]; grind) (by rw [z1]; grind)
  refine ⟨l, q1, q2, q3, ?_⟩
  have pl := M_part_h l (by omega) S
  have ph := M_part_h (l + 1) (by omega) S
  have ef : 100 + (fuel - 100) = fuel := rfl
  rw [ef] at q4
  have wh : ∀ (dc : DT) (f : DS) (ρ : DEnv), (dc ρ S = .ok false S) → whileD dc f fuel ρ S = .nx ρ S := by
    intro dc f ρ hd
    rw [show fuel = (fuel - 1) + 1 from rfl, whileD, hd]
    rfl
  have w1 : whileD (dB (dOp gtD (dCall 2 M_order (daCons (dMeth "Bond" "worth" 2 M_Bond_worth (dVar 0) (daCons (dCall 2 M_part (daCons (dVar 4) (daCons (dVar 2) daNil))) daNil)) (daCons (dVar 1) daNil))) (dC (.int 0)))) (dSeq (dAug 4 imulD (dC (.int 2)))
  (dIfS (dB (dOp gtD (dVar 4) (dOp mulD (dC (.int 100)) (dVar 2))))
  (dRaise "NoAnswer")
  dNext)) fuel [some (.obj n), some (pt p), some (.int 100), some (.int 0), some (.int 100), none] S = .nx [some (.obj n), some (pt p), some (.int 100), some (.int 0), some (.int 100), none] S := by
    refine wh _ _ _ ?_
    simp -implicitDefEqProofs [p100, h.at_, wo1, or1, y1]
  simp -implicitDefEqProofs only [M_Bond_rate, f_Bond_rate, e_runD, startD]
  unfold rtC rtB at q4
  simp -implicitDefEqProofs [h.at_, zero_pt, wo0, or0, y0, pn, w1]
  simp at q4
  simp -implicitDefEqProofs [q4, pl]
  have ph2 : M_part [.int ((l : Int) + 1), .int 100] S = .ok (pt (((l : Rat) + 1) / 100)) S := by
    have e : ((l + 1 : Nat) : Rat) = (l : Rat) + 1 := by push_cast; rfl
    rw [← e]
    exact ph
  simp -implicitDefEqProofs [ph2]
end
end Pr
set_option Elab.async false
set_option linter.all false
set_option maxRecDepth 100000
set_option maxHeartbeats 1000000
namespace Pr
open PySem PySem.Spec PyProof.Rows L2 DL
section
variable {S : Store} {n m : Nat} {F : Int} {c p r : Rat}
theorem M_rate_no (h : BondAt S n F c m) (h1 : 1 ≤ m) (h4 : m ≤ 4) (hF : 0 < F) (hF2 : F ≤ 300) (jF : BLe (F : Rat) 9) (jc : BLe c 8) (hc : 0 ≤ c) (hc2 : c ≤ 9 / 100) : M_Bond_rate [.obj n, .tup [.int (F * 99), .int 1], .int 100] S = .exn ⟨"NoAnswer"⟩ S := by
  have F0 : (0 : Rat) < F := by exact_mod_cast hF
  obtain ⟨k1, k2⟩ := worth_0 F0 hc hc2 m h1 h4
  obtain ⟨wo0, wb0⟩ := M_worth_ok (r := 0) m h h1 h4 jF jc (BLe.zero.fin rfl) (by grind)
  have jp : BLe ((F * 99 : Int) : Rat) 20 := ⟨bits_int (n := 19) (by omega)⟩
  have or0 := C_order (S := S) (wb0.fin (k := 4000) rfl) (jp.fin (k := 4000) rfl)
  have ec : ((F * 99 : Int) : Rat) = (F : Rat) * 99 := by push_cast; rfl
  have y0 : cmpQ (worthQ F c m 0) ((F * 99 : Int) : Rat) < 0 := cmp_neg.mpr (by rw [ec]; grind)
  rw [tup_int]
  generalize ((F * 99 : Int) : Rat) = p at *
  simp -implicitDefEqProofs only [M_Bond_rate, f_Bond_rate, e_runD, startD]
  simp -implicitDefEqProofs [h.at_, zero_pt, wo0, or0, y0]
theorem M_moved_ok (h : BondAt S n F c m) (h1 : 1 ≤ m) (h4 : m ≤ 4) (jF : BLe (F : Rat) 9) (jc : BLe c 8) (jr : BLe r 8) (hr : 0 < r) (hr2 : 1 / 200 < r) :
    M_Bond_moved [.obj n, pt r, pt (1 / 200)] S = .ok (.tup [pt (worthQ F c m (r + 1 / 200)), pt (worthQ F c m r), pt (worthQ F c m (r - 1 / 200))]) S := by
  have js : BLe (1 / 200 : Rat) 9 := ⟨by decide +kernel⟩
  obtain ⟨w1, _⟩ := M_worth_ok (r := r + 1 / 200) m h h1 h4 jF jc ((jr.add js).fin rfl) (by grind)
  obtain ⟨w2, _⟩ := M_worth_ok (r := r) m h h1 h4 jF jc (jr.fin rfl) (by grind)
  obtain ⟨w3, _⟩ := M_worth_ok (r := r - 1 / 200) m h h1 h4 jF jc ((jr.sub js).fin rfl) (by grind)
  have c1 : BLe r 4000 := jr.fin rfl
  have c2 : BLe (1 / 200 : Rat) 4000 := js.fin rfl
  generalize (1 / 200 : Rat) = s at *
  simp -implicitDefEqProofs [M_Bond_moved, f_Bond_moved, startD, h.at_, C_add, C_less, c1, c2, w1, w2, w3]
theorem M_met_ok {a b : Nat} (ha : BondAt S a 100 0 1) (hb : BondAt S b 100 0 4) (jr : BLe r 14) (hr : 0 < r) :
    ∃ x y : Rat, BLe x 2000 ∧ BLe y 2000 ∧ x * worthQ 100 0 1 r = 500 / (1 + r) / (1 + r) * (2 / 3) ∧ y * worthQ 100 0 4 r = 500 / (1 + r) / (1 + r) * (1 / 3) ∧ M_met_by_two [.int 500, .int 2, .tup [.obj a, .obj b], pt r] S = .ok (.tup [pt x, pt y]) S := by
  have j100 : BLe ((100 : Int) : Rat) 9 := ⟨bits_int (n := 8) (by decide)⟩
  have b0 : 1 + r ≠ 0 := by grind
  have b1 : 0 < 1 + r := by grind
  have p1 : 0 < worthQ ((100 : Int) : Rat) 0 1 r := worthQ_pos (by decide +kernel) (by grind) b1 1
  have p4 : 0 < worthQ ((100 : Int) : Rat) 0 4 r := worthQ_pos (by decide +kernel) (by grind) b1 4
  obtain ⟨w1, v1⟩ := M_worth_ok (r := r) 1 ha (by omega) (by omega) j100 (BLe.zero.fin rfl) (jr.fin rfl) b1
  obtain ⟨w4, v4⟩ := M_worth_ok (r := r) 4 hb (by omega) (by omega) j100 (BLe.zero.fin rfl) (jr.fin rfl) b1
  have t1 := M_time_ok (r := r) 1 ha (by omega) (by omega) j100 (BLe.zero.fin rfl) (jr.fin rfl) b1 (by grind)
  have t4 := M_time_ok (r := r) 4 hb (by omega) (by omega) j100 (BLe.zero.fin rfl) (jr.fin rfl) b1 (by grind)
  have e100 : ((100 : Int) : Rat) = 100 := rfl
  rw [e100] at p1 p4 w1 v1 w4 v4 t1 t4
  obtain ⟨s1, s2⟩ := short_w b0
  obtain ⟨l1, l2⟩ := long_w b0
  have f1 : timeQ 100 0 1 r / worthQ 100 0 1 r = 1 := by rw [s1, s2]; grind
  have f4 : timeQ 100 0 4 r / worthQ 100 0 4 r = 4 := by rw [l1, l2]; grind
  rw [f1] at t1
  rw [f4] at t4
  have z1 : (2 - 4 : Rat) / (1 - 4) = 2 / 3 := by decide +kernel
  have z2 : (1 : Rat) - 2 / 3 = 1 / 3 := by decide +kernel
  have z3 : ¬ (1 : Rat) = 4 := by decide +kernel
  have z4 : (1 : Rat) - 4 ≠ 0 := by decide +kernel
  have q2 : BLe (2 : Rat) 4000 := ⟨by decide +kernel⟩
  have q4 : BLe (4 : Rat) 4000 := ⟨by decide +kernel⟩
  have q1 : BLe (1 : Rat) 4000 := BLe.one.fin rfl
  have q24 : BLe (2 - 4 : Rat) 4000 := ⟨by decide +kernel⟩
  have q14 : BLe (1 - 4 : Rat) 4000 := ⟨by decide +kernel⟩
  have j23 : BLe (2 / 3 : Rat) 3 := ⟨by decide +kernel⟩
  have j13 : BLe (1 / 3 : Rat) 3 := ⟨by decide +kernel⟩
  have q23 : BLe (2 / 3 : Rat) 4000 := j23.fin rfl
  have q13 : BLe (1 / 3 : Rat) 4000 := j13.fin rfl
  have j5 : BLe (500 : Rat) 9 := ⟨by decide +kernel⟩
  have q5 : BLe (500 : Rat) 4000 := j5.fin rfl
  have jb : BLe (1 + r) 16 := (BLe.one.add jr).fin rfl
  have qb : BLe (1 + r) 4000 := jb.fin rfl
  have qr : BLe r 4000 := jr.fin rfl
  have k1 := j5.div jb
  have k2 := k1.div jb
  have c1 : BLe (500 / (1 + r)) 4000 := k1.fin rfl
  have c2 : BLe (500 / (1 + r) / (1 + r)) 4000 := k2.fin rfl
  have k3 := k2.mul j23
  have k4 := k2.mul j13
  have c3 : BLe (500 / (1 + r) / (1 + r) * (2 / 3)) 4000 := k3.fin rfl
  have c4 : BLe (500 / (1 + r) / (1 + r) * (1 / 3)) 4000 := k4.fin rfl
  have c5 : BLe (worthQ 100 0 1 r) 4000 := v1.fin rfl
  have c6 : BLe (worthQ 100 0 4 r) 4000 := v4.fin rfl
  have n1 : worthQ 100 0 1 r ≠ 0 := by grind
  have n4 : worthQ 100 0 4 r ≠ 0 := by grind
  refine ⟨500 / (1 + r) / (1 + r) * (2 / 3) / worthQ 100 0 1 r, 500 / (1 + r) / (1 + r) * (1 / 3) / worthQ 100 0 4 r, (k3.div v1).fin rfl, (k4.div v4).fin rfl, ?_, ?_, ?_⟩
  · generalize worthQ 100 0 1 r = x at *
    generalize 500 / (1 + r) / (1 + r) * (2 / 3) = y at *
    grind
  · generalize worthQ 100 0 4 r = x at *
    generalize 500 / (1 + r) / (1 + r) * (1 / 3) = y at *
    grind
  · have u2 : D.tup [.int 2, .int 1] = pt 2 := rfl
    have u5 : D.tup [.int 500, .int 1] = pt 500 := rfl
    simp -implicitDefEqProofs only [M_met_by_two, f_met_by_two, e_runD, startD]
    generalize hW1 : worthQ 100 0 1 r = W1 at *
    generalize hW4 : worthQ 100 0 4 r = W4 at *
    simp -implicitDefEqProofs [ha.at_, hb.at_, t1, t4, z3]
    simp -implicitDefEqProofs [u2, u5, one_pt, C_less, C_over, C_add, C_times, q1, q2, q4, q24, q14, z1, z2, z4, q5, qb, qr, c1, c2, c3, c4, c5, c6, q23, q13, b0, n1, n4, ha.at_, hb.at_, w1, w4]
theorem M_met_no {a : Nat} (ha : BondAt S a 100 0 1) (jr : BLe r 14) (hr : 0 < r) : M_met_by_two [.int 500, .int 2, .tup [.obj a, .obj a], pt r] S = .exn ⟨"NoAnswer"⟩ S := by
  have j100 : BLe ((100 : Int) : Rat) 9 := ⟨bits_int (n := 8) (by decide)⟩
  have b0 : 1 + r ≠ 0 := by grind
  have b1 : 0 < 1 + r := by grind
  have p1 : 0 < worthQ ((100 : Int) : Rat) 0 1 r := worthQ_pos (by decide +kernel) (by grind) b1 1
  have t1 := M_time_ok (r := r) 1 ha (by omega) (by omega) j100 (BLe.zero.fin rfl) (jr.fin rfl) b1 (by grind)
  simp -implicitDefEqProofs only [M_met_by_two, f_met_by_two, e_runD, startD]
  generalize timeQ ((100 : Int) : Rat) 0 1 r / worthQ ((100 : Int) : Rat) 0 1 r = x at *
  simp -implicitDefEqProofs [ha.at_, t1]
end
end Pr
set_option Elab.async false
set_option linter.all false
set_option maxRecDepth 100000
set_option maxHeartbeats 2000000
namespace Pr
open PySem PySem.Spec PyProof.Rows L2 DL
def toldO (rs : List String) (cs : List (String × Str)) : Out D → Out D
  | .ok d S1 => .ok d S1
  | .exn e S1 => if e.c ∈ rs then (match pickD cs e.c with
    | some t => .ok (.str t) S1
    | none => .bad) else .bad
  | .bad => .bad
@[simp] theorem e_dTold (rs : List String) (cs : List (String × Str)) (f : DE) (ρ : DEnv) (S : Store) : dTold rs cs f ρ S = toldO rs cs (f ρ S) := by
  unfold dTold toldO
  cases f ρ S <;> rfl
theorem told_no (S : Store) : toldO raisable tellers (.exn ⟨"NoAnswer"⟩ S) = .ok (.str "no answer") S := rfl
theorem told_rule (S : Store) : toldO raisable tellers (.exn ⟨"BadRule"⟩ S) = .ok (.str "rule") S := rfl
theorem roll_m {S : Store} {n : Nat} {k : Int} (h : DiceAt S n) (hk : 0 < k) (hk2 : k.natAbs < 18446744073709551616) : ∃ (v : Nat) (S' : Store), (v : Int) < k ∧ M__law_roll [.obj n, .int k] S = .ok (.int (v : Int)) S' ∧ Kp n S S' ∧ DiceAt S' n := roll_ok h hk hk2
theorem ne_str {x y : Str} {b : Bool} (h1 : SeqAt.shaped (.str x) = true) (h2 : SeqAt.shaped (.str y) = true) (h3 : PyData.eqv (.str x) (.str y) = b) (S : Store) : neD (.str x) (.str y) S = some (.bl (!b), S) := by
  unfold neD
  simp only [D.toPS, D.toP]
  rw [if_pos ⟨h1, h2⟩, h3]
theorem eq_str {x y : Str} {b : Bool} (h1 : SeqAt.shaped (.str x) = true) (h2 : SeqAt.shaped (.str y) = true) (h3 : PyData.eqv (.str x) (.str y) = b) (S : Store) : eqD (.str x) (.str y) S = some (.bl b, S) := by
  unfold eqD
  simp only [D.toPS, D.toP]
  rw [if_pos ⟨h1, h2⟩, h3]
theorem ne_no (S : Store) : neD (.str "no answer") (.str "no answer") S = some (.bl false, S) := ne_str (b := true) (by decide +kernel) (by decide +kernel) (by decide +kernel) S
theorem ne_rule (S : Store) : neD (.str "rule") (.str "rule") S = some (.bl false, S) := ne_str (b := true) (by decide +kernel) (by decide +kernel) (by decide +kernel) S
theorem eq_rule (S : Store) : eqD (.str "rule") (.str "rule") S = some (.bl true, S) := eq_str (b := true) (by decide +kernel) (by decide +kernel) (by decide +kernel) S
theorem M_Bond_init_no (S : Store) : M_Bond___init__ [.obj S.length, .int 0, .tup [.int 1, .int 2], .int 1] (S ++ [.ins "Bond" []]) = .exn ⟨"BadRule"⟩ (S ++ [.ins "Bond" []]) := by
  simp -implicitDefEqProofs [M_Bond___init__, f_Bond___init__, startD]
theorem M_Bond_init_ok1 {F : Int} {c : Rat} (S : Store) (o : DO) (m : Int) (hF : 1 ≤ F) (hm : 1 ≤ m) (hc : 0 ≤ c) (jc : BLe c 8) : M_Bond___init__ [.obj (S.length + 1), .int F, pt c, .int m] (S ++ [o, .ins "Bond" []]) = .ok .non (S ++ [o, .ins "Bond" (bondFs F c m)]) := by
  have h := M_Bond_init_ok (F := F) (c := c) (S ++ [o]) m hF hm hc jc
  simpa using h
theorem BondAt.kp {S S1 : Store} {n i : Nat} {F : Int} {c : Rat} {m : Int} (h : BondAt S i F c m) (k : Kp n S S1) (hi : i ≠ n) : BondAt S1 i F c m := ⟨k.ins hi h.at_⟩
theorem lt_of_dice {S : Store} {n : Nat} (h : DiceAt S n) : n < S.length := by
  obtain ⟨a, b, c, h⟩ := h
  exact lt_of_lst h
theorem u100 : D.tup [.int 1, .int 100] = pt (1 / 100) := by
  have h1 : (1 / 100 : Rat).num = 1 := by decide +kernel
  have h2 : (1 / 100 : Rat).den = 100 := by decide +kernel
  unfold pt
  rw [h1, h2]
  rfl
theorem u200 : D.tup [.int 1, .int 200] = pt (1 / 200) := by
  have h1 : (1 / 200 : Rat).num = 1 := by decide +kernel
  have h2 : (1 / 200 : Rat).den = 200 := by decide +kernel
  unfold pt
  rw [h1, h2]
  rfl
theorem u2 : D.tup [.int 2, .int 1] = pt 2 := rfl
theorem u4 : D.tup [.int 4, .int 1] = pt 4 := rfl
theorem u500 : D.tup [.int 500, .int 1] = pt 500 := rfl
theorem bonds_ok {S : Store} {n : Nat} (hd : DiceAt S n) : ∃ S', M__law_bonds [.obj n] S = .ok (.bl true) S' ∧ Kp n S S' ∧ DiceAt S' n := by
  obtain ⟨f, S1, hf, R1, k1, d1⟩ := roll_m (k := 3) hd (by decide) (by decide)
  obtain ⟨h, S2, hh, R2, k2, d2⟩ := roll_m (k := 10) d1 (by decide) (by decide)
  obtain ⟨m, S3, hm, R3, k3, d3⟩ := roll_m (k := 4) d2 (by decide) (by decide)
  obtain ⟨r, S4, hr, R4, k4, d4⟩ := roll_m (k := 9) d3 (by decide) (by decide)
  have hf : f < 3 := by omega
  have hh : h < 10 := by omega
  have hm : m < 4 := by omega
  have hr : r < 9 := by omega
  -- numbers
  have em : (1 : Int) + (m : Int) = ((m + 1 : Nat) : Int) := by omega
  have er : (1 : Int) + (r : Int) = ((r + 1 : Nat) : Int) := by omega
  have hFe : faceN f = 100 * (1 + (f : Int)) := rfl
  have jF : BLe ((faceN f : Int) : Rat) 9 := ⟨bits_int (n := 8) (by omega)⟩
  have hF1 : 1 ≤ faceN f := by omega
  have hF3 : faceN f ≤ 300 := by omega
  have jc : BLe ((h : Rat) / 100) 8 := by
    have : ∀ h < 10, bits (((h : Nat) : Rat) / 100) ≤ 8 := by decide +kernel
    exact ⟨this h hh⟩
  have hc0 : 0 ≤ (h : Rat) / 100 := by
    have : (0 : Rat) ≤ (h : Rat) := by exact_mod_cast Nat.zero_le h
    grind
  have hc9 : (h : Rat) / 100 ≤ 9 / 100 := by
    have : (h : Rat) ≤ 9 := by exact_mod_cast (show h ≤ 9 by omega)
    grind
  have jr : BLe (((r + 1 : Nat) : Rat) / 100) 8 := by
    have : ∀ r < 9, bits (((r + 1 : Nat) : Rat) / 100) ≤ 8 := by decide +kernel
    exact ⟨this r hr⟩
  have hr1 : (1 : Rat) ≤ ((r + 1 : Nat) : Rat) := by exact_mod_cast (show 1 ≤ r + 1 by omega)
  have hr0 : 0 < ((r + 1 : Nat) : Rat) / 100 := by grind
  have hr200 : 1 / 200 < ((r + 1 : Nat) : Rat) / 100 := by grind
  have hb1 : 0 < 1 + ((r + 1 : Nat) : Rat) / 100 := by grind
  have F0 : (0 : Rat) < (faceN f : Int) := by exact_mod_cast (show 0 < faceN f by omega)
  -- the bond
  have P2 := M_part_h h (by omega) S4
  have I1 := M_Bond_init_ok (F := faceN f) (c := (h : Rat) / 100) S4 ((m + 1 : Nat) : Int) hF1 (by omega) hc0 jc
  have B5 : BondAt (S4 ++ [.ins "Bond" (bondFs (faceN f) ((h : Rat) / 100) ((m + 1 : Nat) : Int))]) S4.length (faceN f) ((h : Rat) / 100) ((m + 1 : Nat) : Int) := ⟨by simp⟩
  have d5 : DiceAt (S4 ++ [.ins "Bond" (bondFs (faceN f) ((h : Rat) / 100) ((m + 1 : Nat) : Int))]) n := d4.app
  have k5 : Kp n S (S4 ++ [.ins "Bond" (bondFs (faceN f) ((h : Rat) / 100) ((m + 1 : Nat) : Int))]) := ((k1.trans k2).trans (k3.trans k4)).trans Kp.app
  have nb : S4.length ≠ n := by have := lt_of_dice d4; omega
  generalize hS5 : S4 ++ [.ins "Bond" (bondFs (faceN f) ((h : Rat) / 100) ((m + 1 : Nat) : Int))] = S5 at I1 B5 d5 k5
  have LW := M_law_worth_ok (S := S5) hf hh hr hm
  have PR5 := M_part_h (r + 1) (by omega) S5
  obtain ⟨W5, _⟩ := M_worth_ok (r := ((r + 1 : Nat) : Rat) / 100) (m + 1) B5 (by omega) (by omega) jF jc (jr.fin rfl) hb1
  have PA5 := M_pays_ok (m + 1) B5 (by omega) (by omega) jF jc
  have PL := pays_len ((faceN f : Int) : Rat) ((h : Rat) / 100) (m + 1) (by omega)
  have wp := worthQ_pos (c := (h : Rat) / 100) (r := ((r + 1 : Nat) : Rat) / 100) F0 hc0 hb1 (m + 1)
  have T5 := M_time_ok (r := ((r + 1 : Nat) : Rat) / 100) (m + 1) B5 (by omega) (by omega) jF jc (jr.fin rfl) hb1 (by grind)
  have e1 : (((1 : Int) + (r : Int) : Int) : Rat) = ((r + 1 : Nat) : Rat) := by rw [er]; rfl
  have e2 : ((h : Int) : Rat) = (h : Rat) := rfl
  rw [e1, e2] at LW
  obtain ⟨b1, b2, b3, b4, b5⟩ := lwI_b f hf h hh r hr m hm
  have we := worth_eq (faceN f) h (1 + (r : Int)) (by omega) (m + 1) (by omega) (by omega)
  have te := time_eq (faceN f) h (1 + (r : Int)) (by omega) (m + 1) (by omega) (by omega)
  have eC : lwI (faceN f) (h : Int) (1 + (r : Int)) (m + 1) (m + 1) 0 0 1 = lwC f h r m := rfl
  rw [eC, e1, e2] at we te
  have LL := M_least_ok (t := (lwC f h r m).2.1) (b := (lwC f h r m).1) b1 (up200 b3) (up200 b2) S5
  generalize lwC f h r m = L at *
  have eT : (L.2.1 : Rat) / (L.1 : Rat) = timeQ (faceN f) ((h : Rat) / 100) (m + 1) (((r + 1 : Nat) : Rat) / 100) / worthQ (faceN f) ((h : Rat) / 100) (m + 1) (((r + 1 : Nat) : Rat) / 100) := by
    rw [← we, ← te]
    have x1 : (0 : Rat) < (L.1 : Rat) := by exact_mod_cast b1
    have x2 : (0 : Rat) < (L.2.2 : Rat) := by exact_mod_cast b4
    generalize (L.1 : Rat) = a at *
    generalize (L.2.2 : Rat) = b at *
    generalize (L.2.1 : Rat) = c at *
    grind
  rw [eT] at LL
  -- the price
  have hf3 : faceN f / 3 = 100 * (1 + (f : Int)) / 3 := rfl
  obtain ⟨p, S6, hp, R5, k6, d6⟩ := roll_m (k := faceN f / 3) d5 (by omega) (by omega)
  have B6 := B5.kp k6 nb
  have F3 : fdivD (.int (faceN f)) (.int 3) S5 = some (.int (faceN f / 3), S5) := fdiv_small (by decide) (by decide)
  have jp : BLe ((faceN f - (p : Int) : Int) : Rat) 9 := ⟨bits_int (n := 8) (by omega)⟩
  have p0 : (0 : Rat) < ((faceN f - (p : Int) : Int) : Rat) := by exact_mod_cast (show 0 < faceN f - (p : Int) by omega)
  have p1 : ((faceN f - (p : Int) : Int) : Rat) ≤ (faceN f : Int) := by exact_mod_cast (show faceN f - (p : Int) ≤ faceN f by omega)
  have p2 : ((faceN f : Int) : Rat) * (2 / 3) ≤ ((faceN f - (p : Int) : Int) : Rat) := by
    have q : ((2 * faceN f : Int) : Rat) ≤ ((3 * (faceN f - (p : Int)) : Int) : Rat) := by exact_mod_cast (show 2 * faceN f ≤ 3 * (faceN f - (p : Int)) by omega)
    have q1 : ((2 * faceN f : Int) : Rat) = 2 * ((faceN f : Int) : Rat) := by push_cast; rfl
    have q2 : ((3 * (faceN f - (p : Int)) : Int) : Rat) = 3 * ((faceN f - (p : Int) : Int) : Rat) := by push_cast; rfl
    rw [q1, q2] at q
    grind
  obtain ⟨l, l1, l2, l3, RT⟩ := M_rate_ok (p := ((faceN f - (p : Int) : Int) : Rat)) B6 (by omega) (by omega) (by omega) jF jc hc0 hc9 jp p0 p1 p2
  have nn : ∀ k : Nat, 0 < 1 + (k : Rat) / 100 := fun k => by
    have : (0 : Rat) ≤ (k : Rat) := by exact_mod_cast Nat.zero_le k
    grind
  obtain ⟨WL, VL⟩ := M_worth_ok (r := (l : Rat) / 100) (m + 1) B6 (by omega) (by omega) jF jc ((ble_h l (by omega)).fin rfl) (nn l)
  obtain ⟨WH, VH⟩ := M_worth_ok (r := ((l + 1 : Nat) : Rat) / 100) (m + 1) B6 (by omega) (by omega) jF jc ((ble_h (l + 1) (by omega)).fin rfl) (nn (l + 1))
  have OL := C_order (S := S6) (VL.fin (k := 4000) rfl) (jp.fin (k := 4000) rfl)
  have OH := C_order (S := S6) (VH.fin (k := 4000) rfl) (jp.fin (k := 4000) rfl)
  have yl := (not_congr (cmp_neg (q := worthQ (faceN f) ((h : Rat) / 100) (m + 1) ((l : Rat) / 100)) (r := ((faceN f - (p : Int) : Int) : Rat)))).mpr (by grind)
  have yh := (not_congr (cmp_pos (q := worthQ (faceN f) ((h : Rat) / 100) (m + 1) (((l + 1 : Nat) : Rat) / 100)) (r := ((faceN f - (p : Int) : Int) : Rat)))).mpr (by grind)
  have LS := C_less (S := S6) ((ble_h (l + 1) (by omega)).fin (k := 4000) rfl) ((ble_h l (by omega)).fin (k := 4000) rfl)
  have lq : ((l + 1 : Nat) : Rat) / 100 - (l : Rat) / 100 = 1 / 100 := by push_cast; grind
  rw [lq] at LS
  -- moved
  have PR6 := M_part_h (r + 1) (by omega) S6
  have MV := M_moved_ok B6 (by omega) (by omega) jF jc jr hr0 hr200
  obtain ⟨_, V1⟩ := M_worth_ok (r := ((r + 1 : Nat) : Rat) / 100 + 1 / 200) (m + 1) B6 (by omega) (by omega) jF jc ((jr.add (show BLe (1 / 200 : Rat) 9 from ⟨by decide +kernel⟩)).fin rfl) (by grind)
  obtain ⟨_, V2⟩ := M_worth_ok (r := ((r + 1 : Nat) : Rat) / 100) (m + 1) B6 (by omega) (by omega) jF jc (jr.fin rfl) (by grind)
  obtain ⟨_, V3⟩ := M_worth_ok (r := ((r + 1 : Nat) : Rat) / 100 - 1 / 200) (m + 1) B6 (by omega) (by omega) jF jc ((jr.sub (show BLe (1 / 200 : Rat) 9 from ⟨by decide +kernel⟩)).fin rfl) (by grind)
  obtain ⟨mv1, mv2⟩ := moved_ok f hf h hh m hm r hr
  have eF : (100 : Rat) * ((f + 1 : Nat) : Rat) = ((faceN f : Int) : Rat) := by
    rw [hFe]; push_cast; grind
  rw [eF] at mv1 mv2
  generalize hX1 : worthQ (faceN f) ((h : Rat) / 100) (m + 1) (((r + 1 : Nat) : Rat) / 100 + 1 / 200) = X1 at *
  generalize hX2 : worthQ (faceN f) ((h : Rat) / 100) (m + 1) (((r + 1 : Nat) : Rat) / 100) = X2 at *
  generalize hX3 : worthQ (faceN f) ((h : Rat) / 100) (m + 1) (((r + 1 : Nat) : Rat) / 100 - 1 / 200) = X3 at *
  have j2 : BLe (2 : Rat) 2 := ⟨by decide +kernel⟩
  have A1 := C_add (S := S6) (V1.fin (k := 4000) rfl) (V3.fin (k := 4000) rfl)
  have A2 := C_times (S := S6) (V2.fin (k := 4000) rfl) (j2.fin (k := 4000) rfl)
  have A3 := C_order (S := S6) ((V1.add V3).fin (k := 4000) rfl) ((V2.mul j2).fin (k := 4000) rfl)
  have A4 := C_order (S := S6) (V1.fin (k := 4000) rfl) (V3.fin (k := 4000) rfl)
  have y3 := (not_congr (cmp_np (q := X1 + X3) (r := X2 * 2))).mpr (by grind)
  have y4 := (not_congr (cmp_nn (q := X1) (r := X3))).mpr (by grind)
  -- two bonds
  have z0 : (0 : Rat) ≤ 0 := by grind
  have I2 := M_Bond_init_ok (F := 100) (c := 0) S6 1 (by decide) (by decide) z0 (BLe.zero.fin rfl)
  have I3 := M_Bond_init_ok1 (F := 100) (c := 0) S6 (.ins "Bond" (bondFs 100 0 1)) 4 (by decide) (by decide) z0 (BLe.zero.fin rfl)
  have Ba : BondAt (S6 ++ [.ins "Bond" (bondFs 100 0 1), .ins "Bond" (bondFs 100 0 4)]) S6.length 100 0 ((1 : Nat) : Int) := ⟨by simp⟩
  have Bb : BondAt (S6 ++ [.ins "Bond" (bondFs 100 0 1), .ins "Bond" (bondFs 100 0 4)]) (S6.length + 1) 100 0 ((4 : Nat) : Int) := ⟨by simp⟩
  have B7 : BondAt (S6 ++ [.ins "Bond" (bondFs 100 0 1), .ins "Bond" (bondFs 100 0 4)]) S4.length (faceN f) ((h : Rat) / 100) ((m + 1 : Nat) : Int) := B6.keep
  have d7 : DiceAt (S6 ++ [.ins "Bond" (bondFs 100 0 1), .ins "Bond" (bondFs 100 0 4)]) n := d6.app
  have k7 : Kp n S (S6 ++ [.ins "Bond" (bondFs 100 0 1), .ins "Bond" (bondFs 100 0 4)]) := (k5.trans k6).trans Kp.app
  generalize hS7 : S6 ++ [.ins "Bond" (bondFs 100 0 1), .ins "Bond" (bondFs 100 0 4)] = S7 at I3 Ba Bb B7 d7 k7
  have PR7 := M_part_h (r + 1) (by omega) S7
  obtain ⟨x, y, jx, jy, x1, y1, MT⟩ := M_met_ok (a := S6.length) (b := S6.length + 1) Ba Bb (jr.fin rfl) hr0
  have MN := M_met_no (a := S6.length) Ba (jr.fin rfl) hr0
  have j100 : BLe ((100 : Int) : Rat) 9 := ⟨bits_int (n := 8) (by decide)⟩
  obtain ⟨Wa, Va⟩ := M_worth_ok (r := ((r + 1 : Nat) : Rat) / 100) 1 Ba (by omega) (by omega) j100 (BLe.zero.fin rfl) (jr.fin rfl) hb1
  obtain ⟨Wb, Vb⟩ := M_worth_ok (r := ((r + 1 : Nat) : Rat) / 100) 4 Bb (by omega) (by omega) j100 (BLe.zero.fin rfl) (jr.fin rfl) hb1
  have e100 : ((100 : Int) : Rat) = 100 := rfl
  rw [e100] at Wa Va Wb Vb
  have Ta := C_times (S := S7) (jx.fin (k := 4000) rfl) (Va.fin (k := 4000) rfl)
  have Tb := C_times (S := S7) (jy.fin (k := 4000) rfl) (Vb.fin (k := 4000) rfl)
  rw [x1] at Ta
  rw [y1] at Tb
  have RN := M_rate_no B7 (by omega) (by omega) (by omega) (by omega) jF jc hc0 hc9
  have j5 : BLe (500 : Rat) 9 := ⟨by decide +kernel⟩
  have jb : BLe (1 + ((r + 1 : Nat) : Rat) / 100) 10 := (BLe.one.add jr).fin rfl
  have bne : 1 + ((r + 1 : Nat) : Rat) / 100 ≠ 0 := by grind
  have D0 := C_add (S := S7) (BLe.one.fin (k := 4000) rfl) (jr.fin (k := 4000) rfl)
  have D1 := C_over (S := S7) (j5.fin (k := 4000) rfl) (jb.fin (k := 4000) rfl) bne
  have D2 := C_over (S := S7) ((j5.div jb).fin (k := 4000) rfl) (jb.fin (k := 4000) rfl) bne
  have jn : BLe (500 / (1 + ((r + 1 : Nat) : Rat) / 100) / (1 + ((r + 1 : Nat) : Rat) / 100)) 40 := ((j5.div jb).div jb).fin rfl
  generalize hN : 500 / (1 + ((r + 1 : Nat) : Rat) / 100) / (1 + ((r + 1 : Nat) : Rat) / 100) = N at *
  have j23 : BLe (2 / 3 : Rat) 3 := ⟨by decide +kernel⟩
  have j13 : BLe (1 / 3 : Rat) 3 := ⟨by decide +kernel⟩
  have j4 : BLe (4 : Rat) 4 := ⟨by decide +kernel⟩
  have E1 := C_add (S := S7) ((jn.mul j23).fin (k := 4000) rfl) ((jn.mul j13).fin (k := 4000) rfl)
  have E2 := C_times (S := S7) ((jn.mul j13).fin (k := 4000) rfl) (j4.fin (k := 4000) rfl)
  have E3 := C_add (S := S7) ((jn.mul j23).fin (k := 4000) rfl) (((jn.mul j13).mul j4).fin (k := 4000) rfl)
  have E4 := C_times (S := S7) (jn.fin (k := 4000) rfl) (j2.fin (k := 4000) rfl)
  have g1 : N * (2 / 3) + N * (1 / 3) = N := by grind
  have g2 : N * (2 / 3) + N * (1 / 3) * 4 = N * 2 := by grind
  rw [g1] at E1
  rw [g2] at E3
  have I9 := M_Bond_init_no S7
  refine ⟨S7 ++ [.ins "Bond" []], ?_, k7.trans Kp.app, d7.app⟩
  have F100 : mulD (.int 100) (.int (1 + (f : Int))) S1 = some (.int (faceN f), S1) := mulD_l (by decide)
  have F99 : mulD (.int (faceN f)) (.int 99) S7 = some (.int (faceN f * 99), S7) := mulD_r (by decide)
  have UP : D.tup [.int (faceN f - (p : Int)), .int 1] = pt ((faceN f - (p : Int) : Int) : Rat) := tup_int _
  have PLi : (((paysQ (faceN f) ((h : Rat) / 100) (m + 1)).length : Nat) : Int) = 1 + (m : Int) := by
    rw [PL]; omega
  rw [← em] at I1 B5 B6 B7 LW hS5
  rw [← er] at PR5 PR6 PR7
  rw [hS5] at *
  rw [hS7] at *
  generalize hmi : (1 : Int) + (m : Int) = mi at *
  generalize hri : (1 : Int) + (r : Int) = ri at *
  generalize hrq : ((r + 1 : Nat) : Rat) / 100 = rq at *
  generalize hcq : (h : Rat) / 100 = cq at *
  generalize hlh : ((l + 1 : Nat) : Rat) / 100 = lh at *
  generalize hll : (l : Rat) / 100 = ll at *
  generalize hpq : ((faceN f - (p : Int) : Int) : Rat) = pq at *
  generalize hF : faceN f = F at *
  generalize hFp : F - (p : Int) = Fp at *
  generalize hFc : ((F : Int) : Rat) = Fq at *
  simp -implicitDefEqProofs only [M__law_bonds, f__law_bonds, e_runD, startD]
  simp -implicitDefEqProofs [R1, R2, R3, R4, F100, hmi, hri, P2, I1]
  simp -implicitDefEqProofs [LW, PR5, B5.at_, W5, PA5, PLi, T5, LL, F3, R5, hFp, UP]
  simp -implicitDefEqProofs [B6.at_, RT, WL, OL, yl, WH, OH, yh, LS, u100, PR6, u200, MV, A1, A2, A3, A4, y3, y4, u2]
  simp -implicitDefEqProofs [zero_pt, I2, I3, PR7, MT, Ba.at_, Bb.at_, Wa, Wb, Ta, Tb, u500, one_pt, D0, D1, D2, E1, u4, E2, E3, u2, E4]
  simp -implicitDefEqProofs [MN, told_no, ne_no, B7.at_, F99, RN, I9, told_rule, eq_rule]
end Pr
set_option Elab.async false
set_option linter.all false
set_option maxRecDepth 100000
set_option maxHeartbeats 2000000
namespace Pr
open PySem PySem.Spec PyProof.Rows L2 DL
/-- what holds of a round's numbers -/
structure Num (P K : Int) (u d g : Rat) (t : Nat) : Prop where
  t1 : 1 ≤ t
  t3 : t ≤ 3
  P1 : 1 ≤ P
  P8 : P.natAbs < 2 ^ 8
  K0 : 0 ≤ K
  K8 : K.natAbs < 2 ^ 8
  ju : BLe u 8
  jd : BLe d 8
  jg : BLe g 8
  d0 : 0 < d
  dg : d < g
  gu : g < u
  g1 : 1 ≤ g
section
variable {S : Store} {n : Nat} {P K : Int} {u d g : Rat} {t : Nat}
theorem Num.g0 (h : Num P K u d g t) : g ≠ 0 := by have := h.d0; have := h.dg; grind
theorem Num.ud (h : Num P K u d g t) : u - d ≠ 0 := by have := h.gu; have := h.dg; grind
theorem Num.jw (h : Num P K u d g t) : BLe (wQ u d g) 40 := ((h.jg.sub h.jd).div (h.ju.sub h.jd)).fin rfl
theorem Num.jP (h : Num P K u d g t) : BLe (P : Rat) 8 := ⟨bits_int (n := 7) h.P8⟩
theorem Num.jK (h : Num P K u d g t) : BLe (K : Rat) 8 := ⟨bits_int (n := 7) h.K8⟩
theorem Num.hw (h : Num P K u d g t) : wQ u d g * u + (1 - wQ u d g) * d = g := by
  have := h.ud
  unfold wQ
  grind
theorem Num.w0 (h : Num P K u d g t) : 0 ≤ wQ u d g := by
  unfold wQ
  have h1 := h.dg
  have h2 := h.gu
  have : 0 ≤ (u - d)⁻¹ := Rat.le_of_lt (Rat.inv_pos.mpr (by grind))
  rw [Rat.div_def]
  exact Rat.mul_nonneg (by grind) this
theorem Num.w1 (h : Num P K u d g t) : wQ u d g ≤ 1 := by
  have h1 := h.dg
  have h2 := h.gu
  have := div_le_div (a := g - d) (b := u - d) (c := u - d) (by grind) (by grind)
  have e : (u - d) / (u - d) = 1 := by grind
  rw [e] at this
  exact this
/-- one side of the first step -/
def sideB : DS :=
  (dSeq (dAsg (dCall 2 M_times (daCons (dTup (daCons (dVar 2) (daCons (dC (.int 1)) daNil))) (daCons (dIf (dB (dVar 14)) (dVar 5) (dVar 6)) daNil))) (gN 15))
  (dSeq (dAsg (dIf (dB (dOp eqD (dVar 4) (dC (.int 1)))) (dCall 3 M_paid (daCons (dVar 15) (daCons (dVar 3) (daCons (dC (.bl true)) daNil)))) (dMeth "Scaled" "right" 4 M_Scaled_right (dMake "Scaled" 3 M_Scaled___init__ (daCons (dMake "Tree" 6 M_Tree___init__ (daCons (dC (.int 1)) (daCons (dVar 5) (daCons (dVar 6) (daCons (dVar 7) (daCons (dOp subD (dVar 4) (dC (.int 1))) daNil)))))) (daCons (dVar 15) daNil))) (daCons (dVar 3) (daCons (dC (.bl true)) (daCons (dC (.bl false)) daNil))))) (gN 16))
  (dSeq (dIfS (dB (dOp neD (dCall 2 M_add (daCons (dCall 2 M_times (daCons (dVar 12) (daCons (dVar 15) daNil))) (daCons (dCall 2 M_times (daCons (dVar 13) (daCons (dVar 7) daNil))) daNil))) (dVar 16)))
  (dRet (dC (.bl false)))
  dNext)
  (dIfS (dAndT (dB (dOp gtD (dVar 4) (dC (.int 1)))) (dB (dOp neD (dMeth "Scaled" "right" 4 M_Scaled_right (dMeth "Tree" "after" 2 M_Tree_after (dVar 8) (daCons (dVar 14) daNil)) (daCons (dVar 3) (daCons (dC (.bl true)) (daCons (dC (.bl false)) daNil)))) (dVar 16))))
  (dRet (dC (.bl false)))
  dNext))))
theorem side_ok (N : Num P K u d g t) (ht : TreeAt S n P u d g t) {sh mo : Rat} (js : BLe sh 1800) (jm : BLe mo 2700) (b : Bool)
    (he : sh * (P * (if b = true then u else d)) + mo * g = RQ u d g (wQ u d g) K true false (t - 1) (P * (if b = true then u else d))) (o0 o1 o9 o10 o11 o15 o16 : Option D) :
    ∃ T a15 a16, sideB [o0, o1, some (.int P), some (.int K), some (.int t), some (pt u), some (pt d), some (pt g), some (.obj n), o9, o10, o11, some (pt sh), some (pt mo), some (.bl b), o15, o16] S
      = .nx [o0, o1, some (.int P), some (.int K), some (.int t), some (pt u), some (pt d), some (pt g), some (.obj n), o9, o10, o11, some (pt sh), some (pt mo), some (.bl b), a15, a16] (S ++ T) := by
  have jM : BLe (P * (if b = true then u else d)) 16 := by
    cases b
    · exact N.jP.mul N.jd
    · exact N.jP.mul N.ju
  have C1 : ∀ S, M_times [pt P, pt (if b = true then u else d)] S = .ok (pt (P * (if b = true then u else d))) S := fun S => by
    cases b
    · exact C_times (N.jP.fin rfl) (N.jd.fin rfl)
    · exact C_times (N.jP.fin rfl) (N.ju.fin rfl)
  generalize hM : (P : Rat) * (if b = true then u else d) = M at *
  have C2 : ∀ S, M_times [pt sh, pt M] S = .ok (pt (sh * M)) S := fun S => C_times (js.fin rfl) (jM.fin rfl)
  have C3 : ∀ S, M_times [pt mo, pt g] S = .ok (pt (mo * g)) S := fun S => C_times (jm.fin rfl) (N.jg.fin rfl)
  have C4 : ∀ S, M_add [pt (sh * M), pt (mo * g)] S = .ok (pt (sh * M + mo * g)) S := fun S => C_add ((js.mul jM).fin rfl) ((jm.mul N.jg).fin rfl)
  rw [he] at C4
  have e5 : ∀ S, (if b = true then optV (some (some (pt u))) S else optV (some (some (pt d))) S) = .ok (pt (if b = true then u else d)) S := fun S => by cases b <;> rfl
  by_cases z : t = 1
  · subst z
    have C5 := C_paid (S := S) (b := true) (k := K) (q := M) (jM.fin rfl) (by have := N.K8; omega)
    have eR : RQ u d g (wQ u d g) K true false (1 - 1) M = paidQ M K true := rfl
    rw [eR] at C4
    refine ⟨[], some (pt M), some (pt (paidQ M K true)), ?_⟩
    cases b
    · simp only [Bool.false_eq_true, if_false] at C1
      simp -implicitDefEqProofs [sideB, tup_int, C1, C2, C3, C4, C5]
    · simp only [if_true] at C1
      simp -implicitDefEqProofs [sideB, tup_int, C1, C2, C3, C4, C5]
  · have h2 : 2 ≤ t := by have := N.t1; omega
    have h3 := N.t3
    have et : (t : Int) - 1 = ((t - 1 : Nat) : Int) := by omega
    have i1 := M_Tree_init_ok (P := 1) (u := u) (d := d) (g := g) S ((t - 1 : Nat) : Int) (by omega) (by omega) (by omega) N.jd N.ju N.jg N.d0 N.dg N.gu
    have i2 := M_Scaled_init_ok1 (tn := S.length) (M := M) S (.ins "Tree" (treeFs 1 u d g ((t - 1 : Nat) : Int)))
    have s1 : ScAt (S ++ [.ins "Tree" (treeFs 1 u d g ((t - 1 : Nat) : Int)), .ins "Scaled" (scFs S.length M)]) (S.length + 1) S.length M := ⟨by simp⟩
    have t1 : TreeAt (S ++ [.ins "Tree" (treeFs 1 u d g ((t - 1 : Nat) : Int)), .ins "Scaled" (scFs S.length M)]) S.length 1 u d g ((t - 1 : Nat) : Int) := ⟨by simp⟩
    have ht1 : TreeAt (S ++ [.ins "Tree" (treeFs 1 u d g ((t - 1 : Nat) : Int)), .ins "Scaled" (scFs S.length M)]) n P u d g t := ht.keep
    obtain ⟨S1, hS1⟩ : ∃ S1, S1 = S ++ [.ins "Tree" (treeFs 1 u d g ((t - 1 : Nat) : Int)), .ins "Scaled" (scFs S.length M)] := ⟨_, rfl⟩
    rw [← hS1] at i2 s1 t1 ht1
    obtain ⟨T1, r1⟩ := M_sright_ok (K := K) (buy := true) (any := false) S1 (t - 1) s1 t1 (by omega) N.K8 N.ju N.jd N.jg jM N.g0 N.ud
    have ht2 : TreeAt (S1 ++ T1) n P u d g t := ht1.keep
    obtain ⟨S2, hS2⟩ : ∃ S2, S2 = S1 ++ T1 := ⟨_, rfl⟩
    rw [← hS2] at r1 ht2
    have af := M_after_ok (b := b) t ht2 h2 h3 N.P8 N.ju N.jd N.jg N.d0 N.dg N.gu
    rw [hM] at af
    have s3 : ScAt (S2 ++ [.ins "Tree" (treeFs 1 u d g ((t - 1 : Nat) : Int)), .ins "Scaled" (scFs S2.length M)]) (S2.length + 1) S2.length M := ⟨by simp⟩
    have t3 : TreeAt (S2 ++ [.ins "Tree" (treeFs 1 u d g ((t - 1 : Nat) : Int)), .ins "Scaled" (scFs S2.length M)]) S2.length 1 u d g ((t - 1 : Nat) : Int) := ⟨by simp⟩
    obtain ⟨S3, hS3⟩ : ∃ S3, S3 = S2 ++ [.ins "Tree" (treeFs 1 u d g ((t - 1 : Nat) : Int)), .ins "Scaled" (scFs S2.length M)] := ⟨_, rfl⟩
    rw [← hS3] at af s3 t3
    obtain ⟨T3, r3⟩ := M_sright_ok (K := K) (buy := true) (any := false) S3 (t - 1) s3 t3 (by omega) N.K8 N.ju N.jd N.jg jM N.g0 N.ud
    have ex : ∃ T, S3 ++ T3 = S ++ T := by
      rw [hS3, hS2, hS1]
      simp only [List.append_assoc]
      exact ⟨_, rfl⟩
    obtain ⟨T, eT⟩ := ex
    refine ⟨T, some (pt M), some (pt (RQ u d g (wQ u d g) K true false (t - 1) M)), ?_⟩
    rw [← eT]
    generalize hR : RQ u d g (wQ u d g) K true false (t - 1) M = R at *
    have z1 : ¬ (t : Int) = 1 := by omega
    have z2 : (1 : Int) < (t : Int) := by omega
    have w1 := s1.at_
    have w3 := s3.at_
    cases b
    · simp only [Bool.false_eq_true, if_false] at C1
      simp -implicitDefEqProofs [sideB, tup_int, C1, z1, et, i1, i2, w1, r1]
      simp -implicitDefEqProofs [C2, C3, C4, z2, ht2.at_, af, w3, r3]
    · simp only [if_true] at C1
      simp -implicitDefEqProofs [sideB, tup_int, C1, z1, et, i1, i2, w1, r1]
      simp -implicitDefEqProofs [C2, C3, C4, z2, ht2.at_, af, w3, r3]
end
end Pr
set_option Elab.async false
set_option linter.all false
set_option maxRecDepth 100000
set_option maxHeartbeats 4000000
namespace Pr
open PySem PySem.Spec PyProof.Rows L2 DL
def lawB : DS :=
  (dSeq (dIfS (dNotT (dB (dCall 1 M__law_bonds (daCons (dVar 1) daNil))))
  (dRet (dC (.bl false)))
  dNext)
  (dSeq (dAsg (dTup (daCons (dOp addD (dC (.int 80)) (dCall 2 M__law_roll (daCons (dVar 1) (daCons (dC (.int 40)) daNil)))) (daCons (dOp addD (dC (.int 80)) (dCall 2 M__law_roll (daCons (dVar 1) (daCons (dC (.int 40)) daNil)))) (daCons (dOp addD (dC (.int 1)) (dCall 2 M__law_roll (daCons (dVar 1) (daCons (dC (.int 3)) daNil)))) daNil)))) (gT 3 (gsCons (gN 2) (gsCons (gN 3) (gsCons (gN 4) gsNil)))))
  (dSeq (dAsg (dTup (daCons (dCall 2 M_part (daCons (dOp addD (dC (.int 11)) (dCall 2 M__law_roll (daCons (dVar 1) (daCons (dC (.int 3)) daNil)))) (daCons (dC (.int 10)) daNil))) (daCons (dCall 2 M_part (daCons (dOp addD (dC (.int 7)) (dCall 2 M__law_roll (daCons (dVar 1) (daCons (dC (.int 3)) daNil)))) (daCons (dC (.int 10)) daNil))) (daCons (dCall 2 M_part (daCons (dOp addD (dC (.int 101)) (dCall 2 M__law_roll (daCons (dVar 1) (daCons (dC (.int 5)) daNil)))) (daCons (dC (.int 100)) daNil))) daNil)))) (gT 3 (gsCons (gN 5) (gsCons (gN 6) (gsCons (gN 7) gsNil)))))
  (dSeq (dAsg (dMake "Tree" 6 M_Tree___init__ (daCons (dVar 2) (daCons (dVar 5) (daCons (dVar 6) (daCons (dVar 7) (daCons (dVar 4) daNil)))))) (gN 8))
  (dSeq (dAsg (dMeth "Tree" "weight" 1 M_Tree_weight (dVar 8) daNil) (gN 9))
  (dSeq (dIfS (dOrT (dB (dOp neD (dCall 2 M_add (daCons (dCall 2 M_times (daCons (dVar 9) (daCons (dVar 5) daNil))) (daCons (dCall 2 M_times (daCons (dCall 2 M_less (daCons (dTup (daCons (dC (.int 1)) (daCons (dC (.int 1)) daNil))) (daCons (dVar 9) daNil))) (daCons (dVar 6) daNil))) daNil))) (dVar 7))) (dB (dOp neD (dBlt lenD (daCons (dMeth "Tree" "prices" 2 M_Tree_prices (dVar 8) (daCons (dVar 4) daNil)) daNil)) (dOp addD (dVar 4) (dC (.int 1))))))
  (dRet (dC (.bl false)))
  dNext)
  (dSeq (dPar2 10 11 (daCons (dMeth "Tree" "right" 4 M_Tree_right (dVar 8) (daCons (dVar 3) (daCons (dC (.bl true)) (daCons (dC (.bl false)) daNil)))) (daCons (dMeth "Tree" "right" 4 M_Tree_right (dVar 8) (daCons (dVar 3) (daCons (dC (.bl false)) (daCons (dC (.bl false)) daNil)))) daNil)))
  (dSeq (dIfS (dB (dOp neD (dVar 10) (dCall 8 M__law_ways (daCons (dVar 2) (daCons (dVar 5) (daCons (dVar 6) (daCons (dVar 9) (daCons (dVar 7) (daCons (dVar 4) (daCons (dVar 3) (daCons (dC (.bl true)) daNil)))))))))))
  (dRet (dC (.bl false)))
  dNext)
  (dSeq (dIfS (dOrT (dB (dOp neD (dMeth "Tree" "by_ways" 3 M_Tree_by_ways (dVar 8) (daCons (dVar 3) (daCons (dC (.bl false)) daNil))) (dVar 11))) (dB (dOp neD (dCall 2 M_less (daCons (dVar 10) (daCons (dVar 11) daNil))) (dCall 4 M_parity (daCons (dVar 2) (daCons (dVar 3) (daCons (dVar 7) (daCons (dVar 4) daNil))))))))
  (dRet (dC (.bl false)))
  dNext)
  (dSeq (dIfS (dOrT (dB (dOp ltD (dCall 2 M_order (daCons (dMeth "Tree" "right" 4 M_Tree_right (dVar 8) (daCons (dVar 3) (daCons (dC (.bl false)) (daCons (dC (.bl true)) daNil)))) (daCons (dVar 11) daNil))) (dC (.int 0)))) (dB (dOp neD (dMeth "Tree" "right" 4 M_Tree_right (dVar 8) (daCons (dVar 3) (daCons (dC (.bl true)) (daCons (dC (.bl true)) daNil)))) (dVar 10))))
  (dRet (dC (.bl false)))
  dNext)
  (dSeq (dAsg (dMeth "Tree" "held" 3 M_Tree_held (dVar 8) (daCons (dVar 3) (daCons (dC (.bl true)) daNil))) (gT 2 (gsCons (gN 12) (gsCons (gN 13) gsNil))))
  (dSeq (dIfS (dB (dOp neD (dCall 2 M_add (daCons (dCall 2 M_times (daCons (dVar 12) (daCons (dTup (daCons (dVar 2) (daCons (dC (.int 1)) daNil))) daNil))) (daCons (dVar 13) daNil))) (dVar 10)))
  (dRet (dC (.bl false)))
  dNext)
  (dSeq (dFor (diSeq (dLst (daCons (dC (.bl true)) (daCons (dC (.bl false)) daNil)))) (gN 14)
  sideB)
  (dSeq (dIfS (dOrT (dB (dOp neD (dCall 3 M_paid (daCons (dTup (daCons (dC (.int 9)) (daCons (dC (.int 2)) daNil))) (daCons (dC (.int 4)) (daCons (dC (.bl true)) daNil)))) (dTup (daCons (dC (.int 1)) (daCons (dC (.int 2)) daNil))))) (dOrT (dB (dOp neD (dCall 3 M_paid (daCons (dTup (daCons (dC (.int 9)) (daCons (dC (.int 2)) daNil))) (daCons (dC (.int 4)) (daCons (dC (.bl false)) daNil)))) (dTup (daCons (dC (.int 0)) (daCons (dC (.int 1)) daNil))))) (dB (dOp neD (dBlt lenD (daCons (dCall 1 M_all_ways (daCons (dC (.int 3)) daNil)) daNil)) (dC (.int 8))))))
  (dRet (dC (.bl false)))
  dNext)
  (dSeq (dIfS (dB (dOp neD (dTold raisable tellers (dMake "Tree" 6 M_Tree___init__ (daCons (dVar 2) (daCons (dVar 6) (daCons (dVar 5) (daCons (dVar 7) (daCons (dVar 4) daNil))))))) (dC (.str "rule"))))
  (dRet (dC (.bl false)))
  dNext)
  (dIfS (dB (dOp neD (dTold raisable tellers (dMake "Tree" 6 M_Tree___init__ (daCons (dVar 2) (daCons (dVar 5) (daCons (dTup (daCons (dC (.int 0)) (daCons (dC (.int 1)) daNil))) (daCons (dVar 7) (daCons (dVar 4) daNil))))))) (dC (.str "rule"))))
  (dRet (dC (.bl false)))
  dNext))))))))))))))))
theorem held_dn {P u d g lo hi : Rat} (g0 : g ≠ 0) : sharesQ P u d lo hi * (P * d) + moneyQ P u d g lo hi * g = lo := by
  unfold moneyQ
  generalize sharesQ P u d lo hi * (P * d) = x at *
  grind
theorem held_up {P u d g lo hi : Rat} (g0 : g ≠ 0) (pne : P * u - P * d ≠ 0) : sharesQ P u d lo hi * (P * u) + moneyQ P u d g lo hi * g = hi := by
  have e1 : sharesQ P u d lo hi * (P * u - P * d) = hi - lo := by
    unfold sharesQ
    generalize (P : Rat) * u - P * d = y at *
    grind
  have e2 : sharesQ P u d lo hi * (P * u) = sharesQ P u d lo hi * (P * u - P * d) + sharesQ P u d lo hi * (P * d) := by grind
  have e3 := held_dn (P := P) (u := u) (d := d) (lo := lo) (hi := hi) g0
  rw [e2, e1]
  grind
theorem held_buy {P u d g lo hi w s o : Rat} (g0 : g ≠ 0) (hw : w * u + (1 - w) * d = g) (h1 : s * (P * d) + o * g = lo) (h2 : s * (P * u) + o * g = hi) : s * P + o = meanQ w g lo hi := by
  unfold meanQ
  have e3 : (w * hi + (1 - w) * lo) = (s * P + o) * g := by
    have e4 : w * hi + (1 - w) * lo = s * P * (w * u + (1 - w) * d) + o * g := by
      rw [← h1, ← h2]; grind
    rw [e4, hw]
    grind
  rw [e3]
  grind
theorem u92 : D.tup [.int 9, .int 2] = pt (9 / 2) := by
  have h1 : (9 / 2 : Rat).num = 9 := by decide +kernel
  have h2 : (9 / 2 : Rat).den = 2 := by decide +kernel
  unfold pt
  rw [h1, h2]
  rfl
theorem u12 : D.tup [.int 1, .int 2] = pt (1 / 2) := by
  have h1 : (1 / 2 : Rat).num = 1 := by decide +kernel
  have h2 : (1 / 2 : Rat).den = 2 := by decide +kernel
  unfold pt
  rw [h1, h2]
  rfl
theorem M_Tree_init_no1 {P : Int} {u d g : Rat} (S : Store) (t : Int) (ju : BLe u 8) (jg : BLe g 8) (hu : 0 < u) (hgu : g < u) :
    M_Tree___init__ [.obj S.length, .int P, pt d, pt u, pt g, .int t] (S ++ [.ins "Tree" []]) = .exn ⟨"BadRule"⟩ (S ++ [.ins "Tree" []]) := by
  have n1 : ¬ u.num < 1 := by have := num_pos.mpr hu; omega
  have c2 : BLe u 4000 := ju.fin rfl
  have c3 : BLe g 4000 := jg.fin rfl
  have y : 0 ≤ cmpQ u g := cmp_nn.mpr (Rat.le_of_lt hgu)
  simp -implicitDefEqProofs [M_Tree___init__, f_Tree___init__, startD, C_order, c2, c3, n1, y]
theorem M_Tree_init_no2 {P : Int} {u g : Rat} (S : Store) (t : Int) :
    M_Tree___init__ [.obj S.length, .int P, pt u, pt 0, pt g, .int t] (S ++ [.ins "Tree" []]) = .exn ⟨"BadRule"⟩ (S ++ [.ins "Tree" []]) := by
  simp -implicitDefEqProofs [M_Tree___init__, f_Tree___init__, startD]
theorem M_law_eq : M_law = runD 17 (dSeq (dFor (diSeq (dCall 2 (runD 4 (roundsF (runD 1 diceF))) (daCons (dVar 0) (daCons (dC (.int ((2 : Nat) : Int))) daNil)))) (gN 1) lawB) (dRet (dC (.bl true)))) := rfl
theorem body_ok {S : Store} {n : Nat} (hd : DiceAt S n) (o0 o2 o3 o4 o5 o6 o7 o8 o9 o10 o11 o12 o13 o14 o15 o16 : Option D) : ∃ ρ' S', ρ'.length = 17 ∧ lawB [o0, some (.obj n), o2, o3, o4, o5, o6, o7, o8, o9, o10, o11, o12, o13, o14, o15, o16] S = .nx ρ' S' ∧ Kp n S S' ∧ DiceAt S' n := by
  obtain ⟨Sa, BO, ka, da⟩ := bonds_ok hd
  obtain ⟨v1, Sb, h1, R1, kb, db⟩ := roll_m (k := 40) da (by decide) (by decide)
  obtain ⟨v2, Sc, h2, R2, kc, dc⟩ := roll_m (k := 40) db (by decide) (by decide)
  obtain ⟨v3, Sd, h3, R3, kd, dd⟩ := roll_m (k := 3) dc (by decide) (by decide)
  obtain ⟨v4, Se, h4, R4, ke, de⟩ := roll_m (k := 3) dd (by decide) (by decide)
  obtain ⟨v5, Sf, h5, R5, kf, df⟩ := roll_m (k := 3) de (by decide) (by decide)
  obtain ⟨v6, Sg, h6, R6, kg, dg⟩ := roll_m (k := 5) df (by decide) (by decide)
  have kG : Kp n S Sg := ka.trans (kb.trans (kc.trans (kd.trans (ke.trans (kf.trans kg)))))
  have h3 : v3 < 3 := by omega
  have h4 : v4 < 3 := by omega
  have h5 : v5 < 3 := by omega
  have h6 : v6 < 5 := by omega
  have sm : ∀ {i : Int}, i.natAbs < 2 ^ 10 → i.natAbs < 2 ^ 9000 := fun h => Nat.lt_of_lt_of_le h (Nat.pow_le_pow_right (by decide) (by decide))
  have Q4 := M_part_ok (t := 11 + (v4 : Int)) (b := 10) (by decide) (sm (by omega)) (sm (by decide)) Se
  have Q5 := M_part_ok (t := 7 + (v5 : Int)) (b := 10) (by decide) (sm (by omega)) (sm (by decide)) Sf
  have Q6 := M_part_ok (t := 101 + (v6 : Int)) (b := 100) (by decide) (sm (by omega)) (sm (by decide)) Sg
  have N : Num (80 + (v1 : Int)) (80 + (v2 : Int)) (Rat.divInt (11 + (v4 : Int)) 10) (Rat.divInt (7 + (v5 : Int)) 10) (Rat.divInt (101 + (v6 : Int)) 100) (v3 + 1) := by
    have a4 : ∀ v < 3, bits (Rat.divInt (11 + ((v : Nat) : Int)) 10) ≤ 8 ∧ (11 / 10 : Rat) ≤ Rat.divInt (11 + ((v : Nat) : Int)) 10 := by decide +kernel
    have a5 : ∀ v < 3, bits (Rat.divInt (7 + ((v : Nat) : Int)) 10) ≤ 8 ∧ (0 : Rat) < Rat.divInt (7 + ((v : Nat) : Int)) 10 ∧ Rat.divInt (7 + ((v : Nat) : Int)) 10 < 1 := by decide +kernel
    have a6 : ∀ v < 5, bits (Rat.divInt (101 + ((v : Nat) : Int)) 100) ≤ 8 ∧ (1 : Rat) < Rat.divInt (101 + ((v : Nat) : Int)) 100 ∧ Rat.divInt (101 + ((v : Nat) : Int)) 100 < 11 / 10 := by decide +kernel
    obtain ⟨x1, x2⟩ := a4 v4 h4
    obtain ⟨y1, y2, y3⟩ := a5 v5 h5
    obtain ⟨z1, z2, z3⟩ := a6 v6 h6
    exact ⟨by omega, by omega, by omega, by omega, by omega, by omega, ⟨x1⟩, ⟨y1⟩, ⟨z1⟩, y2, by grind, by grind, by grind⟩
  have eP : (80 : Int) + (v1 : Int) = 80 + (v1 : Int) := rfl
  have et : (1 : Int) + (v3 : Int) = ((v3 + 1 : Nat) : Int) := by omega
  generalize hP : (80 : Int) + (v1 : Int) = P at *
  generalize hK : (80 : Int) + (v2 : Int) = K at *
  generalize hu : Rat.divInt (11 + (v4 : Int)) 10 = u at *
  generalize hd' : Rat.divInt (7 + (v5 : Int)) 10 = d at *
  generalize hg : Rat.divInt (101 + (v6 : Int)) 100 = g at *
  generalize htt : v3 + 1 = t at *
  have zu : Sz 30 u := sz_bits (Nat.le_trans N.ju.le (by decide))
  have zd : Sz 30 d := sz_bits (Nat.le_trans N.jd.le (by decide))
  have zg : Sz 30 g := sz_bits (Nat.le_trans N.jg.le (by decide))
  have jw := N.jw
  have g0 := N.g0
  have ud := N.ud
  have jP := N.jP
  have jK := N.jK
  have tt1 := N.t1
  have tt3 := N.t3
  have P8 := N.P8
  -- the tree
  have I1 := M_Tree_init_ok (P := P) (u := u) (d := d) (g := g) Sg (t : Int) (by omega) (by omega) N.P1 N.jd N.ju N.jg N.d0 N.dg N.gu
  have t0 : TreeAt (Sg ++ [.ins "Tree" (treeFs P u d g (t : Int))]) Sg.length P u d g t := ⟨by simp⟩
  have k0 : Kp n S (Sg ++ [.ins "Tree" (treeFs P u d g (t : Int))]) := kG.trans Kp.app
  have d0 : DiceAt (Sg ++ [.ins "Tree" (treeFs P u d g (t : Int))]) n := dg.app
  obtain ⟨S0, hS0⟩ : ∃ S0, S0 = Sg ++ [.ins "Tree" (treeFs P u d g (t : Int))] := ⟨_, rfl⟩
  rw [← hS0] at I1 t0 k0 d0
  have W0 := M_weight_ok t0 zu zd zg ud
  have C1 : ∀ S, M_times [pt (wQ u d g), pt u] S = .ok (pt (wQ u d g * u)) S := fun S => C_times (jw.fin rfl) (N.ju.fin rfl)
  have C2 : ∀ S, M_less [pt 1, pt (wQ u d g)] S = .ok (pt (1 - wQ u d g)) S := fun S => C_less (BLe.one.fin rfl) (jw.fin rfl)
  have C3 : ∀ S, M_times [pt (1 - wQ u d g), pt d] S = .ok (pt ((1 - wQ u d g) * d)) S := fun S => C_times ((BLe.one.sub jw).fin rfl) (N.jd.fin rfl)
  have C4 : ∀ S, M_add [pt (wQ u d g * u), pt ((1 - wQ u d g) * d)] S = .ok (pt (wQ u d g * u + (1 - wQ u d g) * d)) S := fun S => C_add ((jw.mul N.ju).fin rfl) (((BLe.one.sub jw).mul N.jd).fin rfl)
  rw [N.hw] at C4
  have PR := M_prices_ok t0 (by omega) zu zd zg t tt3
  have pl := prs_len P u d t tt3
  have t1 : TreeAt (S0 ++ [.lst ((prs P u d t).map pt)]) Sg.length P u d g t := t0.keep
  have k1 : Kp n S (S0 ++ [.lst ((prs P u d t).map pt)]) := k0.trans Kp.app
  have d1 : DiceAt (S0 ++ [.lst ((prs P u d t).map pt)]) n := d0.app
  obtain ⟨S1, hS1⟩ : ∃ S1, S1 = S0 ++ [.lst ((prs P u d t).map pt)] := ⟨_, rfl⟩
  rw [← hS1] at PR t1 k1 d1
  -- rights
  obtain ⟨T1, RB⟩ := M_right_ok (K := K) (buy := true) (any := false) S1 t t1 tt3 P8 N.K8 N.ju N.jd N.jg g0 ud
  have t2 : TreeAt (S1 ++ T1) Sg.length P u d g t := t1.keep
  have k2 : Kp n S (S1 ++ T1) := k1.trans Kp.app
  have d2 : DiceAt (S1 ++ T1) n := d1.app
  generalize hS2 : S1 ++ T1 = S2 at RB t2 k2 d2
  obtain ⟨T2, RS⟩ := M_right_ok (K := K) (buy := false) (any := false) S2 t t2 tt3 P8 N.K8 N.ju N.jd N.jg g0 ud
  have t3 : TreeAt (S2 ++ T2) Sg.length P u d g t := t2.keep
  have k3 : Kp n S (S2 ++ T2) := k2.trans Kp.app
  have d3 : DiceAt (S2 ++ T2) n := d2.app
  generalize hS3 : S2 ++ T2 = S3 at RS t3 k3 d3
  obtain ⟨T3, LW⟩ := M_law_ways_ok (P := P) (K := K) (u := u) (d := d) (g := g) (w := wQ u d g) S3 t tt1 tt3 P8 N.K8 N.ju N.jd N.jg jw g0
  have t4 : TreeAt (S3 ++ T3) Sg.length P u d g t := t3.keep
  have k4 : Kp n S (S3 ++ T3) := k3.trans Kp.app
  have d4 : DiceAt (S3 ++ T3) n := d3.app
  generalize hS4 : S3 ++ T3 = S4 at LW t4 k4 d4
  obtain ⟨T4, BW⟩ := M_by_ways_ok (K := K) (buy := false) t t4 tt1 tt3 P8 N.K8 N.ju N.jd N.jg g0 ud
  have t5 : TreeAt (S4 ++ T4) Sg.length P u d g t := t4.keep
  have k5 : Kp n S (S4 ++ T4) := k4.trans Kp.app
  have d5 : DiceAt (S4 ++ T4) n := d4.app
  generalize hS5 : S4 ++ T4 = S5 at BW t5 k5 d5
  have PY := M_parity_ok (P := P) (K := K) (g := g) S5 t tt1 tt3 P8 N.K8 N.jg g0
  have g00 : 0 < g := by have := N.d0; have := N.dg; grind
  have PQ := parityQ (K := (K : Rat)) g00 N.hw t (P : Rat)
  obtain ⟨T5, RA⟩ := M_right_ok (K := K) (buy := false) (any := true) S5 t t5 tt3 P8 N.K8 N.ju N.jd N.jg g0 ud
  have t6 : TreeAt (S5 ++ T5) Sg.length P u d g t := t5.keep
  have k6 : Kp n S (S5 ++ T5) := k5.trans Kp.app
  have d6 : DiceAt (S5 ++ T5) n := d5.app
  generalize hS6 : S5 ++ T5 = S6 at RA t6 k6 d6
  obtain ⟨T6, RX⟩ := M_right_ok (K := K) (buy := true) (any := true) S6 t t6 tt3 P8 N.K8 N.ju N.jd N.jg g0 ud
  have t7 : TreeAt (S6 ++ T6) Sg.length P u d g t := t6.keep
  have k7 : Kp n S (S6 ++ T6) := k6.trans Kp.app
  have d7 : DiceAt (S6 ++ T6) n := d6.app
  generalize hS7 : S6 ++ T6 = S7 at RX t7 k7 d7
  have K0 : (0 : Rat) ≤ (K : Rat) := by exact_mod_cast N.K0
  obtain ⟨ba, _, _⟩ := buy_any N.w0 N.w1 N.g1 K0 N.hw t (P : Rat)
  rw [ba] at RX
  have ag := any_ge (u := u) (d := d) (K := (K : Rat)) N.w0 N.w1 g00 false t (P : Rat)
  obtain ⟨T7, lo, hi, elo, ehi, HE⟩ := M_held_ok (K := K) t t7 tt1 tt3 N.P1 P8 N.K8 N.ju N.jd N.jg N.d0 N.dg N.gu
  have t8 : TreeAt (S7 ++ T7) Sg.length P u d g t := t7.keep
  have k8 : Kp n S (S7 ++ T7) := k7.trans Kp.app
  have d8 : DiceAt (S7 ++ T7) n := d7.app
  generalize hS8 : S7 ++ T7 = S8 at HE t8 k8 d8
  -- sizes
  have nb3 : NB t ≤ 1880 := by
    obtain rfl | rfl | rfl : t = 1 ∨ t = 2 ∨ t = 3 := by omega
    all_goals decide
  have nb2 : NB (t - 1) ≤ 840 := by
    obtain rfl | rfl | rfl : t = 1 ∨ t = 2 ∨ t = 3 := by omega
    all_goals decide
  have jB := RQ_b (any := false) (buy := true) N.ju N.jd N.jg jw jK t P 8 jP (by omega)
  have jS := RQ_b (any := false) (buy := false) N.ju N.jd N.jg jw jK t P 8 jP (by omega)
  have jA := RQ_b (any := true) (buy := false) N.ju N.jd N.jg jw jK t P 8 jP (by omega)
  have jB : BLe (RQ u d g (wQ u d g) K true false t P) 1880 := ⟨Nat.le_trans jB.le nb3⟩
  have jS : BLe (RQ u d g (wQ u d g) K false false t P) 1880 := ⟨Nat.le_trans jS.le nb3⟩
  have jA : BLe (RQ u d g (wQ u d g) K false true t P) 1880 := ⟨Nat.le_trans jA.le nb3⟩
  have jlo : BLe lo 840 := by
    rw [elo]
    exact ⟨Nat.le_trans (RQ_b (any := false) (buy := true) N.ju N.jd N.jg jw jK (t - 1) (P * d) 16 (jP.mul N.jd) (by omega)).le nb2⟩
  have jhi : BLe hi 840 := by
    rw [ehi]
    exact ⟨Nat.le_trans (RQ_b (any := false) (buy := true) N.ju N.jd N.jg jw jK (t - 1) (P * u) 16 (jP.mul N.ju) (by omega)).le nb2⟩
  have js : BLe (sharesQ P u d lo hi) 1800 := ((jhi.sub jlo).div ((jP.mul N.ju).sub (jP.mul N.jd))).fin rfl
  have jm : BLe (moneyQ P u d g lo hi) 2700 := ((jlo.sub (js.mul (jP.mul N.jd))).div N.jg).fin rfl
  -- what is held
  have P0 : (0 : Rat) < (P : Rat) := by exact_mod_cast (show 0 < P by have := N.P1; omega)
  have pne : (P : Rat) * u - P * d ≠ 0 := by
    have e : (P : Rat) * u - P * d = P * (u - d) := by grind
    rw [e]
    intro z
    rcases Rat.mul_eq_zero.mp z with z | z <;> grind
  have sdn := held_dn (P := (P : Rat)) (u := u) (d := d) (lo := lo) (hi := hi) g0
  have sup := held_up (P := (P : Rat)) (u := u) (d := d) (lo := lo) (hi := hi) g0 pne
  have hbuy : sharesQ P u d lo hi * P + moneyQ P u d g lo hi = RQ u d g (wQ u d g) K true false t P := by
    rw [held_buy g0 N.hw sdn sup]
    obtain ⟨q, hq⟩ : ∃ q, t = q + 1 := ⟨t - 1, by omega⟩
    rw [hq, Nat.add_sub_cancel] at elo ehi
    rw [hq]
    simp only [RQ, node_f]
    rw [← elo, ← ehi]
  have C5 : ∀ S, M_times [pt (sharesQ P u d lo hi), pt P] S = .ok (pt (sharesQ P u d lo hi * P)) S := fun S => C_times (js.fin rfl) (jP.fin rfl)
  have C6 : ∀ S, M_add [pt (sharesQ P u d lo hi * P), pt (moneyQ P u d g lo hi)] S = .ok (pt (sharesQ P u d lo hi * P + moneyQ P u d g lo hi)) S := fun S => C_add ((js.mul jP).fin rfl) (jm.fin rfl)
  rw [hbuy] at C6
  have C7 := C_less (S := S5) (jB.fin (k := 4000) rfl) (jS.fin (k := 4000) rfl)
  rw [PQ] at C7
  have C8 := C_order (S := S6) (jA.fin (k := 4000) rfl) (jS.fin (k := 4000) rfl)
  have y8 := (not_congr (cmp_neg (q := RQ u d g (wQ u d g) K false true t P) (r := RQ u d g (wQ u d g) K false false t P))).mpr (fun z => Rat.not_le.mpr z ag)
  -- both sides
  have t9 : TreeAt (S8 ++ [.lst [.bl true, .bl false]]) Sg.length P u d g t := t8.keep
  have k9 : Kp n S (S8 ++ [.lst [.bl true, .bl false]]) := k8.trans Kp.app
  have d9 : DiceAt (S8 ++ [.lst [.bl true, .bl false]]) n := d8.app
  have l9 : lstAt (S8 ++ [.lst [.bl true, .bl false]]) S8.length = some [.bl true, .bl false] := by simp
  obtain ⟨S9, hS9⟩ : ∃ S9, S9 = S8 ++ [.lst [.bl true, .bl false]] := ⟨_, rfl⟩
  rw [← hS9] at t9 k9 d9 l9
  obtain ⟨U1, a15, a16, SU⟩ := side_ok N t9 js jm true (by simp only [if_true]; rw [sup, ehi]) o0 (some (.obj n)) (some (pt (wQ u d g))) (some (pt (RQ u d g (wQ u d g) K true false t P))) (some (pt (RQ u d g (wQ u d g) K false false t P))) o15 o16
  have t10 : TreeAt (S9 ++ U1) Sg.length P u d g t := t9.keep
  have k10 : Kp n S (S9 ++ U1) := k9.trans Kp.app
  have d10 : DiceAt (S9 ++ U1) n := d9.app
  have l10 : lstAt (S9 ++ U1) S8.length = some [.bl true, .bl false] := lstAt_keep _ _ l9
  generalize hS10 : S9 ++ U1 = S10 at SU t10 k10 d10 l10
  obtain ⟨U2, b15, b16, SD⟩ := side_ok N t10 js jm false (by simp only [Bool.false_eq_true, if_false]; rw [sdn, elo]) o0 (some (.obj n)) (some (pt (wQ u d g))) (some (pt (RQ u d g (wQ u d g) K true false t P))) (some (pt (RQ u d g (wQ u d g) K false false t P))) a15 a16
  have k11 : Kp n S (S10 ++ U2) := k10.trans Kp.app
  have d11 : DiceAt (S10 ++ U2) n := d10.app
  have l11 : lstAt (S10 ++ U2) S8.length = some [.bl true, .bl false] := lstAt_keep _ _ l10
  generalize hS11 : S10 ++ U2 = S11 at SD k11 d11 l11
  -- the end
  have j92 : BLe (9 / 2 : Rat) 3900 := ⟨by decide +kernel⟩
  have E1 := C_paid (S := S11) (b := true) (k := 4) j92 (by decide)
  have E2 := C_paid (S := S11) (b := false) (k := 4) j92 (by decide)
  have x1 : paidQ (9 / 2) ((4 : Int) : Rat) true = 1 / 2 := by decide +kernel
  have x2 : paidQ (9 / 2) ((4 : Int) : Rat) false = 0 := by decide +kernel
  rw [x1] at E1
  rw [x2] at E2
  obtain ⟨T12, kk, E3, E4⟩ := M_ways3 S11
  have k12 : Kp n S (S11 ++ T12) := k11.trans Kp.app
  have d12 : DiceAt (S11 ++ T12) n := d11.app
  generalize hS12 : S11 ++ T12 = S12 at E3 E4 k12 d12
  have E5 : ((aw 3).map wayD).length = 8 := rfl
  have G1 := M_Tree_init_no1 (P := P) (u := u) (d := d) (g := g) S12 (t : Int) N.ju N.jg (by have := N.d0; have := N.dg; have := N.gu; grind) N.gu
  have k13 : Kp n S (S12 ++ [.ins "Tree" []]) := k12.trans Kp.app
  have d13 : DiceAt (S12 ++ [.ins "Tree" []]) n := d12.app
  obtain ⟨S13, hS13⟩ : ∃ S13, S13 = S12 ++ [.ins "Tree" []] := ⟨_, rfl⟩
  have G2 := M_Tree_init_no2 (P := P) (u := u) (g := g) S13 (t : Int)
  rw [← hS13] at k13 d13 G1
  have plI : (((prs P u d t).length : Nat) : Int) = (t : Int) + 1 := by rw [pl]; omega
  have UP : D.tup [.int P, .int 1] = pt P := tup_int P
  have htt2 : (1 : Int) + (v3 : Int) = (t : Int) := by omega
  refine ⟨[o0, some (.obj n), some (.int P), some (.int K), some (.int t), some (pt u), some (pt d), some (pt g), some (.obj Sg.length), some (pt (wQ u d g)), some (pt (RQ u d g (wQ u d g) K true false t P)), some (pt (RQ u d g (wQ u d g) K false false t P)), some (pt (sharesQ P u d lo hi)), some (pt (moneyQ P u d g lo hi)), some (.bl false), b15, b16], S13 ++ [.ins "Tree" []], rfl, ?_, k13.trans Kp.app, d13.app⟩
  generalize hB : RQ u d g (wQ u d g) K true false t P = B at *
  generalize hSl : RQ u d g (wQ u d g) K false false t P = Sl at *
  generalize hAn : RQ u d g (wQ u d g) K false true t P = An at *
  generalize hsh : sharesQ P u d lo hi = sh at *
  generalize hmo : moneyQ P u d g lo hi = mo at *
  generalize hw : wQ u d g = w at *
  simp -implicitDefEqProofs only [lawB]
  simp -implicitDefEqProofs [BO, R1, R2, R3, hP, hK, htt2, R4, Q4, R5, Q5, R6, Q6]
  simp -implicitDefEqProofs [I1, t0.at_, W0, one_pt, C1, C2, C3, C4, PR, plI, t1.at_, RB, t2.at_, RS]
  simp -implicitDefEqProofs [LW, t4.at_, BW, C7, PY, t5.at_, RA, C8, y8, t6.at_, RX]
  simp -implicitDefEqProofs [t7.at_, HE, UP, C5, C6]
  simp -implicitDefEqProofs [← hS9, l9, SU, l10, SD, l11]
  simp -implicitDefEqProofs [u92, u12, zero_pt, E1, E2, E3, E4, E5, G1, ← hS13, told_rule, ne_rule, G2]
theorem ok (ns : List Int) (d : D) (S : Store) (hs : ScriptAt ns d S) : ∃ S2, M_law [d] S = .ok (.bl true) S2 := by
  rw [M_law_eq]
  refine law_rounds (by decide) (by decide) (by decide) (fun ρ S n hN hd => ?_) hs
  match ρ, hN with
  | [o0, o1, o2, o3, o4, o5, o6, o7, o8, o9, o10, o11, o12, o13, o14, o15, o16], _ => exact body_ok hd o0 o2 o3 o4 o5 o6 o7 o8 o9 o10 o11 o12 o13 o14 o15 o16
end Pr
set_option maxRecDepth 100000 in
set_option maxHeartbeats 8000000 in
theorem PySem.Challenge.cw_wagehall_k21_papers_of_worth_holds : PySem.Challenge.rw_wagehall_k21_papers_of_worth.Holds := by
  exact holds_it fun ns d S _ _ hs => Pr.ok ns d S hs
