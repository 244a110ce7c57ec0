import PyProof.Rows.All
import Wide.All
import OpenK.AllK
import Wide.FinOn
import HandS.ForMost
import HandS.ForExc
import HandS.Wide
import HandS.WideMore
import HandS.Walk
import HandS.TryMany
import HandS.TupAny
import HandS.TupMul
import HandS.Flow
import HandS.RevRange
import HandS.Lambda
import HandS.Style
import HandS.Conv
import HandS.Defaults
import HandS.HeadHook4
import KE.GoesEnum
import HandS.AnyAll
import HandS.Rev
import KE.DataMinMax
import KE.KExcSuper
import HandS.ExcInit
import HandS.HeadHook2
import HandS.Head0
import HandS.Head1
import HandS.Head2
import HandS.HeadEnd
import HandS.HeadHook1
import HandS.HeadHook3
import HandS.HeadWalk
import KE.SortData
import PySem.Challenge.RW_wagehall_k13_loans_paid_off
set_option Elab.async false
set_option linter.all false
set_option maxRecDepth 100000
set_option maxHeartbeats 2000000
/-! DL: deep data, a store, denotations (a layer over HandS). -/
namespace DL
open PySem PySem.Spec PyProof.Rows L2

/-! ### data -/
inductive D where
  | non | bl (b : Bool) | int (i : Int) | str (x : Str) | tup (xs : List D) | fl (xs : List D) | obj (n : Nat)
deriving Inhabited
inductive DO where
  | lst (xs : List D)
  | ins (c : String) (fs : List (Str × D))
abbrev Store := List DO
abbrev DEnv := List (Option D)
structure Exc where
  c : String
inductive Out (α : Type) where
  | ok (a : α) (S : Store) | exn (e : Exc) (S : Store) | bad
def Out.bind {α β : Type} (o : Out α) (k : α → Store → Out β) : Out β := match o with
  | .ok a S => k a S
  | .exn e S => .exn e S
  | .bad => .bad
@[simp] theorem Out.bind_ok {α β : Type} (a : α) (S : Store) (k : α → Store → Out β) : (Out.ok a S).bind k = k a S := rfl
@[simp] theorem Out.bind_exn {α β : Type} (e : Exc) (S : Store) (k : α → Store → Out β) : (Out.exn e S : Out α).bind k = .exn e S := rfl
@[simp] theorem Out.bind_bad {α β : Type} (k : α → Store → Out β) : (Out.bad : Out α).bind k = .bad := rfl
def optO {α : Type} : Option (α × Store) → Out α
  | some (a, S) => .ok a S
  | none => .bad
@[simp] theorem optO_some {α : Type} (a : α) (S : Store) : optO (some (a, S)) = .ok a S := rfl
@[simp] theorem optO_none {α : Type} : optO (none : Option (α × Store)) = .bad := rfl
/-- classes by names; tables of code objects -/
structure Gx where
  cA : String → Addr
  T : List (Addr × Str)

/-- a list that nothing changes -/
def SqF (K : PySem.W.Frag) (H : Hp) (a : Addr) (xs : List V) : Prop :=
  (∃ o, H a = some (.frz o (.lst xs))) ∨ ∃ (o : Obj) (its : Array Value) (n : Nat), K.lookup a = some o ∧ o.cls = .type "list" ∧ o.dict = none ∧ o.data = .seq its n ∧ its.size ≤ sizeLine ∧ Vals xs its.toList
theorem SqF.l {K : PySem.W.Frag} {H : Hp} {a : Addr} {xs : List V} (h : SqF K H a xs) : SqL K H a xs := by
  rcases h with ⟨o, h⟩ | h
  · exact .inl (.inr ⟨o, h⟩)
  · exact .inr h
mutual
def SV (K : PySem.W.Frag) (m : List Addr) (H : Hp) : D → V → Prop
  | .non, v => v = .non
  | .bl b, v => v = .bl b
  | .int i, v => v = .int i
  | .str x, v => v = .str x
  | .tup xs, v => ∃ p vs, v = .ref p ∧ SqT K H p vs ∧ SVs K m H xs vs
  | .fl xs, v => ∃ p vs, v = .ref p ∧ SqF K H p vs ∧ SVs K m H xs vs
  | .obj n, v => ∃ a, v = .ref a ∧ m[n]? = some a
def SVs (K : PySem.W.Frag) (m : List Addr) (H : Hp) : List D → List V → Prop
  | [], vs => vs = []
  | d :: ds, vs => ∃ v r, vs = v :: r ∧ SV K m H d v ∧ SVs K m H ds r
end
def SF (K : PySem.W.Frag) (m : List Addr) (H : Hp) : List (Str × D) → List (Str × V) → Prop
  | [], vs => vs = []
  | (f, d) :: ds, vs => ∃ v r, vs = (f, v) :: r ∧ SV K m H d v ∧ SF K m H ds r
/-- what stands at a for the store's object -/
def SO (K : PySem.W.Frag) (G : Gx) (m : List Addr) (H : Hp) : DO → Addr → Prop
  | .lst xs, a => ∃ vs, H a = some (.lst vs) ∧ SVs K m H xs vs
  | .ins c fs, a => ∃ dx vfs, H a = some (.ins (G.cA c) dx vfs) ∧ SF K m H fs vfs
structure Sim (K : PySem.W.Frag) (G : Gx) (m : List Addr) (S : Store) (H : Hp) : Prop where
  len : m.length = S.length
  nd : m.Nodup
  at_ : ∀ (n : Nat) (o : DO) (a : Addr), S[n]? = some o → m[n]? = some a → SO K G m H o a
  tabs : LamX.Tabs G.T H
structure Step (m : List Addr) (H : Hp) (m' : List Addr) (H' : Hp) : Prop where
  ext : ∃ l, m' = m ++ l ∧ ∀ a ∈ l, ∀ o, H a = some o → ∃ ps, o = .tbl ps
  nd : m'.Nodup
  frame : ∀ b o, H b = some o → (∀ ps, o ≠ .tbl ps) → b ∉ m → H' b = some o
/-- mutable things of the store -/
def MutO : HO → Prop
  | .lst _ => True
  | .ins _ _ _ => True
  | .dK _ => True
  | .dT _ => True
  | _ => False
section
variable {K : PySem.W.Frag} {G : Gx} {m m1 m2 : List Addr} {S S1 : Store} {H H1 H2 : Hp}
theorem Sim.mem (s : Sim K G m S H) {a : Addr} (h : a ∈ m) : ∃ o, H a = some o ∧ MutO o := by
  obtain ⟨n, hn, e⟩ := List.getElem_of_mem h
  have hn' : n < S.length := by rw [← s.len]; exact hn
  have q := s.at_ n S[n] a (by simp [hn']) (by simp [hn, e])
  cases e2 : S[n] with
  | lst xs => rw [e2] at q; obtain ⟨vs, q, _⟩ := q; exact ⟨_, q, trivial⟩
  | ins c fs => rw [e2] at q; obtain ⟨dx, vs, q, _⟩ := q; exact ⟨_, q, trivial⟩
theorem Sim.notMem (s : Sim K G m S H) {a : Addr} {o : HO} (h : H a = some o) (hm : ¬ MutO o) : a ∉ m := fun q => by
  obtain ⟨o', e, mu⟩ := s.mem q
  rw [h] at e; cases e; exact hm mu
theorem Sim.fresh (s : Sim K G m S H) {a : Addr} (h : H a = none) : a ∉ m := fun q => by
  obtain ⟨o', e, mu⟩ := s.mem q
  rw [h] at e; cases e
theorem Step.refl (nd : m.Nodup) : Step m H m H := ⟨⟨[], by simp⟩, nd, fun _ _ h _ _ => h⟩
theorem Sim.refl (s : Sim K G m S H) : Step m H m H := Step.refl s.nd
theorem Step.trans (a : Step m H m1 H1) (b : Step m1 H1 m2 H2) : Step m H m2 H2 := by
  obtain ⟨l1, e1, f1⟩ := a.ext
  obtain ⟨l2, e2, f2⟩ := b.ext
  refine ⟨⟨l1 ++ l2, by rw [e2, e1, List.append_assoc], fun x hx o hxo => ?_⟩, b.nd, fun x o hx ht hm => ?_⟩
  · rcases List.mem_append.mp hx with hx | hx
    · exact f1 x hx o hxo
    · by_cases ht : ∃ ps, o = .tbl ps
      · exact ht
      · have nm : x ∉ m := fun hm => by
          have nd := b.nd
          rw [e2, e1] at nd
          have := (List.nodup_append.mp nd).2.2
          exact this x (List.mem_append_left _ hm) x hx rfl
        exact f2 x hx o (a.frame x o hxo (fun ps e => ht ⟨ps, e⟩) nm)
  · have h1 := a.frame x o hx ht hm
    refine b.frame x o h1 ht ?_
    rw [e1]
    intro q
    rcases List.mem_append.mp q with q | q
    · exact hm q
    · obtain ⟨ps, e⟩ := f1 x q o hx
      exact ht ps e
theorem Step.get (a : Step m H m1 H1) {n : Nat} {x : Addr} (h : m[n]? = some x) : m1[n]? = some x := by
  obtain ⟨l, e, _⟩ := a.ext
  rw [e, List.getElem?_append_left (List.getElem?_eq_some_iff.mp h).1]
  exact h
theorem sqT_step (s : Sim K G m S H) (st : Step m H m1 H1) {p : Addr} {vs : List V} (h : SqT K H p vs) : SqT K H1 p vs := by
  rcases h with (h | ⟨o, h⟩) | h
  · exact .inl (.inl (st.frame _ _ h (fun _ z => by cases z) (s.notMem h (fun z => z))))
  · exact .inl (.inr ⟨o, st.frame _ _ h (fun _ z => by cases z) (s.notMem h (fun z => z))⟩)
  · exact .inr h
theorem sqF_step (s : Sim K G m S H) (st : Step m H m1 H1) {p : Addr} {vs : List V} (h : SqF K H p vs) : SqF K H1 p vs := by
  rcases h with ⟨o, h⟩ | h
  · exact .inl ⟨o, st.frame _ _ h (fun _ z => by cases z) (s.notMem h (fun z => z))⟩
  · exact .inr h
end
mutual
theorem SV.mono {K : PySem.W.Frag} {G : Gx} {m m1 : List Addr} {S : Store} {H H1 : Hp} (s : Sim K G m S H) (st : Step m H m1 H1) : ∀ {d : D} {v : V}, SV K m H d v → SV K m1 H1 d v
  | .non, v, h => h
  | .bl b, v, h => h
  | .int i, v, h => h
  | .str x, v, h => h
  | .tup xs, v, h => by
    obtain ⟨p, vs, e, q, r⟩ := (show ∃ p vs, v = .ref p ∧ SqT K H p vs ∧ SVs K m H xs vs from h)
    exact ⟨p, vs, e, sqT_step s st q, SVs.mono s st r⟩
  | .fl xs, v, h => by
    obtain ⟨p, vs, e, q, r⟩ := (show ∃ p vs, v = .ref p ∧ SqF K H p vs ∧ SVs K m H xs vs from h)
    exact ⟨p, vs, e, sqF_step s st q, SVs.mono s st r⟩
  | .obj n, v, h => by
    obtain ⟨a, e, q⟩ := (show ∃ a, v = .ref a ∧ m[n]? = some a from h)
    exact ⟨a, e, st.get q⟩
theorem SVs.mono {K : PySem.W.Frag} {G : Gx} {m m1 : List Addr} {S : Store} {H H1 : Hp} (s : Sim K G m S H) (st : Step m H m1 H1) : ∀ {ds : List D} {vs : List V}, SVs K m H ds vs → SVs K m1 H1 ds vs
  | [], vs, h => h
  | d :: ds, vs, h => by
    obtain ⟨v, r, e, a, b⟩ := (show ∃ v r, vs = v :: r ∧ SV K m H d v ∧ SVs K m H ds r from h)
    exact ⟨v, r, e, SV.mono s st a, SVs.mono s st b⟩
end
section
variable {K : PySem.W.Frag} {G : Gx} {m m1 m2 : List Addr} {S S1 : Store} {H H1 H2 : Hp}
theorem SF.mono (s : Sim K G m S H) (st : Step m H m1 H1) : ∀ {ds : List (Str × D)} {vs : List (Str × V)}, SF K m H ds vs → SF K m1 H1 ds vs
  | [], vs, h => h
  | (f, d) :: ds, vs, h => by
    obtain ⟨v, r, e, a, b⟩ := (show ∃ v r, vs = (f, v) :: r ∧ SV K m H d v ∧ SF K m H ds r from h)
    exact ⟨v, r, e, SV.mono s st a, SF.mono s st b⟩
theorem SVs.len : ∀ {ds : List D} {vs : List V}, SVs K m H ds vs → ds.length = vs.length
  | [], vs, h => by rw [show vs = [] from h]; rfl
  | d :: ds, vs, h => by
    obtain ⟨v, r, e, a, b⟩ := (show ∃ v r, vs = v :: r ∧ SV K m H d v ∧ SVs K m H ds r from h)
    rw [e, List.length_cons, List.length_cons, SVs.len b]
theorem SVs.get : ∀ {ds : List D} {vs : List V} {i : Nat} {d : D}, SVs K m H ds vs → ds[i]? = some d → ∃ v, vs[i]? = some v ∧ SV K m H d v
  | [], vs, i, d, h, e => by simp at e
  | d' :: ds, vs, i, d, h, e => by
    obtain ⟨v, r, rfl, a, b⟩ := (show ∃ v r, vs = v :: r ∧ SV K m H d' v ∧ SVs K m H ds r from h)
    cases i with
    | zero => simp at e; subst e; exact ⟨v, by simp, a⟩
    | succ i =>
      obtain ⟨u, h1, h2⟩ := SVs.get (i := i) b (by simpa using e)
      exact ⟨u, by simpa using h1, h2⟩
theorem SVs.append : ∀ {ds es : List D} {vs us : List V}, SVs K m H ds vs → SVs K m H es us → SVs K m H (ds ++ es) (vs ++ us)
  | [], es, vs, us, h, q => by rw [show vs = [] from h]; exact q
  | d :: ds, es, vs, us, h, q => by
    obtain ⟨v, r, rfl, a, b⟩ := (show ∃ v r, vs = v :: r ∧ SV K m H d v ∧ SVs K m H ds r from h)
    exact ⟨v, r ++ us, rfl, a, SVs.append b q⟩
theorem SVs.one {d : D} {v : V} (h : SV K m H d v) : SVs K m H [d] [v] := ⟨v, [], rfl, h, rfl⟩
theorem SVs.take : ∀ {ds : List D} {vs : List V} (n : Nat), SVs K m H ds vs → SVs K m H (ds.take n) (vs.take n)
  | [], vs, n, h => by rw [show vs = [] from h]; simp; rfl
  | d :: ds, vs, 0, h => by simp; rfl
  | d :: ds, vs, n + 1, h => by
    obtain ⟨v, r, rfl, a, b⟩ := (show ∃ v r, vs = v :: r ∧ SV K m H d v ∧ SVs K m H ds r from h)
    exact ⟨v, r.take n, rfl, a, SVs.take n b⟩
theorem SVs.drop : ∀ {ds : List D} {vs : List V} (n : Nat), SVs K m H ds vs → SVs K m H (ds.drop n) (vs.drop n)
  | [], vs, n, h => by rw [show vs = [] from h]; simp; rfl
  | d :: ds, vs, 0, h => h
  | d :: ds, vs, n + 1, h => by
    obtain ⟨v, r, rfl, a, b⟩ := (show ∃ v r, vs = v :: r ∧ SV K m H d v ∧ SVs K m H ds r from h)
    exact SVs.drop n b
theorem SVs.set {d : D} {v : V} (q : SV K m H d v) : ∀ {ds : List D} {vs : List V} (n : Nat), SVs K m H ds vs → SVs K m H (ds.set n d) (vs.set n v)
  | [], vs, n, h => by rw [show vs = [] from h]; simp; rfl
  | d' :: ds, vs, 0, h => by
    obtain ⟨u, r, rfl, a, b⟩ := (show ∃ v r, vs = v :: r ∧ SV K m H d' v ∧ SVs K m H ds r from h)
    exact ⟨v, r, rfl, q, b⟩
  | d' :: ds, vs, n + 1, h => by
    obtain ⟨u, r, rfl, a, b⟩ := (show ∃ v r, vs = v :: r ∧ SV K m H d' v ∧ SVs K m H ds r from h)
    exact ⟨u, r.set n v, rfl, a, SVs.set q n b⟩
theorem SF.len : ∀ {ds : List (Str × D)} {vs : List (Str × V)}, SF K m H ds vs → ds.length = vs.length
  | [], vs, h => by rw [show vs = [] from h]; rfl
  | (f, d) :: ds, vs, h => by
    obtain ⟨v, r, e, a, b⟩ := (show ∃ v r, vs = (f, v) :: r ∧ SV K m H d v ∧ SF K m H ds r from h)
    rw [e, List.length_cons, List.length_cons, SF.len b]
theorem SF.look : ∀ {ds : List (Str × D)} {vs : List (Str × V)} {f : Str} {d : D}, SF K m H ds vs → ds.lookup f = some d → ∃ v, vs.lookup f = some v ∧ SV K m H d v
  | [], vs, f, d, h, e => by cases e
  | (g, d') :: ds, vs, f, d, h, e => by
    obtain ⟨v, r, rfl, a, b⟩ := (show ∃ v r, vs = (g, v) :: r ∧ SV K m H d' v ∧ SF K m H ds r from h)
    rw [List.lookup_cons] at e ⊢
    cases q : f == g with
    | true => rw [q] at e; cases e; exact ⟨v, rfl, a⟩
    | false => rw [q] at e; exact SF.look b e
theorem SF.lookN : ∀ {ds : List (Str × D)} {vs : List (Str × V)} {f : Str}, SF K m H ds vs → ds.lookup f = none → vs.lookup f = none
  | [], vs, f, h, e => by rw [show vs = [] from h]; rfl
  | (g, d') :: ds, vs, f, h, e => by
    obtain ⟨v, r, rfl, a, b⟩ := (show ∃ v r, vs = (g, v) :: r ∧ SV K m H d' v ∧ SF K m H ds r from h)
    rw [List.lookup_cons] at e ⊢
    cases q : f == g with
    | true => rw [q] at e; cases e
    | false => rw [q] at e; exact SF.lookN b e
/-- a field put -/
def putD (f : Str) (d : D) : List (Str × D) → List (Str × D)
  | [] => [(f, d)]
  | (g, e) :: r => if g = f then (g, d) :: r else (g, e) :: putD f d r
theorem SF.put {f : Str} {d : D} {v : V} (q : SV K m H d v) : ∀ {ds : List (Str × D)} {vs : List (Str × V)}, SF K m H ds vs → SF K m H (putD f d ds) (putF f v vs)
  | [], vs, h => by rw [show vs = [] from h]; exact ⟨v, [], rfl, q, rfl⟩
  | (g, d') :: ds, vs, h => by
    obtain ⟨u, r, rfl, a, b⟩ := (show ∃ v r, vs = (g, v) :: r ∧ SV K m H d' v ∧ SF K m H ds r from h)
    unfold putD putF
    by_cases e : g = f
    · rw [if_pos e, if_pos e]
      exact ⟨v, r, rfl, q, b⟩
    · rw [if_neg e, if_neg e]
      exact ⟨u, _, rfl, a, SF.put q b⟩
theorem SO.mono (s : Sim K G m S H) (st : Step m H m1 H1) {o : DO} {a : Addr} (h : SO K G m H o a) (ha : H1 a = H a) : SO K G m1 H1 o a := by
  cases o with
  | lst xs =>
    obtain ⟨vs, e, r⟩ := h
    exact ⟨vs, ha.trans e, r.mono s st⟩
  | ins c fs =>
    obtain ⟨dx, vs, e, r⟩ := h
    exact ⟨dx, vs, ha.trans e, r.mono s st⟩
theorem tabs_step {T : List (Addr × Str)} (t : LamX.Tabs T H) (e : ∀ b o, H b = some o → ¬ MutO o → H1 b = some o) : LamX.Tabs T H1 := fun p hp => by
  obtain ⟨ps, h1, h2, h3⟩ := t p hp
  refine ⟨ps, e _ _ h1 (fun z => z), h2, fun pos cv hc => ?_⟩
  obtain ⟨c, e1, e2⟩ := h3 pos cv hc
  exact ⟨c, e1, e _ _ e2 (fun z => by unfold LamX.CodeO at z; exact z)⟩
/-- something new beside the store -/
theorem Step.beside (s : Sim K G m S H) {p : Addr} {o : HO} (hp : H p = none) : Step m H m (upd H p o) :=
  ⟨⟨[], by simp⟩, s.nd, fun b u e _ _ => by rw [upd_ne (ne_of_none e hp)]; exact e⟩
theorem Sim.beside (s : Sim K G m S H) {p : Addr} {o : HO} (hp : H p = none) : Sim K G m S (upd H p o) := by
  have st : Step m H m (upd H p o) := Step.beside s hp
  refine ⟨s.len, s.nd, fun n ob a h1 h2 => ?_, tabs_step s.tabs fun b u e _ => by rw [upd_ne (ne_of_none e hp)]; exact e⟩
  have hm : a ∈ m := List.mem_of_getElem? h2
  obtain ⟨u, e, _⟩ := s.mem hm
  exact (s.at_ n ob a h1 h2).mono s st (by rw [upd_ne (ne_of_none e hp)])
/-- a new object of the store -/
theorem Step.new (s : Sim K G m S H) {p : Addr} {o : HO} (hp : H p = none) : Step m H (m ++ [p]) (upd H p o) := by
  refine ⟨⟨[p], rfl, fun a ha o e => by rw [List.mem_singleton.mp ha, hp] at e; cases e⟩, ?_, fun b u e _ _ => by rw [upd_ne (ne_of_none e hp)]; exact e⟩
  rw [List.nodup_append]
  refine ⟨s.nd, by simp, fun a ha b hb e => ?_⟩
  rw [List.mem_singleton.mp hb] at e
  exact s.fresh hp (e ▸ ha)
theorem Sim.new (s : Sim K G m S H) {p : Addr} {o : HO} {ob : DO} (hp : H p = none) (h : SO K G (m ++ [p]) (upd H p o) ob p) : Sim K G (m ++ [p]) (S ++ [ob]) (upd H p o) := by
  have st : Step m H (m ++ [p]) (upd H p o) := Step.new s hp
  refine ⟨by simp [s.len], st.nd, fun n ob' a h1 h2 => ?_, tabs_step s.tabs fun b u e _ => by rw [upd_ne (ne_of_none e hp)]; exact e⟩
  by_cases hn : n < S.length
  · rw [List.getElem?_append_left hn] at h1
    rw [List.getElem?_append_left (by rw [s.len]; exact hn)] at h2
    have hm : a ∈ m := List.mem_of_getElem? h2
    obtain ⟨u, e, _⟩ := s.mem hm
    exact (s.at_ n ob' a h1 h2).mono s st (by rw [upd_ne (ne_of_none e hp)])
  · rw [List.getElem?_append_right (by omega)] at h1
    rw [List.getElem?_append_right (by rw [s.len]; omega), s.len] at h2
    have e : n - S.length = 0 := by
      cases q : n - S.length with
      | zero => rfl
      | succ k => rw [q] at h1; simp at h1
    rw [e] at h1 h2
    simp at h1 h2
    rw [← h1, ← h2]
    exact h
/-- an object of the store changed -/
theorem Step.put (s : Sim K G m S H) {n : Nat} {p : Addr} {o : HO} (hp : m[n]? = some p) : Step m H m (upd H p o) := by
  have hm : p ∈ m := List.mem_of_getElem? hp
  refine ⟨⟨[], by simp⟩, s.nd, fun b u e _ nb => ?_⟩
  have ne : b ≠ p := fun z => nb (by rw [z]; exact hm)
  rw [upd_ne ne]; exact e
theorem Sim.put (s : Sim K G m S H) {n : Nat} {p : Addr} {o : HO} {ob : DO} (hp : m[n]? = some p) (h : SO K G m (upd H p o) ob p) : Sim K G m (S.set n ob) (upd H p o) := by
  have st : Step m H m (upd H p o) := Step.put s hp
  have hm : p ∈ m := List.mem_of_getElem? hp
  obtain ⟨op, ep, mu⟩ := s.mem hm
  refine ⟨by simp [s.len], s.nd, fun k ob' a h1 h2 => ?_, tabs_step s.tabs fun b u e nm => ?_⟩
  · by_cases hk : n = k
    · subst hk
      have hlt : n < S.length := by rw [← s.len]; exact (List.getElem?_eq_some_iff.mp hp).1
      rw [List.getElem?_set_self hlt] at h1
      rw [hp] at h2
      cases h1; cases h2
      exact h
    · rw [List.getElem?_set_ne hk] at h1
      have ne : a ≠ p := fun e => by
        subst e
        exact hk ((List.getElem?_inj (List.getElem?_eq_some_iff.mp hp).1 s.nd).mp (hp.trans h2.symm))
      exact (s.at_ k ob' a h1 h2).mono s st (by rw [upd_ne ne])
  · have ne : b ≠ p := fun z => by
      subst z
      rw [ep] at e
      cases e
      exact nm mu
    rw [upd_ne ne]; exact e
end

/-! ### denotations and what they promise -/
abbrev DE := DEnv → Store → Out D
abbrev DA := DEnv → Store → Out (List D)
abbrev DT := DEnv → Store → Out Bool
/-- slots -/
def SR (K : PySem.W.Frag) (m : List Addr) (H : Hp) (ρ : DEnv) (σ : L2.St) : Prop := ρ.length = σ.length ∧ ∀ (i : Nat) (d : D), ρ[i]? = some (some d) → ∃ v, σ[i]? = some (some v) ∧ SV K m H d v
theorem SR.mono {K : PySem.W.Frag} {G : Gx} {m m1 : List Addr} {S : Store} {H H1 : Hp} {ρ : DEnv} {σ : L2.St} (h : SR K m H ρ σ) (s : Sim K G m S H) (st : Step m H m1 H1) : SR K m1 H1 ρ σ :=
  ⟨h.1, fun i d e => by
    obtain ⟨v, h1, h2⟩ := h.2 i d e
    exact ⟨v, h1, h2.mono s st⟩⟩
theorem SR.set {K : PySem.W.Frag} {m : List Addr} {H : Hp} {ρ : DEnv} {σ : L2.St} (h : SR K m H ρ σ) (i : Nat) {d : D} {v : V} (q : SV K m H d v) : SR K m H (ρ.set i (some d)) (σ.set i (some v)) := by
  refine ⟨by simp [h.1], fun j e hj => ?_⟩
  by_cases hij : i = j
  · subst hij
    have hlt : i < ρ.length := by
      have := (List.getElem?_eq_some_iff.mp hj).1
      simpa using this
    rw [List.getElem?_set_self hlt] at hj
    cases hj
    exact ⟨v, by rw [List.getElem?_set_self (by rw [← h.1]; exact hlt)], q⟩
  · rw [List.getElem?_set_ne hij] at hj
    obtain ⟨u, h1, h2⟩ := h.2 j e hj
    exact ⟨u, by rw [List.getElem?_set_ne hij]; exact h1, h2⟩
/-- what is told of an exception -/
def XO (G : Gx) (e : Exc) (cls : Value) (_ : Option Addr) : Prop := cls = .ref (G.cA e.c)
section
variable {α β γ δ : Type}
/-- what must hold of an outcome -/
def EO (K : PySem.W.Frag) (G : Gx) (rel : List Addr → Hp → α → β → Prop) (Q : β → Hp → Prop) (Wc : Value → Option Addr → Hp → Prop) (m : List Addr) (H : Hp) : Out α → Prop
  | .ok a S' => ∀ b H' m', Step m H m' H' → Sim K G m' S' H' → rel m' H' a b → Q b H'
  | .exn e S' => ∀ cls dx H' m', Step m H m' H' → Sim K G m' S' H' → XO G e cls dx → Wc cls dx H'
  | .bad => False
variable {K : PySem.W.Frag} {G : Gx} {rel : List Addr → Hp → α → β → Prop} {rel' : List Addr → Hp → γ → δ → Prop} {Q : β → Hp → Prop} {Q' : δ → Hp → Prop} {Wc : Value → Option Addr → Hp → Prop} {m m1 : List Addr} {H H1 : Hp}
theorem EO.step {o : Out α} (h : EO K G rel Q Wc m H o) (st : Step m H m1 H1) : EO K G rel Q Wc m1 H1 o := by
  cases o with
  | ok a S => exact fun b H' m' s1 s2 r => h b H' m' (st.trans s1) s2 r
  | exn e S => exact fun cls dx H' m' s1 s2 r => h cls dx H' m' (st.trans s1) s2 r
  | bad => exact h.elim
theorem EO.then {o : Out α} {k : α → Store → Out γ} (h : EO K G rel' Q' Wc m H (o.bind k))
    (f : ∀ a S1 b H1 m1, Step m H m1 H1 → Sim K G m1 S1 H1 → rel m1 H1 a b → EO K G rel' Q' Wc m1 H1 (k a S1) → Q b H1) : EO K G rel Q Wc m H o := by
  cases o with
  | ok a S => exact fun b H' m' s1 s2 r => f a S b H' m' s1 s2 r (EO.step h s1)
  | exn e S => exact h
  | bad => exact h.elim
theorem EO.imp {o : Out α} {Q2 : β → Hp → Prop} (h : EO K G rel Q Wc m H o) (f : ∀ b H, Q b H → Q2 b H) : EO K G rel Q2 Wc m H o := by
  cases o with
  | ok a S => exact fun b H' m' s1 s2 r => f _ _ (h b H' m' s1 s2 r)
  | exn e S => exact h
  | bad => exact h.elim
end
def eqR {α : Type} : List Addr → Hp → α → α → Prop := fun _ _ a b => a = b
section
variable (K : PySem.W.Frag) (G : Gx) (W : WX)
def tD (f : DE) : TE := fun σ H Q => ∃ m ρ S, SR K m H ρ σ ∧ Sim K G m S H ∧ EO K G (SV K) Q (fun c d H' => W c d σ H') m H (f ρ S)
def tDA (f : DA) : TA := fun σ H Q => ∃ m ρ S, SR K m H ρ σ ∧ Sim K G m S H ∧ EO K G (SVs K) Q (fun c d H' => W c d σ H') m H (f ρ S)
def tDT (f : DT) : TT := fun σ H Q => ∃ m ρ S, SR K m H ρ σ ∧ Sim K G m S H ∧ EO K G eqR Q (fun c d H' => W c d σ H') m H (f ρ S)
end
abbrev JE (X : Cx) (G : Gx) (W : WX) (e : Expr) (f : DE) : Prop := PE X e (tD X.K G W f)
abbrev JA (X : Cx) (G : Gx) (W : WX) (es : List Expr) (f : DA) : Prop := PA X es (tDA X.K G W f)
abbrev JT (X : Cx) (G : Gx) (W : WX) (e : Expr) (f : DT) : Prop := PT X e (tDT X.K G W f)
abbrev JW (X : Cx) (G : Gx) (W : WX) (e : Expr) (f : DT) : Prop := PW X e (tDT X.K G W f)
theorem PE.imp {X : Cx} {e : Expr} {t t' : TE} (h : PE X e t) (f : ∀ σ H Q, t' σ H Q → t σ H Q) : PE X e t' := ⟨fun pins s σ H Q I q => h.run pins s σ H Q I (f σ H Q q)⟩
theorem PT.imp {X : Cx} {e : Expr} {t t' : TT} (h : PT X e t) (f : ∀ σ H Q, t' σ H Q → t σ H Q) : PT X e t' := ⟨fun pins s σ H Q I q => h.run pins s σ H Q I (f σ H Q q)⟩
theorem PW.imp {X : Cx} {e : Expr} {t t' : TT} (h : PW X e t) (f : ∀ σ H Q, t' σ H Q → t σ H Q) : PW X e t' := ⟨fun wh pins s σ H Q I q => h.run wh pins s σ H Q I (f σ H Q q)⟩
theorem PA.imp {X : Cx} {e : List Expr} {t t' : TA} (h : PA X e t) (f : ∀ σ H Q, t' σ H Q → t σ H Q) : PA X e t' := ⟨fun pos pins s σ H Q I q => h.run pos pins s σ H Q I (f σ H Q q)⟩
theorem OpR.imp {X : Cx} {f : Value → Value → Sem Value} {r r' : R2} (h : OpR X f r) (g : ∀ x y H Q, r' x y H Q → r x y H Q) : OpR X f r' := fun pins s σ H x y v u Q I r1 r2 q => h pins s σ H x y v u Q I r1 r2 (g x y H Q q)
theorem UnR.imp {X : Cx} {f : Value → Sem Value} {r r' : V → Hp → VK → Prop} (h : UnR X f r) (g : ∀ x H Q, r' x H Q → r x H Q) : UnR X f r' := fun pins s σ H x v Q I r1 q => h pins s σ H x v Q I r1 (g x H Q q)
theorem CallR.imp {X : Cx} {f : Value} {r r' : List V → Hp → VK → Prop} (h : CallR X f r) (g : ∀ x H Q, r' x H Q → r x H Q) : CallR X f r' := fun pins s σ H x v Q I r1 q => h pins s σ H x v Q I r1 (g x H Q q)

/-! ### names, constants -/
def dVar (i : Nat) : DE := fun ρ S => match ρ[i]? with
  | some (some d) => .ok d S
  | _ => .bad
def dC (d : D) : DE := fun _ S => .ok d S
section
variable {X : Cx} {G : Gx} {W : WX}
theorem je_var (i : Nat) {x : Str} {pos : Pos} (hN : X.N[i]? = some x := by rfl) (hv : Vis X.env.scope x := by first | exact Or.inl rfl | exact Or.inr (Or.inl rfl) | exact Or.inr (Or.inr rfl)) (hd : (x == ("__debug__" : Str)) = false := by decide)
    (hcd : (x == ("__classdict__" : Str)) = false := by decide) : JE X G W (.Name x pos) (dVar i) :=
  PE.imp (pe_var hN hv hd hcd) fun σ H Q ⟨m, ρ, S, sr, sm, eo⟩ => by
    unfold dVar at eo
    split at eo
    · rename_i d e
      obtain ⟨v, h1, h2⟩ := sr.2 i d e
      exact ⟨v, h1, eo v H m sm.refl sm h2⟩
    · exact eo.elim
theorem je_int {i j pos} : JE X G W (.Constant (.int i) j pos) (dC (.int i)) := PE.imp pe_int fun σ H Q ⟨m, ρ, S, sr, sm, eo⟩ => eo _ H m sm.refl sm rfl
theorem je_bl {i j pos} : JE X G W (.Constant (.bool i) j pos) (dC (.bl i)) := PE.imp pe_bl fun σ H Q ⟨m, ρ, S, sr, sm, eo⟩ => eo _ H m sm.refl sm rfl
theorem je_str {i j pos} : JE X G W (.Constant (.str i) j pos) (dC (.str i)) := PE.imp pe_str fun σ H Q ⟨m, ρ, S, sr, sm, eo⟩ => eo _ H m sm.refl sm rfl
theorem je_non {j pos} : JE X G W (.Constant .none j pos) (dC .non) := PE.imp pe_non fun σ H Q ⟨m, ρ, S, sr, sm, eo⟩ => eo _ H m sm.refl sm rfl
end

/-! ### operators -/
abbrev D2 := D → D → Store → Option (D × Store)
def dOp (g : D2) (fa fb : DE) : DE := fun ρ S => (fa ρ S).bind fun x S1 => (fb ρ S1).bind fun y S2 => optO (g x y S2)
/-- what an operator promises -/
def OR (K : PySem.W.Frag) (G : Gx) (g : D2) : R2 := fun x y H Q => ∃ m S a b d S', Sim K G m S H ∧ SV K m H a x ∧ SV K m H b y ∧ g a b S = some (d, S') ∧ ∀ v H' m', Step m H m' H' → Sim K G m' S' H' → SV K m' H' d v → Q v H'
abbrev JOp (X : Cx) (G : Gx) (f : Value → Value → Sem Value) (g : D2) : Prop := OpR X f (OR X.K G g)
section
variable {X : Cx} {G : Gx} {W : WX}
theorem je_op {op : Operator} {g : D2} {a b : Expr} {fa fb : DE} {pos : Pos} (ho : JOp X G (binaryOp op) g) (ha : JE X G W a fa) (hb : JE X G W b fb) : JE X G W (.BinOp a op b pos) (dOp g fa fb) :=
  PE.imp (pe_op ho ha hb) fun σ H Q ⟨m, ρ, S, sr, sm, eo⟩ =>
    ⟨m, ρ, S, sr, sm, eo.then fun x S1 v H1 m1 st1 sm1 r1 eo1 => ⟨m1, ρ, S1, sr.mono sm st1, sm1, eo1.then fun y S2 u H2 m2 st2 sm2 r2 eo2 => by
      cases q : g x y S2 with
      | none => rw [q] at eo2; exact eo2.elim
      | some p =>
        obtain ⟨d, S3⟩ := p
        rw [q] at eo2
        exact ⟨m2, S2, x, y, d, S3, sm2, r1.mono sm1 st2, r2, q, eo2⟩⟩⟩
end
end DL
set_option Elab.async false
set_option linter.all false
set_option maxRecDepth 100000
set_option maxHeartbeats 2000000
namespace DL
open PySem PySem.Spec PyProof.Rows L2
/-! ### the store's own operations -/
def newO (ob : DO) (S : Store) : D × Store := (.obj S.length, S ++ [ob])
section
variable {K : PySem.W.Frag} {G : Gx} {m m1 : List Addr} {S S1 : Store} {H H1 : Hp}
theorem sv_tup {p : Addr} {ds : List D} {vs : List V} (h : SVs K m H ds vs) (s : Sim K G m S H) (hp : H p = none) : SV K m (upd H p (.tup vs)) (.tup ds) (.ref p) :=
  ⟨p, vs, rfl, SqT.of upd_same, h.mono s (Step.beside s hp)⟩
theorem sim_lst {p : Addr} {ds : List D} {vs : List V} (h : SVs K m H ds vs) (s : Sim K G m S H) (hp : H p = none) : Sim K G (m ++ [p]) (S ++ [.lst ds]) (upd H p (.lst vs)) :=
  s.new hp ⟨vs, upd_same, h.mono s (Step.new s hp)⟩
theorem sv_new (s : Sim K G m S H) {p : Addr} : SV K (m ++ [p]) H1 (.obj S.length) (.ref p) := ⟨p, rfl, by rw [← s.len]; simp⟩
/-- the store's list -/
def lstAt (S : Store) (n : Nat) : Option (List D) := match S[n]? with
  | some (.lst xs) => some xs
  | _ => none
theorem lstAt_ok (s : Sim K G m S H) {n : Nat} {xs : List D} (h : lstAt S n = some xs) : ∃ a vs, m[n]? = some a ∧ H a = some (.lst vs) ∧ SVs K m H xs vs := by
  unfold lstAt at h
  split at h
  · rename_i ys e
    cases h
    have hn : n < m.length := by rw [s.len]; exact (List.getElem?_eq_some_iff.mp e).1
    obtain ⟨vs, h1, h2⟩ := s.at_ n _ m[n] e (by simp [hn])
    exact ⟨m[n], vs, by simp [hn], h1, h2⟩
  · cases h
/-- a sequence that is read: a tuple, a fixed list, a list -/
def seqAt (S : Store) : D → Option (List D)
  | .tup xs => some xs
  | .fl xs => some xs
  | .obj n => lstAt S n
  | _ => none
theorem seqAt_ok (s : Sim K G m S H) {d : D} {v : V} {xs : List D} (h : seqAt S d = some xs) (r : SV K m H d v) : ∃ p vs, v = .ref p ∧ SVs K m H xs vs ∧ (SqL K H p vs ∨ SqT K H p vs) := by
  cases d with
  | tup ys => cases h; obtain ⟨p, vs, e, q, r⟩ := r; exact ⟨p, vs, e, r, .inr q⟩
  | fl ys => cases h; obtain ⟨p, vs, e, q, r⟩ := r; exact ⟨p, vs, e, r, .inl q.l⟩
  | obj n =>
    obtain ⟨a, e, hm⟩ := r
    obtain ⟨a', vs, h1, h2, h3⟩ := lstAt_ok s h
    rw [hm] at h1; cases h1
    exact ⟨a, vs, e, h3, .inl (SqL.of h2)⟩
  | _ => cases h
end
/-! ### arithmetic -/
def b2 (b : Bool) : Int := if b = true then 1 else 0
def addD : D2
  | .int i, .int j, S => some (.int (i + j), S)
  | .str x, .str y, S => if x.length + y.length ≤ 1000000 then some (.str (x ++ y), S) else none
  | .tup xs, .tup ys, S => if xs.length + ys.length ≤ 1000000 then some (.tup (xs ++ ys), S) else none
  | .obj n, .obj k, S => match lstAt S n, lstAt S k with
    | some xs, some ys => if xs.length + ys.length ≤ 1000000 then some (newO (.lst (xs ++ ys)) S) else none
    | _, _ => none
  | _, _, _ => none
def subD : D2
  | .int i, .int j, S => some (.int (i - j), S)
  | .bl i, .bl j, S => some (.int (b2 i - b2 j), S)
  | _, _, _ => none
def mulD : D2
  | .int i, .int j, S => if (i.natAbs < 18446744073709551616 ∨ j.natAbs < 18446744073709551616) ∨ i.natAbs.log2 + j.natAbs.log2 < 1000000 then some (.int (i * j), S) else none
  | .tup xs, .int k, S => if k ≤ 1000 ∧ xs.length ≤ 1000 ∧ xs ≠ [] ∧ -1000 ≤ k then some (.tup (List.replicate k.toNat xs).flatten, S) else none
  | _, _, _ => none
def fdivD : D2
  | .int i, .int j, S => if 0 < j ∧ j.natAbs.log2 < 9000 then some (.int (i / j), S) else none
  | _, _, _ => none
def modD : D2
  | .int i, .int j, S => if 0 < j then some (.int (i % j), S) else none
  | _, _, _ => none
def powD : D2
  | .int i, .int j, S => if 0 ≤ j ∧ j ≤ 1000000 ∧ i.natAbs < 2 ^ 64 then some (.int (i ^ j.toNat), S) else none
  | _, _, _ => none
theorem size6 {n : Nat} (h : n ≤ 1000000) : n ≤ sizeLine := Nat.le_trans h (by decide)
theorem int_sub_bb (a b : Bool) : Gives (Builtin.«int.__sub__» ⟨[.bool a, .bool b], []⟩) (.int ((if a = true then (1 : Int) else 0) - (if b = true then (1 : Int) else 0))) :=
  .of_wp fun M A E s Q h => by obtain ⟨hp, g, d, tk, os⟩ := s; wp_walk; exact ⟨_, rfl, h⟩
section
variable {X : Cx} {G : Gx} {W : WX}
theorem op_sub_bb : OpR X (binaryOp .Sub) (fun x y H Q => ∃ i j, x = .bl i ∧ y = .bl j ∧ Q (.int (b2 i - b2 j)) H) := by
  intro pins s σ H x y v u Q I rx ry h
  obtain ⟨i, j, rfl, rfl, q⟩ := h
  cases rx
  cases ry
  refine wpAny_binaryOp_same (op := .Sub) (T := "bool") rfl rfl F.fills_bool_sub F.slot_bool_sub ?_
  exact call_gives F.slot_bool_sub rfl F.entry_int_sub (F.args_int_sub_2 _ _) (int_sub_bb i j) ⟨(fun z => by cases z), ⟨.int _, H, I.tok _, ⟨_, rfl⟩, q⟩⟩
theorem jop_add : JOp X G (binaryOp .Add) addD := by
  refine OpR.imp (OpR.or op_add (OpR.or op_add_str (OpR.or op_catA op_cat))) fun x y H Q ⟨m, S, a, b, d, S', sm, ra, rb, e, k⟩ => ?_
  unfold addD at e
  split at e
  · rename_i S i j
    cases e; cases ra; cases rb
    exact .inl ⟨i, j, rfl, rfl, k _ H m sm.refl sm rfl⟩
  · rename_i S i j
    split at e
    · rename_i hz
      cases e; cases ra; cases rb
      exact .inr (.inl ⟨i, j, rfl, rfl, size6 hz, k _ H m sm.refl sm rfl⟩)
    · cases e
  · rename_i S xs ys
    split at e
    · rename_i hz
      cases e
      obtain ⟨p, vs, rfl, q, r⟩ := ra
      obtain ⟨p', vs', rfl, q', r'⟩ := rb
      have h1 := r.len
      have h2 := r'.len
      refine .inr (.inr (.inl ⟨p, p', vs, vs', rfl, rfl, q, q', by rw [← h1, ← h2]; exact size6 hz, fun e => ?_, fun _ e => ?_, fun _ _ p hp => ?_⟩))
      · subst e
        have : xs = [] := List.length_eq_zero_iff.mp h1
        subst this
        exact k _ H m sm.refl sm ⟨p', vs', rfl, q', r'⟩
      · subst e
        have : ys = [] := List.length_eq_zero_iff.mp h2
        subst this
        rw [List.append_nil] at k
        exact k _ H m sm.refl sm ⟨p, vs, rfl, q, r⟩
      · exact k _ _ m (Step.beside sm hp) (sm.beside hp) (sv_tup (r.append r') sm hp)
    · cases e
  · rename_i S n l
    split at e
    · rename_i xs ys e1 e2
      split at e
      · rename_i hz
        cases e
        obtain ⟨a, rfl, hm⟩ := ra
        obtain ⟨b, rfl, hm'⟩ := rb
        obtain ⟨a', vs, h1, h2, h3⟩ := lstAt_ok sm e1
        rw [hm] at h1; cases h1
        obtain ⟨b', vs', h1', h2', h3'⟩ := lstAt_ok sm e2
        rw [hm'] at h1'; cases h1'
        refine .inr (.inr (.inr ⟨a, b, vs, vs', rfl, rfl, h2, h2', by rw [← h3.len, ← h3'.len]; exact size6 hz, fun p hp => ?_⟩))
        exact k _ _ (m ++ [p]) (Step.new sm hp) (sim_lst (h3.append h3') sm hp) (sv_new sm)
      · cases e
    · cases e
  · cases e
theorem jop_sub : JOp X G (binaryOp .Sub) subD := by
  refine OpR.imp (OpR.or op_sub op_sub_bb) fun x y H Q ⟨m, S, a, b, d, S', sm, ra, rb, e, k⟩ => ?_
  unfold subD at e
  split at e
  · rename_i S i j
    cases e; cases ra; cases rb
    exact .inl ⟨i, j, rfl, rfl, k _ H m sm.refl sm rfl⟩
  · rename_i S i j
    cases e; cases ra; cases rb
    exact .inr ⟨i, j, rfl, rfl, k _ H m sm.refl sm rfl⟩
  · cases e
theorem jop_fdiv : JOp X G (binaryOp .FloorDiv) fdivD := by
  refine OpR.imp op_fdivW fun x y H Q ⟨m, S, a, b, d, S', sm, ra, rb, e, k⟩ => ?_
  unfold fdivD at e
  split at e
  · rename_i S i j
    split at e
    · rename_i hz
      cases e; cases ra; cases rb
      exact ⟨i, j, rfl, rfl, hz, k _ H m sm.refl sm rfl⟩
    · cases e
  · cases e
theorem jop_mod : JOp X G (binaryOp .Mod) modD := by
  refine OpR.imp op_mod fun x y H Q ⟨m, S, a, b, d, S', sm, ra, rb, e, k⟩ => ?_
  unfold modD at e
  split at e
  · rename_i S i j
    split at e
    · rename_i hz
      cases e; cases ra; cases rb
      exact ⟨i, j, rfl, rfl, hz, k _ H m sm.refl sm rfl⟩
    · cases e
  · cases e
theorem jop_pow : JOp X G (binaryOp .Pow) powD := by
  refine OpR.imp op_pow fun x y H Q ⟨m, S, a, b, d, S', sm, ra, rb, e, k⟩ => ?_
  unfold powD at e
  split at e
  · rename_i S i j
    split at e
    · rename_i hz
      cases e; cases ra; cases rb
      exact ⟨i, j, rfl, rfl, hz, k _ H m sm.refl sm rfl⟩
    · cases e
  · cases e
end
/-! ### one-place -/
abbrev D1 := D → Store → Option (D × Store)
def dUn (g : D1) (fa : DE) : DE := fun ρ S => (fa ρ S).bind fun x S1 => optO (g x S1)
def negD : D1
  | .int i, S => some (.int (-i), S)
  | _, _ => none
def notD : D1
  | .bl i, S => some (.bl (!i), S)
  | _, _ => none
section
variable {X : Cx} {G : Gx} {W : WX} {a b c : Expr} {fa fb fc : DE} {ga gb gc : DT} {pos : Pos} {rest : List Expr}
theorem je_neg (ha : JE X G W a fa) : JE X G W (.UnaryOp .USub a pos) (dUn negD fa) :=
  PE.imp (pe_un un_neg ha) fun σ H Q ⟨m, ρ, S, sr, sm, eo⟩ => ⟨m, ρ, S, sr, sm, eo.then fun x S1 v H1 m1 st1 sm1 r1 eo1 => by
    cases x with
    | int i => cases r1; exact ⟨i, rfl, eo1 _ H1 m1 sm1.refl sm1 rfl⟩
    | _ => exact eo1.elim⟩
theorem je_not (ha : JE X G W a fa) : JE X G W (.UnaryOp .Not a pos) (dUn notD fa) :=
  PE.imp (pe_not ha) fun σ H Q ⟨m, ρ, S, sr, sm, eo⟩ => ⟨m, ρ, S, sr, sm, eo.then fun x S1 v H1 m1 st1 sm1 r1 eo1 => by
    cases x with
    | bl i => cases r1; exact ⟨i, rfl, eo1 _ H1 m1 sm1.refl sm1 rfl⟩
    | _ => exact eo1.elim⟩
/-! ### comparisons -/
def cmpI (p : Int → Int → Bool) : D2
  | .int i, .int j, S => some (.bl (p i j), S)
  | _, _, _ => none
theorem jop_I {f : Value → Value → Sem Value} {p : Int → Int → Bool} (h : OpR X f (rI0 fun i j => .bl (p i j))) : JOp X G f (cmpI p) :=
  OpR.imp h fun x y H Q ⟨m, S, a, b, d, S', sm, ra, rb, e, k⟩ => by
    unfold cmpI at e
    split at e
    · rename_i S i j
      cases e; cases ra; cases rb
      exact ⟨i, j, rfl, rfl, k _ H m sm.refl sm rfl⟩
    · cases e
abbrev ltD : D2 := cmpI fun i j => decide (i < j)
abbrev leD : D2 := cmpI fun i j => decide (i ≤ j)
abbrev gtD : D2 := cmpI fun i j => decide (j < i)
abbrev geD : D2 := cmpI fun i j => decide (j ≤ i)
theorem jop_lt : JOp X G (compareOp .Lt) ltD := jop_I op_lt
theorem jop_le : JOp X G (compareOp .LtE) leD := jop_I op_le
theorem jop_gt : JOp X G (compareOp .Gt) gtD := jop_I op_gt
theorem jop_ge : JOp X G (compareOp .GtE) geD := jop_I op_ge
end
mutual
def D.toP : D → Option PyData
  | .non => some .none
  | .bl b => some (.bool b)
  | .int i => some (.int i)
  | .str x => some (.str x)
  | .tup xs => (D.toPs xs).map PyData.tuple
  | .fl xs => (D.toPs xs).map PyData.list
  | .obj _ => none
def D.toPs : List D → Option (List PyData)
  | [] => some []
  | d :: ds => match D.toP d, D.toPs ds with
    | some p, some ps => some (p :: ps)
    | _, _ => none
end
mutual
theorem toP_ok {K : PySem.W.Frag} {m : List Addr} {H : Hp} : ∀ {d : D} {v : V} {p : PyData}, D.toP d = some p → SV K m H d v → Dp K H v p
  | .non, v, p, e, h => by cases e; cases h; exact .non
  | .bl b, v, p, e, h => by cases e; cases h; exact .bl b
  | .int b, v, p, e, h => by cases e; cases h; exact .int b
  | .str b, v, p, e, h => by cases e; cases h; exact .str b
  | .tup xs, v, p, e, h => by
    obtain ⟨a, vs, rfl, q, r⟩ := (show ∃ p vs, v = .ref p ∧ SqT K H p vs ∧ SVs K m H xs vs from h)
    have e : (D.toPs xs).map PyData.tuple = some p := e
    cases z : D.toPs xs with
    | none => rw [z] at e; cases e
    | some ps => rw [z] at e; cases e; exact .tup q (toPs_ok z r)
  | .fl xs, v, p, e, h => by
    obtain ⟨a, vs, rfl, q, r⟩ := (show ∃ p vs, v = .ref p ∧ SqF K H p vs ∧ SVs K m H xs vs from h)
    have e : (D.toPs xs).map PyData.list = some p := e
    cases z : D.toPs xs with
    | none => rw [z] at e; cases e
    | some ps => rw [z] at e; cases e; exact .lst q.l (toPs_ok z r)
  | .obj n, v, p, e, h => by cases e
theorem toPs_ok {K : PySem.W.Frag} {m : List Addr} {H : Hp} : ∀ {ds : List D} {vs : List V} {ps : List PyData}, D.toPs ds = some ps → SVs K m H ds vs → DpAll K H vs ps
  | [], vs, ps, e, h => by cases e; rw [show vs = [] from h]; exact .nil
  | d :: ds, vs, ps, e, h => by
    obtain ⟨v, r, rfl, a, b⟩ := (show ∃ v r, vs = v :: r ∧ SV K m H d v ∧ SVs K m H ds r from h)
    have e : (match D.toP d, D.toPs ds with
      | some p, some ps => some (p :: ps)
      | _, _ => none) = some ps := e
    cases z1 : D.toP d with
    | none => rw [z1] at e; cases e
    | some p =>
      cases z2 : D.toPs ds with
      | none => rw [z1, z2] at e; cases e
      | some q => rw [z1, z2] at e; cases e; exact .cons (toP_ok z1 a) (toPs_ok z2 b)
end
def D.toPS (S : Store) : D → Option PyData
  | .obj n => match lstAt S n with
    | some xs => (D.toPs xs).map PyData.list
    | none => none
  | d => D.toP d
theorem toPS_ok {K : PySem.W.Frag} {G : Gx} {m : List Addr} {S : Store} {H : Hp} (sm : Sim K G m S H) {d : D} {v : V} {p : PyData} (e : D.toPS S d = some p) (h : SV K m H d v) : Dp K H v p := by
  cases d with
  | obj n =>
    obtain ⟨a, rfl, hm⟩ := h
    unfold D.toPS at e
    dsimp only at e
    cases z : lstAt S n with
    | none => rw [z] at e; cases e
    | some xs =>
      rw [z] at e
      dsimp only at e
      obtain ⟨a', vs, h1, h2, h3⟩ := lstAt_ok sm z
      rw [hm] at h1; cases h1
      cases z2 : D.toPs xs with
      | none => rw [z2] at e; cases e
      | some ps => rw [z2] at e; cases e; exact .lst (SqL.of h2) (toPs_ok z2 h3)
  | _ => exact toP_ok e h
def eqD : D2 := fun a b S => match D.toPS S a, D.toPS S b with
  | some p, some q => if SeqAt.shaped p = true ∧ SeqAt.shaped q = true then some (.bl (PyData.eqv p q), S) else none
  | _, _ => none
def neD : D2 := fun a b S => match D.toPS S a, D.toPS S b with
  | some p, some q => if SeqAt.shaped p = true ∧ SeqAt.shaped q = true then some (.bl (!PyData.eqv p q), S) else none
  | _, _ => none
section
variable {X : Cx} {G : Gx} {W : WX} {a b c : Expr} {fa fb fc : DE} {ga gb gc : DT} {pos : Pos} {rest : List Expr}
theorem jop_eq (hu : X.A.units + 64 < cLine) : JOp X G (compareOp .Eq) eqD :=
  OpR.imp (op_eqD hu) fun x y H Q ⟨m, S, a, b, d, S', sm, ra, rb, e, k⟩ => by
    unfold eqD at e
    split at e
    · rename_i p q e1 e2
      split at e
      · rename_i hs
        cases e
        exact ⟨p, q, toPS_ok sm e1 ra, toPS_ok sm e2 rb, hs.1, hs.2, k _ H m sm.refl sm rfl⟩
      · cases e
    · cases e
theorem jop_ne (hu : X.A.units + 64 < cLine) : JOp X G (compareOp .NotEq) neD :=
  OpR.imp (op_neD hu) fun x y H Q ⟨m, S, a, b, d, S', sm, ra, rb, e, k⟩ => by
    unfold neD at e
    split at e
    · rename_i p q e1 e2
      split at e
      · rename_i hs
        cases e
        exact ⟨p, q, toPS_ok sm e1 ra, toPS_ok sm e2 rb, hs.1, hs.2, k _ H m sm.refl sm rfl⟩
      · cases e
    · cases e
def isND : D2
  | .non, .non, S => some (.bl true, S)
  | .bl _, .non, S => some (.bl false, S)
  | .int _, .non, S => some (.bl false, S)
  | .str _, .non, S => some (.bl false, S)
  | .tup _, .non, S => some (.bl false, S)
  | .obj _, .non, S => some (.bl false, S)
  | _, _, _ => none
def notND : D2
  | .non, .non, S => some (.bl false, S)
  | .bl _, .non, S => some (.bl true, S)
  | .int _, .non, S => some (.bl true, S)
  | .str _, .non, S => some (.bl true, S)
  | .tup _, .non, S => some (.bl true, S)
  | .obj _, .non, S => some (.bl true, S)
  | _, _, _ => none
theorem jop_isN : JOp X G (compareOp .Is) isND :=
  OpR.imp op_isN fun x y H Q ⟨m, S, a, b, d, S', sm, ra, rb, e, k⟩ => by
    cases b with
    | non =>
      cases rb
      refine ⟨rfl, ?_⟩
      cases a with
      | non => cases e; cases ra; exact k _ H m sm.refl sm rfl
      | bl _ => cases e; cases ra; exact k _ H m sm.refl sm rfl
      | int _ => cases e; cases ra; exact k _ H m sm.refl sm rfl
      | str _ => cases e; cases ra; exact k _ H m sm.refl sm rfl
      | tup _ => cases e; obtain ⟨p, vs, rfl, _⟩ := ra; exact k _ H m sm.refl sm rfl
      | obj _ => cases e; obtain ⟨p, rfl, _⟩ := ra; exact k _ H m sm.refl sm rfl
      | fl _ => cases e
    | _ => cases a <;> cases e
theorem jop_notN : JOp X G (compareOp .IsNot) notND :=
  OpR.imp op_notN fun x y H Q ⟨m, S, a, b, d, S', sm, ra, rb, e, k⟩ => by
    cases b with
    | non =>
      cases rb
      refine ⟨rfl, ?_⟩
      cases a with
      | non => cases e; cases ra; exact k _ H m sm.refl sm rfl
      | bl _ => cases e; cases ra; exact k _ H m sm.refl sm rfl
      | int _ => cases e; cases ra; exact k _ H m sm.refl sm rfl
      | str _ => cases e; cases ra; exact k _ H m sm.refl sm rfl
      | tup _ => cases e; obtain ⟨p, vs, rfl, _⟩ := ra; exact k _ H m sm.refl sm rfl
      | obj _ => cases e; obtain ⟨p, rfl, _⟩ := ra; exact k _ H m sm.refl sm rfl
      | fl _ => cases e
    | _ => cases a <;> cases e
theorem je_cmp {op : CmpOp} {g : D2} (ho : JOp X G (compareOp op) g) (ha : JE X G W a fa) (hb : JE X G W b fb) (hm : behindInMarks op b = false := by first | exact nomark _ | rfl) : JE X G W (.Compare a [op] [b] pos) (dOp g fa fb) :=
  PE.imp (pe_cmpR ho ha hb hm) fun σ H Q ⟨m, ρ, S, sr, sm, eo⟩ =>
    ⟨m, ρ, S, sr, sm, eo.then fun x S1 v H1 m1 st1 sm1 r1 eo1 => ⟨m1, ρ, S1, sr.mono sm st1, sm1, eo1.then fun y S2 u H2 m2 st2 sm2 r2 eo2 => by
      cases q : g x y S2 with
      | none => rw [q] at eo2; exact eo2.elim
      | some p =>
        obtain ⟨d, S3⟩ := p
        rw [q] at eo2
        exact ⟨m2, S2, x, y, d, S3, sm2, r1.mono sm1 st2, r2, q, eo2⟩⟩⟩
/-- a truth value as a test -/
def dB (fa : DE) : DT := fun ρ S => (fa ρ S).bind fun x S1 => match x with
  | .bl b => .ok b S1
  | _ => .bad
theorem jt_cmp {op : CmpOp} {g : D2} (ho : JOp X G (compareOp op) g) (ha : JE X G W a fa) (hb : JE X G W b fb) (hm : behindInMarks op b = false := by first | exact nomark _ | rfl) : JT X G W (.Compare a [op] [b] pos) (dB (dOp g fa fb)) :=
  PT.imp (pt_cmpR ho ha hb hm) fun σ H Q ⟨m, ρ, S, sr, sm, eo⟩ => by
    unfold dB dOp at eo
    refine ⟨m, ρ, S, sr, sm, ?_⟩
    cases e1 : fa ρ S with
    | bad => rw [e1] at eo; exact eo.elim
    | exn e S1 => rw [e1] at eo; exact eo
    | ok x S1 =>
      rw [e1] at eo
      simp only [Out.bind_ok] at eo
      intro v H1 m1 st1 sm1 r1
      refine ⟨m1, ρ, S1, sr.mono sm st1, sm1, ?_⟩
      have eo1 := eo.step st1
      cases e2 : fb ρ S1 with
      | bad => rw [e2] at eo; exact eo.elim
      | exn e S2 => rw [e2] at eo1; exact eo1
      | ok y S2 =>
        rw [e2] at eo1
        simp only [Out.bind_ok] at eo1
        intro u H2 m2 st2 sm2 r2
        cases q : g x y S2 with
        | none => rw [q] at eo1; exact eo1.elim
        | some p =>
          obtain ⟨d, S3⟩ := p
          rw [q] at eo1
          refine ⟨m2, S2, x, y, d, S3, sm2, r1.mono sm1 st2, r2, q, fun v H' m' st3 sm3 r3 => ?_⟩
          cases d with
          | bl b => cases r3; exact ⟨b, rfl, eo1 b H' m' (st2.trans st3) sm3 rfl⟩
          | _ => exact eo1.elim
theorem jt_val (ha : JE X G W a fa) (he : ∀ whole, isTrue a X.env whole = (do let v ← whole; standAt a.pos; holding [v] (truthy v)) := by intro _; rfl) : JT X G W a (dB fa) :=
  PT.imp (pt_val ha he) fun σ H Q ⟨m, ρ, S, sr, sm, eo⟩ => ⟨m, ρ, S, sr, sm, EO.then (rel := SV X.K) eo fun x S1 v H1 m1 st1 sm1 r1 eo1 => by
    cases x with
    | bl b => cases r1; exact ⟨b, rfl, eo1 b H1 m1 sm1.refl sm1 rfl⟩
    | _ => exact eo1.elim⟩
end
end DL
set_option Elab.async false
set_option linter.all false
set_option maxRecDepth 100000
set_option maxHeartbeats 4000000
namespace DL
open PySem PySem.Spec PyProof.Rows L2
theorem tuple_mul1 (l : Addr) (items : Array Value) (n : Nat) (dd : Option Addr) (sl : Array (Option Value)) (x : Int) (u : Tok) (c0 : (decide (x < -(2 ^ 63)) || decide (x ≥ 2 ^ 63)) = false) (c1 : (items.isEmpty || x == 1) = true) :
    Meets (Builtin.«tuple.__mul__» ⟨[.ref l, .int x u], []⟩) (fun _ R s => s.heap.get? l = some { cls := .type "tuple", dict := dd, data := .seq items n, slots := sl } ∧
      R (.ok (.ret (Value.ref l))) s) :=
  .of_wp fun prog w A R s h => by
    obtain ⟨hp, g, d, tk, os⟩ := s
    obtain ⟨hl, h⟩ := h
    have f1 := AutoSeq1.idx_int
    wp_walk using wpAny_loadPart' hl
    repeat (first
      | (refine wpAny_ite_false (decide_eq_false (by rw [c0]; exact Bool.false_ne_true)) ?_; wp_walk using wpAny_loadPart' hl)
      | (refine wpAny_ite_true (decide_eq_true c1) ?_; wp_walk using wpAny_loadPart' hl))
    exact ⟨_, rfl, h⟩
theorem tuple_mul0 (l : Addr) (items : Array Value) (n : Nat) (dd : Option Addr) (sl : Array (Option Value)) (x : Int) (u : Tok) (c0 : (decide (x < -(2 ^ 63)) || decide (x ≥ 2 ^ 63)) = false) (c1 : (items.isEmpty || x == 1) = false) (c2 : (decide (x ≤ 0) || items.isEmpty) = true) :
    Meets (Builtin.«tuple.__mul__» ⟨[.ref l, .int x u], []⟩) (fun _ R s => s.heap.get? l = some { cls := .type "tuple", dict := dd, data := .seq items n, slots := sl } ∧
      R (.ok (.ret (Value.ref s.heap.objs.size))) { s with heap := s.heap.push { cls := Value.type "tuple", data := Data.seq #[] }, toks := s.toks }) :=
  .of_wp fun prog w A R s h => by
    obtain ⟨hp, g, d, tk, os⟩ := s
    obtain ⟨hl, h⟩ := h
    have f1 := AutoSeq1.idx_int
    wp_walk using wpAny_loadPart' hl
    repeat (first
      | (refine wpAny_ite_false (decide_eq_false (by rw [c0]; exact Bool.false_ne_true)) ?_; wp_walk using wpAny_loadPart' hl)
      | (refine wpAny_ite_false (decide_eq_false (by rw [c1]; exact Bool.false_ne_true)) ?_; wp_walk using wpAny_loadPart' hl)
      | (refine wpAny_ite_true (decide_eq_true c2) ?_; wp_walk using wpAny_loadPart' hl))
    exact ⟨_, rfl, h⟩

def rRepA (K : PySem.W.Frag) : R2 := fun x y H Q => ∃ l k xs, x = .ref l ∧ y = .int k ∧ SqT K H l xs ∧ xs ≠ [] ∧ -1000 ≤ k ∧ k ≤ 1 ∧ (k = 1 → Q (.ref l) H) ∧ (k ≤ 0 → ∀ p, H p = none → Q (.ref p) (upd H p (.tup [])))
section
variable {X : Cx} {G : Gx} {W : WX}
theorem op_repA : OpR X (binaryOp .Mult) (rRepA X.K) := by
  intro pins s σ H x y v u Q I rx ry h
  obtain ⟨l, k, xs, rfl, rfl, hT, hne, h1, h2, q1, q0⟩ := h
  cases rx
  obtain ⟨t, rfl⟩ := ry
  obtain ⟨its, r, ⟨⟨cls, dd, data, sl⟩, ho, hc, n, hd⟩, hs⟩ := I.tuple hT
  simp only at hc hd
  subst hc hd
  have hle : its.length = xs.length := r.length.symm
  have hn : its ≠ [] := fun e => hne (by
    rw [e] at hle
    exact List.eq_nil_of_length_eq_zero hle.symm)
  have hi : its.toArray.isEmpty = false := by
    cases its with
    | nil => exact absurd rfl hn
    | cons a b => rfl
  have c0 : (decide (k < -(2 ^ 63)) || decide (k ≥ 2 ^ 63)) = false := by
    rw [decide_eq_false (by omega), decide_eq_false (by omega)] <;> rfl
  by_cases e1 : k = 1
  · have c1 : (its.toArray.isEmpty || k == 1) = true := by rw [e1]; simp
    refine wpAny_binaryOp_repeat_ref (T := "tuple") (U := "int") (by decide) ⟨_, ho, rfl⟩ (fun s' => typeIs_int s' k t) noFill_tuple_mul F.fills_int_mul F.slot_int_rmul repeat_tuple F.slot_int_index.lookup
      (call_meets F.slot_int_rmul (typeIs_int s k t) F.entry_int_rmul (F.args_int_rmul_2 _ _) (int_rmul_tuple k t l its.toArray n dd sl)
        ⟨ho, rfl, ⟨_, ho, rfl⟩, call_meets F.slot_tuple_mul ⟨_, ho, rfl⟩ F.entry_tuple_mul (F.args_tuple_mul_2 _ _) (tuple_mul1 l its.toArray n dd sl k t c0 c1) ⟨ho, ?_⟩⟩)
    exact ⟨.ref l, H, I, rfl, q1 e1⟩
  · have c1 : (its.toArray.isEmpty || k == 1) = false := by
      rw [hi, Bool.false_or]
      exact beq_eq_false_iff_ne.mpr e1
    have c2 : (decide (k ≤ 0) || its.toArray.isEmpty) = true := by
      rw [decide_eq_true (by omega), Bool.true_or]
    refine wpAny_binaryOp_repeat_ref (T := "tuple") (U := "int") (by decide) ⟨_, ho, rfl⟩ (fun s' => typeIs_int s' k t) noFill_tuple_mul F.fills_int_mul F.slot_int_rmul repeat_tuple F.slot_int_index.lookup
      (call_meets F.slot_int_rmul (typeIs_int s k t) F.entry_int_rmul (F.args_int_rmul_2 _ _) (int_rmul_tuple k t l its.toArray n dd sl)
        ⟨ho, rfl, ⟨_, ho, rfl⟩, call_meets F.slot_tuple_mul ⟨_, ho, rfl⟩ F.entry_tuple_mul (F.args_tuple_mul_2 _ _) (tuple_mul0 l its.toArray n dd sl k t c0 c1 c2) ⟨ho, ?_⟩⟩)
    refine ⟨.ref s.heap.objs.size, _, I.laid (t' := s.toks) (o := .tup []) (fun b ob q => Heap.get?_push_of_some _ q) (Nat.le_refl _) ?_, rfl, q0 (by omega) _ (I.hok.fresh (Nat.le_refl _))⟩
    exact ⟨Nat.zero_le _, [], .nil, IsTup.new _ _⟩
theorem rep_svs {K : PySem.W.Frag} {m : List Addr} {H : Hp} {ds : List D} {vs : List V} (h : SVs K m H ds vs) : ∀ n : Nat, SVs K m H (List.replicate n ds).flatten (List.replicate n vs).flatten
  | 0 => rfl
  | n + 1 => by
    rw [List.replicate_succ, List.replicate_succ, List.flatten_cons, List.flatten_cons]
    exact h.append (rep_svs h n)
theorem jop_mul : JOp X G (binaryOp .Mult) mulD := by
  refine OpR.imp (OpR.or (OpR.or op_mul op_mulW) (OpR.or op_repT op_repA)) fun x y H Q ⟨m, S, a, b, d, S', sm, ra, rb, e, k⟩ => ?_
  unfold mulD at e
  split at e
  · rename_i S i j
    split at e
    · rename_i hz
      cases e; cases ra; cases rb
      rcases hz with hz | hz
      · refine .inl (.inl ⟨i, j, rfl, rfl, ?_, k _ H m sm.refl sm rfl⟩)
        unfold CMul
        omega
      · exact .inl (.inr ⟨i, j, rfl, rfl, hz, k _ H m sm.refl sm rfl⟩)
    · cases e
  · rename_i S xs n
    split at e
    · rename_i hz
      cases e; cases rb
      obtain ⟨p, vs, rfl, q, r⟩ := ra
      have h1 := r.len
      have hne : vs ≠ [] := fun z => by
        rw [z] at h1
        exact hz.2.2.1 (List.length_eq_zero_iff.mp h1)
      by_cases h2 : 2 ≤ n
      · exact .inr (.inl ⟨p, n, vs, rfl, rfl, q, hne, h2, hz.1, by rw [← h1]; exact hz.2.1, fun p hp => k _ _ m (Step.beside sm hp) (sm.beside hp) (sv_tup (rep_svs r n.toNat) sm hp)⟩)
      · refine .inr (.inr ⟨p, n, vs, rfl, rfl, q, hne, hz.2.2.2, by omega, fun e => ?_, fun e p hp => ?_⟩)
        · subst e
          have z : (List.replicate (1 : Int).toNat xs).flatten = xs := by show (List.replicate 1 xs).flatten = xs; simp
          rw [z] at k
          exact k _ H m sm.refl sm ⟨p, vs, rfl, q, r⟩
        · have z : n.toNat = 0 := by omega
          rw [z] at k
          exact k _ _ m (Step.beside sm hp) (sm.beside hp) (sv_tup (ds := []) (vs := []) rfl sm hp)
    · cases e
  · cases e
end
end DL
set_option Elab.async false
set_option linter.all false
set_option maxRecDepth 100000
set_option maxHeartbeats 2000000
namespace DL
open PySem PySem.Spec PyProof.Rows L2
section
variable {X : Cx} {G : Gx} {W : WX} {a b c : Expr} {fa fb fc : DE} {ga gb gc : DT} {pos : Pos} {rest : List Expr}
/-! ### and, or, not, if -/
def dAndT (ga gb : DT) : DT := fun ρ S => (ga ρ S).bind fun x S1 => if x = true then gb ρ S1 else .ok false S1
def dOrT (ga gb : DT) : DT := fun ρ S => (ga ρ S).bind fun x S1 => if x = true then .ok true S1 else gb ρ S1
def dNotT (ga : DT) : DT := fun ρ S => (ga ρ S).bind fun x S1 => .ok (!x) S1
def dAndV (fa fb : DE) : DE := fun ρ S => (fa ρ S).bind fun x S1 => match x with
  | .bl true => fb ρ S1
  | .bl false => .ok (.bl false) S1
  | _ => .bad
def dOrV (fa fb : DE) : DE := fun ρ S => (fa ρ S).bind fun x S1 => match x with
  | .bl true => .ok (.bl true) S1
  | .bl false => fb ρ S1
  | _ => .bad
def dIf (g : DT) (fa fb : DE) : DE := fun ρ S => (g ρ S).bind fun x S1 => if x = true then fa ρ S1 else fb ρ S1
theorem jw_and1 (ha : JT X G W a ga) : JW X G W (.BoolOp .And [a] pos) ga := pw_and1 ha
theorem jw_or1 (ha : JT X G W a ga) : JW X G W (.BoolOp .Or [a] pos) ga := pw_or1 ha
theorem jw_and (ha : JT X G W a ga) (hb : JW X G W (.BoolOp .And (b :: rest) pos) gb) : JW X G W (.BoolOp .And (a :: b :: rest) pos) (dAndT ga gb) :=
  PW.imp (pw_and ha hb) fun σ H Q ⟨m, ρ, S, sr, sm, eo⟩ => ⟨m, ρ, S, sr, sm, EO.then (rel := eqR) eo fun x S1 v H1 m1 st1 sm1 r1 eo1 => by
    cases r1
    cases x with
    | true => exact ⟨m1, ρ, S1, sr.mono sm st1, sm1, eo1⟩
    | false => exact eo1 false H1 m1 sm1.refl sm1 rfl⟩
theorem jw_or (ha : JT X G W a ga) (hb : JW X G W (.BoolOp .Or (b :: rest) pos) gb) : JW X G W (.BoolOp .Or (a :: b :: rest) pos) (dOrT ga gb) :=
  PW.imp (pw_or ha hb) fun σ H Q ⟨m, ρ, S, sr, sm, eo⟩ => ⟨m, ρ, S, sr, sm, EO.then (rel := eqR) eo fun x S1 v H1 m1 st1 sm1 r1 eo1 => by
    cases r1
    cases x with
    | false => exact ⟨m1, ρ, S1, sr.mono sm st1, sm1, eo1⟩
    | true => exact eo1 true H1 m1 sm1.refl sm1 rfl⟩
theorem jt_of {e : Expr} {g : DT} (h : JW X G W e g) : JT X G W e g := PW.pt h
theorem jt_not (ha : JT X G W a ga) : JT X G W (.UnaryOp .Not a pos) (dNotT ga) :=
  PT.imp (pt_not ha) fun σ H Q ⟨m, ρ, S, sr, sm, eo⟩ => ⟨m, ρ, S, sr, sm, EO.then (rel := eqR) eo fun x S1 v H1 m1 st1 sm1 r1 eo1 => by
    cases r1
    exact eo1 _ H1 m1 sm1.refl sm1 rfl⟩
theorem je_one {op} (h : JE X G W a fa) : JE X G W (.BoolOp op [a] pos) fa := pe_one h
theorem je_and (ha : JE X G W a fa) (hb : JE X G W (.BoolOp .And (b :: rest) pos) fb) : JE X G W (.BoolOp .And (a :: b :: rest) pos) (dAndV fa fb) :=
  PE.imp (pe_and ha hb) fun σ H Q ⟨m, ρ, S, sr, sm, eo⟩ => ⟨m, ρ, S, sr, sm, EO.then (rel := SV X.K) eo fun x S1 v H1 m1 st1 sm1 r1 eo1 => by
    cases x with
    | bl x =>
      cases r1
      cases x with
      | true => exact ⟨true, rfl, ⟨m1, ρ, S1, sr.mono sm st1, sm1, eo1⟩⟩
      | false => exact ⟨false, rfl, eo1 _ H1 m1 sm1.refl sm1 rfl⟩
    | _ => exact eo1.elim⟩
theorem je_or (ha : JE X G W a fa) (hb : JE X G W (.BoolOp .Or (b :: rest) pos) fb) : JE X G W (.BoolOp .Or (a :: b :: rest) pos) (dOrV fa fb) :=
  PE.imp (pe_or ha hb) fun σ H Q ⟨m, ρ, S, sr, sm, eo⟩ => ⟨m, ρ, S, sr, sm, EO.then (rel := SV X.K) eo fun x S1 v H1 m1 st1 sm1 r1 eo1 => by
    cases x with
    | bl x =>
      cases r1
      cases x with
      | false => exact ⟨false, rfl, ⟨m1, ρ, S1, sr.mono sm st1, sm1, eo1⟩⟩
      | true => exact ⟨true, rfl, eo1 _ H1 m1 sm1.refl sm1 rfl⟩
    | _ => exact eo1.elim⟩
theorem je_if {c : Expr} {g : DT} (hc : JT X G W c g) (ha : JE X G W a fa) (hb : JE X G W b fb) : JE X G W (.IfExp c a b pos) (dIf g fa fb) :=
  PE.imp (pe_ifExp hc ha hb) fun σ H Q ⟨m, ρ, S, sr, sm, eo⟩ => ⟨m, ρ, S, sr, sm, EO.then (rel := eqR) eo fun x S1 v H1 m1 st1 sm1 r1 eo1 => by
    cases r1
    cases x with
    | true => exact ⟨m1, ρ, S1, sr.mono sm st1, sm1, eo1⟩
    | false => exact ⟨m1, ρ, S1, sr.mono sm st1, sm1, eo1⟩⟩
/-! ### chains -/
def dChain (g g' : D2) (fa fb fc : DE) : DE := fun ρ S => (fa ρ S).bind fun x S1 => (fb ρ S1).bind fun y S2 => (optO (g x y S2)).bind fun r S3 => match r with
  | .bl true => (fc ρ S3).bind fun z S4 => optO (g' y z S4)
  | .bl false => .ok (.bl false) S3
  | _ => .bad
theorem chain_core {g g' : D2} {σ : L2.St} {H : Hp} {Q : VK} (h : tD X.K G W (dChain g g' fa fb fc) σ H Q) : tChain (OR X.K G g) (OR X.K G g') (tD X.K G W fa) (tD X.K G W fb) (tD X.K G W fc) σ H Q := by
  obtain ⟨m, ρ, S, sr, sm, eo⟩ := h
  refine ⟨m, ρ, S, sr, sm, EO.then (rel := SV X.K) eo fun x S1 v H1 m1 st1 sm1 r1 eo1 => ?_⟩
  refine ⟨m1, ρ, S1, sr.mono sm st1, sm1, EO.then (rel := SV X.K) eo1 fun y S2 u H2 m2 st2 sm2 r2 eo2 => ?_⟩
  cases q : g x y S2 with
  | none => rw [q] at eo2; exact eo2.elim
  | some p =>
    obtain ⟨d, S3⟩ := p
    rw [q] at eo2
    simp only [optO_some, Out.bind_ok] at eo2
    refine ⟨m2, S2, x, y, d, S3, sm2, r1.mono sm1 st2, r2, q, fun w H3 m3 st3 sm3 r3 => ?_⟩
    have eo3 := eo2.step st3
    cases d with
    | bl k =>
      cases r3
      refine ⟨k, rfl, ?_⟩
      cases k with
      | false => exact eo3 _ H3 m3 sm3.refl sm3 rfl
      | true =>
        refine ⟨m3, ρ, S3, (sr.mono sm (st1.trans (st2.trans st3))), sm3, EO.then (rel := SV X.K) eo3 fun z S4 w H4 m4 st4 sm4 r4 eo4 => ?_⟩
        cases q2 : g' y z S4 with
        | none => rw [q2] at eo4; exact eo4.elim
        | some p =>
          obtain ⟨d, S5⟩ := p
          rw [q2] at eo4
          exact ⟨m4, S4, y, z, d, S5, sm4, r2.mono sm2 (st3.trans st4), r4, q2, eo4⟩
    | _ => exact eo3.elim
theorem je_chain {op op' : CmpOp} {g g' : D2} (ho : JOp X G (compareOp op) g) (ho' : JOp X G (compareOp op') g') (ha : JE X G W a fa) (hb : JE X G W b fb) (hc : JE X G W c fc)
    (hm : lastMarks [op, op'] [b, c] = false := by with_unfolding_all rfl) : JE X G W (.Compare a [op, op'] [b, c] pos) (dChain g g' fa fb fc) :=
  PE.imp (pe_chain ho ho' ha hb hc hm) fun σ H Q h => chain_core h
theorem tD_test {f : DE} {σ : L2.St} {H : Hp} {Q : Bool → Hp → Prop} (h : tDT X.K G W (dB f) σ H Q) : tD X.K G W f σ H (fun x H' => ∃ k, x = .bl k ∧ Q k H') := by
  obtain ⟨m, ρ, S, sr, sm, eo⟩ := h
  refine ⟨m, ρ, S, sr, sm, EO.then (rel := SV X.K) eo fun x S1 v H1 m1 st1 sm1 r1 eo1 => ?_⟩
  cases x with
  | bl b => cases r1; exact ⟨b, rfl, eo1 b H1 m1 sm1.refl sm1 rfl⟩
  | _ => exact eo1.elim
theorem jt_chain {op op' : CmpOp} {g g' : D2} (ho : JOp X G (compareOp op) g) (ho' : JOp X G (compareOp op') g') (ha : JE X G W a fa) (hb : JE X G W b fb) (hc : JE X G W c fc)
    (hm : lastMarks [op, op'] [b, c] = false := by with_unfolding_all rfl) : JT X G W (.Compare a [op, op'] [b, c] pos) (dB (dChain g g' fa fb fc)) :=
  PT.imp (pt_chain ho ho' ha hb hc hm) fun σ H Q h => chain_core (tD_test h)
/-! ### arguments, displays -/
def daNil : DA := fun _ S => .ok [] S
def daCons (fa : DE) (fr : DA) : DA := fun ρ S => (fa ρ S).bind fun x S1 => (fr ρ S1).bind fun xs S2 => .ok (x :: xs) S2
variable {e : Expr} {es : List Expr} {fr : DA} {x1 : Nat}
theorem ja_nil : JA X G W [] daNil := PA.imp pa_nil fun σ H Q ⟨m, ρ, S, sr, sm, eo⟩ => eo [] H m sm.refl sm rfl
theorem ja_cons (ha : JE X G W e fa) (hr : JA X G W es fr) (hs : starEach (e :: es) X.env = (false, eval e X.env) :: starEach es X.env := by rfl) : JA X G W (e :: es) (daCons fa fr) :=
  PA.imp (pa_cons ha hr hs) fun σ H Q ⟨m, ρ, S, sr, sm, eo⟩ => ⟨m, ρ, S, sr, sm, EO.then (rel := SV X.K) eo fun x S1 v H1 m1 st1 sm1 r1 eo1 =>
    ⟨m1, ρ, S1, sr.mono sm st1, sm1, EO.then (rel := SVs X.K) eo1 fun y S2 u H2 m2 st2 sm2 r2 eo2 => eo2 (v :: u) H2 m2 sm2.refl sm2 ⟨v, u, rfl, r1.mono sm1 st2, r2⟩⟩⟩
def dTup (fr : DA) : DE := fun ρ S => (fr ρ S).bind fun xs S1 => if xs.length ≤ 1000000 then .ok (.tup xs) S1 else .bad
def dLst (fr : DA) : DE := fun ρ S => (fr ρ S).bind fun xs S1 => if xs.length ≤ 1000000 then .ok (.obj S1.length) (S1 ++ [.lst xs]) else .bad
theorem je_tup (h : JA X G W es fr) : JE X G W (.Tuple es x1 pos) (dTup fr) :=
  PE.imp (pe_tup h) fun σ H Q ⟨m, ρ, S, sr, sm, eo⟩ => ⟨m, ρ, S, sr, sm, EO.then (rel := SVs X.K) eo fun xs S1 vs H1 m1 st1 sm1 r1 eo1 => by
    split at eo1
    · rename_i hz
      exact ⟨by rw [← r1.len]; exact size6 hz, fun p hp => eo1 _ _ m1 (Step.beside sm1 hp) (sm1.beside hp) (sv_tup r1 sm1 hp)⟩
    · exact eo1.elim⟩
theorem je_lst (h : JA X G W es fr) : JE X G W (.List es pos) (dLst fr) :=
  PE.imp (pe_lst h) fun σ H Q ⟨m, ρ, S, sr, sm, eo⟩ => ⟨m, ρ, S, sr, sm, EO.then (rel := SVs X.K) eo fun xs S1 vs H1 m1 st1 sm1 r1 eo1 => by
    split at eo1
    · rename_i hz
      exact ⟨by rw [← r1.len]; exact size6 hz, fun p hp => eo1 _ _ (m1 ++ [p]) (Step.new sm1 hp) (sim_lst r1 sm1 hp) (sv_new sm1)⟩
    · exact eo1.elim⟩
/-! ### a[i] -/
def ixD : D2 := fun x i S => match seqAt S x, i with
  | some xs, .int k => (atI xs k).map fun d => (d, S)
  | _, _ => none
theorem atI_svs {K : PySem.W.Frag} {m : List Addr} {H : Hp} {xs : List D} {vs : List V} (h : SVs K m H xs vs) {k : Int} {d : D} (e : atI xs k = some d) : ∃ v, atI vs k = some v ∧ SV K m H d v := by
  unfold atI at e ⊢
  rw [← h.len]
  cases q : ixN xs.length k with
  | none => rw [q] at e; cases e
  | some j =>
    rw [q] at e
    exact h.get (show xs[j]? = some d from e)
theorem ix_any : IxR X (fun x y H Q => ∃ p xs i v, x = .ref p ∧ y = .int i ∧ (SqL X.K H p xs ∨ SqT X.K H p xs) ∧ atI xs i = some v ∧ Q v H) := by
  intro value slice pins s σ H x y v u Q I rx ry h hs
  obtain ⟨p, xs, i, z, e1, e2, hq, he, q⟩ := h
  rcases hq with hq | hq
  · exact ix_list value slice pins s σ H x y v u Q I rx ry ⟨p, xs, i, z, e1, e2, hq, he, q⟩ hs
  · exact ix_tup value slice pins s σ H x y v u Q I rx ry ⟨p, xs, i, z, e1, e2, hq, he, q⟩ hs
theorem je_ix (ha : JE X G W a fa) (hb : JE X G W b fb) (hs : PlainIx b := by exact (fun _ _ => rfl)) : JE X G W (.Subscript a b pos) (dOp ixD fa fb) :=
  PE.imp (pe_ix ix_any ha hb hs) fun σ H Q ⟨m, ρ, S, sr, sm, eo⟩ =>
    ⟨m, ρ, S, sr, sm, eo.then fun x S1 v H1 m1 st1 sm1 r1 eo1 => ⟨m1, ρ, S1, sr.mono sm st1, sm1, eo1.then fun y S2 u H2 m2 st2 sm2 r2 eo2 => by
      unfold ixD at eo2
      split at eo2
      · rename_i xs k e1
        obtain ⟨p, vs, rfl, sv, sq⟩ := seqAt_ok sm2 e1 (r1.mono sm1 st2)
        cases r2
        cases q : atI xs k with
        | none => rw [q] at eo2; exact eo2.elim
        | some d =>
          rw [q] at eo2
          obtain ⟨w, h1, h2⟩ := atI_svs sv q
          exact ⟨p, vs, k, w, rfl, rfl, sq, h1, eo2 _ H2 m2 sm2.refl sm2 h2⟩
      · exact eo2.elim⟩⟩
/-! ### a[lo:hi] -/
abbrev DP := DEnv → Store → Out (Option Int)
def dpNone : DP := fun _ S => .ok none S
def dpSome (f : DE) : DP := fun ρ S => (f ρ S).bind fun x S1 => match x with
  | .int i => .ok (some i) S1
  | _ => .bad
def tDP (K : PySem.W.Frag) (G : Gx) (W : WX) (f : DP) : TO := fun σ H Q => ∃ m ρ S, SR K m H ρ σ ∧ Sim K G m S H ∧ EO K G eqR Q (fun c d H' => W c d σ H') m H (f ρ S)
abbrev JP (X : Cx) (G : Gx) (W : WX) (e : Option Expr) (f : DP) : Prop := PO X e (tDP X.K G W f)
theorem PO.imp {e : Option Expr} {t t' : TO} (h : PO X e t) (f : ∀ σ H Q, t' σ H Q → t σ H Q) : PO X e t' := ⟨fun pins s σ H Q I q => h.run pins s σ H Q I (f σ H Q q)⟩
theorem jp_none : JP X G W none dpNone := PO.imp po_none fun σ H Q ⟨m, ρ, S, sr, sm, eo⟩ => eo none H m sm.refl sm rfl
theorem jp_some (h : JE X G W e fa) : JP X G W (some e) (dpSome fa) := PO.imp (po_some h) fun σ H Q ⟨m, ρ, S, sr, sm, eo⟩ => ⟨m, ρ, S, sr, sm, EO.then (rel := SV X.K) eo fun x S1 v H1 m1 st1 sm1 r1 eo1 => by
  cases x with
  | int i => cases r1; exact ⟨i, rfl, eo1 _ H1 m1 sm1.refl sm1 rfl⟩
  | _ => exact eo1.elim⟩
def cutD {α : Type} (xs : List α) (lo hi : Option Int) : List α := (xs.drop (HT.sIx xs.length 0 lo)).take (HT.sIx xs.length xs.length hi - HT.sIx xs.length 0 lo)
theorem cut_svs {K : PySem.W.Frag} {m : List Addr} {H : Hp} {xs : List D} {vs : List V} (h : SVs K m H xs vs) (lo hi : Option Int) : SVs K m H (cutD xs lo hi) (cutV vs lo hi) := by
  unfold cutD cutV
  rw [h.len]
  exact (h.drop _).take _
/-- a slice of a list (a new list), of a tuple, of a text -/
def sliceD (x : D) (lo hi : Option Int) (S : Store) : Option (D × Store) := match x with
  | .obj n => (lstAt S n).map fun xs => newO (.lst (cutD xs lo hi)) S
  | .fl xs => some (newO (.lst (cutD xs lo hi)) S)
  | .tup xs => some (.tup (cutD xs lo hi), S)
  | .str z => if z.length ≤ 1000000 then some (.str (cutS z lo hi), S) else none
  | _ => none
def dSl (fa : DE) (fl fh : DP) : DE := fun ρ S => (fa ρ S).bind fun x S1 => (fl ρ S1).bind fun l S2 => (fh ρ S2).bind fun h S3 => optO (sliceD x l h S3)
theorem sl_any : SlR X (fun x lo hi H Q => rSlL X.K x lo hi H Q ∨ rSlA X.K x lo hi H Q ∨ (∃ z, x = .str z ∧ z.length ≤ sizeLine ∧ Q (.str (cutS z lo hi)) H)) := by
  intro pins s σ H x v vl vu lo hi sl Q I rx hs pl pu h
  rcases h with h | h | h
  · exact sl_list pins s σ H x v vl vu lo hi sl Q I rx hs pl pu h
  · exact sl_tupA pins s σ H x v vl vu lo hi sl Q I rx hs pl pu h
  · exact sl_str pins s σ H x v vl vu lo hi sl Q I rx hs pl pu h
theorem je_slice {lo hi : Option Expr} {fl fh : DP} {p2 : Pos} (he : JE X G W e fa) (hl : JP X G W lo fl) (hu : JP X G W hi fh) : JE X G W (.Subscript e (.Slice lo hi none p2) pos) (dSl fa fl fh) :=
  PE.imp (pe_slice sl_any he hl hu) fun σ H Q ⟨m, ρ, S, sr, sm, eo⟩ => ⟨m, ρ, S, sr, sm, EO.then (rel := SV X.K) eo fun x S1 v H1 m1 st1 sm1 r1 eo1 =>
    ⟨m1, ρ, S1, sr.mono sm st1, sm1, EO.then (rel := eqR) eo1 fun l S2 l' H2 m2 st2 sm2 r2 eo2 => ⟨m2, ρ, S2, sr.mono sm (st1.trans st2), sm2, EO.then (rel := eqR) eo2 fun h S3 h' H3 m3 st3 sm3 r3 eo3 => by
      cases r2; cases r3
      have r1 := r1.mono sm1 (st2.trans st3)
      cases x with
      | obj n =>
        unfold sliceD at eo3
        dsimp only at eo3
        cases q : lstAt S3 n with
        | none => rw [q] at eo3; exact eo3.elim
        | some xs =>
          rw [q] at eo3
          obtain ⟨a, rfl, hm⟩ := r1
          obtain ⟨a', vs, h1, h2, h3⟩ := lstAt_ok sm3 q
          rw [hm] at h1; cases h1
          exact .inl ⟨a, vs, rfl, SqL.of h2, fun p hp => eo3 _ _ (m3 ++ [p]) (Step.new sm3 hp) (sim_lst (cut_svs h3 l h) sm3 hp) (sv_new sm3)⟩
      | fl xs =>
        obtain ⟨a, vs, rfl, hq, hs⟩ := r1
        exact .inl ⟨a, vs, rfl, hq.l, fun p hp => eo3 _ _ (m3 ++ [p]) (Step.new sm3 hp) (sim_lst (cut_svs hs l h) sm3 hp) (sv_new sm3)⟩
      | tup xs =>
        obtain ⟨a, vs, rfl, hq, hs⟩ := r1
        refine .inr (.inl ⟨a, vs, rfl, hq, fun hh => ?_, fun _ p hp => eo3 _ _ m3 (Step.beside sm3 hp) (sm3.beside hp) (sv_tup (cut_svs hs l h) sm3 hp)⟩)
        have e : cutD xs l h = xs := by
          unfold cutD
          rw [hs.len, hh.1, hh.2, List.drop_zero, Nat.sub_zero, ← hs.len, List.take_length]
        have eo4 : EO X.K G (SV X.K) Q (fun c d H' => W c d σ H') m3 H3 (.ok (.tup (cutD xs l h)) S3) := eo3
        rw [e] at eo4
        exact eo4 _ H3 m3 sm3.refl sm3 ⟨a, vs, rfl, hq, hs⟩
      | str z =>
        cases r1
        unfold sliceD at eo3
        dsimp only at eo3
        split at eo3
        · rename_i hz
          exact .inr (.inr ⟨z, rfl, size6 hz, eo3 _ H3 m3 sm3.refl sm3 rfl⟩)
        · exact eo3.elim
      | _ => exact eo3.elim⟩⟩⟩
/-! ### o.f -/
def insAt (S : Store) : D → Option (String × List (Str × D))
  | .obj n => match S[n]? with
    | some (.ins c fs) => some (c, fs)
    | _ => none
  | _ => none
theorem insAt_ok {K : PySem.W.Frag} {m : List Addr} {S : Store} {H : Hp} (s : Sim K G m S H) {d : D} {v : V} {c : String} {fs : List (Str × D)} (h : insAt S d = some (c, fs)) (r : SV K m H d v) :
    ∃ n p dx vfs, d = .obj n ∧ v = .ref p ∧ m[n]? = some p ∧ H p = some (.ins (G.cA c) dx vfs) ∧ SF K m H fs vfs := by
  cases d with
  | obj n =>
    unfold insAt at h
    dsimp only at h
    split at h
    · rename_i c' fs' e
      cases h
      obtain ⟨a, e1, hm⟩ := r
      obtain ⟨dx, vfs, h1, h2⟩ := s.at_ n _ a e hm
      exact ⟨n, a, dx, vfs, rfl, e1, hm, h1, h2⟩
    · cases h
  | _ => cases h
def dFld (cs : List String) (f : Str) (fa : DE) : DE := fun ρ S => (fa ρ S).bind fun x S1 => match insAt S1 x with
  | some (c, fs) => if c ∈ cs then (match fs.lookup f with
    | some d => .ok d S1
    | none => .bad) else .bad
  | none => .bad
theorem je_fld {cs : List String} {f : Str} (hC : ∀ c ∈ cs, Cls X.K (G.cA c) ∧ NoAttr X.K (G.cA c) f) (he : JE X G W e fa) (hb : attributeBase e f X.env (eval e X.env) = eval e X.env := by rfl) : JE X G W (.Attribute e f pos) (dFld cs f fa) :=
  PE.imp (pe_fld he hb) fun σ H Q ⟨m, ρ, S, sr, sm, eo⟩ => ⟨m, ρ, S, sr, sm, EO.then (rel := SV X.K) eo fun x S1 v H1 m1 st1 sm1 r1 eo1 => by
    split at eo1
    · rename_i c fs e1
      split at eo1
      · rename_i hc
        split at eo1
        · rename_i d e2
          obtain ⟨n, p, dx, vfs, rfl, rfl, hm, ho, hf⟩ := insAt_ok sm1 e1 r1
          obtain ⟨w, h1, h2⟩ := hf.look e2
          exact ⟨p, G.cA c, dx, vfs, w, rfl, ho, (hC c hc).1, (hC c hc).2, h1, eo1 _ H1 m1 sm1.refl sm1 h2⟩
        · exact eo1.elim
      · exact eo1.elim
    · exact eo1.elim⟩
end
end DL
set_option Elab.async false
set_option linter.all false
set_option maxRecDepth 100000
set_option maxHeartbeats 2000000
namespace DL
open PySem PySem.Spec PyProof.Rows L2
/-! ### calls where what is raised is wished for at the caller's slots -/
section
variable {X : Cx} {CX : CXT} {k : Nat} {f C : Addr} {fd : FuncData} {ps : List Str} {sp : Sp} {E : L2.St → XK} {x m : Str} {p pos apos : Pos} {e o : Expr} {es : List Expr} {ta : TE} {t : TA}
theorem pe_callS0 (F : FnOk X.prog X.w X.K X.mg X.base CX k f fd ps sp) (hr : Room k X.A) (hg : Gl X x) (hm : X.mg x = some (.ref f)) (hk : PySem.W.keepIn X.K (.ref f) = true) (hb : Binds X.K fd ps []) (hx : ∀ σ, PassesAt CX X σ (E σ))
    (hdb : (x == ("__debug__" : Str)) = false := by decide) : PE X (.Call (.Name x p) [] [] pos) (fun σ H Q => sp [] H Q (E σ)) := by
  refine ⟨fun pins s σ H Q I h => ?_⟩
  refine wpAny_Call_Name_kw (ld_glob I hg hm ?_ hdb)
  exact PySem.W.callWith_K0 I.kIn hk (run_fnS (us := []) F hr hb (hx σ) I .nil h)
def tMethS (C : Addr) (m : Str) (sp : Sp) (E : L2.St → XK) (ta : TE) (t : TA) : TE := fun σ H Q => ta σ H fun x H1 => ∃ a dx fs, x = .ref a ∧ H1 a = some (.ins C dx fs) ∧ fs.lookup m = none ∧
  t σ H1 fun vs H2 => sp (x :: vs) H2 Q (E σ)
theorem pe_methS {pl : Sem Bool} (he : PE X o ta) (c : Cls X.K C) (hm : Meth X.K C m f) (F : FnOk X.prog X.w X.K X.mg X.base CX k f fd ps sp) (hr : Room k X.A) (hb : Binds X.K fd ps []) (hx : ∀ σ, PassesAt CX X σ (E σ)) (ha : PA X (e :: es) t)
    (hst : starEach (e :: es) X.env = (false, eval e X.env) :: starEach es X.env := by rfl) (hpl : (backTo pos (starEach es X.env)).any (·.1) = false := by rfl)
    (ht : eval (.Call (.Attribute o m apos) (e :: es) [] pos) X.env = (do
      let ov ← eval o X.env
      standAt apos.atName
      let (f, first) ← holding [ov] (getMethod ov m pl)
      callWith pos f first (backTo pos (starEach (e :: es) X.env)) (backToKw pos (keywordEach [] X.env))) := by rfl) :
    PE X (.Call (.Attribute o m apos) (e :: es) [] pos) (tMethS C m sp E ta t) := by
  refine ⟨fun pins s σ H Q I h => ?_⟩
  refine PySem.W.methodCall_KW (pl := pl) (thn (he.run pins s σ H _ I h) fun u s1 ⟨x, H1, I1, rx, a, dx, fs, ex, ea, l, q⟩ => ?_) ht
  subst ex
  obtain rfl : u = Value.ref a := rx
  refine getmeth_ok I1 ea c hm l ?_
  refine PySem.W.callWith_K (first := [.ref a]) (h₀ := X.base) I.ok.mod.kin hm.kp (thn (ha.run pos pins s1 σ H1 _ I1 q) fun us s2 ⟨vs, H2, I2, r, q2⟩ => ⟨I2.kIn, ?_⟩) hst hpl
  exact run_fnS (us := .ref a :: us) (vs := .ref a :: vs) F hr hb (hx σ) I2 (.cons rfl r) q2
theorem pe_methS0 {pl : Sem Bool} (he : PE X o ta) (c : Cls X.K C) (hm : Meth X.K C m f) (F : FnOk X.prog X.w X.K X.mg X.base CX k f fd ps sp) (hr : Room k X.A) (hb : Binds X.K fd ps []) (hx : ∀ σ, PassesAt CX X σ (E σ))
    (ht : eval (.Call (.Attribute o m apos) [] [] pos) X.env = (do
      let ov ← eval o X.env
      standAt apos.atName
      let (f, first) ← holding [ov] (getMethod ov m pl)
      callWith pos f first (backTo pos (starEach [] X.env)) (backToKw pos (keywordEach [] X.env))) := by rfl) :
    PE X (.Call (.Attribute o m apos) [] [] pos) (tMethS C m sp E ta tNil) := by
  refine ⟨fun pins s σ H Q I h => ?_⟩
  refine PySem.W.methodCall_KW (pl := pl) (thn (he.run pins s σ H _ I h) fun u s1 ⟨x, H1, I1, rx, a, dx, fs, ex, ea, l, q⟩ => ?_) ht
  subst ex
  obtain rfl : u = Value.ref a := rx
  refine getmeth_ok I1 ea c hm l ?_
  exact PySem.W.callWith_K0 (first := [.ref a]) I1.kIn hm.kp (run_fnS (us := [.ref a]) (vs := [.ref a]) F hr hb (hx σ) I1 (.cons rfl .nil) q)
theorem run_makeS {pins : List (Addr × Obj)} {σ : L2.St} {H : Hp} {s : Shared} {Q : VK} {us : List Value} {vs : List V} (M : Mk X.K C f) (F : FnOk X.prog X.w X.K X.mg X.base CX k f fd ps sp) (hr : Room (k + 1) X.A) (hb : Binds X.K fd ps [])
    (hx : PassesAt CX X σ (E σ)) (I : Inv X pins σ H s) (r : Vals vs us)
    (h : ∀ x dx, H x = none → H dx = none → dx ≠ x → sp (.ref x :: vs) (upd (upd H dx (.own x)) x (.ins C dx [])) (fun v H2 => v = .non ∧ Q (.ref x) H2) (E σ)) :
    wpAny (model X.prog X.w) X.A (call (.ref C) us) (EP X pins σ Q) X.xe s := by
  have hq := h (s.heap.objs.size + 1) s.heap.objs.size (I.hok.fresh (Nat.le_succ _)) (I.hok.fresh (Nat.le_refl _)) (Nat.ne_of_lt (Nat.lt_succ_self _))
  have I2 := Inv.made (C := C) I
  have r2 : Vals (V.ref (s.heap.objs.size + 1) :: vs) (Value.ref (s.heap.objs.size + 1) :: us) := .cons rfl r
  have hl : (Value.ref (s.heap.objs.size + 1) :: us ++ []).length = ps.length := by
    have e := r2.length
    rw [F.len _ _ _ _ hq] at e
    rw [List.append_nil]
    exact e.symm
  have b := hb ⟨_, _, _, _, _⟩ (Value.ref (s.heap.objs.size + 1) :: us) I2.kIn hl
  rw [List.append_nil] at b
  refine wpAny_call (make_map (f := f) I.kIn M.makes M.init (beq_iff_eq.mp M.fn) (codeAny_mono (F.run _ X.stack _ _ ⟨Value.ref (s.heap.objs.size + 1) :: us, []⟩ (Value.ref (s.heap.objs.size + 1) :: us) _ _ (E σ) (hr.make C us [])
    (I2.env0.make C us []) b r2 hq) fun r s' hq' => ?_))
  cases r with
  | error e => exact hx pins _ _ e s' I2 hq'
  | ok fl =>
    cases fl with
    | ret u =>
      obtain ⟨v, H', I3, rv, ev, q3⟩ := I2.after hq'
      subst ev
      exact ⟨rv, ⟨V.ref (s.heap.objs.size + 1), H', I3, rfl, q3⟩⟩
    | next => exact False.elim hq'
    | brk => exact False.elim hq'
    | cont => exact False.elim hq'
def tMakeS (C : Addr) (sp : Sp) (E : L2.St → XK) (t : TA) : TE := fun σ H Q => t σ H fun vs H1 => ∀ x dx, H1 x = none → H1 dx = none → dx ≠ x →
  sp (.ref x :: vs) (upd (upd H1 dx (.own x)) x (.ins C dx [])) (fun v H2 => v = .non ∧ Q (.ref x) H2) (E σ)
theorem pe_makeS (M : Mk X.K C f) (F : FnOk X.prog X.w X.K X.mg X.base CX k f fd ps sp) (hr : Room (k + 1) X.A) (hg : Gl X x) (hm : X.mg x = some (.ref C)) (hb : Binds X.K fd ps []) (hx : ∀ σ, PassesAt CX X σ (E σ))
    (ha : PA X (e :: es) t) (hdb : (x == ("__debug__" : Str)) = false := by decide) (he : starEach (e :: es) X.env = (false, eval e X.env) :: starEach es X.env := by rfl) (hpl : (backTo pos (starEach es X.env)).any (·.1) = false := by rfl) :
    PE X (.Call (.Name x p) (e :: es) [] pos) (tMakeS C sp E t) := by
  refine ⟨fun pins s σ H Q I h => ?_⟩
  refine wpAny_Call_Name_kw (ld_glob I hg hm ?_ hdb)
  refine PySem.W.callWith_K (h₀ := X.base) I.ok.mod.kin M.kp (thn (ha.run pos pins s σ H _ I h) fun us s1 ⟨vs, H1, I1, r, q⟩ => ⟨I1.kIn, ?_⟩) he hpl
  exact run_makeS M F hr hb (hx σ) I1 r q
theorem pe_makeS0 (M : Mk X.K C f) (F : FnOk X.prog X.w X.K X.mg X.base CX k f fd ps sp) (hr : Room (k + 1) X.A) (hg : Gl X x) (hm : X.mg x = some (.ref C)) (hb : Binds X.K fd ps []) (hx : ∀ σ, PassesAt CX X σ (E σ))
    (hdb : (x == ("__debug__" : Str)) = false := by decide) : PE X (.Call (.Name x p) [] [] pos) (tMakeS C sp E tNil) := by
  refine ⟨fun pins s σ H Q I h => ?_⟩
  refine wpAny_Call_Name_kw (ld_glob I hg hm ?_ hdb)
  exact PySem.W.callWith_K0 I.kIn M.kp (run_makeS (us := []) M F hr hb (hx σ) I .nil h)
end
/-! ### a def that denotes a function -/
abbrev DF := List D → Store → Out D
def spD (K : PySem.W.Frag) (G : Gx) (n : Nat) (F : DF) : Sp := fun vs H Q E => ∃ m ds S, ds.length = n ∧ SVs K m H ds vs ∧ Sim K G m S H ∧ EO K G (SV K) Q E m H (F ds S)
/-- the def at f, of n parameters, denotes F (level k) -/
structure FnD (P : Program) (w : World) (K : PySem.W.Frag) (mg : Str → Option Value) (base : Heap) (G : Gx) (k : Nat) (f : Addr) (n : Nat) (F : DF) : Prop where
  ex : ∃ fd ps, FnOk P w K mg base (L2.CX P w) k f fd ps (spD K G n F) ∧ Binds K fd ps []
  kp : PySem.W.keepIn K (.ref f) = true
/-- F refines F' : where F is not bad they agree -/
def Refines (F F' : DF) : Prop := ∀ ds S, F ds S = .bad ∨ F ds S = F' ds S
theorem FnD.refine {P : Program} {w : World} {K : PySem.W.Frag} {mg : Str → Option Value} {base : Heap} {G : Gx} {k : Nat} {f : Addr} {n : Nat} {F F' : DF} (h : FnD P w K mg base G k f n F') (r : ∀ ds S, ds.length = n → F ds S = .bad ∨ F' ds S = F ds S) : FnD P w K mg base G k f n F := by
  obtain ⟨⟨fd, ps, ok, b⟩, kp⟩ := h
  refine ⟨⟨fd, ps, ok.imp fun vs H Q E ⟨m, ds, S, hl, sv, sm, eo⟩ => ⟨m, ds, S, hl, sv, sm, ?_⟩, b⟩, kp⟩
  rcases r ds S hl with e | e
  · rw [e] at eo; exact eo.elim
  · rw [e]; exact eo
theorem FnD.mono {P : Program} {w : World} {K : PySem.W.Frag} {mg : Str → Option Value} {base : Heap} {G : Gx} {j k : Nat} {f : Addr} {n : Nat} {F : DF} (h : FnD P w K mg base G j f n F) (hk : j ≤ k) : FnD P w K mg base G k f n F := by
  obtain ⟨⟨fd, ps, ok, b⟩, kp⟩ := h
  exact ⟨⟨fd, ps, ok.mono hk, b⟩, kp⟩
def dCall (n : Nat) (F : DF) (fr : DA) : DE := fun ρ S => (fr ρ S).bind fun ds S1 => if ds.length = n then F ds S1 else .bad
def dMeth (c : String) (mt : Str) (n : Nat) (F : DF) (fo : DE) (fr : DA) : DE := fun ρ S => (fo ρ S).bind fun x S1 => match insAt S1 x with
  | some (c', fs) => if c' = c ∧ fs.lookup mt = none then (fr ρ S1).bind fun ds S2 => if ds.length + 1 = n then F (x :: ds) S2 else .bad else .bad
  | none => .bad
def dMake (c : String) (n : Nat) (F : DF) (fr : DA) : DE := fun ρ S => (fr ρ S).bind fun ds S1 => if ds.length + 1 = n then (F (.obj S1.length :: ds) (S1 ++ [.ins c []])).bind fun r S2 => (match r with
  | .non => .ok (.obj S1.length) S2
  | _ => .bad) else .bad
section
variable {X : Cx} {G : Gx} {W : WX} {k n : Nat} {f : Addr} {F : DF} {x mt : Str} {c : String} {p pos apos : Pos} {e o : Expr} {es : List Expr} {fo : DE} {fr : DA}
theorem je_call (h : FnD X.prog X.w X.K X.mg X.base G k f n F) (tk : Takes X W) (hr : Room k X.A) (hm : X.mg x = some (.ref f)) (ha : JA X G W (e :: es) fr) (hg : Gl X x := by rfl) (hdb : (x == ("__debug__" : Str)) = false := by decide)
    (he : starEach (e :: es) X.env = (false, eval e X.env) :: starEach es X.env := by rfl) (hpl : (backTo pos (starEach es X.env)).any (·.1) = false := by rfl) : JE X G W (.Call (.Name x p) (e :: es) [] pos) (dCall n F fr) := by
  obtain ⟨⟨fd, ps, ok, b⟩, kp⟩ := h
  refine PE.imp (pe_callS ok hr hg hm kp b (fun σ => passAt tk σ) ha hdb he hpl) fun σ H Q ⟨m, ρ, S, sr, sm, eo⟩ => ⟨m, ρ, S, sr, sm, EO.then (rel := SVs X.K) eo fun ds S1 vs H1 m1 st1 sm1 r1 eo1 => ?_⟩
  split at eo1
  · rename_i hl
    exact ⟨m1, ds, S1, hl, r1, sm1, eo1⟩
  · exact eo1.elim
theorem je_call0 (h : FnD X.prog X.w X.K X.mg X.base G k f n F) (tk : Takes X W) (hr : Room k X.A) (hm : X.mg x = some (.ref f)) (hg : Gl X x := by rfl) (hdb : (x == ("__debug__" : Str)) = false := by decide) : JE X G W (.Call (.Name x p) [] [] pos) (dCall n F daNil) := by
  obtain ⟨⟨fd, ps, ok, b⟩, kp⟩ := h
  refine PE.imp (pe_callS0 ok hr hg hm kp b (fun σ => passAt tk σ) hdb) fun σ H Q ⟨m, ρ, S, sr, sm, eo⟩ => ?_
  have eo1 : EO X.K G (SV X.K) Q (fun c d H' => W c d σ H') m H (if ([] : List D).length = n then F [] S else .bad) := eo
  split at eo1
  · rename_i hl
    exact ⟨m, [], S, hl, rfl, sm, eo1⟩
  · exact eo1.elim
theorem je_meth {pl : Sem Bool} (h : FnD X.prog X.w X.K X.mg X.base G k f n F) (tk : Takes X W) (hr : Room k X.A) (hc : Cls X.K (G.cA c)) (hm : Meth X.K (G.cA c) mt f) (ho : JE X G W o fo) (ha : JA X G W (e :: es) fr)
    (hst : starEach (e :: es) X.env = (false, eval e X.env) :: starEach es X.env := by rfl) (hpl : (backTo pos (starEach es X.env)).any (·.1) = false := by rfl)
    (ht : eval (.Call (.Attribute o mt apos) (e :: es) [] pos) X.env = (do
      let ov ← eval o X.env
      standAt apos.atName
      let (f, first) ← holding [ov] (getMethod ov mt pl)
      callWith pos f first (backTo pos (starEach (e :: es) X.env)) (backToKw pos (keywordEach [] X.env))) := by rfl) : JE X G W (.Call (.Attribute o mt apos) (e :: es) [] pos) (dMeth c mt n F fo fr) := by
  obtain ⟨⟨fd, ps, ok, b⟩, kp⟩ := h
  refine PE.imp (pe_methS ho hc hm ok hr b (fun σ => passAt tk σ) ha hst hpl ht) fun σ H Q ⟨m, ρ, S, sr, sm, eo⟩ => ⟨m, ρ, S, sr, sm, EO.then (rel := SV X.K) eo fun x S1 v H1 m1 st1 sm1 r1 eo1 => ?_⟩
  split at eo1
  · rename_i c' fs e1
    split at eo1
    · rename_i hcc
      obtain ⟨rfl, hl⟩ := hcc
      obtain ⟨j, q, dx, vfs, rfl, rfl, hmm, hoo, hf⟩ := insAt_ok sm1 e1 r1
      refine ⟨q, dx, vfs, rfl, hoo, hf.lookN hl, m1, ρ, S1, sr.mono sm st1, sm1, EO.then (rel := SVs X.K) eo1 fun ds S2 vs H2 m2 st2 sm2 r2 eo2 => ?_⟩
      split at eo2
      · rename_i hl2
        exact ⟨m2, .obj j :: ds, S2, by simpa using hl2, ⟨_, _, rfl, r1.mono sm1 st2, r2⟩, sm2, eo2⟩
      · exact eo2.elim
    · exact eo1.elim
  · exact eo1.elim
theorem je_meth0 {pl : Sem Bool} (h : FnD X.prog X.w X.K X.mg X.base G k f n F) (tk : Takes X W) (hr : Room k X.A) (hc : Cls X.K (G.cA c)) (hm : Meth X.K (G.cA c) mt f) (ho : JE X G W o fo)
    (ht : eval (.Call (.Attribute o mt apos) [] [] pos) X.env = (do
      let ov ← eval o X.env
      standAt apos.atName
      let (f, first) ← holding [ov] (getMethod ov mt pl)
      callWith pos f first (backTo pos (starEach [] X.env)) (backToKw pos (keywordEach [] X.env))) := by rfl) : JE X G W (.Call (.Attribute o mt apos) [] [] pos) (dMeth c mt n F fo daNil) := by
  obtain ⟨⟨fd, ps, ok, b⟩, kp⟩ := h
  refine PE.imp (pe_methS0 ho hc hm ok hr b (fun σ => passAt tk σ) ht) fun σ H Q ⟨m, ρ, S, sr, sm, eo⟩ => ⟨m, ρ, S, sr, sm, EO.then (rel := SV X.K) eo fun x S1 v H1 m1 st1 sm1 r1 eo1 => ?_⟩
  split at eo1
  · rename_i c' fs e1
    split at eo1
    · rename_i hcc
      obtain ⟨rfl, hl⟩ := hcc
      obtain ⟨j, q, dx, vfs, rfl, rfl, hmm, hoo, hf⟩ := insAt_ok sm1 e1 r1
      refine ⟨q, dx, vfs, rfl, hoo, hf.lookN hl, ?_⟩
      have eo2 : EO X.K G (SV X.K) Q (fun c d H' => W c d σ H') m1 H1 (if ([] : List D).length + 1 = n then F (.obj j :: []) S1 else .bad) := eo1
      split at eo2
      · rename_i hl2
        exact ⟨m1, [.obj j], S1, by simpa using hl2, ⟨_, _, rfl, r1, rfl⟩, sm1, eo2⟩
      · exact eo2.elim
    · exact eo1.elim
  · exact eo1.elim
/-- a new instance stands in the store -/
theorem made_step {K : PySem.W.Frag} {m : List Addr} {S : Store} {H : Hp} (sm : Sim K G m S H) {y dx : Addr} (hy : H y = none) (hd : H dx = none) (ne : dx ≠ y) :
    Step m H (m ++ [y]) (upd (upd H dx (.own y)) y (.ins (G.cA c) dx [])) ∧ Sim K G (m ++ [y]) (S ++ [.ins c []]) (upd (upd H dx (.own y)) y (.ins (G.cA c) dx [])) := by
  have st1 : Step m H m (upd H dx (.own y)) := Step.beside sm hd
  have sm1 : Sim K G m S (upd H dx (.own y)) := sm.beside hd
  have hy1 : upd H dx (.own y) y = none := by rw [upd_ne (Ne.symm ne)]; exact hy
  exact ⟨st1.trans (Step.new sm1 hy1), sm1.new hy1 ⟨dx, [], upd_same, rfl⟩⟩
theorem make_core {σ : L2.St} {Q : VK} {m : List Addr} {S : Store} {H : Hp} {ds : List D} {vs : List V} (sm : Sim X.K G m S H) (r : SVs X.K m H ds vs)
    (eo : EO X.K G (SV X.K) Q (fun c d H' => W c d σ H') m H (if ds.length + 1 = n then (F (.obj S.length :: ds) (S ++ [.ins c []])).bind fun r S2 => (match r with
      | .non => .ok (.obj S.length) S2
      | _ => .bad) else .bad)) : ∀ y dx, H y = none → H dx = none → dx ≠ y → spD X.K G n F (.ref y :: vs) (upd (upd H dx (.own y)) y (.ins (G.cA c) dx [])) (fun v H2 => v = .non ∧ Q (.ref y) H2) (WE W σ) := by
  intro y dx hy hd ne
  split at eo
  · rename_i hl
    obtain ⟨st1, sm1⟩ := made_step (c := c) sm hy hd ne
    refine ⟨m ++ [y], .obj S.length :: ds, S ++ [.ins c []], by simpa using hl, ⟨_, _, rfl, sv_new sm, r.mono sm st1⟩, sm1, EO.then (rel := SV X.K) (eo.step st1) fun d S2 v H2 m2 st2 sm2 r2 eo2 => ?_⟩
    cases d with
    | non =>
      cases r2
      refine ⟨rfl, eo2 _ H2 m2 sm2.refl sm2 ⟨y, rfl, st2.get ?_⟩⟩
      rw [← sm.len]; simp
    | _ => exact eo2.elim
  · exact eo.elim
theorem je_make (h : FnD X.prog X.w X.K X.mg X.base G k f n F) (M : Mk X.K (G.cA c) f) (tk : Takes X W) (hr : Room (k + 1) X.A) (hm : X.mg x = some (.ref (G.cA c))) (ha : JA X G W (e :: es) fr) (hg : Gl X x := by rfl) (hdb : (x == ("__debug__" : Str)) = false := by decide)
    (he : starEach (e :: es) X.env = (false, eval e X.env) :: starEach es X.env := by rfl) (hpl : (backTo pos (starEach es X.env)).any (·.1) = false := by rfl) : JE X G W (.Call (.Name x p) (e :: es) [] pos) (dMake c n F fr) := by
  obtain ⟨⟨fd, ps, ok, b⟩, kp⟩ := h
  exact PE.imp (pe_makeS M ok hr hg hm b (fun σ => passAt tk σ) ha hdb he hpl) fun σ H Q ⟨m, ρ, S, sr, sm, eo⟩ => ⟨m, ρ, S, sr, sm, EO.then (rel := SVs X.K) eo fun ds S1 vs H1 m1 st1 sm1 r1 eo1 => make_core sm1 r1 eo1⟩
theorem je_make0 (h : FnD X.prog X.w X.K X.mg X.base G k f n F) (M : Mk X.K (G.cA c) f) (tk : Takes X W) (hr : Room (k + 1) X.A) (hm : X.mg x = some (.ref (G.cA c))) (hg : Gl X x := by rfl) (hdb : (x == ("__debug__" : Str)) = false := by decide) : JE X G W (.Call (.Name x p) [] [] pos) (dMake c n F daNil) := by
  obtain ⟨⟨fd, ps, ok, b⟩, kp⟩ := h
  exact PE.imp (pe_makeS0 M ok hr hg hm b (fun σ => passAt tk σ) hdb) fun σ H Q ⟨m, ρ, S, sr, sm, eo⟩ => make_core (ds := []) (vs := []) sm rfl eo
end
/-! ### built-ins -/
abbrev DB := List D → Store → Option (D × Store)
def dBlt (g : DB) (fr : DA) : DE := fun ρ S => (fr ρ S).bind fun ds S1 => optO (g ds S1)
def BR (K : PySem.W.Frag) (G : Gx) (g : DB) : List V → Hp → VK → Prop := fun vs H Q => ∃ m S ds d S', Sim K G m S H ∧ SVs K m H ds vs ∧ g ds S = some (d, S') ∧ ∀ v H' m', Step m H m' H' → Sim K G m' S' H' → SV K m' H' d v → Q v H'
section
variable {X : Cx} {G : Gx} {W : WX} {g : DB} {x : Str} {id T : String} {p pos : Pos} {e : Expr} {es : List Expr} {fr : DA}
theorem blt_core {σ : L2.St} {H : Hp} {Q : VK} (h : tD X.K G W (dBlt g fr) σ H Q) : tDA X.K G W fr σ H (fun vs H1 => BR X.K G g vs H1 Q) := by
  obtain ⟨m, ρ, S, sr, sm, eo⟩ := h
  refine ⟨m, ρ, S, sr, sm, EO.then (rel := SVs X.K) eo fun ds S1 vs H1 m1 st1 sm1 r1 eo1 => ?_⟩
  cases q : g ds S1 with
  | none => rw [q] at eo1; exact eo1.elim
  | some z =>
    obtain ⟨d, S2⟩ := z
    rw [q] at eo1
    exact ⟨m1, S1, ds, d, S2, sm1, r1, q, eo1⟩
theorem je_blt (hc : CallR X (.builtin id) (BR X.K G g)) (hm : X.mg x = none) (hv : bootBuiltins x = some (.builtin id)) (ha : JA X G W (e :: es) fr) (hg : Gl X x := by rfl) (hn : x ≠ "__name__" := by decide) (hdb : (x == ("__debug__" : Str)) = false := by decide)
    (he : starEach (e :: es) X.env = (false, eval e X.env) :: starEach es X.env := by rfl) (hpl : (backTo pos (starEach es X.env)).any (·.1) = false := by rfl) : JE X G W (.Call (.Name x p) (e :: es) [] pos) (dBlt g fr) :=
  PE.imp (pe_callB hc hg hm hv ha hn hdb he hpl) fun σ H Q h => blt_core h
theorem je_bty (hc : CallR X (.type T) (BR X.K G g)) (hm : X.mg x = none) (hv : bootBuiltins x = some (.type T)) (ha : JA X G W (e :: es) fr) (hg : Gl X x := by rfl) (hn : x ≠ "__name__" := by decide) (hdb : (x == ("__debug__" : Str)) = false := by decide)
    (he : starEach (e :: es) X.env = (false, eval e X.env) :: starEach es X.env := by rfl) (hpl : (backTo pos (starEach es X.env)).any (·.1) = false := by rfl) : JE X G W (.Call (.Name x p) (e :: es) [] pos) (dBlt g fr) :=
  PE.imp (pe_callTy hc hg hm hv ha hn hdb he hpl) fun σ H Q h => blt_core h
def absD : DB
  | [.int i], S => some (.int (if i < 0 then -i else i), S)
  | _, _ => none
def maxD : DB
  | [.int i, .int j], S => some (.int (if j > i then j else i), S)
  | _, _ => none
def minD : DB
  | [.int i, .int j], S => some (.int (if j < i then j else i), S)
  | _, _ => none
def intD : DB
  | [.int i], S => some (.int i, S)
  | [.bl b], S => some (.int (if b = true then 1 else 0), S)
  | _, _ => none
def lenD : DB := fun ds S => match ds with
  | [.str z] => if z.length ≤ 1000000 then some (.int z.length, S) else none
  | [d] => (seqAt S d).map fun xs => (.int xs.length, S)
  | _ => none
def tupleD : DB := fun ds S => match ds with
  | [d] => (seqAt S d).map fun xs => (.tup xs, S)
  | _ => none
def listD : DB := fun ds S => match ds with
  | [d] => (seqAt S d).map fun xs => newO (.lst xs) S
  | _ => none
theorem svs1 {K : PySem.W.Frag} {m : List Addr} {H : Hp} {d : D} {vs : List V} (h : SVs K m H [d] vs) : ∃ v, vs = [v] ∧ SV K m H d v := by
  obtain ⟨v, r, rfl, a, b⟩ := h
  rw [show r = [] from b]
  exact ⟨v, rfl, a⟩
theorem svs2 {K : PySem.W.Frag} {m : List Addr} {H : Hp} {d e : D} {vs : List V} (h : SVs K m H [d, e] vs) : ∃ v u, vs = [v, u] ∧ SV K m H d v ∧ SV K m H e u := by
  obtain ⟨v, r, rfl, a, b⟩ := h
  obtain ⟨u, rfl, q⟩ := svs1 b
  exact ⟨v, u, rfl, a, q⟩
theorem jb_abs : CallR X (.builtin "abs") (BR X.K G absD) := CallR.imp call_abs fun vs H Q ⟨m, S, ds, d, S', sm, r, e, k⟩ => by
  unfold absD at e
  split at e
  · cases e
    obtain ⟨v, rfl, q⟩ := svs1 r
    cases q
    exact ⟨_, rfl, k _ H m sm.refl sm rfl⟩
  · cases e
theorem jb_max (hc : X.calm = true) : CallR X (.builtin "max") (BR X.K G maxD) := CallR.imp (call_max2 hc) fun vs H Q ⟨m, S, ds, d, S', sm, r, e, k⟩ => by
  unfold maxD at e
  split at e
  · cases e
    obtain ⟨v, u, rfl, q, q'⟩ := svs2 r
    cases q; cases q'
    exact ⟨_, _, rfl, k _ H m sm.refl sm rfl⟩
  · cases e
theorem jb_min (hc : X.calm = true) : CallR X (.builtin "min") (BR X.K G minD) := CallR.imp (call_min2 hc) fun vs H Q ⟨m, S, ds, d, S', sm, r, e, k⟩ => by
  unfold minD at e
  split at e
  · cases e
    obtain ⟨v, u, rfl, q, q'⟩ := svs2 r
    cases q; cases q'
    exact ⟨_, _, rfl, k _ H m sm.refl sm rfl⟩
  · cases e
theorem jb_int : CallR X (.type "int") (BR X.K G intD) := CallR.imp call_int1 fun vs H Q ⟨m, S, ds, d, S', sm, r, e, k⟩ => by
  unfold intD at e
  split at e
  · cases e
    obtain ⟨v, rfl, q⟩ := svs1 r
    cases q
    exact .inl ⟨_, rfl, k _ H m sm.refl sm rfl⟩
  · cases e
    obtain ⟨v, rfl, q⟩ := svs1 r
    cases q
    exact .inr ⟨_, rfl, k _ H m sm.refl sm rfl⟩
  · cases e
theorem jb_len : CallR X (.builtin "len") (BR X.K G lenD) := CallR.imp call_len fun vs H Q ⟨m, S, ds, d, S', sm, r, e, k⟩ => by
  unfold lenD at e
  split at e
  · rename_i z
    split at e
    · rename_i hz
      cases e
      obtain ⟨v, rfl, q⟩ := svs1 r
      cases q
      exact ⟨_, _, rfl, ⟨size6 hz, rfl⟩, k _ H m sm.refl sm rfl⟩
    · cases e
  · rename_i d' _
    obtain ⟨v, rfl, q⟩ := svs1 r
    cases z : seqAt S d' with
    | none => rw [z] at e; cases e
    | some xs =>
      rw [z] at e
      cases e
      obtain ⟨p, ws, rfl, sv, sq⟩ := seqAt_ok sm z q
      refine ⟨_, ws.length, rfl, ?_, ?_⟩
      · rcases sq with sq | sq
        · exact .inl ⟨ws, sq, rfl⟩
        · exact .inr ⟨ws, sq, rfl⟩
      · rw [← sv.len]
        exact k _ H m sm.refl sm rfl
  · cases e
theorem jb_tuple : CallR X (.type "tuple") (BR X.K G tupleD) := CallR.imp call_tuple_of fun vs H Q ⟨m, S, ds, d, S', sm, r, e, k⟩ => by
  unfold tupleD at e
  split at e
  · rename_i d'
    obtain ⟨v, rfl, q⟩ := svs1 r
    cases z : seqAt S d' with
    | none => rw [z] at e; cases e
    | some xs =>
      rw [z] at e
      cases e
      obtain ⟨p, ws, rfl, sv, sq⟩ := seqAt_ok sm z q
      refine ⟨p, ws, rfl, ?_⟩
      rcases sq with sq | sq
      · exact .inl ⟨sq, fun l hl => k _ _ m (Step.beside sm hl) (sm.beside hl) (sv_tup sv sm hl)⟩
      · exact .inr ⟨sq, k _ H m sm.refl sm ⟨p, ws, rfl, sq, sv⟩⟩
  · cases e
theorem jb_list : CallR X (.type "list") (BR X.K G listD) := CallR.imp call_list_of fun vs H Q ⟨m, S, ds, d, S', sm, r, e, k⟩ => by
  unfold listD at e
  split at e
  · rename_i d'
    obtain ⟨v, rfl, q⟩ := svs1 r
    cases z : seqAt S d' with
    | none => rw [z] at e; cases e
    | some xs =>
      rw [z] at e
      cases e
      obtain ⟨p, ws, rfl, sv, sq⟩ := seqAt_ok sm z q
      exact ⟨p, ws, rfl, sq, fun l hl => k _ _ (m ++ [l]) (Step.new sm hl) (sim_lst sv sm hl) (sv_new sm)⟩
  · cases e
end
end DL
set_option Elab.async false
set_option linter.all false
set_option maxRecDepth 100000
set_option maxHeartbeats 2000000
namespace DL
open PySem PySem.Spec PyProof.Rows L2
/-! ### statements -/
inductive OutS where
  | nx (ρ : DEnv) (S : Store) | rt (d : D) (S : Store) | bk (ρ : DEnv) (S : Store) | ct (ρ : DEnv) (S : Store) | exn (e : Exc) (ρ : DEnv) (S : Store) | bad
abbrev DS := DEnv → Store → OutS
def SQ (K : PySem.W.Frag) (G : Gx) (W : WX) (E : Ends) (m : List Addr) (H : Hp) : OutS → Prop
  | .nx ρ S => ∀ σ H' m', Step m H m' H' → Sim K G m' S H' → SR K m' H' ρ σ → E.nx σ H'
  | .rt d S => ∀ v H' m', Step m H m' H' → Sim K G m' S H' → SV K m' H' d v → E.rt v H'
  | .bk ρ S => ∀ σ H' m', Step m H m' H' → Sim K G m' S H' → SR K m' H' ρ σ → E.bk σ H'
  | .ct ρ S => ∀ σ H' m', Step m H m' H' → Sim K G m' S H' → SR K m' H' ρ σ → E.ct σ H'
  | .exn e ρ S => ∀ cls dx σ H' m', Step m H m' H' → Sim K G m' S H' → SR K m' H' ρ σ → XO G e cls dx → W cls dx σ H'
  | .bad => False
def tDS (K : PySem.W.Frag) (G : Gx) (W : WX) (f : DS) : TS := fun E σ H => ∃ m ρ S, SR K m H ρ σ ∧ Sim K G m S H ∧ SQ K G W E m H (f ρ S)
abbrev JS (X : Cx) (G : Gx) (W : WX) (st : Stmt) (f : DS) : Prop := PS X st (tDS X.K G W f)
abbrev JSs (X : Cx) (G : Gx) (W : WX) (st : List Stmt) (f : DS) : Prop := PSs X st (tDS X.K G W f)
theorem PS.imp {X : Cx} {st : Stmt} {t t' : TS} (h : PS X st t) (f : ∀ E σ H, t' E σ H → t E σ H) : PS X st t' := ⟨fun pins s σ H E I q => h.run pins s σ H E I (f E σ H q)⟩
theorem PSs.imp {X : Cx} {st : List Stmt} {t t' : TS} (h : PSs X st t) (f : ∀ E σ H, t' E σ H → t E σ H) : PSs X st t' := ⟨fun pins s σ H E I q => h.run pins s σ H E I (f E σ H q)⟩
section
variable {K : PySem.W.Frag} {G : Gx} {W : WX} {E E' : Ends} {m m1 : List Addr} {H H1 : Hp}
theorem SQ.step {o : OutS} (h : SQ K G W E m H o) (st : Step m H m1 H1) : SQ K G W E m1 H1 o := by
  cases o with
  | nx ρ S => exact fun σ H' m' a b c => h σ H' m' (st.trans a) b c
  | rt d S => exact fun σ H' m' a b c => h σ H' m' (st.trans a) b c
  | bk ρ S => exact fun σ H' m' a b c => h σ H' m' (st.trans a) b c
  | ct ρ S => exact fun σ H' m' a b c => h σ H' m' (st.trans a) b c
  | exn e ρ S => exact fun cls dx σ H' m' a b c d => h cls dx σ H' m' (st.trans a) b c d
  | bad => exact h.elim
def liftS {α : Type} (o : Out α) (ρ : DEnv) (k : α → Store → OutS) : OutS := match o with
  | .ok a S => k a S
  | .exn e S => .exn e ρ S
  | .bad => .bad
@[simp] theorem liftS_ok {α : Type} (a : α) (S : Store) (ρ : DEnv) (k : α → Store → OutS) : liftS (.ok a S) ρ k = k a S := rfl
@[simp] theorem liftS_exn {α : Type} (e : Exc) (S : Store) (ρ : DEnv) (k : α → Store → OutS) : liftS (.exn e S) ρ k = .exn e ρ S := rfl
@[simp] theorem liftS_bad {α : Type} (ρ : DEnv) (k : α → Store → OutS) : liftS .bad ρ k = .bad := rfl
theorem SQ.then {α β : Type} {rel : List Addr → Hp → α → β → Prop} {Q : β → Hp → Prop} {o : Out α} {ρ : DEnv} {σ : L2.St} {S : Store} {k : α → Store → OutS} (h : SQ K G W E m H (liftS o ρ k)) (sr : SR K m H ρ σ) (sm : Sim K G m S H)
    (f : ∀ a S1 b H1 m1, Step m H m1 H1 → Sim K G m1 S1 H1 → rel m1 H1 a b → SQ K G W E m1 H1 (k a S1) → Q b H1) : EO K G rel Q (fun c d H' => W c d σ H') m H o := by
  cases o with
  | ok a S => exact fun b H' m' s1 s2 r => f a S b H' m' s1 s2 r (SQ.step h s1)
  | exn e S1 => exact fun cls dx H' m' s1 s2 x => h cls dx σ H' m' s1 s2 (sr.mono sm s1) x
  | bad => exact h.elim
end
section
variable {X : Cx} {G : Gx} {W : WX} {st : Stmt} {rest : List Stmt} {f g : DS} {e : Expr} {fe : DE} {pos : Pos}
def dNext : DS := fun ρ S => .nx ρ S
def dSeq (f g : DS) : DS := fun ρ S => match f ρ S with
  | .nx ρ1 S1 => g ρ1 S1
  | o => o
theorem jss_nil : JSs X G W [] dNext := PSs.imp pss_nil fun E σ H ⟨m, ρ, S, sr, sm, q⟩ => q σ H m sm.refl sm sr
theorem jss_one (h : JS X G W st f) : JSs X G W [st] f := pss_one h
theorem jss_cons (h1 : JS X G W st f) (h2 : JSs X G W rest g) : JSs X G W (st :: rest) (dSeq f g) :=
  PSs.imp (pss_cons h1 h2) fun E σ H ⟨m, ρ, S, sr, sm, q⟩ => ⟨m, ρ, S, sr, sm, by
    unfold dSeq at q
    cases e : f ρ S with
    | nx ρ1 S1 => rw [e] at q; exact fun σ' H' m' a b c => ⟨m', ρ1, S1, c, b, SQ.step q a⟩
    | rt d S1 => rw [e] at q; exact q
    | bk ρ1 S1 => rw [e] at q; exact q
    | ct ρ1 S1 => rw [e] at q; exact q
    | exn x ρ1 S1 => rw [e] at q; exact q
    | bad => rw [e] at q; exact q⟩
theorem js_pass : JS X G W (.Pass pos) dNext := PS.imp ps_pass fun E σ H ⟨m, ρ, S, sr, sm, q⟩ => q σ H m sm.refl sm sr
def dBrk : DS := fun ρ S => .bk ρ S
def dCnt : DS := fun ρ S => .ct ρ S
theorem js_break : JS X G W (.Break pos) dBrk := PS.imp ps_break fun E σ H ⟨m, ρ, S, sr, sm, q⟩ => q σ H m sm.refl sm sr
theorem js_continue : JS X G W (.Continue pos) dCnt := PS.imp ps_continue fun E σ H ⟨m, ρ, S, sr, sm, q⟩ => q σ H m sm.refl sm sr
def dDrop (fe : DE) : DS := fun ρ S => liftS (fe ρ S) ρ fun _ S1 => .nx ρ S1
theorem js_expr (he : JE X G W e fe) (hs : swapsWith e none pos.line X.env = pure false := by rfl) : JS X G W (.Expr e pos) (dDrop fe) :=
  PS.imp (ps_expr he hs) fun E σ H ⟨m, ρ, S, sr, sm, q⟩ => ⟨m, ρ, S, sr, sm, SQ.then (rel := SV X.K) q sr sm fun a S1 b H1 m1 st1 sm1 r1 q1 => q1 σ H1 m1 sm1.refl sm1 (sr.mono sm st1)⟩
def dRet (fe : DE) : DS := fun ρ S => liftS (fe ρ S) ρ fun d S1 => .rt d S1
theorem js_ret (he : JE X G W e fe) : JS X G W (.Return (some e) pos) (dRet fe) :=
  PS.imp (ps_ret he) fun E σ H ⟨m, ρ, S, sr, sm, q⟩ => ⟨m, ρ, S, sr, sm, SQ.then (rel := SV X.K) q sr sm fun a S1 b H1 m1 st1 sm1 r1 q1 => q1 b H1 m1 sm1.refl sm1 r1⟩
theorem js_retN : JS X G W (.Return none pos) (fun _ S => .rt .non S) := PS.imp ps_retN fun E σ H ⟨m, ρ, S, sr, sm, q⟩ => q .non H m sm.refl sm rfl
def dIfS (c : DT) (f g : DS) : DS := fun ρ S => liftS (c ρ S) ρ fun b S1 => if b = true then f ρ S1 else g ρ S1
theorem js_if {c : Expr} {a b : List Stmt} {dc : DT} (hc : JT X G W c dc) (ha : JSs X G W a f) (hb : JSs X G W b g) : JS X G W (.If c a b pos) (dIfS dc f g) :=
  PS.imp (ps_if hc ha hb) fun E σ H ⟨m, ρ, S, sr, sm, q⟩ => ⟨m, ρ, S, sr, sm, SQ.then (rel := eqR) q sr sm fun a S1 b H1 m1 st1 sm1 r1 q1 => by
    cases r1
    cases a with
    | true => exact ⟨m1, ρ, S1, sr.mono sm st1, sm1, q1⟩
    | false => exact ⟨m1, ρ, S1, sr.mono sm st1, sm1, q1⟩⟩
/-! ### targets -/
abbrev DG := D → DEnv → Store → OutS
abbrev DGs := List D → DEnv → Store → OutS
def noEnds (Q : L2.St → Hp → Prop) : Ends := { nx := Q, rt := fun _ _ => False }
def tDG (K : PySem.W.Frag) (G : Gx) (W : WX) (f : DG) : TG := fun v σ H Q => ∃ m ρ S d, SR K m H ρ σ ∧ Sim K G m S H ∧ SV K m H d v ∧ SQ K G W (noEnds Q) m H (f d ρ S)
def tDGs (K : PySem.W.Frag) (G : Gx) (W : WX) (f : DGs) : TGs := fun vs σ H Q => ∃ m ρ S ds, SR K m H ρ σ ∧ Sim K G m S H ∧ SVs K m H ds vs ∧ SQ K G W (noEnds Q) m H (f ds ρ S)
abbrev JG (X : Cx) (G : Gx) (W : WX) (tg : Expr) (f : DG) : Prop := PG X tg (tDG X.K G W f)
abbrev JGs (X : Cx) (G : Gx) (W : WX) (tg : List Expr) (f : DGs) : Prop := PGs X tg (tDGs X.K G W f)
theorem PG.imp {tg : Expr} {t t' : TG} (h : PG X tg t) (f : ∀ v σ H Q, t' v σ H Q → t v σ H Q) : PG X tg t' := ⟨fun pins s σ H v u Q I r q => h.run pins s σ H v u Q I r (f v σ H Q q)⟩
theorem PG.or {tg : Expr} {t t' : TG} (h : PG X tg t) (h' : PG X tg t') : PG X tg (fun v σ H Q => t v σ H Q ∨ t' v σ H Q) := ⟨fun pins s σ H v u Q I r q => q.elim (h.run pins s σ H v u Q I r) (h'.run pins s σ H v u Q I r)⟩
theorem PGs.imp {tg : List Expr} {t t' : TGs} (h : PGs X tg t) (f : ∀ v σ H Q, t' v σ H Q → t v σ H Q) : PGs X tg t' := ⟨fun pins s σ H v u Q I r q => h.run pins s σ H v u Q I r (f v σ H Q q)⟩
def gN (i : Nat) : DG := fun d ρ S => .nx (ρ.set i (some d)) S
theorem jg_name (i : Nat) {x : Str} (hN : X.N.Nodup) (hi : X.N[i]? = some x := by rfl) (hx : Loc X.env.scope x := by first | exact Or.inl rfl | exact Or.inr rfl) (hf : X.fn x = true ∨ X.env.scope.names.lookup x = some .local := by first | exact .inl rfl | exact .inr rfl) : JG X G W (.Name x pos) (gN i) :=
  PG.imp (pg_name hN hi hx hf) fun v σ H Q ⟨m, ρ, S, d, sr, sm, r, q⟩ => q _ H m sm.refl sm (sr.set i r)
def gsNil : DGs
  | [], ρ, S => .nx ρ S
  | _, _, _ => .bad
def gsCons (g : DG) (gs : DGs) : DGs
  | d :: ds, ρ, S => (match g d ρ S with
    | .nx ρ1 S1 => gs ds ρ1 S1
    | .exn e ρ1 S1 => .exn e ρ1 S1
    | _ => .bad)
  | _, _, _ => .bad
theorem jgs_nil : JGs X G W [] gsNil := PGs.imp pgs_nil fun vs σ H Q ⟨m, ρ, S, ds, sr, sm, r, q⟩ => by
  cases ds with
  | nil => exact ⟨r, q σ H m sm.refl sm sr⟩
  | cons d ds => exact q.elim
theorem jgs_cons {es : List Expr} {g : DG} {gs : DGs} (h1 : JG X G W e g) (h2 : JGs X G W es gs) (hs : (assignEach (e :: es) X.env).map (·.2) = assign e X.env :: (assignEach es X.env).map (·.2) := by rfl) : JGs X G W (e :: es) (gsCons g gs) :=
  PGs.imp (pgs_cons h1 h2 hs) fun vs σ H Q ⟨m, ρ, S, ds, sr, sm, r, q⟩ => by
    cases ds with
    | nil => exact q.elim
    | cons d ds =>
      obtain ⟨v, vr, rfl, a, b⟩ := (show ∃ v r, vs = v :: r ∧ SV X.K m H d v ∧ SVs X.K m H ds r from r)
      refine ⟨v, vr, rfl, m, ρ, S, d, sr, sm, a, ?_⟩
      unfold gsCons at q
      dsimp only at q
      cases e1 : g d ρ S with
      | nx ρ1 S1 => rw [e1] at q; exact fun σ' H' m' s1 s2 s3 => ⟨m', ρ1, S1, ds, s3, s2, b.mono sm s1, SQ.step q s1⟩
      | exn x ρ1 S1 => rw [e1] at q; exact q
      | rt d S1 => rw [e1] at q; exact q.elim
      | bk ρ1 S1 => rw [e1] at q; exact q.elim
      | ct ρ1 S1 => rw [e1] at q; exact q.elim
      | bad => rw [e1] at q; exact q.elim
def gT (n : Nat) (gs : DGs) : DG := fun d ρ S => match seqAt S d with
  | some xs => if xs.length = n then gs xs ρ S else .bad
  | none => .bad
theorem jg_tup {es : List Expr} {k n : Nat} {gs : DGs} (hc : X.calm = true) (h : JGs X G W es gs) (hn : (assignEach es X.env).length = n := by rfl) (hst : (assignEach es X.env).findIdx? (·.1) = none := by rfl) : JG X G W (.Tuple es k pos) (gT n gs) :=
  PG.imp (PG.or (pg_tup hc h hn hst) (pg_lst hc h hn hst)) fun v σ H Q ⟨m, ρ, S, d, sr, sm, r, q⟩ => by
    unfold gT at q
    split at q
    · rename_i xs e1
      split at q
      · rename_i hl
        obtain ⟨p, vs, rfl, sv, sq⟩ := seqAt_ok sm e1 r
        rcases sq with sq | sq
        · exact .inr ⟨p, vs, rfl, sq, by rw [← sv.len]; exact hl, m, ρ, S, xs, sr, sm, sv, q⟩
        · exact .inl ⟨p, vs, rfl, sq, by rw [← sv.len]; exact hl, m, ρ, S, xs, sr, sm, sv, q⟩
      · exact q.elim
    · exact q.elim
/-- o[i] = v for a list -/
def gIx (fo fi : DE) : DG := fun d ρ S => liftS (fo ρ S) ρ fun o S1 => liftS (fi ρ S1) ρ fun i S2 => match o, i with
  | .obj n, .int k => (match lstAt S2 n with
    | some xs => (match ixN xs.length k with
      | some j => .nx ρ (S2.set n (.lst (xs.set j d)))
      | none => .bad)
    | none => .bad)
  | _, _ => .bad
theorem jg_ix {o i : Expr} {fo fi : DE} (ho : JE X G W o fo) (hi : JE X G W i fi)
    (ha : ∀ v, assign (.Subscript o i pos) X.env v = (do
      let ov ← holding [v] (eval o X.env)
      let iv ← holding [v, ov] (eval i X.env)
      standAt pos
      holding [v, ov, iv] (setItem ov iv v)
      release [v, ov, iv] []) := by intro _; rfl) : JG X G W (.Subscript o i pos) (gIx fo fi) :=
  PG.imp (pg_sub ho hi set_list ha) fun v σ H Q ⟨m, ρ, S, d, sr, sm, r, q⟩ => ⟨m, ρ, S, sr, sm, SQ.then (rel := SV X.K) q sr sm fun x S1 u H1 m1 st1 sm1 r1 q1 => ⟨m1, ρ, S1, sr.mono sm st1, sm1, SQ.then (rel := SV X.K) q1 (sr.mono sm st1) sm1 fun y S2 w H2 m2 st2 sm2 r2 q2 => by
    split at q2
    · rename_i n k
      split at q2
      · rename_i xs e1
        split at q2
        · rename_i j e2
          have r1 := r1.mono sm1 st2
          obtain ⟨a, rfl, hm⟩ := r1
          cases r2
          obtain ⟨a', vs, h1, h2, h3⟩ := lstAt_ok sm2 e1
          rw [hm] at h1; cases h1
          refine ⟨a, vs, k, j, rfl, rfl, h2, by rw [← h3.len]; exact e2, ?_⟩
          have st3 : Step m2 H2 m2 (upd H2 a (.lst (vs.set j v))) := Step.put sm2 hm
          have rd := (r.mono sm st1).mono sm1 st2
          exact q2 σ _ m2 st3 (sm2.put hm ⟨vs.set j v, upd_same, (h3.set rd j).mono sm2 st3⟩) ((sr.mono sm (st1.trans st2)).mono sm2 st3)
        · exact q2.elim
      · exact q2.elim
    · exact q2.elim⟩⟩
def dAsg (fe : DE) (g : DG) : DS := fun ρ S => liftS (fe ρ S) ρ fun d S1 => match g d ρ S1 with
  | .nx ρ1 S2 => .nx ρ1 S2
  | .exn e ρ1 S2 => .exn e ρ1 S2
  | _ => .bad
theorem js_asg {tg : Expr} {g : DG} (he : JE X G W e fe) (hg : JG X G W tg g) (hs : swapsWithSole [tg] e pos.line X.env = pure false := by rfl) (hw : swappedStores [tg] e X.env = pure none := by rfl)
    (h1 : (assignEach [tg] X.env).map (·.2) = [assign tg X.env] := by rfl) : JS X G W (.Assign [tg] e pos) (dAsg fe g) :=
  PS.imp (ps_asg he hg hs hw h1) fun E σ H ⟨m, ρ, S, sr, sm, q⟩ => ⟨m, ρ, S, sr, sm, SQ.then (rel := SV X.K) q sr sm fun d S1 v H1 m1 st1 sm1 r1 q1 => ⟨m1, ρ, S1, d, sr.mono sm st1, sm1, r1, by
    cases e1 : g d ρ S1 with
    | nx ρ1 S2 => rw [e1] at q1; exact q1
    | exn x ρ1 S2 => rw [e1] at q1; exact q1
    | rt d S2 => rw [e1] at q1; exact q1.elim
    | bk ρ1 S2 => rw [e1] at q1; exact q1.elim
    | ct ρ1 S2 => rw [e1] at q1; exact q1.elim
    | bad => rw [e1] at q1; exact q1.elim⟩⟩
/-- name = e -/
theorem js_set (i : Nat) {x : Str} {pos' : Pos} (hN : X.N.Nodup) (he : JE X G W e fe) (hi : X.N[i]? = some x := by rfl) (hx : Loc X.env.scope x := by first | exact Or.inl rfl | exact Or.inr rfl) (hs : swapsWith e (some (.Name x pos')) pos.line X.env = pure false := by rfl)
    (hf : X.fn x = true ∨ X.env.scope.names.lookup x = some .local := by first | exact .inl rfl | exact .inr rfl) : JS X G W (.Assign [.Name x pos'] e pos) (dAsg fe (gN i)) :=
  PS.imp (ps_set hN hi hx he hs hf) fun E σ H ⟨m, ρ, S, sr, sm, q⟩ => ⟨m, ρ, S, sr, sm, SQ.then (rel := SV X.K) q sr sm fun d S1 v H1 m1 st1 sm1 r1 q1 => q1 _ H1 m1 sm1.refl sm1 ((sr.mono sm st1).set i r1)⟩
/-- a, b = x, y of plain locals -/
def dPar2 (i j : Nat) (fr : DA) : DS := fun ρ S => liftS (fr ρ S) ρ fun ds S1 => match ds with
  | [d, e] => .nx ((ρ.set i (some d)).set j (some e)) S1
  | _ => .bad
def dPar3 (i j l : Nat) (fr : DA) : DS := fun ρ S => liftS (fr ρ S) ρ fun ds S1 => match ds with
  | [d, e, g] => .nx (((ρ.set i (some d)).set j (some e)).set l (some g)) S1
  | _ => .bad
theorem js_par2 (i j : Nat) {x y : Str} {a b : Expr} {fr : DA} {px py pt : Pos} {kt k2 pt2} (hc : X.calm = true) (hN : X.N.Nodup) (ha : JA X G W [a, b] fr) (hi : X.N[i]? = some x := by rfl) (hj : X.N[j]? = some y := by rfl) (hij : i ≠ j := by decide)
    (hx : X.env.scope.names.lookup x = some .local := by rfl) (hy : X.env.scope.names.lookup y = some .local := by rfl)
    (hw : swappedStores [.Tuple [.Name x px, .Name y py] kt pt] (.Tuple [a, b] k2 pt2) X.env = pure (some [x, y]) := by rfl)
    (hs : swapsWithSole [.Tuple [.Name x px, .Name y py] kt pt] (.Tuple [a, b] k2 pt2) pos.line X.env = pure false := by rfl) : JS X G W (.Assign [.Tuple [.Name x px, .Name y py] kt pt] (.Tuple [a, b] k2 pt2) pos) (dPar2 i j fr) :=
  PS.imp (ps_par hc hN hi hj hij hx hy ha hw hs) fun E σ H ⟨m, ρ, S, sr, sm, q⟩ => ⟨m, ρ, S, sr, sm, SQ.then (rel := SVs X.K) q sr sm fun ds S1 vs H1 m1 st1 sm1 r1 q1 => by
    split at q1
    · rename_i d e
      obtain ⟨v, u, rfl, rv, ru⟩ := svs2 r1
      exact ⟨v, u, rfl, q1 _ H1 m1 sm1.refl sm1 (((sr.mono sm st1).set i rv).set j ru)⟩
    · exact q1.elim⟩
theorem js_par3 (i j l : Nat) {x y z : Str} {a b c : Expr} {fr : DA} {px py pz pt : Pos} {kt k2 pt2} (hc : X.calm = true) (hN : X.N.Nodup) (ha : JA X G W [a, b, c] fr) (hi : X.N[i]? = some x := by rfl) (hj : X.N[j]? = some y := by rfl) (hl : X.N[l]? = some z := by rfl)
    (hij : i ≠ j := by decide) (hil : i ≠ l := by decide) (hjl : j ≠ l := by decide)
    (hx : X.env.scope.names.lookup x = some .local := by rfl) (hy : X.env.scope.names.lookup y = some .local := by rfl) (hz : X.env.scope.names.lookup z = some .local := by rfl)
    (hw : swappedStores [.Tuple [.Name x px, .Name y py, .Name z pz] kt pt] (.Tuple [a, b, c] k2 pt2) X.env = pure (some [x, y, z]) := by rfl)
    (hs : swapsWithSole [.Tuple [.Name x px, .Name y py, .Name z pz] kt pt] (.Tuple [a, b, c] k2 pt2) pos.line X.env = pure false := by rfl) : JS X G W (.Assign [.Tuple [.Name x px, .Name y py, .Name z pz] kt pt] (.Tuple [a, b, c] k2 pt2) pos) (dPar3 i j l fr) :=
  PS.imp (ps_par3 hc hN hi hj hl hij hil hjl hx hy hz ha hw hs) fun E σ H ⟨m, ρ, S, sr, sm, q⟩ => ⟨m, ρ, S, sr, sm, SQ.then (rel := SVs X.K) q sr sm fun ds S1 vs H1 m1 st1 sm1 r1 q1 => by
    split at q1
    · rename_i d e g
      obtain ⟨v, r, rfl, rv, r1⟩ := r1
      obtain ⟨u, w, rfl, ru, rw'⟩ := svs2 r1
      exact ⟨v, u, w, rfl, q1 _ H1 m1 sm1.refl sm1 ((((sr.mono sm st1).set i rv).set j ru).set l rw')⟩
    · exact q1.elim⟩
/-- o.f = e -/
def dPutF (cs : List String) (f : Str) (fo fe : DE) : DS := fun ρ S => liftS (fe ρ S) ρ fun d S1 => liftS (fo ρ S1) ρ fun o S2 => match o, insAt S2 o with
  | .obj n, some (c, fs) => if c ∈ cs ∧ fs.length < 1000 then .nx ρ (S2.set n (.ins c (putD f d fs))) else .bad
  | _, _ => .bad
theorem js_fld {cs : List String} {f : Str} {o : Expr} {fo : DE} {pos' : Pos} (hC : ∀ c ∈ cs, Cls X.K (G.cA c) ∧ NoAttr X.K (G.cA c) f) (ho : JE X G W o fo) (he : JE X G W e fe) (hs : swapsWith e (some (.Attribute o f pos')) pos.line X.env = pure false := by rfl) :
    JS X G W (.Assign [.Attribute o f pos'] e pos) (dPutF cs f fo fe) :=
  PS.imp (ps_fld ho he hs) fun E σ H ⟨m, ρ, S, sr, sm, q⟩ => ⟨m, ρ, S, sr, sm, SQ.then (rel := SV X.K) q sr sm fun d S1 v H1 m1 st1 sm1 r1 q1 => ⟨m1, ρ, S1, sr.mono sm st1, sm1, SQ.then (rel := SV X.K) q1 (sr.mono sm st1) sm1 fun x S2 u H2 m2 st2 sm2 r2 q2 => by
    split at q2
    · rename_i n c fs e1
      split at q2
      · rename_i hc
        obtain ⟨n', p, dx, vfs, en, rfl, hm, hoo, hf⟩ := insAt_ok sm2 e1 r2
        cases en
        refine ⟨p, G.cA c, dx, vfs, rfl, hoo, (hC c hc.1).1, (hC c hc.1).2, by rw [← hf.len]; exact hc.2, ?_⟩
        have st3 : Step m2 H2 m2 (upd H2 p (.ins (G.cA c) dx (putF f v vfs))) := Step.put sm2 hm
        exact q2 σ _ m2 st3 (sm2.put hm ⟨dx, _, upd_same, (hf.put (r1.mono sm1 st2)).mono sm2 st3⟩) ((sr.mono sm (st1.trans st2)).mono sm2 st3)
      · exact q2.elim
    · exact q2.elim⟩⟩
/-- name op= e -/
def dAug (i : Nat) (g : D2) (fe : DE) : DS := fun ρ S => match ρ[i]? with
  | some (some x) => liftS (fe ρ S) ρ fun y S1 => (match g x y S1 with
    | some (d, S2) => .nx (ρ.set i (some d)) S2
    | none => .bad)
  | _ => .bad
theorem js_aug (i : Nat) {x : Str} {op : Operator} {g : D2} {pos' : Pos} (hN : X.N.Nodup) (ho : JOp X G (inplaceOp op) g) (he : JE X G W e fe) (hi : X.N[i]? = some x := by rfl) (hx : Loc X.env.scope x := by first | exact Or.inl rfl | exact Or.inr rfl)
    (hf : X.fn x = true ∨ X.env.scope.names.lookup x = some .local := by first | exact .inl rfl | exact .inr rfl) : JS X G W (.AugAssign (.Name x pos') op e pos) (dAug i g fe) :=
  PS.imp (ps_aug hN hi hx he ho hf) fun E σ H ⟨m, ρ, S, sr, sm, q⟩ => by
    unfold dAug at q
    split at q
    · rename_i d e1
      obtain ⟨v, h1, h2⟩ := sr.2 i d e1
      refine ⟨v, h1, m, ρ, S, sr, sm, SQ.then (rel := SV X.K) q sr sm fun y S1 u H1 m1 st1 sm1 r1 q1 => ?_⟩
      split at q1
      · rename_i d2 S2 e2
        exact ⟨m1, S1, d, y, d2, S2, sm1, h2.mono sm st1, r1, e2, fun w H' m' a b c => q1 _ H' m' a b ((sr.mono sm (st1.trans a)).set i c)⟩
      · exact q1.elim
    · exact q.elim
def imulD : D2
  | .int i, .int j, S => if i.natAbs.log2 + j.natAbs.log2 < 1000000 then some (.int (i * j), S) else none
  | _, _, _ => none
def iaddD : D2
  | .int i, .int j, S => some (.int (i + j), S)
  | .str x, .str y, S => if x.length + y.length ≤ 1000000 then some (.str (x ++ y), S) else none
  | _, _, _ => none
def isubD : D2
  | .int i, .int j, S => some (.int (i - j), S)
  | _, _, _ => none
theorem iop_mulW : OpR X (inplaceOp .Mult) (rI CMulW fun i j => .int (i * j)) := opI fun _ _ _ _ _ _ _ hc q => imul_int q hc.ok
theorem jip_mul : JOp X G (inplaceOp .Mult) imulD := by
  refine OpR.imp iop_mulW fun x y H Q ⟨m, S, a, b, d, S', sm, ra, rb, e, k⟩ => ?_
  unfold imulD at e
  split at e
  · rename_i S i j
    split at e
    · rename_i hz
      cases e; cases ra; cases rb
      exact ⟨i, j, rfl, rfl, hz, k _ H m sm.refl sm rfl⟩
    · cases e
  · cases e
theorem jip_add : JOp X G (inplaceOp .Add) iaddD := by
  refine OpR.imp (OpR.or iop_add iop_add_str) fun x y H Q ⟨m, S, a, b, d, S', sm, ra, rb, e, k⟩ => ?_
  unfold iaddD at e
  split at e
  · rename_i S i j
    cases e; cases ra; cases rb
    exact .inl ⟨i, j, rfl, rfl, k _ H m sm.refl sm rfl⟩
  · rename_i S i j
    split at e
    · rename_i hz
      cases e; cases ra; cases rb
      exact .inr ⟨i, j, rfl, rfl, size6 hz, k _ H m sm.refl sm rfl⟩
    · cases e
  · cases e
theorem jip_sub : JOp X G (inplaceOp .Sub) isubD := by
  refine OpR.imp iop_sub fun x y H Q ⟨m, S, a, b, d, S', sm, ra, rb, e, k⟩ => ?_
  unfold isubD at e
  split at e
  · rename_i S i j
    cases e; cases ra; cases rb
    exact ⟨i, j, rfl, rfl, k _ H m sm.refl sm rfl⟩
  · cases e
/-- raise C('m') -/
def dRaise (c : String) : DS := fun ρ S => .exn ⟨c⟩ ρ S
theorem js_raise {c : String} {bmB : List Value} {B newId initId : String} {x ms : Str} {j : Nat} {p p2 pos1 : Pos} (hc : X.calm = true) (tk : Takes X W) (F : ExcBaseFacts B newId initId bmB) (q : PySem.W.excIn X.K (G.cA c) bmB newId = true) (gC : X.mg x = some (.ref (G.cA c)))
    (kC : PySem.W.keepIn X.K (.ref (G.cA c)) = true) (r : Raises X (.ref (G.cA c))) (hg : Gl X x := by rfl) (hdb : (x == ("__debug__" : Str)) = false := by decide) : JS X G W (.Raise (some (.Call (.Name x p) [.Constant (.str ms) j p2] [] pos1)) none pos) (dRaise c) :=
  PS.imp (ps_raise hc tk (pmk_own F q gC kC r hg hdb)) fun E σ H ⟨m, ρ, S, sr, sm, q⟩ => q _ _ σ H m sm.refl sm sr rfl
/-! ### while -/
def whileD (c : DT) (f : DS) : Nat → DS
  | 0, _, _ => .bad
  | n + 1, ρ, S => liftS (c ρ S) ρ fun b S1 => if b = true then (match f ρ S1 with
    | .nx ρ2 S2 => whileD c f n ρ2 S2
    | .ct ρ2 S2 => whileD c f n ρ2 S2
    | .bk ρ2 S2 => .nx ρ2 S2
    | o => o) else .nx ρ S1
def fuel : Nat := 1000000
theorem js_while {c : Expr} {body : List Stmt} {dc : DT} (hp : PassesOwn (model X.prog X.w) X.A X.env X.xe) (hc : JT X G W c dc) (hb : JSs X G W body f) : JS X G W (.While c body [] pos) (whileD dc f fuel) :=
  PS.imp (ps_while hp hc hb) fun E σ H ⟨m, ρ, S, sr, sm, q⟩ => by
    refine ⟨fun n σ H => ∃ m ρ S, SR X.K m H ρ σ ∧ Sim X.K G m S H ∧ SQ X.K G W E m H (whileD dc f n ρ S), ⟨fuel, m, ρ, S, sr, sm, q⟩, ?_⟩
    rintro n σ H ⟨m, ρ, S, sr, sm, q⟩
    cases n with
    | zero => exact q.elim
    | succ n =>
      refine ⟨m, ρ, S, sr, sm, SQ.then (rel := eqR) q sr sm fun b S1 b' H1 m1 st1 sm1 r1 q1 => ?_⟩
      cases r1
      cases b with
      | false => exact q1 σ H1 m1 sm1.refl sm1 (sr.mono sm st1)
      | true =>
        refine ⟨fun σ H => ∃ m ρ S, SR X.K m H ρ σ ∧ Sim X.K G m S H ∧ SQ X.K G W E m H (whileD dc f n ρ S), fun σ' H' h => ⟨n, Nat.lt_succ_self _, h⟩, m1, ρ, S1, sr.mono sm st1, sm1, ?_⟩
        have q2 : SQ X.K G W E m1 H1 (match f ρ S1 with
          | .nx ρ2 S2 => whileD dc f n ρ2 S2
          | .ct ρ2 S2 => whileD dc f n ρ2 S2
          | .bk ρ2 S2 => .nx ρ2 S2
          | o => o) := q1
        cases e1 : f ρ S1 with
        | nx ρ2 S2 => rw [e1] at q2; exact fun σ' H' m' a b c => ⟨m', ρ2, S2, c, b, SQ.step q2 a⟩
        | ct ρ2 S2 => rw [e1] at q2; exact fun σ' H' m' a b c => ⟨m', ρ2, S2, c, b, SQ.step q2 a⟩
        | bk ρ2 S2 => rw [e1] at q2; exact q2
        | rt d S2 => rw [e1] at q2; exact q2
        | exn x ρ2 S2 => rw [e1] at q2; exact q2
        | bad => rw [e1] at q2; exact q2
end
end DL
set_option Elab.async false
set_option linter.all false
set_option maxRecDepth 100000
set_option maxHeartbeats 2000000
namespace DL
open PySem PySem.Spec PyProof.Rows L2
/-! ### equality of data, for guards -/
mutual
def D.beq : D → D → Bool
  | .non, .non => true
  | .bl a, .bl b => a == b
  | .int a, .int b => a == b
  | .str a, .str b => decide (a = b)
  | .tup a, .tup b => D.beqs a b
  | .fl a, .fl b => D.beqs a b
  | .obj a, .obj b => a == b
  | _, _ => false
def D.beqs : List D → List D → Bool
  | [], [] => true
  | a :: as, b :: bs => D.beq a b && D.beqs as bs
  | _, _ => false
end
mutual
theorem D.beq_eq : ∀ (a b : D), D.beq a b = true → a = b
  | .non, .non, _ => rfl
  | .bl a, .bl b, h => by simp [D.beq] at h; rw [h]
  | .int a, .int b, h => by simp [D.beq] at h; rw [h]
  | .str a, .str b, h => by simp [D.beq] at h; rw [h]
  | .tup a, .tup b, h => by simp only [D.beq] at h; rw [D.beqs_eq a b h]
  | .fl a, .fl b, h => by simp only [D.beq] at h; rw [D.beqs_eq a b h]
  | .obj a, .obj b, h => by simp [D.beq] at h; rw [h]
  | .non, .bl _, h | .non, .int _, h | .non, .str _, h | .non, .tup _, h | .non, .fl _, h | .non, .obj _, h => by simp [D.beq] at h
  | .bl _, .non, h | .bl _, .int _, h | .bl _, .str _, h | .bl _, .tup _, h | .bl _, .fl _, h | .bl _, .obj _, h => by simp [D.beq] at h
  | .int _, .non, h | .int _, .bl _, h | .int _, .str _, h | .int _, .tup _, h | .int _, .fl _, h | .int _, .obj _, h => by simp [D.beq] at h
  | .str _, .non, h | .str _, .bl _, h | .str _, .int _, h | .str _, .tup _, h | .str _, .fl _, h | .str _, .obj _, h => by simp [D.beq] at h
  | .tup _, .non, h | .tup _, .bl _, h | .tup _, .int _, h | .tup _, .str _, h | .tup _, .fl _, h | .tup _, .obj _, h => by simp [D.beq] at h
  | .fl _, .non, h | .fl _, .bl _, h | .fl _, .int _, h | .fl _, .str _, h | .fl _, .tup _, h | .fl _, .obj _, h => by simp [D.beq] at h
  | .obj _, .non, h | .obj _, .bl _, h | .obj _, .int _, h | .obj _, .str _, h | .obj _, .tup _, h | .obj _, .fl _, h => by simp [D.beq] at h
theorem D.beqs_eq : ∀ (a b : List D), D.beqs a b = true → a = b
  | [], [], _ => rfl
  | a :: as, b :: bs, h => by simp only [D.beqs, Bool.and_eq_true] at h; rw [D.beq_eq a b h.1, D.beqs_eq as bs h.2]
  | [], _ :: _, h => by simp [D.beqs] at h
  | _ :: _, [], h => by simp [D.beqs] at h
end
mutual
theorem D.beq_refl : ∀ (a : D), D.beq a a = true
  | .non => rfl
  | .bl a => by simp [D.beq]
  | .int a => by simp [D.beq]
  | .str a => by simp [D.beq]
  | .tup a => by simp only [D.beq]; exact D.beqs_refl a
  | .fl a => by simp only [D.beq]; exact D.beqs_refl a
  | .obj a => by simp [D.beq]
theorem D.beqs_refl : ∀ (a : List D), D.beqs a a = true
  | [] => rfl
  | a :: as => by simp only [D.beqs, Bool.and_eq_true]; exact ⟨D.beq_refl a, D.beqs_refl as⟩
end
/-! ### what a loop walks -/
structure Src where
  items : List D
  grd : Store → Bool
def SrcOk (K : PySem.W.Frag) (G : Gx) (m1 : List Addr) (H1 : Hp) (src : Src) (J : It) : Prop :=
  Walk J src.items.length (fun H' => ∃ m' S', Step m1 H1 m' H' ∧ Sim K G m' S' H' ∧ src.grd S' = true)
    (fun i H' x H'' => ∀ m' S', Step m1 H1 m' H' → Sim K G m' S' H' → src.grd S' = true → ∃ d, src.items[i]? = some d ∧ Step m' H' m' H'' ∧ Sim K G m' S' H'' ∧ SV K m' H'' d x)
abbrev DI := DEnv → Store → Out Src
def tDI (K : PySem.W.Frag) (G : Gx) (W : WX) (f : DI) : TI := fun σ H R => ∃ m ρ S, SR K m H ρ σ ∧ Sim K G m S H ∧ EO K G (SrcOk K G) R (fun c d H' => W c d σ H') m H (f ρ S)
abbrev JI (X : Cx) (G : Gx) (W : WX) (tg iter : Expr) (f : DI) : Prop := PI X tg iter (tDI X.K G W f)
theorem PI.imp {X : Cx} {tg iter : Expr} {t t' : TI} (h : PI X tg iter t) (f : ∀ σ H R, t' σ H R → t σ H R) : PI X tg iter t' := ⟨fun pins s σ H R I q => h.run pins s σ H R I (f σ H R q)⟩
def grdT : Store → Bool := fun _ => true
def grdL (n : Nat) (xs : List D) : Store → Bool := fun S => match lstAt S n with
  | some ys => D.beqs xs ys
  | none => false
theorem grdL_ok {S : Store} {n : Nat} {xs : List D} (h : grdL n xs S = true) : lstAt S n = some xs := by
  unfold grdL at h
  split at h
  · rename_i ys e
    rw [D.beqs_eq xs ys h]; exact e
  · cases h
def srcOf (d : D) (S : Store) : Option (Src × Store) := match d with
  | .tup xs => some (⟨xs, grdT⟩, S)
  | .fl xs => some (⟨xs, grdT⟩, S)
  | .obj n => (lstAt S n).map fun xs => (⟨xs, grdL n xs⟩, S)
  | _ => none
def diSeq (fe : DE) : DI := fun ρ S => (fe ρ S).bind fun d S1 => optO (srcOf d S1)
section
variable {K : PySem.W.Frag} {G : Gx} {m1 : List Addr} {H1 : Hp} {S1 : Store}
/-- items that stand still, read by place -/
theorem srcOk_of {xs : List D} {grd : Store → Bool} {J : It} {ws : List V} (sm : Sim K G m1 S1 H1) (sv : SVs K m1 H1 xs ws) (w : Walk J ws.length (fun H' => ∃ m' S', Step m1 H1 m' H' ∧ Sim K G m' S' H' ∧ grd S' = true) (YAt ws)) : SrcOk K G m1 H1 ⟨xs, grd⟩ J := by
  show Walk J xs.length _ _
  rw [sv.len]
  refine ⟨w.goes, w.stops, fun i H' x H'' hi hG hy m' S' st sm' hg' => ?_⟩
  obtain ⟨e, hx⟩ := w.yields i H' x H'' hi hG hy
  subst e
  have hi' : i < xs.length := by rw [sv.len]; exact hi
  obtain ⟨v, h1, h2⟩ := sv.get (i := i) (d := xs[i]) (by simp [hi'])
  rw [hx] at h1
  cases h1
  exact ⟨xs[i], by simp [hi'], sm'.refl, sm', h2.mono sm st⟩
theorem srcOk_lst {xs : List D} {ws : List V} {a : Addr} {n : Nat} (sm : Sim K G m1 S1 H1) (hm : m1[n]? = some a) (e : H1 a = some (.lst ws)) (sv : SVs K m1 H1 xs ws) : SrcOk K G m1 H1 ⟨xs, grdL n xs⟩ (Itl K a) := by
  have key : ∀ H' m' S', Step m1 H1 m' H' → Sim K G m' S' H' → grdL n xs S' = true → ∃ (us : List V), H' a = some (.lst us) ∧ SVs K m' H' xs us := by
    intro H' m' S' st sm' hg
    obtain ⟨a', us, h1, h2, h3⟩ := lstAt_ok sm' (grdL_ok hg)
    rw [st.get hm] at h1; cases h1
    exact ⟨us, h2, h3⟩
  show Walk (Itl K a) xs.length _ _
  refine ⟨fun i H' hi ⟨m', S', st, sm', hg⟩ => ?_, fun H' ⟨m', S', st, sm', hg⟩ => ?_, fun i H' x H'' hi _ hy m' S' st sm' hg => ?_⟩
  · obtain ⟨us, h2, h3⟩ := key H' m' S' st sm' hg
    exact ⟨us, us[i]'(by rw [← h3.len]; exact hi), SqL.of h2, by simp⟩
  · obtain ⟨us, h2, h3⟩ := key H' m' S' st sm' hg
    exact ⟨us, SqL.of h2, by rw [h3.len]; exact Nat.le_refl _⟩
  · obtain ⟨us, h2, h3⟩ := key H' m' S' st sm' hg
    obtain ⟨e', hx⟩ := hy
    subst e'
    have hx := hx us (SqL.of h2)
    obtain ⟨v, h4, h5⟩ := h3.get (i := i) (d := xs[i]) (by simp [hi])
    rw [hx] at h4; cases h4
    exact ⟨xs[i], by simp [hi], sm'.refl, sm', h5⟩
theorem sqF_walk {xs : List V} {a : Addr} (sm : Sim K G m1 S1 H1) (h : SqF K H1 a xs) {grd : Store → Bool} : Walk (Itl K a) xs.length (fun H' => ∃ m' S', Step m1 H1 m' H' ∧ Sim K G m' S' H' ∧ grd S' = true) (YAt xs) :=
  (walk_list (K := K) (a := a) (xs := xs)).mono (fun H' ⟨m', S', st, _, _⟩ => (sqF_step sm st h).l) fun _ _ _ _ _ _ y => y
theorem sqT_walk {xs : List V} {a : Addr} (sm : Sim K G m1 S1 H1) (h : SqT K H1 a xs) {grd : Store → Bool} : Walk (Itt K a) xs.length (fun H' => ∃ m' S', Step m1 H1 m' H' ∧ Sim K G m' S' H' ∧ grd S' = true) (YAt xs) :=
  (walk_tup (K := K) (a := a) (xs := xs)).mono (fun H' ⟨m', S', st, _, _⟩ => sqT_step sm st h) fun _ _ _ _ _ _ y => y
/-- numbers -/
def rngD (lo c : Int) (n : Nat) : List D := (List.range n).map fun (i : Nat) => D.int (lo + (i : Int) * c)
theorem srcOk_fn {J : It} {f : Nat → Int} {n : Nat} {xs : List D} (hl : xs.length = n) (hx : ∀ i, i < n → xs[i]? = some (.int (f i))) (w : Walk J n (fun _ => True) (YFn fun i => .int (f i))) : SrcOk K G m1 H1 ⟨xs, grdT⟩ J := by
  show Walk J xs.length _ _
  rw [hl]
  refine ⟨fun i H hi _ => w.goes i H hi trivial, fun H _ => w.stops H trivial, fun i H' x H'' hi _ hy m' S' st sm' _ => ?_⟩
  obtain ⟨e, hx'⟩ := w.yields i H' x H'' hi trivial hy
  subst e
  exact ⟨.int (f i), hx i hi, sm'.refl, sm', hx'⟩
end
section
variable {X : Cx} {G : Gx} {W : WX} {tg e : Expr} {fe : DE} {p pos : Pos}
/-- a list or a tuple, by its value -/
theorem pi_seq {l : Expr} {tl : TE} (hl : PE X l tl) : PI X tg l (fun σ H R => tl σ H fun x H1 => ∃ a, x = .ref a ∧ ((∃ xs, SqL X.K H1 a xs) ∧ R (Itl X.K a) H1 ∨ (∃ xs, SqT X.K H1 a xs) ∧ R (Itt X.K a) H1)) := by
  refine ⟨fun pins s σ H R I h => ?_⟩
  refine thn (hl.run pins s σ H _ I h) fun v s1 ⟨x, H1, I1, r1, q1⟩ => ?_
  obtain ⟨a, e, hq⟩ := q1
  subst e
  cases r1
  rcases hq with ⟨⟨xs, hq⟩, q⟩ | ⟨⟨xs, hq⟩, q⟩
  · obtain ⟨its, rv, p, hz⟩ := I1.list hq
    refine wpAny_pyIter_list p.isList ?_
    refine ⟨s1.heap.objs.size, [s1.heap.objs.size], _, _, H1, rfl, I1.kept (t' := s1.toks) fun b o e => Heap.get?_push_of_some _ e, turn_list a _, ⟨_, Heap.get?_push_size _ rfl, rfl, rfl⟩, fun b hb => ?_, q⟩
    have e : b = s1.heap.objs.size := by simpa using hb
    subst e
    exact I1.fpOk (Nat.le_refl _) (I1.hok.fresh (Nat.le_refl _))
  · obtain ⟨its, rv, p, hz⟩ := I1.tuple hq
    refine wpAny_pyIter_tuple (show s1.heap.IsTuple a its.toArray from p) ?_
    refine ⟨s1.heap.objs.size, [s1.heap.objs.size], _, _, H1, rfl, I1.kept (t' := s1.toks) fun b o e => Heap.get?_push_of_some _ e, turn_tuple a _, ⟨_, Heap.get?_push_size _ rfl, rfl, rfl⟩, fun b hb => ?_, q⟩
    have e : b = s1.heap.objs.size := by simpa using hb
    subst e
    exact I1.fpOk (Nat.le_refl _) (I1.hok.fresh (Nat.le_refl _))
theorem ji_seq (he : JE X G W e fe) : JI X G W tg e (diSeq fe) :=
  PI.imp (pi_seq he) fun σ H R ⟨m, ρ, S, sr, sm, eo⟩ => ⟨m, ρ, S, sr, sm, EO.then (rel := SV X.K) eo fun d S1 v H1 m1 st1 sm1 r1 eo1 => by
    cases d with
    | tup xs =>
      obtain ⟨a, vs, rfl, q, r⟩ := r1
      exact ⟨a, rfl, .inr ⟨⟨vs, q⟩, eo1 _ H1 m1 sm1.refl sm1 (srcOk_of sm1 r (sqT_walk sm1 q))⟩⟩
    | fl xs =>
      obtain ⟨a, vs, rfl, q, r⟩ := r1
      exact ⟨a, rfl, .inl ⟨⟨vs, q.l⟩, eo1 _ H1 m1 sm1.refl sm1 (srcOk_of sm1 r (sqF_walk sm1 q))⟩⟩
    | obj n =>
      unfold srcOf at eo1
      dsimp only at eo1
      cases z : lstAt S1 n with
      | none => rw [z] at eo1; exact eo1.elim
      | some xs =>
        rw [z] at eo1
        obtain ⟨a, rfl, hm⟩ := r1
        obtain ⟨a', vs, h1, h2, h3⟩ := lstAt_ok sm1 z
        rw [hm] at h1; cases h1
        exact ⟨a, rfl, .inl ⟨⟨vs, SqL.of h2⟩, eo1 _ H1 m1 sm1.refl sm1 (srcOk_lst sm1 hm h2 h3)⟩⟩
    | _ => exact eo1.elim⟩
def diRange1 (fe : DE) : DI := fun ρ S => (fe ρ S).bind fun d S1 => match d with
  | .int j => if -1000000000000 ≤ j ∧ j ≤ 1000000000000 then .ok ⟨rngD 0 1 j.toNat, grdT⟩ S1 else .bad
  | _ => .bad
def diRange2 (fa fb : DE) : DI := fun ρ S => (fa ρ S).bind fun d S1 => (fb ρ S1).bind fun e S2 => match d, e with
  | .int i, .int j => if (-1000000000000 ≤ i ∧ i ≤ 1000000000000) ∧ -1000000000000 ≤ j ∧ j ≤ 1000000000000 then .ok ⟨rngD i 1 (j - i).toNat, grdT⟩ S2 else .bad
  | _, _ => .bad
def diRev1 (fe : DE) : DI := fun ρ S => (fe ρ S).bind fun d S1 => match d with
  | .int j => if -1000000000000 ≤ j ∧ j ≤ 1000000000000 then .ok ⟨rngD (j - 1) (-1) j.toNat, grdT⟩ S1 else .bad
  | _ => .bad
theorem rngD_len (lo c : Int) (n : Nat) : (rngD lo c n).length = n := by simp [rngD]
theorem rngD_at (lo c : Int) (n i : Nat) (h : i < n) : (rngD lo c n)[i]? = some (.int (lo + (i : Int) * c)) := by simp [rngD, h]
theorem ji_range1 (hm : X.mg "range" = none) (he : JE X G W e fe) (hg : Gl X "range" := by rfl) (hs : starEach [e] X.env = [(false, eval e X.env)] := by rfl) : JI X G W tg (.Call (.Name "range" p) [e] [] pos) (diRange1 fe) :=
  PI.imp (pi_range1 hg hm (ja_cons he ja_nil hs) hs) fun σ H R ⟨m, ρ, S, sr, sm, eo⟩ => ⟨m, ρ, S, sr, sm, by
    unfold daCons daNil
    unfold diRange1 at eo
    cases z : fe ρ S with
    | bad => rw [z] at eo; exact eo.elim
    | exn x S1 => rw [z] at eo; exact eo
    | ok d S1 =>
      rw [z] at eo
      simp only [Out.bind_ok] at eo ⊢
      intro vs H1 m1 st1 sm1 r1
      have eo1 := eo.step st1
      obtain ⟨v, rfl, rv⟩ := svs1 r1
      split at eo1
      · rename_i j
        split at eo1
        · rename_i hz
          cases rv
          exact ⟨j, rfl, by omega, by omega, eo1 _ H1 m1 sm1.refl sm1 (srcOk_fn (rngD_len _ _ _) (fun i hi => by rw [rngD_at _ _ _ _ hi, Int.mul_one]) walk_range)⟩
        · exact eo1.elim
      · exact eo1.elim⟩
theorem ji_range2 {a b : Expr} {fa fb : DE} (hm : X.mg "range" = none) (ha : JE X G W a fa) (hb : JE X G W b fb) (hg : Gl X "range" := by rfl) (hs : starEach [a, b] X.env = [(false, eval a X.env), (false, eval b X.env)] := by rfl) (hs2 : starEach [b] X.env = [(false, eval b X.env)] := by rfl)
    (h1 : starEach (a :: [b]) X.env = (false, eval a X.env) :: starEach [b] X.env := by rfl) : JI X G W tg (.Call (.Name "range" p) [a, b] [] pos) (diRange2 fa fb) :=
  PI.imp (pi_range2 hg hm (ja_cons ha (ja_cons hb ja_nil hs2) h1) hs hs2) fun σ H R ⟨m, ρ, S, sr, sm, eo⟩ => ⟨m, ρ, S, sr, sm, by
    unfold daCons daNil
    unfold diRange2 at eo
    cases z : fa ρ S with
    | bad => rw [z] at eo; exact eo.elim
    | exn x S1 => rw [z] at eo; exact eo
    | ok d S1 =>
      rw [z] at eo
      simp only [Out.bind_ok] at eo ⊢
      cases z2 : fb ρ S1 with
      | bad => rw [z2] at eo; exact eo.elim
      | exn x S1 => rw [z2] at eo; exact eo
      | ok d2 S2 =>
        rw [z2] at eo
        simp only [Out.bind_ok] at eo ⊢
        intro vs H1 m1 st1 sm1 r1
        have eo1 := eo.step st1
        obtain ⟨v, u, rfl, rv, ru⟩ := svs2 r1
        split at eo1
        · rename_i i j
          split at eo1
          · rename_i hz
            cases rv; cases ru
            exact ⟨i, j, rfl, ⟨by omega, by omega, by omega, by omega⟩, eo1 _ H1 m1 sm1.refl sm1 (srcOk_fn (rngD_len _ _ _) (fun i hi => by rw [rngD_at _ _ _ _ hi, Int.mul_one]) walk_range)⟩
          · exact eo1.elim
        · exact eo1.elim⟩
theorem ji_rev1 {p2 pos2 : Pos} (hm : X.mg "reversed" = none) (hm2 : X.mg "range" = none) (he : JE X G W e fe) (hg : Gl X "reversed" := by rfl) (hg2 : Gl X "range" := by rfl) (hs : starEach [e] X.env = (false, eval e X.env) :: starEach [] X.env := by rfl)
    (hs2 : starEach [.Call (.Name "range" p2) [e] [] pos2] X.env = (false, eval (.Call (.Name "range" p2) [e] [] pos2) X.env) :: starEach [] X.env := by rfl) :
    JI X G W tg (.Call (.Name "reversed" p) [.Call (.Name "range" p2) [e] [] pos2] [] pos) (diRev1 fe) :=
  PI.imp (pi_revR hg hm (prg_1 hg2 hm2 he hs) hs2) fun σ H R ⟨m, ρ, S, sr, sm, eo⟩ => ⟨m, ρ, S, sr, sm, EO.then (rel := SV X.K) eo fun d S1 v H1 m1 st1 sm1 r1 eo1 => by
    split at eo1
    · rename_i j
      split at eo1
      · rename_i hz
        cases r1
        refine ⟨j, rfl, by omega, by omega, by omega, by omega, eo1 _ H1 m1 sm1.refl sm1 ?_⟩
        rw [Int.sub_zero, Int.zero_add]
        refine srcOk_fn (f := fun (i : Nat) => ((j.toNat : Nat) : Int) - 1 + (i : Int) * (-1)) (rngD_len _ _ _) (fun i hi => ?_) walk_rangeC
        rw [rngD_at _ _ _ _ hi]
        have : ((j.toNat : Nat) : Int) = j := by omega
        rw [this]
      · exact eo1.elim
    · exact eo1.elim⟩
/-! ### for -/
def forD (grd : Store → Bool) (g : DG) (f : DS) : List D → DS
  | [], ρ, S => if grd S = true then .nx ρ S else .bad
  | d :: ds, ρ, S => if grd S = true then (match g d ρ S with
    | .nx ρ1 S1 => (match f ρ1 S1 with
      | .nx ρ2 S2 => forD grd g f ds ρ2 S2
      | .ct ρ2 S2 => forD grd g f ds ρ2 S2
      | .bk ρ2 S2 => .nx ρ2 S2
      | o => o)
    | .exn e ρ1 S1 => .exn e ρ1 S1
    | _ => .bad) else .bad
def dFor (fi : DI) (g : DG) (f : DS) : DS := fun ρ S => liftS (fi ρ S) ρ fun src S1 => forD src.grd g f src.items ρ S1
theorem forD_grd {K : PySem.W.Frag} {G : Gx} {W : WX} {E : Ends} {m : List Addr} {H : Hp} {grd : Store → Bool} {g : DG} {f : DS} {ds : List D} {ρ : DEnv} {S : Store} (h : SQ K G W E m H (forD grd g f ds ρ S)) : grd S = true := by
  cases q : grd S with
  | true => rfl
  | false =>
    exfalso
    cases ds with
    | nil =>
      unfold forD at h
      rw [q] at h
      exact h
    | cons d ds =>
      unfold forD at h
      rw [q] at h
      exact h
theorem js_for {iter : Expr} {body : List Stmt} {fi : DI} {g : DG} {f : DS} (hp : PassesOwn (model X.prog X.w) X.A X.env X.xe) (hc : X.calm = true) (hi : JI X G W tg iter fi) (hg : JG X G W tg g) (hb : JSs X G W body f)
    (hs : ∀ x, foldedSetIterable iter X.env x = pure x := by intro _; rfl) : JS X G W (.For tg iter body [] pos) (dFor fi g f) :=
  PS.imp (ps_for hp hc hi hg hb hs) fun E σ H ⟨m, ρ, S, sr, sm, q⟩ => ⟨m, ρ, S, sr, sm, SQ.then (rel := SrcOk X.K G) q sr sm fun src S1 J H1 m1 st1 sm1 w q1 => by
    refine for_it w (fun i σ H => ∃ m ρ S, Step m1 H1 m H ∧ SR X.K m H ρ σ ∧ Sim X.K G m S H ∧ SQ X.K G W E m H (forD src.grd g f (src.items.drop i) ρ S)) ⟨m1, ρ, S1, sm1.refl, sr.mono sm st1, sm1, q1⟩
      (fun i σ H _ ⟨m, ρ, S, a, b, c, d⟩ => ⟨m, S, a, c, forD_grd d⟩) ?_ ?_
    · rintro i x σ H H' hi ⟨m, ρ, S, st, sr, sm, q⟩ hy
      have hgd := forD_grd q
      obtain ⟨d, hd, st2, sm2, sv⟩ := hy m S st sm hgd
      have e0 : src.items.drop i = d :: src.items.drop (i + 1) := by
        rw [List.drop_eq_getElem_cons hi]
        rw [List.getElem?_eq_getElem hi] at hd
        cases hd
        rfl
      rw [e0] at q
      unfold forD at q
      rw [if_pos hgd] at q
      refine ⟨m, ρ, S, d, sr.mono sm st2, sm2, sv, ?_⟩
      have q := SQ.step q st2
      cases e1 : g d ρ S with
      | nx ρ1 S1 =>
        rw [e1] at q
        intro σ' H3 m3 st3 sm3 sr3
        refine ⟨m3, ρ1, S1, sr3, sm3, ?_⟩
        have q := SQ.step q st3
        dsimp only at q
        cases e2 : f ρ1 S1 with
        | nx ρ2 S2 => rw [e2] at q; exact fun σ4 H4 m4 a b c => ⟨m4, ρ2, S2, st.trans (st2.trans (st3.trans a)), c, b, SQ.step q a⟩
        | ct ρ2 S2 => rw [e2] at q; exact fun σ4 H4 m4 a b c => ⟨m4, ρ2, S2, st.trans (st2.trans (st3.trans a)), c, b, SQ.step q a⟩
        | bk ρ2 S2 => rw [e2] at q; exact q
        | rt d S2 => rw [e2] at q; exact q
        | exn x ρ2 S2 => rw [e2] at q; exact q
        | bad => rw [e2] at q; exact q
      | exn x ρ1 S1 => rw [e1] at q; exact q
      | rt d S2 => rw [e1] at q; exact q.elim
      | bk ρ1 S1 => rw [e1] at q; exact q.elim
      | ct ρ1 S1 => rw [e1] at q; exact q.elim
      | bad => rw [e1] at q; exact q.elim
    · rintro σ H ⟨m, ρ, S, st, sr, sm, q⟩
      have hgd := forD_grd q
      rw [List.drop_length] at q
      unfold forD at q
      rw [if_pos hgd] at q
      exact q σ H m sm.refl sm sr⟩
end
end DL
set_option Elab.async false
set_option linter.all false
set_option maxRecDepth 100000
set_option maxHeartbeats 2000000
namespace DL
open PySem PySem.Spec PyProof.Rows L2
/-! ### targets of comprehensions: only the block's own slots change -/
def Agree (vs : List Nat) (σ σ' : L2.St) : Prop := σ'.length = σ.length ∧ ∀ j, j ∉ vs → σ'[j]? = σ[j]?
theorem Agree.refl {vs : List Nat} {σ : L2.St} : Agree vs σ σ := ⟨rfl, fun _ _ => rfl⟩
theorem Agree.trans {vs : List Nat} {σ σ1 σ2 : L2.St} (a : Agree vs σ σ1) (b : Agree vs σ1 σ2) : Agree vs σ σ2 := ⟨b.1.trans a.1, fun j hj => (b.2 j hj).trans (a.2 j hj)⟩
theorem wipe_get (σ : L2.St) : ∀ (vs : List Nat) (j : Nat), (wipe σ vs)[j]? = if j ∈ vs ∧ j < σ.length then some none else σ[j]?
  | [], j => by simp [wipe]
  | v :: vs, j => by
    have ih := wipe_get σ vs j
    have hl := wipe_length σ vs
    unfold wipe
    by_cases e : v = j
    · subst e
      by_cases hlt : v < σ.length
      · rw [List.getElem?_set_self (by rw [hl]; exact hlt), if_pos ⟨List.mem_cons_self, hlt⟩]
      · rw [List.getElem?_eq_none_iff.mpr (by rw [List.length_set, hl]; omega), if_neg (fun z => hlt z.2), List.getElem?_eq_none_iff.mpr (by omega)]
    · rw [List.getElem?_set_ne e, ih]
      by_cases h : j ∈ vs ∧ j < σ.length
      · rw [if_pos h, if_pos ⟨List.mem_cons_of_mem _ h.1, h.2⟩]
      · rw [if_neg h, if_neg (fun z => h ⟨(List.mem_cons.mp z.1).resolve_left (Ne.symm e), z.2⟩)]
theorem wipe_agree {vs : List Nat} {σ σ' : L2.St} (a : Agree vs (wipe σ vs) σ') : wipe σ' vs = wipe σ vs := by
  apply List.ext_getElem?
  intro j
  have h1 := wipe_length σ vs
  rw [wipe_get σ' vs j]
  by_cases h : j ∈ vs
  · by_cases hl : j < σ'.length
    · rw [if_pos ⟨h, hl⟩, wipe_get, if_pos ⟨h, by rw [← h1, ← a.1]; exact hl⟩]
    · rw [if_neg (fun z => hl z.2), List.getElem?_eq_none_iff.mpr (by omega), List.getElem?_eq_none_iff.mpr (by rw [← a.1]; omega)]
  · rw [if_neg (fun z => h z.1)]
    exact a.2 j h
def wipeD (ρ : DEnv) : List Nat → DEnv
  | [] => ρ
  | v :: vs => (wipeD ρ vs).set v none
theorem SR.unset {K : PySem.W.Frag} {m : List Addr} {H : Hp} {ρ : DEnv} {σ : L2.St} (h : SR K m H ρ σ) (i : Nat) : SR K m H (ρ.set i none) (σ.set i none) := by
  refine ⟨by simp [h.1], fun j e hj => ?_⟩
  by_cases hij : i = j
  · subst hij
    have hlt : i < ρ.length := by
      have := (List.getElem?_eq_some_iff.mp hj).1
      simpa using this
    rw [List.getElem?_set_self hlt] at hj
    cases hj
  · rw [List.getElem?_set_ne hij] at hj
    obtain ⟨u, h1, h2⟩ := h.2 j e hj
    exact ⟨u, by rw [List.getElem?_set_ne hij]; exact h1, h2⟩
theorem SR.wipe {K : PySem.W.Frag} {m : List Addr} {H : Hp} {ρ : DEnv} {σ : L2.St} (h : SR K m H ρ σ) : ∀ vs : List Nat, SR K m H (wipeD ρ vs) (L2.wipe σ vs)
  | [] => h
  | v :: vs => (SR.wipe h vs).unset v
def tDGv (K : PySem.W.Frag) (G : Gx) (W : WX) (vs : List Nat) (f : DG) : TG := fun v σ H Q => ∃ m ρ S d, SR K m H ρ σ ∧ Sim K G m S H ∧ SV K m H d v ∧ SQ K G W (noEnds fun σ' H' => Agree vs σ σ' → Q σ' H') m H (f d ρ S)
def tDGsv (K : PySem.W.Frag) (G : Gx) (W : WX) (vs : List Nat) (f : DGs) : TGs := fun us σ H Q => ∃ m ρ S ds, SR K m H ρ σ ∧ Sim K G m S H ∧ SVs K m H ds us ∧ SQ K G W (noEnds fun σ' H' => Agree vs σ σ' → Q σ' H') m H (f ds ρ S)
abbrev JGv (X : Cx) (G : Gx) (W : WX) (vs : List Nat) (tg : Expr) (f : DG) : Prop := PG X tg (tDGv X.K G W vs f)
abbrev JGsv (X : Cx) (G : Gx) (W : WX) (vs : List Nat) (tg : List Expr) (f : DGs) : Prop := PGs X tg (tDGsv X.K G W vs f)
section
variable {X : Cx} {G : Gx} {W : WX} {vs : List Nat} {e : Expr} {pos : Pos}
theorem jgv_name (i : Nat) {x : Str} (hN : X.N.Nodup) (hv : i ∈ vs) (hi : X.N[i]? = some x := by rfl) (hx : Loc X.env.scope x := by first | exact Or.inl rfl | exact Or.inr rfl) (hf : X.fn x = true ∨ X.env.scope.names.lookup x = some .local := by first | exact .inl rfl | exact .inr rfl) : JGv X G W vs (.Name x pos) (gN i) :=
  PG.imp (pg_name hN hi hx hf) fun v σ H Q ⟨m, ρ, S, d, sr, sm, r, q⟩ => q _ H m sm.refl sm (sr.set i r) ⟨by simp, fun j hj => by
    have ne : i ≠ j := fun z => hj (by rw [← z]; exact hv)
    rw [List.getElem?_set_ne ne]⟩
theorem jgsv_nil : JGsv X G W vs [] gsNil := PGs.imp pgs_nil fun us σ H Q ⟨m, ρ, S, ds, sr, sm, r, q⟩ => by
  cases ds with
  | nil => exact ⟨r, q σ H m sm.refl sm sr Agree.refl⟩
  | cons d ds => exact q.elim
theorem jgsv_cons {es : List Expr} {g : DG} {gs : DGs} (h1 : JGv X G W vs e g) (h2 : JGsv X G W vs es gs) (hs : (assignEach (e :: es) X.env).map (·.2) = assign e X.env :: (assignEach es X.env).map (·.2) := by rfl) : JGsv X G W vs (e :: es) (gsCons g gs) :=
  PGs.imp (pgs_cons h1 h2 hs) fun us σ H Q ⟨m, ρ, S, ds, sr, sm, r, q⟩ => by
    cases ds with
    | nil => exact q.elim
    | cons d ds =>
      obtain ⟨v, vr, rfl, a, b⟩ := (show ∃ v r, us = v :: r ∧ SV X.K m H d v ∧ SVs X.K m H ds r from r)
      refine ⟨v, vr, rfl, m, ρ, S, d, sr, sm, a, ?_⟩
      unfold gsCons at q
      dsimp only at q
      cases e1 : g d ρ S with
      | nx ρ1 S1 =>
        rw [e1] at q
        intro σ' H' m' s1 s2 s3 ag
        refine ⟨m', ρ1, S1, ds, s3, s2, b.mono sm s1, ?_⟩
        have q := SQ.step q s1
        dsimp only at q
        cases e2 : gs ds ρ1 S1 with
        | nx ρ2 S2 => rw [e2] at q; exact fun σ2 H2 m2 a b c ag2 => q σ2 H2 m2 a b c (ag.trans ag2)
        | exn x ρ1 S1 => rw [e2] at q; exact q
        | rt d S1 => rw [e2] at q; exact fun v H' m' a b c => (q v H' m' a b c).elim
        | bk ρ1 S1 => rw [e2] at q; exact fun v H' m' a b c => (q v H' m' a b c).elim
        | ct ρ1 S1 => rw [e2] at q; exact fun v H' m' a b c => (q v H' m' a b c).elim
        | bad => rw [e2] at q; exact q.elim
      | exn x ρ1 S1 => rw [e1] at q; exact q
      | rt d S1 => rw [e1] at q; exact q.elim
      | bk ρ1 S1 => rw [e1] at q; exact q.elim
      | ct ρ1 S1 => rw [e1] at q; exact q.elim
      | bad => rw [e1] at q; exact q.elim
theorem jgv_tup {es : List Expr} {k n : Nat} {gs : DGs} (hc : X.calm = true) (h : JGsv X G W vs es gs) (hn : (assignEach es X.env).length = n := by rfl) (hst : (assignEach es X.env).findIdx? (·.1) = none := by rfl) : JGv X G W vs (.Tuple es k pos) (gT n gs) :=
  PG.imp (PG.or (pg_tup hc h hn hst) (pg_lst hc h hn hst)) fun v σ H Q ⟨m, ρ, S, d, sr, sm, r, q⟩ => by
    unfold gT at q
    split at q
    · rename_i xs e1
      split at q
      · rename_i hl
        obtain ⟨p, us, rfl, sv, sq⟩ := seqAt_ok sm e1 r
        rcases sq with sq | sq
        · exact .inr ⟨p, us, rfl, sq, by rw [← sv.len]; exact hl, m, ρ, S, xs, sr, sm, sv, q⟩
        · exact .inl ⟨p, us, rfl, sq, by rw [← sv.len]; exact hl, m, ρ, S, xs, sr, sm, sv, q⟩
      · exact q.elim
    · exact q.elim
/-! ### list comprehensions -/
abbrev W0 : WX := fun _ _ _ _ => False
abbrev JTs (X : Cx) (G : Gx) (W : WX) (es : List Expr) (f : DT) : Prop := PTs X es (tDT X.K G W f)
def dYes : DT := fun _ S => .ok true S
theorem PTs.imp {es : List Expr} {t t' : TT} (h : PTs X es t) (f : ∀ σ H Q, t' σ H Q → t σ H Q) : PTs X es t' := ⟨fun pins s σ H Q I q => h.run pins s σ H Q I (f σ H Q q)⟩
theorem jts_nil : JTs X G W [] dYes := PTs.imp pts_nil fun σ H Q ⟨m, ρ, S, sr, sm, eo⟩ => eo true H m sm.refl sm rfl
theorem jts_one {g : DT} (h : JT X G W e g) : JTs X G W [e] g := pts_one h
def lcD (grd : Store → Bool) (g : DG) (tt : DT) (fe : DE) (n : Nat) (ρ : DEnv) : List D → Store → Out Unit
  | [], S => if grd S = true then .ok () S else .bad
  | d :: ds, S => if grd S = true then (match g d ρ S with
    | .nx ρ1 S1 => (match tt ρ1 S1 with
      | .ok true S2 => (match fe ρ1 S2 with
        | .ok y S3 => (match lstAt S3 n with
          | some acc => if acc.length < 1000000 then lcD grd g tt fe n ρ ds (S3.set n (.lst (acc ++ [y]))) else .bad
          | none => .bad)
        | _ => .bad)
      | .ok false S2 => lcD grd g tt fe n ρ ds S2
      | _ => .bad)
    | _ => .bad) else .bad
def dLc (fi : DI) (g : DG) (tt : DT) (fe : DE) (vs : List Nat) : DE := fun ρ S => (fi ρ S).bind fun src S1 => (lcD src.grd g tt fe S1.length (wipeD ρ vs) src.items (S1 ++ [.lst []])).bind fun _ S2 => .ok (.obj S1.length) S2
theorem lcD_grd {K : PySem.W.Frag} {G : Gx} {α β : Type} {rel : List Addr → Hp → α → β → Prop} {Q : β → Hp → Prop} {Wc : Value → Option Addr → Hp → Prop} {m : List Addr} {H : Hp} {grd : Store → Bool} {g : DG} {tt : DT} {fe : DE} {n : Nat} {ρ : DEnv} {ds : List D} {S : Store} {k : Unit → Store → Out α}
    (h : EO K G rel Q Wc m H ((lcD grd g tt fe n ρ ds S).bind k)) : grd S = true := by
  cases q : grd S with
  | true => rfl
  | false =>
    exfalso
    cases ds with
    | nil => unfold lcD at h; rw [q] at h; exact h
    | cons d ds => unfold lcD at h; rw [q] at h; exact h
theorem lc_core2 {fi : DI} {g : DG} {tt : DT} {fe : DE} {σ : L2.St} {H : Hp} {Q : VK} (h : tD X.K G W (dLc fi g tt fe vs) σ H Q) : tLc (tDI X.K G W fi) (tDGv X.K G W0 vs g) (tDT X.K G W0 tt) (tD X.K G W0 fe) vs σ H Q := by
  obtain ⟨m, ρ, S, sr, sm, eo⟩ := h
  refine ⟨m, ρ, S, sr, sm, EO.then (rel := SrcOk X.K G) eo fun src S1 J H1 m1 st1 sm1 w eo1 => ?_⟩
  intro Dd hD
  have sr1 := sr.mono sm st1
  have st2 : Step m1 H1 (m1 ++ [Dd]) (upd H1 Dd (.lst [])) := Step.new sm1 hD
  have sm2 : Sim X.K G (m1 ++ [Dd]) (S1 ++ [.lst []]) (upd H1 Dd (.lst [])) := sim_lst (ds := []) (vs := []) rfl sm1 hD
  have hmD : (m1 ++ [Dd])[S1.length]? = some Dd := by rw [← sm1.len]; simp
  refine lc_it w (fun i H => ∃ m S, Step (m1 ++ [Dd]) (upd H1 Dd (.lst [])) m H ∧ Sim X.K G m S H ∧ EO X.K G (SV X.K) Q (fun c d H' => W c d σ H') m H ((lcD src.grd g tt fe S1.length (wipeD ρ vs) (src.items.drop i) S).bind fun _ S2 => .ok (.obj S1.length) S2))
    ⟨m1 ++ [Dd], S1 ++ [DO.lst []], sm2.refl, sm2, eo1.step st2⟩ (fun i H _ ⟨m, S, a, b, c⟩ => ⟨m, S, st2.trans a, b, lcD_grd c⟩) ?_ ?_
  · rintro i x H H' hi ⟨m, S, st, sm, eo⟩ hy
    have hgd := lcD_grd eo
    obtain ⟨d, hd, st3, sm3, sv⟩ := hy m S (st2.trans st) sm hgd
    have e0 : src.items.drop i = d :: src.items.drop (i + 1) := by
      rw [List.drop_eq_getElem_cons hi]
      rw [List.getElem?_eq_getElem hi] at hd
      cases hd
      rfl
    rw [e0] at eo
    unfold lcD at eo
    rw [if_pos hgd] at eo
    have srw : SR X.K m H' (wipeD ρ vs) (wipe σ vs) := (sr1.mono sm1 ((st2.trans st).trans st3)).wipe vs
    refine ⟨m, wipeD ρ vs, S, d, srw, sm3, sv, ?_⟩
    have eo := eo.step st3
    cases e1 : g d (wipeD ρ vs) S with
    | nx ρ1 Sa =>
      rw [e1] at eo
      dsimp only at eo
      intro σ4 H4 m4 st4 sm4 sr4 ag
      refine ⟨wipe_agree ag, m4, ρ1, Sa, sr4, sm4, ?_⟩
      have eo := eo.step st4
      cases e2 : tt ρ1 Sa with
      | ok b Sb =>
        rw [e2] at eo
        intro b' H5 m5 st5 sm5 rb
        cases rb
        have eo := eo.step st5
        cases b with
        | true =>
          rw [if_pos rfl]
          dsimp only at eo
          refine ⟨m5, ρ1, Sb, sr4.mono sm4 st5, sm5, ?_⟩
          cases e3 : fe ρ1 Sb with
          | ok y Sc =>
            rw [e3] at eo
            dsimp only at eo
            intro u H6 m6 st6 sm6 ru
            have eo := eo.step st6
            cases e4 : lstAt Sc S1.length with
            | none => rw [e4] at eo; exact eo.elim
            | some acc =>
              rw [e4] at eo
              dsimp only at eo
              by_cases hz : acc.length < 1000000
              · rw [if_pos hz] at eo
                obtain ⟨a', ws, h1, h2, h3⟩ := lstAt_ok sm6 e4
                have stA := (((st.trans st3).trans st4).trans st5).trans st6
                rw [stA.get hmD] at h1
                cases h1
                have stB : Step m6 H6 m6 (upd H6 Dd (.lst (ws ++ [u]))) := Step.put sm6 (stA.get hmD)
                have smB : Sim X.K G m6 (Sc.set S1.length (.lst (acc ++ [y]))) (upd H6 Dd (.lst (ws ++ [u]))) := sm6.put (stA.get hmD) ⟨ws ++ [u], upd_same, (h3.append (SVs.one ru)).mono sm6 stB⟩
                exact ⟨ws, h2, by rw [← h3.len]; exact Nat.lt_of_lt_of_le hz (size6 (Nat.le_refl _)), m6, _, stA.trans stB, smB, eo.step stB⟩
              · rw [if_neg hz] at eo; exact eo.elim
          | exn x Sc => rw [e3] at eo; exact eo.elim
          | bad => rw [e3] at eo; exact eo.elim
        | false =>
          rw [if_neg Bool.false_ne_true]
          exact ⟨m5, Sb, ((st.trans st3).trans st4).trans st5, sm5, eo⟩
      | exn x Sb => rw [e2] at eo; exact eo.elim
      | bad => rw [e2] at eo; exact eo.elim
    | exn x ρ1 Sa => rw [e1] at eo; exact eo.elim
    | rt d Sa => rw [e1] at eo; exact eo.elim
    | bk ρ1 Sa => rw [e1] at eo; exact eo.elim
    | ct ρ1 Sa => rw [e1] at eo; exact eo.elim
    | bad => rw [e1] at eo; exact eo.elim
  · rintro H ⟨m, S, st, sm, eo⟩
    have hgd := lcD_grd eo
    rw [List.drop_length] at eo
    unfold lcD at eo
    rw [if_pos hgd] at eo
    exact eo _ H m sm.refl sm ⟨Dd, rfl, st.get hmD⟩
variable {elt tg iter : Expr} {ifs : List Expr} {scope : Scope} {own : List (Str × Nat)} {fi : DI} {g : DG} {tt : DT} {fe : DE}
theorem je_lc (hc : X.calm = true) (hN : X.N.Nodup) (ok : BlkOk X.N X.env.scope scope own) (hi : JI X G W tg iter fi)
    (hg : ∀ (s : Shared) (H : Hp) (C : Addr) (cl : List (Str × Addr)) (fp : List Addr), JGv (X.blk s H scope (compEnvC scope cl C X.env) fp) G W0 vs tg g) (ht : ∀ (s : Shared) (H : Hp) (C : Addr) (cl : List (Str × Addr)) (fp : List Addr), JTs (X.blk s H scope (compEnvC scope cl C X.env) fp) G W0 ifs tt)
    (he : ∀ (s : Shared) (H : Hp) (C : Addr) (cl : List (Str × Addr)) (fp : List Addr), JE (X.blk s H scope (compEnvC scope cl C X.env) fp) G W0 elt fe) (hs : ∀ x, foldedSetIterable iter X.env x = pure x := by intro _; rfl) (hvs : own.map (·.2) = vs := by rfl) :
    JE X G W (.ListComp elt [⟨tg, iter, ifs, 0⟩] scope pos) (dLc fi g tt fe vs) := by
  subst hvs
  exact PE.imp (pe_lc hc hN hi ok hg ht he hs) fun σ H Q h => lc_core2 h
theorem js_setLc (i : Nat) {y : Str} {py spos : Pos} (hc : X.calm = true) (hN : X.N.Nodup) (ok : BlkOk X.N X.env.scope scope own) (hi : JI X G W tg iter fi)
    (hg : ∀ (s : Shared) (H : Hp) (C : Addr) (cl : List (Str × Addr)) (fp : List Addr), JGv (X.blk s H scope (compEnvC scope cl C X.env) fp) G W0 vs tg g) (ht : ∀ (s : Shared) (H : Hp) (C : Addr) (cl : List (Str × Addr)) (fp : List Addr), JTs (X.blk s H scope (compEnvC scope cl C X.env) fp) G W0 ifs tt)
    (he : ∀ (s : Shared) (H : Hp) (C : Addr) (cl : List (Str × Addr)) (fp : List Addr), JE (X.blk s H scope (compEnvC scope cl C X.env) fp) G W0 elt fe)
    (hsw : swapsWith (.ListComp elt [⟨tg, iter, ifs, 0⟩] scope pos) (some (.Name y py)) spos.line X.env = pure true)
    (hy : X.N[i]? = some y := by rfl) (hyl : X.env.scope.names.lookup y = some .local := by rfl)
    (hs : ∀ x, foldedSetIterable iter X.env x = pure x := by intro _; rfl) (hvs : own.map (·.2) = vs := by rfl) :
    JS X G W (.Assign [.Name y py] (.ListComp elt [⟨tg, iter, ifs, 0⟩] scope pos) spos) (dAsg (dLc fi g tt fe vs) (gN i)) := by
  subst hvs
  exact PS.imp (ps_setLc hc hN hy hyl hsw hi ok hg ht he hs) fun E σ H ⟨m, ρ, S, sr, sm, q⟩ => lc_core2 (W := W) ⟨m, ρ, S, sr, sm, SQ.then (rel := SV X.K) q sr sm fun d S1 v H1 m1 st1 sm1 r1 q1 => q1 _ H1 m1 sm1.refl sm1 ((sr.mono sm st1).set i r1)⟩
end
end DL
set_option Elab.async false
set_option linter.all false
set_option maxRecDepth 100000
set_option maxHeartbeats 2000000
namespace DL
open PySem PySem.Spec PyProof.Rows L2
/-! ### a def's body -/
def startD (n : Nat) (ds : List D) : DEnv := ds.map some ++ List.replicate (n - ds.length) none
def runD (n : Nat) (f : DS) : DF := fun ds S => match f (startD n ds) S with
  | .nx _ S1 => .ok .non S1
  | .rt d S1 => .ok d S1
  | .exn e _ S1 => .exn e S1
  | _ => .bad
abbrev WF (E : XK) : WX := fun cls d _ H => E cls d H
theorem startD_ok {K : PySem.W.Frag} {m : List Addr} {H : Hp} {N : List Str} {ds : List D} {vs : List V} (h : SVs K m H ds vs) : SR K m H (startD N.length ds) (L2.start N vs) := by
  have hl := h.len
  refine ⟨by simp [startD, L2.start, hl], fun i d e => ?_⟩
  unfold startD at e
  unfold L2.start
  by_cases hi : i < ds.length
  · rw [List.getElem?_append_left (by simpa using hi), List.getElem?_map] at e
    rw [List.getElem?_append_left (by simpa [← hl] using hi), List.getElem?_map]
    cases q : ds[i]? with
    | none => rw [q] at e; cases e
    | some d' =>
      rw [q] at e
      cases e
      obtain ⟨v, h1, h2⟩ := h.get q
      exact ⟨v, by rw [h1]; rfl, h2⟩
  · rw [List.getElem?_append_right (by simpa using hi)] at e
    rw [List.getElem?_replicate] at e
    split at e <;> cases e
section
variable {P : Program} {w : World} {K : PySem.W.Frag} {mg : Str → Option Value} {base : Heap} {G : Gx} {x qual : Str} {params : Arguments} {body : List Stmt} {scope : Scope} {f : Addr} {fd : FuncData} {N ps : List Str} {k : Nat} {fb : DS}
theorem body_core {X : Cx} {vs : List V} {H : Hp} {Q : VK} {E : XK} {m : List Addr} {ds : List D} {S : Store} (hN : X.N = N) (sv : SVs X.K m H ds vs) (sm : Sim X.K G m S H) (eo : EO X.K G (SV X.K) Q E m H (runD N.length fb ds S)) :
    tDS X.K G (WF E) fb { nx := fun _ H' => Q .non H', rt := Q } (L2.start N vs) H := by
  refine ⟨m, startD N.length ds, S, startD_ok sv, sm, ?_⟩
  unfold runD at eo
  cases e : fb (startD N.length ds) S with
  | nx ρ S1 => rw [e] at eo; exact fun σ H' m' a b c => eo .non H' m' a b rfl
  | rt d S1 => rw [e] at eo; exact eo
  | exn x ρ S1 => rw [e] at eo; exact fun cls dx σ H' m' a b c d => eo cls dx H' m' a b d
  | bk ρ S1 => rw [e] at eo; exact eo.elim
  | ct ρ S1 => rw [e] at eo; exact eo.elim
  | bad => rw [e] at eo; exact eo.elim
/-- THE RULE for a def; the body's derivation may use that its code object is told by K -/
theorem fnOk_of (F : FunD K x qual params body scope [] [] f fd) (Sc : FnScope N ps scope)
    (hbody : ∀ (cdv : Value) (A : Around) (outer : List Env) (s : Shared) (H : Hp) (E : XK), (∃ (oc : Value) (od : Option Addr) (osl : Array (Option Value)) (fd' : FuncData), K.lookup f = some ⟨oc, od, .func fd', osl⟩ ∧ fd'.code = cdv) → PySem.W.codeIn K cdv qual = true → Room k (A.deeper (envOfC qual scope s.heap.objs.size f cdv)) →
      JSs (cxOf (L2.CX P w) P w K mg base N qual scope f cdv A outer s H E) G (WF E) body fb) : FnOk P w K mg base (L2.CX P w) (k + 1) f fd ps (spD K G ps.length (runD N.length fb)) := by
  obtain ⟨oc, od, dV, kV, doc, pm, an, cdv, ct, osl, rfl, lk, hcd, _, _⟩ := F.ex
  refine fn_of lk hcd Sc (fun vs H Q E h => ?_) fun A outer s H vs Q E hr h => ?_
  · obtain ⟨m, ds, S, hl, sv, _⟩ := h
    rw [← sv.len, hl]
  · obtain ⟨m, ds, S, hl, sv, sm, eo⟩ := h
    exact ⟨_, hbody cdv A outer s H E ⟨oc, od, osl, _, lk, rfl⟩ hcd hr, body_core (X := cxOf (L2.CX P w) P w K mg base N qual scope f cdv A outer s H E) rfl sv sm eo⟩
theorem fnD_of (F : FunD K x qual params body scope [] [] f fd) (Sc : FnScope N ps scope) (hb : Binds K fd ps [])
    (hbody : ∀ (cdv : Value) (A : Around) (outer : List Env) (s : Shared) (H : Hp) (E : XK), (∃ (oc : Value) (od : Option Addr) (osl : Array (Option Value)) (fd' : FuncData), K.lookup f = some ⟨oc, od, .func fd', osl⟩ ∧ fd'.code = cdv) → PySem.W.codeIn K cdv qual = true → Room k (A.deeper (envOfC qual scope s.heap.objs.size f cdv)) →
      JSs (cxOf (L2.CX P w) P w K mg base N qual scope f cdv A outer s H E) G (WF E) body fb) : FnD P w K mg base G (k + 1) f ps.length (runD N.length fb) :=
  ⟨⟨fd, ps, fnOk_of F Sc hbody, hb⟩, F.kp⟩
end
/-! ### a lambda handed to a def that tells refusals by texts -/
def subB (a b : String) : Bool := a == b || b == "WageFault"
def pickD : List (String × Str) → String → Option Str
  | [], _ => none
  | (c, t) :: r, e => if subB e c = true then some t else pickD r e
def dTold (rs : List String) (cs : List (String × Str)) (f : DE) : DE := fun ρ S => match f ρ S with
  | .ok d S1 => .ok d S1
  | .exn e S1 => if e.c ∈ rs then (match pickD cs e.c with
    | some t => .ok (.str t) S1
    | none => .bad) else .bad
  | .bad => .bad
def pickP (K : PySem.W.Frag) (Q : VK) (cls : Value) (H' : Hp) : List (Addr × Str) → Prop
  | [] => False
  | (c, t) :: r => ∃ b, PySem.W.exmOne K cls (.ref c) = some b ∧ (b = true → Q (.str t) H') ∧ (b = false → pickP K Q cls H' r)
def TMany (K : PySem.W.Frag) (cs : List (Addr × Str)) : (XK → Hp → VK → Prop) → Hp → VK → Prop := fun tl H Q => tl (fun cls _ H' => pickP K Q cls H' cs) H Q
/-- the clauses: except x: return 't' -/
inductive TellHs (X : Cx) (sg : Scope) : List ExceptHandler → List (Addr × Str) → Prop
  | nil : TellHs X sg [] []
  | cons {e ret : Str} {C : Addr} {j : Nat} {p4 p5 p6 p7 : Pos} {hds : List ExceptHandler} {l : List (Addr × Str)} (hg : sg.names.lookup e = some .globalImplicit) (hm : X.mg e = some (.ref C)) (hd : (e == ("__debug__" : Str)) = false) (r : TellHs X sg hds l) :
      TellHs X sg (.ExceptHandler (some (.Name e p4)) none [.Return (some (.Constant (.str ret) j p5)) p6] p7 :: hds) ((C, ret) :: l)
section
variable {X : Cx} {G : Gx} {W : WX}
theorem tell_hds {Ng : List Str} {x : Str} {sg : Scope} {g : Addr} {cdg : Value} {s : Shared} {H : Hp} {hds : List ExceptHandler} {l : List (Addr × Str)} (h : TellHs X sg hds l) :
    HdsOk (cxOf C8.CX0 X.prog X.w X.K X.mg X.base Ng x sg g cdg X.A X.stack s H C8.E0).nox hds (l.map fun q => (Value.ref q.1, fun _ _ _ => tRet (tC (.str q.2)))) := by
  induction h with
  | nil => exact .nil
  | cons hg hm hd r ih => exact .cons ⟨hg, hd, .inl hm⟩ (fun a oe cls d pn _ _ => pss_one (ps_ret pe_str)) ih
theorem many_pick {K : PySem.W.Frag} {D : Ends} {Q : VK} (hrt : D.rt = Q) {cls : Value} {d : Option Addr} {σ : L2.St} {H' : Hp} : ∀ {l : List (Addr × Str)}, pickP K Q cls H' l → wMany K (fun _ _ _ _ => False) D (l.map fun q => (Value.ref q.1, fun _ _ _ => tRet (tC (.str q.2)))) cls d σ H'
  | [], h => h
  | (c, t) :: r, ⟨b, h1, h2, h3⟩ => ⟨b, h1, fun hb a _ => by
      show D.rt (.str t) H'
      rw [hrt]; exact h2 hb, fun hb => many_pick hrt (h3 hb)⟩
theorem told_many {Ng : List Str} {x a q : Str} {sg : Scope} {g : Addr} {cdg : Value} {h₀ : ExceptHandler} {hds : List ExceptHandler} {l : List (Addr × Str)} {p1 p2 p3 p8 : Pos} (hh : TellHs X sg (h₀ :: hds) l) (h0 : ∀ f : Addr, (L2.start Ng [V.ref f])[0]? = some (some (V.ref f))) :
    LamX.GivesTo X Ng x sg g cdg [.Try [.Return (some (.Call (.Name a p1) [] [] p2)) p3] (h₀ :: hds) [] [] p8] a q (TMany X.K l) := by
  intro f c' s H Q tl act hc h
  refine ⟨_, pss_one (ps_try_many (X := (cxOf C8.CX0 X.prog X.w X.K X.mg X.base Ng x sg g cdg X.A X.stack s H C8.E0).nox)
      (tb := fun W D σ H => ∃ Ech : XK, (∀ cls d σ' H', Ech cls d H' → W cls d σ' H') ∧ σ[0]? = some (some (.ref f)) ∧ H c' = some (LamX.CodeO c' q) ∧ tl Ech H D.rt)
      rfl rfl LamX.takes0 (fun W pn xe tk _ => ?_) (tell_hds hh)), ?_⟩
  · refine ⟨fun pins s' σ H' D I h' => ?_⟩
    obtain ⟨Ech, hW, h1, h2, h3⟩ := h'
    have hp := act W pn xe Ech p1 p2 tk hW
    have hq := pss_one (ps_ret (pos := p3) hp)
    exact hq.run pins s' σ H' D I ⟨h1, h2, h3⟩
  · exact ⟨fun cls _ H' => pickP X.K Q cls H' l, fun cls d σ' H' hp => many_pick rfl hp, h0 f, hc, h⟩
theorem lam_takes {A : Around} {outer : List Env} {s : Shared} {H : Hp} {E : XK} {scope : Scope} {f c' : Addr} : Takes (LamX.lamCx X A outer s H E scope f c') (WF E) := takes_of rfl rfl rfl rfl
theorem pick_of {K : PySem.W.Frag} {Q : VK} {H' : Hp} {e : String} (cs : List (String × Str)) (hx : ∀ q ∈ cs, PySem.W.exmOne K (.ref (G.cA e)) (.ref (G.cA q.1)) = some (subB e q.1)) {t : Str} (hp : pickD cs e = some t) (hQ : Q (.str t) H') :
    pickP K Q (.ref (G.cA e)) H' (cs.map fun q => (G.cA q.1, q.2)) := by
  induction cs with
  | nil => cases hp
  | cons q r ih =>
    obtain ⟨c, t'⟩ := q
    unfold pickD at hp
    refine ⟨subB e c, hx _ List.mem_cons_self, fun hb => ?_, fun hb => ih (fun q hq => hx q (List.mem_cons_of_mem _ hq)) ?_⟩
    · rw [if_pos hb] at hp
      cases hp
      exact hQ
    · rw [hb, if_neg Bool.false_ne_true] at hp
      exact hp
theorem sim_ext {K : PySem.W.Frag} {m : List Addr} {S : Store} {H H1 : Hp} (sm : Sim K G m S H) (e : LamX.ExtN H H1) (t : LamX.Tabs G.T H1) : Step m H m H1 ∧ Sim K G m S H1 := by
  have st : Step m H m H1 := ⟨⟨[], by simp⟩, sm.nd, fun b o h1 h2 _ => e b o h1 h2⟩
  refine ⟨st, sm.len, sm.nd, fun n o a h1 h2 => ?_, t⟩
  obtain ⟨u, eu, mu⟩ := sm.mem (List.mem_of_getElem? h2)
  refine (sm.at_ n o a h1 h2).mono sm st ?_
  rw [eu]
  exact e a u eu (fun ps z => by subst z; exact mu)
/-- told(lambda: body) -/
theorem je_told {x a : Str} {g c P : Addr} {k : Nat} {pg : Arguments} {sg : Scope} {dV kV doc pm cdv ct oc : Value} {an od : Option Addr} {osl : Array (Option Value)} {Ng : List Str} {h₀ : ExceptHandler} {hds : List ExceptHandler} {rs : List String} {cs : List (String × Str)} {p1 p2 p3 p8 : Pos}
    {params : Arguments} {body : Expr} {scope : Scope} {f : DE} {p lpos pos : Pos} (hm : X.mg x = some (.ref g)) (hk : PySem.W.keepIn X.K (.ref g) = true)
    (lk : X.K.lookup g = some ⟨oc, od, .func (PySem.W.fnOf x x pg [.Try [.Return (some (.Call (.Name a p1) [] [] p2)) p3] (h₀ :: hds) [] [] p8] sg dV kV doc pm an cdv ct), osl⟩) (hcg : PySem.W.codeIn X.K cdv x = true)
    (hb : L2.Binds X.K (PySem.W.fnOf x x pg [.Try [.Return (some (.Call (.Name a p1) [] [] p2)) p3] (h₀ :: hds) [] [] p8] sg dV kV doc pm an cdv ct) [a] []) (Sg : FnScope Ng [a] sg) (hNg : Ng[0]? = some a) (hva : Vis sg a) (h0 : ∀ f : Addr, (L2.start Ng [V.ref f])[0]? = some (some (V.ref f)))
    (hh : TellHs X sg (h₀ :: hds) (cs.map fun q => (G.cA q.1, q.2))) (hx : ∀ e ∈ rs, ∀ q ∈ cs, PySem.W.exmOne X.K (.ref (G.cA e)) (.ref (G.cA q.1)) = some (subB e q.1))
    (TB : LamX.TabB X.base X.mg c P) (hcode : X.env.code = .ref c) (hmT : (P, X.env.qual ++ "<lambda>") ∈ G.T) (hu : ∀ p ∈ G.T, p.1 = P → p.2 = X.env.qual ++ "<lambda>") (hr : Room (k + 2) X.A) (L : LamX.LamS X.env.scope scope) (hdef : defaultsOf params X.env = ([], []))
    (hbind : ∀ (q : Str) (cl : List (Str × Addr)) (pm cv ctv : Value), bindArgs (PySem.W.kla_fn "<lambda>" q params body scope cl pm cv ctv) ⟨[], []⟩ = pure [])
    (hbody : ∀ (A : Around) (outer : List Env) (s : Shared) (H : Hp) (E : XK) (f0 c' : Addr), Room k (A.deeper (LamX.lamEnv X scope s.heap.objs.size f0 c')) → JE (LamX.lamCx X A outer s H E scope f0 c') G (WF E) body f)
    (hg : Gl X x := by rfl) (hdb : (x == ("__debug__" : Str)) = false := by decide) (hd : (a == ("__debug__" : Str)) = false := by decide) (hcd : (a == ("__classdict__" : Str)) = false := by decide) :
    JE X G W (.Call (.Name x p) [.Lambda params body scope lpos] [] pos) (dTold rs cs f) := by
  refine PE.imp (LamX.pe_lamcall (T := G.T) (t := fun E => tD X.K G (WF E) f) hg hm hk lk hcg hb Sg hNg hva (told_many hh h0) TB hcode hmT hu hr L hdef hbind hbody hdb hd hcd) fun σ H Q ⟨m, ρ, S, sr, sm, eo⟩ => ?_
  refine ⟨sm.tabs, fun H1 e1 t1 => ?_⟩
  obtain ⟨st, sm1⟩ := sim_ext sm e1 t1
  refine ⟨m, ρ, S, sr.mono sm st, sm1, ?_⟩
  have eo1 := eo.step st
  unfold dTold at eo1
  cases z : f ρ S with
  | ok d S1 => rw [z] at eo1; exact eo1
  | bad => rw [z] at eo1; exact eo1.elim
  | exn e S1 =>
    rw [z] at eo1
    dsimp only at eo1
    split at eo1
    · rename_i hrs
      split at eo1
      · rename_i t ht
        intro cls dx H' m' a b xo
        rw [show cls = .ref (G.cA e.c) from xo]
        exact pick_of cs (hx e.c hrs) ht (eo1 _ H' m' a b rfl)
      · exact eo1.elim
    · exact eo1.elim
end
/-! ### the law's end -/
theorem sim_none {K : PySem.W.Frag} {G : Gx} {H : Hp} (t : LamX.Tabs G.T H) : Sim K G [] [] H := ⟨rfl, List.nodup_nil, fun n o a h _ => by simp at h, t⟩
theorem ints_svs {K : PySem.W.Frag} {m : List Addr} {H : Hp} : ∀ ns : List Int, SVs K m H (ns.map D.int) (ns.map V.int)
  | [] => rfl
  | n :: ns => ⟨_, _, rfl, rfl, ints_svs ns⟩
/-- the script as it may be met: a fixed list, or the store's first -/
def ScriptAt (ns : List Int) (d : D) (S : Store) : Prop := (d = .fl (ns.map D.int) ∧ S = []) ∨ (d = .obj 0 ∧ S = [.lst (ns.map D.int)])
theorem law_sp {K : PySem.W.Frag} {G : Gx} {F : DF} {H : Hp} {a : Addr} {ns : List Int} (t : LamX.Tabs G.T H) (hS : SqL K H a (ns.map V.int)) (h : ∀ d S, ScriptAt ns d S → ∃ S', F [d] S = .ok (.bl true) S') : spD K G 1 F [.ref a] H (fun v _ => v = .bl true) (fun _ _ _ => False) := by
  have fin : ∀ {m : List Addr} {d : D} {S : Store}, ScriptAt ns d S → EO K G (SV K) (fun v _ => v = .bl true) (fun _ _ _ => False) m H (F [d] S) := fun {m d S} q => by
    obtain ⟨S', e⟩ := h d S q
    rw [e]
    exact fun v H' m' _ _ r => r
  rcases hS with (e | ⟨o, e⟩) | e
  · have sm : Sim K G [a] [.lst (ns.map D.int)] H := ⟨rfl, by simp, fun n o b h1 h2 => by
      cases n with
      | zero => simp at h1 h2; subst h1 h2; exact ⟨_, e, ints_svs ns⟩
      | succ n => simp at h1, t⟩
    exact ⟨[a], [.obj 0], _, rfl, SVs.one ⟨a, rfl, rfl⟩, sm, fin (.inr ⟨rfl, rfl⟩)⟩
  · exact ⟨[], [.fl (ns.map D.int)], [], rfl, SVs.one ⟨a, _, rfl, .inl ⟨o, e⟩, ints_svs ns⟩, sim_none t, fin (.inl ⟨rfl, rfl⟩)⟩
  · exact ⟨[], [.fl (ns.map D.int)], [], rfl, SVs.one ⟨a, _, rfl, .inr e, ints_svs ns⟩, sim_none t, fin (.inl ⟨rfl, rfl⟩)⟩
end DL
set_option Elab.async false
set_option linter.all false
set_option maxRecDepth 100000
set_option maxHeartbeats 2000000
namespace DL
open PySem PySem.Spec PyProof.Rows L2
/-! ### enumerate(tuple) -/
set_option maxHeartbeats 4000000 in
theorem meets_enum1 {v : Value} {o : Obj} {H : Heap → Prop} (B : Begins v o H) :
    Meets (Builtin.«enumerate.__new__» ⟨[.type "enumerate", v], []⟩) (fun _ R s => H s.heap ∧
      R (.ok (.ret (.ref (s.heap.push o).objs.size))) { s with heap := (s.heap.push o).push { cls := .type "enumerate", data := .fields #[.none, .bool false, .ref s.heap.objs.size, rawInt 0, .none, .none] } }) :=
  .of_wp fun prog w A R s h => by
    obtain ⟨hp, g, d, tk, os⟩ := s; obtain ⟨h1, h⟩ := h
    have hsub := sub_enumerate
    have q1 : ∀ {A' : Around} {E : Value → Shared → Prop} {Q : Value → Shared → Prop}, Q (.ref hp.objs.size) ⟨hp.push o, g, d, tk, os⟩ → wpAny (model prog w) A' (pyIter v) Q E ⟨hp, g, d, tk, os⟩ :=
      fun q => B.iter prog w _ _ ⟨hp, g, d, tk, os⟩ _ h1 q
    wp_walk using q1
    refine wpAny_stack_any fun st => wpAny_pure ?_
    split
    · rename_i c _ _ _ _ _
      cases (c == Value.type "enumerate")
      · wp_walk using q1
        exact ⟨_, rfl, h⟩
      · wp_walk using q1
        exact ⟨_, rfl, h⟩
    · wp_walk using q1
      exact ⟨_, rfl, h⟩
section
variable {prog : Program} {w : World} {A : Around} {E : Value → Shared → Prop} {s : Shared}
theorem enum1_begins {v : Value} {o : Obj} {H : Heap → Prop} {Q : Value → Shared → Prop} (B : Begins v o H) (h1 : H s.heap)
    (h : ∀ h', IsEnum h' (s.heap.objs.size + 1) s.heap.objs.size 0 .none → h'.get? s.heap.objs.size = some o → h'.objs.size = s.heap.objs.size + 2 →
      (∀ b o, s.heap.get? b = some o → h'.get? b = some o) → Q (.ref (s.heap.objs.size + 1)) { s with heap := h' }) :
    wpAny (model prog w) A (call (.type "enumerate") [v]) Q E s := by
  refine callType_new F.called_enumerate (by decide) (F.typeCall_enumerate_1 _) (F.newCall_enumerate_1 _) (fun obj => F.args_object_init_2 obj _) F.entry_enumerate_new
    (meets_enum1 B) ⟨h1, ?_⟩
  have hz : (s.heap.push o).objs.size = s.heap.objs.size + 1 := Heap.size_push ..
  show _ ∧ _
  rw [hz]
  have he : IsEnum ((s.heap.push o).push { cls := .type "enumerate", data := .fields #[.none, .bool false, .ref s.heap.objs.size, rawInt 0, .none, .none] }) (s.heap.objs.size + 1) s.heap.objs.size 0 .none := by
    have := Heap.get?_push_size (s.heap.push o) (o := { cls := .type "enumerate", data := .fields #[.none, .bool false, .ref s.heap.objs.size, rawInt 0, .none, .none] }) rfl
    rw [hz] at this; exact this
  refine ⟨⟨_, he, rfl⟩, h _ he (Heap.get?_push_of_some _ (Heap.get?_push_size _ B.free)) (by rw [Heap.size_push, hz]) fun b o x => Heap.get?_push_of_some _ (Heap.get?_push_of_some _ x)⟩
end
/-- the tuple at a, each item in a new pair -/
def ItTe (K : PySem.W.Frag) (a : Addr) : It :=
  ⟨fun i H => ∃ (xs : List V) (x : V), SqT K H a xs ∧ xs[i]? = some x, fun i H v H' => ∃ T x, v = .ref T ∧ H T = none ∧ H' = upd H T (.tup [.int (i : Nat), x]) ∧ ∀ xs, SqT K H a xs → xs[i]? = some x, fun i H => ∃ xs : List V, SqT K H a xs ∧ xs.length = i⟩
theorem turn_enumT {P : Program} {w : World} {K : PySem.W.Frag} {elts : List Expr} {kk : Nat} {tpos : Pos} (a e it : Addr) :
    Turn P w K (.Tuple elts kk tpos) (ItTe K a) [e, it] e (fun i h => (∃ old, IsEnum h e it ((i : Nat) : Int) old) ∧ h.IsTupleIter it a i ∧ e ≠ it ∧ a ≠ it ∧ e ≠ a) where
  mem := by simp
  obj := fun i h st b hb => by
    obtain ⟨⟨old, he⟩, ⟨o, ho, hc, hd⟩, _⟩ := st
    have e' : b = e ∨ b = it := by simpa using hb
    rcases e' with z | z
    · rw [z]; exact ⟨_, he, fun v q => nomatch q⟩
    · rw [z]; exact ⟨o, ho, fun v q => by rw [hd] at q; cases q⟩
  keep := fun i h h' st k => let ⟨⟨old, he⟩, hi, hne⟩ := st; ⟨⟨old, k e (by simp) _ he⟩, hi.at fun o q => k it (by simp) o q, hne⟩
  item := by
    intro X hP hw hK hc i pins s σ H E I hf st hg
    subst hP hw hK
    obtain ⟨⟨old, he⟩, hit, hne, hai, hea⟩ := st
    obtain ⟨xs, x, hq, hx⟩ := hg
    obtain ⟨its, rv, p, hz⟩ := I.tuple hq
    obtain ⟨u, hu, ru⟩ := rv.get hx
    have hel : e < s.heap.objs.size := Heap.lt_size he
    have hil : it < s.heap.objs.size := by obtain ⟨_, q, _⟩ := hit; exact Heap.lt_size q
    have Dr := Draws.tuple (prog := X.prog) (w := X.w) (A := X.A.in1) (show X.A.in1.handled = none from I.ok.hd hc) it a hai its.toArray
    have hlt : i < its.toArray.size := by
      have := (List.getElem?_eq_some_iff.mp hu).1
      simpa using this
    refine wpAny_pyNext_enum_itemD Dr he ⟨hit, p⟩ hlt hne (by simp [hne, hea]) fun y h' tk hy ho hst' hT hsz hk => ?_
    have ey : y = u := by
      have hy : its.toArray[i]? = some y := hy
      have hu' : its.toArray[i]? = some u := by simpa using hu
      rw [hy] at hu'
      exact Option.some.inj hu'
    subst ey
    refine ⟨_, rfl, wpAny_letOwnedTupleGo_enum (s := { s with heap := h', toks := tk + 1 }) ho fun h'' he' sb => ?_⟩
    have hT2 : h''.get? s.heap.objs.size = some { cls := .type "tuple", data := .seq #[.int i tk, y] } := (sb.2 _ (Nat.ne_of_gt hel)).trans hT
    have new : ObjOk X.prog X.w (upd H s.heap.objs.size (.tup [.int (i : Nat), x])) h'' s.heap.objs.size (.tup [.int (i : Nat), x]) :=
      ⟨by show 2 ≤ sizeLine; decide, [.int i tk, y], .cons ⟨_, rfl⟩ (.cons ru .nil), ⟨_, hT2, rfl, _, rfl⟩⟩
    have I1 : Inv X pins σ (upd H s.heap.objs.size (.tup [.int (i : Nat), x])) { s with heap := h'', toks := tk + 1 } :=
      I.turnedNew (ch := [e, it]) (fun b ob hb q => (sb.2 b (fun z => hb (by simp [z]))).trans (hk b ob (fun z => hb (by simp [z])) (fun z => hb (by simp [z])) q)) hf (Nat.le_refl _) new
    refine ⟨.ref s.heap.objs.size, _, I1, rfl, ⟨_, x, rfl, I.hok.fresh (Nat.le_refl _), rfl, fun ys hy => by rw [I.tuple_inj hy hq]; exact hx⟩, ⟨⟨y, ?_⟩, hst'.1.at fun o q => (sb.2 it (Ne.symm hne)).trans q, hne, hai, hea⟩, fun b hb => ?_⟩
    · have e1 : ((i + 1 : Nat) : Int) = (i : Int) + 1 := by omega
      rw [e1]; exact he'
    · have hb' : b < s.heap.objs.size := by
        have e' : b = e ∨ b = it := by simpa using hb
        rcases e' with z | z
        · rw [z]; exact hel
        · rw [z]; exact hil
      rw [upd_ne (Nat.ne_of_lt hb')]
      exact (hf b hb).1
  done := by
    intro X hP hw hK hc i pins s σ H E I hf st hg
    subst hP hw hK
    obtain ⟨⟨old, he⟩, hit, hne, hai, hea⟩ := st
    obtain ⟨xs, hq, hx⟩ := hg
    obtain ⟨its, rv, p, hz⟩ := I.tuple hq
    obtain ⟨f0, f1, f2, f3, f4, f5⟩ := hf it (by simp)
    have hl := rv.length
    have Dr := Draws.tuple (prog := X.prog) (w := X.w) (A := X.A.in1) (show X.A.in1.handled = none from I.ok.hd hc) it a hai its.toArray
    have hit2 : s.heap.IsTupleIter it a its.toArray.size := by
      have : its.toArray.size = i := by simp; omega
      rw [this]; exact hit
    exact wpAny_pyNext_enum_endD Dr he ⟨hit2, p⟩ fun h' eb => ⟨rfl, I.turned (t' := s.toks) (fun b o hb q => eb b o hb q) f0 f1 f3 f4 f5⟩
  self := fun A i s Q E st h => let ⟨⟨_, he⟩, _⟩ := st; wpAny_pyIter_enum he h
theorem walk_enumT {K : PySem.W.Frag} {a : Addr} {xs : List V} : Walk (ItTe K a) xs.length (fun H => SqT K H a xs) (YPair (fun i => some (.int (i : Nat))) (fun i => xs[i]?)) := by
  refine ⟨fun i _ hi q => ⟨xs, xs[i], q, by simp [hi]⟩, fun _ q => ⟨xs, q, rfl⟩, fun i H v H' _ q y => ?_⟩
  obtain ⟨T, x, h1, h2, h3, h4⟩ := y
  exact ⟨T, .int (i : Nat), x, h1, h2, h3, rfl, h4 xs q⟩
/-- enumerate of a list or a tuple, by its value -/
theorem pi_enumS {X : Cx} {e : Expr} {ta : TA} {p pos tpos : Pos} {elts : List Expr} {kk : Nat} (hg : Gl X "enumerate") (hm : X.mg "enumerate" = none) (ha : PA X [e] ta) (hs : starEach [e] X.env = [(false, eval e X.env)] := by rfl) :
    PI X (.Tuple elts kk tpos) (.Call (.Name "enumerate" p) [e] [] pos) (fun σ H R => ta σ H fun vs H1 => ∃ a, vs = [.ref a] ∧ ((∃ xs, SqL X.K H1 a xs) ∧ R (Ite X.K a) H1 ∨ (∃ xs, SqT X.K H1 a xs) ∧ R (ItTe X.K a) H1)) := by
  refine ⟨fun pins s σ H R I h => ?_⟩
  refine Call_ (ld_blt I hg hm boot_enumerate (PyProof.Rows.callWith_type1 (thn (ha.run pos pins s σ H _ I h) fun us s1 ⟨vs, H1, I1, r1, q1⟩ => ?_) hs rfl))
  obtain ⟨a, ex, hq⟩ := q1
  subst ex
  cases r1 with
  | cons r rr =>
    cases rr
    cases r
    rcases hq with ⟨⟨xs, hq⟩, q⟩ | ⟨⟨xs, hq⟩, q⟩
    · obtain ⟨its, rv, p', hz⟩ := I1.list hq
      refine call_enumerate_list p'.isList fun h' he hit hsz hk => wpAny_pyIter_enum he ?_
      have I2 : Inv X pins σ H1 { s1 with heap := h' } := I1.kept (t' := s1.toks) hk
      refine ⟨s1.heap.objs.size + 1, [s1.heap.objs.size + 1, s1.heap.objs.size], _, _, H1, rfl, I2, turn_enum a (s1.heap.objs.size + 1) s1.heap.objs.size, ⟨⟨.none, he⟩, hit, Nat.succ_ne_self _⟩, fun b hb => ?_, q⟩
      have e' : b = s1.heap.objs.size + 1 ∨ b = s1.heap.objs.size := by simpa using hb
      have hle : s1.heap.objs.size ≤ b := by
        rcases e' with z | z
        · rw [z]; exact Nat.le_add_right _ _
        · rw [z]; exact Nat.le_refl _
      exact I1.fpOk hle (I1.hok.fresh hle)
    · obtain ⟨its, rv, p', hz⟩ := I1.tuple hq
      have hlt : a < s1.heap.objs.size := by
        obtain ⟨o, ho, _⟩ := p'
        exact Heap.lt_size ho
      refine enum1_begins (begins_tuple a its.toArray) p' fun h' he hit hsz hk => wpAny_pyIter_enum he ?_
      have I2 : Inv X pins σ H1 { s1 with heap := h' } := I1.kept (t' := s1.toks) hk
      refine ⟨s1.heap.objs.size + 1, [s1.heap.objs.size + 1, s1.heap.objs.size], _, _, H1, rfl, I2, turn_enumT a (s1.heap.objs.size + 1) s1.heap.objs.size, ⟨⟨.none, he⟩, ⟨_, hit, rfl, rfl⟩, Nat.succ_ne_self _, Nat.ne_of_lt hlt, Ne.symm (Nat.ne_of_lt (Nat.lt_succ_of_lt hlt))⟩, fun b hb => ?_, q⟩
      have e' : b = s1.heap.objs.size + 1 ∨ b = s1.heap.objs.size := by simpa using hb
      have hle : s1.heap.objs.size ≤ b := by
        rcases e' with z | z
        · rw [z]; exact Nat.le_add_right _ _
        · rw [z]; exact Nat.le_refl _
      exact I1.fpOk hle (I1.hok.fresh hle)
def enumL (xs : List D) : List D := (List.range xs.length).map fun (i : Nat) => D.tup [.int (i : Int), xs.getD i .non]
def enumOf (d : D) (S : Store) : Option (Src × Store) := (srcOf d S).map fun q => (⟨enumL q.1.items, q.1.grd⟩, q.2)
def diEnum (fe : DE) : DI := fun ρ S => (fe ρ S).bind fun d S1 => optO (enumOf d S1)
theorem enumL_len (xs : List D) : (enumL xs).length = xs.length := by simp [enumL]
theorem enumL_at {xs : List D} {i : Nat} (h : i < xs.length) : (enumL xs)[i]? = some (.tup [.int (i : Int), xs[i]]) := by
  simp [enumL, h]
section
variable {K : PySem.W.Frag} {G : Gx} {m1 : List Addr} {H1 : Hp} {S1 : Store}
/-- pairs of a place and what is read there -/
theorem srcOk_pair {xs : List D} {grd : Store → Bool} {J : It} (R : Hp → List V → Prop) (hw : ∀ ws : List V, Walk J ws.length (fun H => R H ws) (YPair (fun i => some (.int (i : Nat))) (fun i => ws[i]?)))
    (key : ∀ H' m' S', Step m1 H1 m' H' → Sim K G m' S' H' → grd S' = true → ∃ us : List V, R H' us ∧ SVs K m' H' xs us) : SrcOk K G m1 H1 ⟨enumL xs, grd⟩ J := by
  show Walk J (enumL xs).length _ _
  rw [enumL_len]
  refine ⟨fun i H' hi ⟨m', S', st, sm', hg⟩ => ?_, fun H' ⟨m', S', st, sm', hg⟩ => ?_, fun i H' x H'' hi _ hy m' S' st sm' hg => ?_⟩
  · obtain ⟨us, h2, h3⟩ := key H' m' S' st sm' hg
    exact (hw us).goes i H' (by rw [← h3.len]; exact hi) h2
  · obtain ⟨us, h2, h3⟩ := key H' m' S' st sm' hg
    rw [h3.len]
    exact (hw us).stops H' h2
  · obtain ⟨us, h2, h3⟩ := key H' m' S' st sm' hg
    obtain ⟨T, a, b, rfl, hT, rfl, ea, eb⟩ := (hw us).yields i H' x H'' (by rw [← h3.len]; exact hi) h2 hy
    cases ea
    obtain ⟨v, h4, h5⟩ := h3.get (i := i) (d := xs[i]) (by simp [hi])
    have eb : us[i]? = some b := eb
    rw [eb] at h4; cases h4
    exact ⟨_, enumL_at hi, Step.beside sm' hT, sm'.beside hT, sv_tup (ds := [.int (i : Int), xs[i]]) ⟨_, _, rfl, rfl, SVs.one h5⟩ sm' hT⟩
end
section
variable {X : Cx} {G : Gx} {W : WX} {e : Expr} {fe : DE} {p pos tpos : Pos} {elts : List Expr} {kk : Nat}
theorem ji_enum (hm : X.mg "enumerate" = none) (he : JE X G W e fe) (hg : Gl X "enumerate" := by rfl) (hs : starEach [e] X.env = [(false, eval e X.env)] := by rfl) : JI X G W (.Tuple elts kk tpos) (.Call (.Name "enumerate" p) [e] [] pos) (diEnum fe) :=
  PI.imp (pi_enumS hg hm (ja_cons he ja_nil hs) hs) fun σ H R ⟨m, ρ, S, sr, sm, eo⟩ => ⟨m, ρ, S, sr, sm, by
    unfold daCons daNil
    unfold diEnum at eo
    cases z : fe ρ S with
    | bad => rw [z] at eo; exact eo.elim
    | exn x S1 => rw [z] at eo; exact eo
    | ok d S1 =>
      rw [z] at eo
      simp only [Out.bind_ok] at eo ⊢
      intro vs H1 m1 st1 sm1 r1
      have eo1 := eo.step st1
      obtain ⟨v, rfl, rv⟩ := svs1 r1
      cases d with
      | tup xs =>
        obtain ⟨a, us, rfl, q, r⟩ := rv
        exact ⟨a, rfl, .inr ⟨⟨us, q⟩, eo1 _ H1 m1 sm1.refl sm1 (srcOk_pair (fun H ws => SqT X.K H a ws) (fun ws => walk_enumT) fun H' m' S' st _ _ => ⟨us, sqT_step sm1 st q, r.mono sm1 st⟩)⟩⟩
      | fl xs =>
        obtain ⟨a, us, rfl, q, r⟩ := rv
        exact ⟨a, rfl, .inl ⟨⟨us, q.l⟩, eo1 _ H1 m1 sm1.refl sm1 (srcOk_pair (fun H ws => SqL X.K H a ws) (fun ws => walk_enum) fun H' m' S' st _ _ => ⟨us, (sqF_step sm1 st q).l, r.mono sm1 st⟩)⟩⟩
      | obj n =>
        unfold enumOf srcOf at eo1
        dsimp only at eo1
        cases z : lstAt S1 n with
        | none => rw [z] at eo1; exact eo1.elim
        | some xs =>
          rw [z] at eo1
          obtain ⟨a, rfl, hm⟩ := rv
          obtain ⟨a', us, h1, h2, h3⟩ := lstAt_ok sm1 z
          rw [hm] at h1; cases h1
          refine ⟨a, rfl, .inl ⟨⟨us, SqL.of h2⟩, eo1 _ H1 m1 sm1.refl sm1 (srcOk_pair (fun H ws => SqL X.K H a ws) (fun ws => walk_enum) fun H' m' S' st sm' hg => ?_)⟩⟩
          obtain ⟨a', us, h1, h2, h3⟩ := lstAt_ok sm' (grdL_ok hg)
          rw [st.get hm] at h1; cases h1
          exact ⟨us, SqL.of h2, h3⟩
      | _ => exact eo1.elim⟩
end
end DL
set_option Elab.async false
set_option linter.all false
set_option maxRecDepth 100000
set_option maxHeartbeats 2000000
namespace DL
open PySem PySem.Spec PyProof.Rows L2
theorem Out.bind_assoc {α β γ : Type} (o : Out α) (f : α → Store → Out β) (g : β → Store → Out γ) : (o.bind f).bind g = o.bind fun a S => (f a S).bind g := by
  cases o <;> rfl
section
variable {K : PySem.W.Frag} {G : Gx} {W : WX} {vs : List Nat}
/-- the turns of a comprehension's loop -/
theorem lc_turns {src : Src} {J : It} {g : DG} {tt : DT} {fe : DE} {σ : L2.St} {ρ : DEnv} {m1 m0 : List Addr} {S1 S0 : Store} {H1 H0 : Hp} {n : Nat} {Dd : Addr} {α β : Type} {rel : List Addr → Hp → α → β → Prop} {Q : β → Hp → Prop} {Wc : Value → Option Addr → Hp → Prop} {k : Unit → Store → Out α} {Qd : Hp → Prop}
    (w : SrcOk K G m1 H1 src J) (sm1 : Sim K G m1 S1 H1) (sr1 : SR K m1 H1 ρ σ) (st0 : Step m1 H1 m0 H0) (sm0 : Sim K G m0 S0 H0) (hmD : m0[n]? = some Dd) (eo : EO K G rel Q Wc m0 H0 ((lcD src.grd g tt fe n (wipeD ρ vs) src.items S0).bind k))
    (hQd : ∀ m S H, Step m0 H0 m H → Sim K G m S H → EO K G rel Q Wc m H (k () S) → Qd H) :
    ∃ W' : Nat → Nat → Hp → Prop, (∃ mm, W' 0 mm H0) ∧ ∀ i mm H, W' i mm H → (J.stop i H ∧ Qd H) ∨ (J.go i H ∧ ∃ Nx : Hp → Prop, (∀ H', Nx H' → ∃ m', m' < mm ∧ W' (i + 1) m' H') ∧ ∀ x H', J.yld i H x H' → tDGv K G W0 vs g x (wipe σ vs) H' fun σ2 H2 => wipe σ2 vs = wipe σ vs ∧ tDT K G W0 tt σ2 H2 fun b H3 =>
      if b = true then tD K G W0 fe σ2 H3 fun y H4 => ∃ acc, H4 Dd = some (.lst acc) ∧ acc.length < sizeLine ∧ Nx (upd H4 Dd (.lst (acc ++ [y]))) else Nx H3) := by
  have turn : ∀ i x H H', i < src.items.length → (∃ m S, Step m0 H0 m H ∧ Sim K G m S H ∧ EO K G rel Q Wc m H ((lcD src.grd g tt fe n (wipeD ρ vs) (src.items.drop i) S).bind k)) → (∀ m' S', Step m1 H1 m' H → Sim K G m' S' H → src.grd S' = true → ∃ d, src.items[i]? = some d ∧ Step m' H m' H' ∧ Sim K G m' S' H' ∧ SV K m' H' d x) →
      tDGv K G W0 vs g x (wipe σ vs) H' fun σ2 H2 => wipe σ2 vs = wipe σ vs ∧ tDT K G W0 tt σ2 H2 fun b H3 =>
        if b = true then tD K G W0 fe σ2 H3 fun y H4 => ∃ acc, H4 Dd = some (.lst acc) ∧ acc.length < sizeLine ∧ (∃ m S, Step m0 H0 m (upd H4 Dd (.lst (acc ++ [y]))) ∧ Sim K G m S (upd H4 Dd (.lst (acc ++ [y]))) ∧ EO K G rel Q Wc m (upd H4 Dd (.lst (acc ++ [y]))) ((lcD src.grd g tt fe n (wipeD ρ vs) (src.items.drop (i + 1)) S).bind k))
        else (∃ m S, Step m0 H0 m H3 ∧ Sim K G m S H3 ∧ EO K G rel Q Wc m H3 ((lcD src.grd g tt fe n (wipeD ρ vs) (src.items.drop (i + 1)) S).bind k)) := by
    rintro i x H H' hi ⟨m, S, st, sm, eo⟩ hy
    have hgd := lcD_grd eo
    obtain ⟨d, hd, st3, sm3, sv⟩ := hy m S (st0.trans st) sm hgd
    have e0 : src.items.drop i = d :: src.items.drop (i + 1) := by
      rw [List.drop_eq_getElem_cons hi]
      rw [List.getElem?_eq_getElem hi] at hd
      cases hd
      rfl
    rw [e0] at eo
    unfold lcD at eo
    rw [if_pos hgd] at eo
    have srw : SR K m H' (wipeD ρ vs) (wipe σ vs) := (sr1.mono sm1 ((st0.trans st).trans st3)).wipe vs
    refine ⟨m, wipeD ρ vs, S, d, srw, sm3, sv, ?_⟩
    have eo := eo.step st3
    cases e1 : g d (wipeD ρ vs) S with
    | nx ρ1 Sa =>
      rw [e1] at eo
      dsimp only at eo
      intro σ4 H4 m4 st4 sm4 sr4 ag
      refine ⟨wipe_agree ag, m4, ρ1, Sa, sr4, sm4, ?_⟩
      have eo := eo.step st4
      cases e2 : tt ρ1 Sa with
      | ok b Sb =>
        rw [e2] at eo
        intro b' H5 m5 st5 sm5 rb
        cases rb
        have eo := eo.step st5
        cases b with
        | true =>
          rw [if_pos rfl]
          dsimp only at eo
          refine ⟨m5, ρ1, Sb, sr4.mono sm4 st5, sm5, ?_⟩
          cases e3 : fe ρ1 Sb with
          | ok y Sc =>
            rw [e3] at eo
            dsimp only at eo
            intro u H6 m6 st6 sm6 ru
            have eo := eo.step st6
            cases e4 : lstAt Sc n with
            | none => rw [e4] at eo; exact eo.elim
            | some acc =>
              rw [e4] at eo
              dsimp only at eo
              by_cases hz : acc.length < 1000000
              · rw [if_pos hz] at eo
                obtain ⟨a', ws, h1, h2, h3⟩ := lstAt_ok sm6 e4
                have stA := (((st.trans st3).trans st4).trans st5).trans st6
                rw [stA.get hmD] at h1
                cases h1
                have stB : Step m6 H6 m6 (upd H6 Dd (.lst (ws ++ [u]))) := Step.put sm6 (stA.get hmD)
                have smB : Sim K G m6 (Sc.set n (.lst (acc ++ [y]))) (upd H6 Dd (.lst (ws ++ [u]))) := sm6.put (stA.get hmD) ⟨ws ++ [u], upd_same, (h3.append (SVs.one ru)).mono sm6 stB⟩
                exact ⟨ws, h2, by rw [← h3.len]; exact Nat.lt_of_lt_of_le hz (size6 (Nat.le_refl _)), m6, _, stA.trans stB, smB, eo.step stB⟩
              · rw [if_neg hz] at eo; exact eo.elim
          | exn x Sc => rw [e3] at eo; exact eo.elim
          | bad => rw [e3] at eo; exact eo.elim
        | false =>
          rw [if_neg Bool.false_ne_true]
          exact ⟨m5, Sb, ((st.trans st3).trans st4).trans st5, sm5, eo⟩
      | exn x Sb => rw [e2] at eo; exact eo.elim
      | bad => rw [e2] at eo; exact eo.elim
    | exn x ρ1 Sa => rw [e1] at eo; exact eo.elim
    | rt d Sa => rw [e1] at eo; exact eo.elim
    | bk ρ1 Sa => rw [e1] at eo; exact eo.elim
    | ct ρ1 Sa => rw [e1] at eo; exact eo.elim
    | bad => rw [e1] at eo; exact eo.elim
  refine ⟨fun i mm H => mm = src.items.length - i ∧ i ≤ src.items.length ∧ ∃ m S, Step m0 H0 m H ∧ Sim K G m S H ∧ EO K G rel Q Wc m H ((lcD src.grd g tt fe n (wipeD ρ vs) (src.items.drop i) S).bind k), ⟨src.items.length, by simp, Nat.zero_le _, m0, S0, sm0.refl, sm0, eo⟩, ?_⟩
  rintro i mm H ⟨rfl, hi, m, S, st, sm, eo⟩
  have hG : ∃ m' S', Step m1 H1 m' H ∧ Sim K G m' S' H ∧ src.grd S' = true := ⟨m, S, st0.trans st, sm, lcD_grd eo⟩
  by_cases hlt : i < src.items.length
  · refine .inr ⟨w.goes i H hlt hG, fun H => ∃ m S, Step m0 H0 m H ∧ Sim K G m S H ∧ EO K G rel Q Wc m H ((lcD src.grd g tt fe n (wipeD ρ vs) (src.items.drop (i + 1)) S).bind k), fun H' p' => ⟨src.items.length - (i + 1), by omega, rfl, hlt, p'⟩, fun x H' y => turn i x H H' hlt ⟨m, S, st, sm, eo⟩ (w.yields i H x H' hlt hG y)⟩
  · have e : i = src.items.length := by omega
    subst e
    refine .inl ⟨w.stops H hG, hQd m S H st sm ?_⟩
    have hgd := lcD_grd eo
    rw [List.drop_length] at eo
    unfold lcD at eo
    rw [if_pos hgd] at eo
    exact eo
end
def lcD2 (grd : Store → Bool) (g : DG) (tt : DT) (fi1 : DI) (g1 : DG) (tt1 : DT) (fe : DE) (vs1 : List Nat) (n : Nat) (ρ : DEnv) : List D → Store → Out Unit
  | [], S => if grd S = true then .ok () S else .bad
  | d :: ds, S => if grd S = true then (match g d ρ S with
    | .nx ρ1 S1 => (match tt ρ1 S1 with
      | .ok true S2 => (match fi1 ρ1 S2 with
        | .ok src S3 => (lcD src.grd g1 tt1 fe n (wipeD ρ1 vs1) src.items S3).bind fun _ S4 => lcD2 grd g tt fi1 g1 tt1 fe vs1 n ρ ds S4
        | _ => .bad)
      | .ok false S2 => lcD2 grd g tt fi1 g1 tt1 fe vs1 n ρ ds S2
      | _ => .bad)
    | _ => .bad) else .bad
def dLc2 (fi : DI) (g : DG) (tt : DT) (fi1 : DI) (g1 : DG) (tt1 : DT) (fe : DE) (vs vs1 : List Nat) : DE := fun ρ S => (fi ρ S).bind fun src S1 => (lcD2 src.grd g tt fi1 g1 tt1 fe vs1 S1.length (wipeD ρ vs) src.items (S1 ++ [.lst []])).bind fun _ S2 => .ok (.obj S1.length) S2
theorem lcD2_grd {K : PySem.W.Frag} {G : Gx} {α β : Type} {rel : List Addr → Hp → α → β → Prop} {Q : β → Hp → Prop} {Wc : Value → Option Addr → Hp → Prop} {m : List Addr} {H : Hp} {grd : Store → Bool} {g g1 : DG} {tt tt1 : DT} {fi1 : DI} {fe : DE} {vs1 : List Nat} {n : Nat} {ρ : DEnv} {ds : List D} {S : Store} {k : Unit → Store → Out α}
    (h : EO K G rel Q Wc m H ((lcD2 grd g tt fi1 g1 tt1 fe vs1 n ρ ds S).bind k)) : grd S = true := by
  cases q : grd S with
  | true => rfl
  | false =>
    exfalso
    cases ds with
    | nil => unfold lcD2 at h; rw [q] at h; exact h
    | cons d ds => unfold lcD2 at h; rw [q] at h; exact h
section
variable {X : Cx} {G : Gx} {W : WX} {vs vs1 : List Nat} {pos : Pos}
theorem lc2_core3 {fi fi1 : DI} {g g1 : DG} {tt tt1 : DT} {fe : DE} {σ : L2.St} {H : Hp} {Q : VK} (h : tD X.K G W (dLc2 fi g tt fi1 g1 tt1 fe vs vs1) σ H Q) :
    tLc2 (tDI X.K G W fi) (tDGv X.K G W0 vs g) (tDT X.K G W0 tt) (tDI X.K G W0 fi1) (tDGv X.K G W0 vs1 g1) (tDT X.K G W0 tt1) (tD X.K G W0 fe) vs vs1 σ H Q := by
  obtain ⟨m, ρ, S, sr, sm, eo⟩ := h
  refine ⟨m, ρ, S, sr, sm, EO.then (rel := SrcOk X.K G) eo fun src S1 J H1 m1 st1 sm1 w eo1 => ?_⟩
  intro Dd hD
  have sr1 := sr.mono sm st1
  have st2 : Step m1 H1 (m1 ++ [Dd]) (upd H1 Dd (.lst [])) := Step.new sm1 hD
  have sm2 : Sim X.K G (m1 ++ [Dd]) (S1 ++ [.lst []]) (upd H1 Dd (.lst [])) := sim_lst (ds := []) (vs := []) rfl sm1 hD
  have hmD : (m1 ++ [Dd])[S1.length]? = some Dd := by rw [← sm1.len]; simp
  let Pv : Nat → Hp → Prop := fun i H => ∃ m S, Step (m1 ++ [Dd]) (upd H1 Dd (.lst [])) m H ∧ Sim X.K G m S H ∧ EO X.K G (SV X.K) Q (fun c d H' => W c d σ H') m H ((lcD2 src.grd g tt fi1 g1 tt1 fe vs1 S1.length (wipeD ρ vs) (src.items.drop i) S).bind fun _ S2 => .ok (.obj S1.length) S2)
  refine ⟨fun i mm H => mm = src.items.length - i ∧ i ≤ src.items.length ∧ Pv i H, ⟨src.items.length, by simp, Nat.zero_le _, m1 ++ [Dd], S1 ++ [DO.lst []], sm2.refl, sm2, eo1.step st2⟩, ?_⟩
  rintro i mm H ⟨rfl, hi, m, S, st, sm, eo⟩
  have hgd := lcD2_grd eo
  have hG : ∃ m' S', Step m1 H1 m' H ∧ Sim X.K G m' S' H ∧ src.grd S' = true := ⟨m, S, st2.trans st, sm, hgd⟩
  by_cases hlt : i < src.items.length
  · refine .inr ⟨w.goes i H hlt hG, Pv (i + 1), fun H' p' => ⟨src.items.length - (i + 1), by omega, rfl, hlt, p'⟩, fun x H' y => ?_⟩
    obtain ⟨d, hd, st3, sm3, sv⟩ := w.yields i H x H' hlt hG y m S (st2.trans st) sm hgd
    have e0 : src.items.drop i = d :: src.items.drop (i + 1) := by
      rw [List.drop_eq_getElem_cons hlt]
      rw [List.getElem?_eq_getElem hlt] at hd
      cases hd
      rfl
    rw [e0] at eo
    unfold lcD2 at eo
    rw [if_pos hgd] at eo
    have srw : SR X.K m H' (wipeD ρ vs) (wipe σ vs) := (sr1.mono sm1 ((st2.trans st).trans st3)).wipe vs
    refine ⟨m, wipeD ρ vs, S, d, srw, sm3, sv, ?_⟩
    have eo := eo.step st3
    cases e1 : g d (wipeD ρ vs) S with
    | nx ρ1 Sa =>
      rw [e1] at eo
      dsimp only at eo
      intro σ4 H4 m4 st4 sm4 sr4 ag
      refine ⟨wipe_agree ag, m4, ρ1, Sa, sr4, sm4, ?_⟩
      have eo := eo.step st4
      cases e2 : tt ρ1 Sa with
      | ok b Sb =>
        rw [e2] at eo
        intro b' H5 m5 st5 sm5 rb
        cases rb
        have eo := eo.step st5
        cases b with
        | true =>
          rw [if_pos rfl]
          dsimp only at eo
          refine ⟨m5, ρ1, Sb, sr4.mono sm4 st5, sm5, ?_⟩
          cases e3 : fi1 ρ1 Sb with
          | ok src1 Sc =>
            rw [e3] at eo
            dsimp only at eo
            intro J1 H6 m6 st6 sm6 w1
            have eo := eo.step st6
            rw [Out.bind_assoc] at eo
            have stA := (((st.trans st3).trans st4).trans st5).trans st6
            exact lc_turns w1 sm6 (sr4.mono sm4 (st5.trans st6)) sm6.refl sm6 (stA.get hmD) eo fun m7 S7 H7 st7 sm7 eo7 => ⟨m7, S7, stA.trans st7, sm7, eo7⟩
          | exn x Sc => rw [e3] at eo; exact eo.elim
          | bad => rw [e3] at eo; exact eo.elim
        | false =>
          rw [if_neg Bool.false_ne_true]
          exact ⟨m5, Sb, ((st.trans st3).trans st4).trans st5, sm5, eo⟩
      | exn x Sb => rw [e2] at eo; exact eo.elim
      | bad => rw [e2] at eo; exact eo.elim
    | exn x ρ1 Sa => rw [e1] at eo; exact eo.elim
    | rt d Sa => rw [e1] at eo; exact eo.elim
    | bk ρ1 Sa => rw [e1] at eo; exact eo.elim
    | ct ρ1 Sa => rw [e1] at eo; exact eo.elim
    | bad => rw [e1] at eo; exact eo.elim
  · have e : i = src.items.length := by omega
    subst e
    rw [List.drop_length] at eo
    unfold lcD2 at eo
    rw [if_pos hgd] at eo
    exact .inl ⟨w.stops H hG, eo _ H m sm.refl sm ⟨Dd, rfl, st.get hmD⟩⟩
variable {elt tg iter tg1 iter1 : Expr} {ifs ifs1 : List Expr} {scope : Scope} {own : List (Str × Nat)} {fi fi1 : DI} {g g1 : DG} {tt tt1 : DT} {fe : DE}
theorem je_lc2 (hc : X.calm = true) (hN : X.N.Nodup) (ok : BlkOk X.N X.env.scope scope own) (hv : ∀ i ∈ vs1, i ∈ vs) (hi : JI X G W tg iter fi)
    (hg : ∀ (s : Shared) (H : Hp) (C : Addr) (cl : List (Str × Addr)) (fp : List Addr), JGv (X.blk s H scope (compEnvC scope cl C X.env) fp) G W0 vs tg g) (ht : ∀ (s : Shared) (H : Hp) (C : Addr) (cl : List (Str × Addr)) (fp : List Addr), JTs (X.blk s H scope (compEnvC scope cl C X.env) fp) G W0 ifs tt)
    (hi1 : ∀ (s : Shared) (H : Hp) (C : Addr) (cl : List (Str × Addr)) (fp : List Addr), JI (X.blk s H scope (compEnvC scope cl C X.env) fp) G W0 tg1 iter1 fi1)
    (hg1 : ∀ (s : Shared) (H : Hp) (C : Addr) (cl : List (Str × Addr)) (fp : List Addr), JGv (X.blk s H scope (compEnvC scope cl C X.env) fp) G W0 vs1 tg1 g1) (ht1 : ∀ (s : Shared) (H : Hp) (C : Addr) (cl : List (Str × Addr)) (fp : List Addr), JTs (X.blk s H scope (compEnvC scope cl C X.env) fp) G W0 ifs1 tt1)
    (he : ∀ (s : Shared) (H : Hp) (C : Addr) (cl : List (Str × Addr)) (fp : List Addr), JE (X.blk s H scope (compEnvC scope cl C X.env) fp) G W0 elt fe) (hs : ∀ x, foldedSetIterable iter X.env x = pure x := by intro _; rfl) (hs1 : ∀ env x, foldedSetIterable iter1 env x = pure x := by intro _ _; rfl) (hvs : own.map (·.2) = vs := by rfl) :
    JE X G W (.ListComp elt [⟨tg, iter, ifs, 0⟩, ⟨tg1, iter1, ifs1, 0⟩] scope pos) (dLc2 fi g tt fi1 g1 tt1 fe vs vs1) := by
  subst hvs
  exact PE.imp (pe_lc2 hc hN hi ok hv hg ht hi1 hg1 ht1 he hs hs1) fun σ H Q h => lc2_core3 h
theorem js_setLc2 (i : Nat) {y : Str} {py spos : Pos} (hc : X.calm = true) (hN : X.N.Nodup) (ok : BlkOk X.N X.env.scope scope own) (hv : ∀ i ∈ vs1, i ∈ vs) (hi : JI X G W tg iter fi)
    (hg : ∀ (s : Shared) (H : Hp) (C : Addr) (cl : List (Str × Addr)) (fp : List Addr), JGv (X.blk s H scope (compEnvC scope cl C X.env) fp) G W0 vs tg g) (ht : ∀ (s : Shared) (H : Hp) (C : Addr) (cl : List (Str × Addr)) (fp : List Addr), JTs (X.blk s H scope (compEnvC scope cl C X.env) fp) G W0 ifs tt)
    (hi1 : ∀ (s : Shared) (H : Hp) (C : Addr) (cl : List (Str × Addr)) (fp : List Addr), JI (X.blk s H scope (compEnvC scope cl C X.env) fp) G W0 tg1 iter1 fi1)
    (hg1 : ∀ (s : Shared) (H : Hp) (C : Addr) (cl : List (Str × Addr)) (fp : List Addr), JGv (X.blk s H scope (compEnvC scope cl C X.env) fp) G W0 vs1 tg1 g1) (ht1 : ∀ (s : Shared) (H : Hp) (C : Addr) (cl : List (Str × Addr)) (fp : List Addr), JTs (X.blk s H scope (compEnvC scope cl C X.env) fp) G W0 ifs1 tt1)
    (he : ∀ (s : Shared) (H : Hp) (C : Addr) (cl : List (Str × Addr)) (fp : List Addr), JE (X.blk s H scope (compEnvC scope cl C X.env) fp) G W0 elt fe)
    (hsw : swapsWith (.ListComp elt [⟨tg, iter, ifs, 0⟩, ⟨tg1, iter1, ifs1, 0⟩] scope pos) (some (.Name y py)) spos.line X.env = pure true)
    (hy : X.N[i]? = some y := by rfl) (hyl : X.env.scope.names.lookup y = some .local := by rfl)
    (hs : ∀ x, foldedSetIterable iter X.env x = pure x := by intro _; rfl) (hs1 : ∀ env x, foldedSetIterable iter1 env x = pure x := by intro _ _; rfl) (hvs : own.map (·.2) = vs := by rfl) :
    JS X G W (.Assign [.Name y py] (.ListComp elt [⟨tg, iter, ifs, 0⟩, ⟨tg1, iter1, ifs1, 0⟩] scope pos) spos) (dAsg (dLc2 fi g tt fi1 g1 tt1 fe vs vs1) (gN i)) := by
  subst hvs
  exact PS.imp (ps_setLc2 hc hN hy hyl hsw hi ok hv hg ht hi1 hg1 ht1 he hs hs1) fun E σ H ⟨m, ρ, S, sr, sm, q⟩ => lc2_core3 (W := W) ⟨m, ρ, S, sr, sm, SQ.then (rel := SV X.K) q sr sm fun d S1 v H1 m1 st1 sm1 r1 q1 => q1 _ H1 m1 sm1.refl sm1 ((sr.mono sm st1).set i r1)⟩
/-- xs.append(e) -/
def dApp (fo fe : DE) : DE := fun ρ S => (fo ρ S).bind fun o S1 => match o with
  | .obj n => (match lstAt S1 n with
    | some _ => (fe ρ S1).bind fun d S2 => (match lstAt S2 n with
      | some xs => if xs.length < 1000000 then .ok .non (S2.set n (.lst (xs ++ [d]))) else .bad
      | none => .bad)
    | none => .bad)
  | _ => .bad
variable {o e : Expr} {fo fe' : DE} {apos cpos : Pos}
theorem je_app (ho : JE X G W o fo) (he : JE X G W e fe') (hbase : attributeBase o "append" X.env (eval o X.env) = eval o X.env := by rfl)
    (hfew : ((backTo cpos (starEach [e] X.env)).all (fun x => !x.1) && (backToKw cpos (keywordEach [] X.env)).all (fun x => x.1.isSome)
      && decide ([e].length + ([] : List Keyword).length + (if ([] : List Keyword).isEmpty then 0 else 1) < 30)) = true := by rfl)
    (hline : (apos.endLine == cpos.line) = true := by rfl) (hs : starEach [e] X.env = (false, eval e X.env) :: starEach [] X.env := by rfl) (hplain : (backTo cpos (starEach [] X.env)).any (·.1) = false := by rfl) :
    JE X G W (.Call (.Attribute o "append" apos) [e] [] cpos) (dApp fo fe') :=
  PE.imp (pe_bm PySem.F.plainAttrs_list PySem.F.slot_list_append PySem.F.type_list_append mt_append ho (ja_cons he ja_nil hs) hbase hfew hline hs hplain) fun σ H Q ⟨m, ρ, S, sr, sm, eo⟩ => ⟨m, ρ, S, sr, sm, EO.then (rel := SV X.K) eo fun x S1 v H1 m1 st1 sm1 r1 eo1 => by
    cases x with
    | obj n =>
      dsimp only at eo1
      cases z : lstAt S1 n with
      | none => rw [z] at eo1; exact eo1.elim
      | some xs0 =>
        rw [z] at eo1
        dsimp only at eo1
        obtain ⟨a, rfl, hm⟩ := r1
        obtain ⟨a', ws0, h1, h2, h3⟩ := lstAt_ok sm1 z
        rw [hm] at h1; cases h1
        refine ⟨.inl ⟨rfl, ws0, SqL.of h2⟩, m1, ρ, S1, sr.mono sm st1, sm1, ?_⟩
        unfold daCons daNil
        cases z2 : fe' ρ S1 with
        | bad => rw [z2] at eo1; exact eo1.elim
        | exn x S2 => rw [z2] at eo1; exact eo1
        | ok d S2 =>
          rw [z2] at eo1
          simp only [Out.bind_ok] at eo1 ⊢
          intro vs H2 m2 st2 sm2 r2
          have eo2 := eo1.step st2
          obtain ⟨y, rfl, ry⟩ := svs1 r2
          cases z3 : lstAt S2 n with
          | none => rw [z3] at eo2; exact eo2.elim
          | some xs =>
            rw [z3] at eo2
            dsimp only at eo2
            split at eo2
            · rename_i hz
              obtain ⟨a', ws, h1, h2, h3⟩ := lstAt_ok sm2 z3
              rw [st2.get hm] at h1; cases h1
              have hm2 := st2.get hm
              refine ⟨a, ws, y, rfl, rfl, h2, by rw [← h3.len]; exact Nat.lt_of_lt_of_le hz (size6 (Nat.le_refl _)), ?_⟩
              have st3 : Step m2 H2 m2 (upd H2 a (.lst (ws ++ [y]))) := Step.put sm2 hm2
              exact eo2 _ _ m2 st3 (sm2.put hm2 ⟨ws ++ [y], upd_same, (h3.append (SVs.one ry)).mono sm2 st3⟩) rfl
            · exact eo2.elim
    | _ => exact eo1.elim⟩
end
end DL
set_option Elab.async false
set_option linter.all false
set_option maxRecDepth 100000
set_option maxHeartbeats 2000000
/-! DM2: generator expressions over lists and tuples. -/
namespace DL
open PySem PySem.Spec PyProof.Rows L2
section
variable {X : Cx} {pins : List (Addr × Obj)} {σ : L2.St} {H : Hp} {s : Shared}
/-- the iterator of a list or a tuple -/
theorem iter_any {a : Addr} {xs : List V} {Q : Value → Shared → Prop} (I : Inv X pins σ H s) (hq : SqL X.K H a xs ∨ SqT X.K H a xs)
    (h : ∀ (its : List Value) (o : Obj) (St : Nat → Heap → Prop), Vals xs its → (∀ A' : Around, A'.handled = none → Walks X.prog X.w A' s.heap.objs.size [s.heap.objs.size, a] [s.heap.objs.size] its.length (fun i v => its[i]? = some v) St) → a < s.heap.objs.size → (∃ ob, s.heap.get? a = some ob ∧ ob.cls ≠ .none) → (s.heap.push o).get? s.heap.objs.size = some o →
      St 0 (s.heap.push o) → Q (.ref s.heap.objs.size) { s with heap := s.heap.push o }) : wpAny (model X.prog X.w) X.A (pyIter (.ref a)) Q X.xe s := by
  rcases hq with hq | hq
  · obtain ⟨its, rv, p, hz⟩ := I.list hq
    have hcl : ∃ ob, s.heap.get? a = some ob ∧ ob.cls ≠ .none := by obtain ⟨o, n, ho, hc, _⟩ := p; exact ⟨o, ho, by rw [hc]; exact fun z => by cases z⟩
    have hlt : a < s.heap.objs.size := by obtain ⟨o, ho, _⟩ := hcl; exact Heap.lt_size ho
    refine wpAny_pyIter_list p.isList ?_
    refine h its _ (fun i h' => h'.IsListIter s.heap.objs.size a i ∧ h'.IsList a its.toArray) rv (fun A' hA => ?_) hlt hcl (Heap.get?_push_size _ rfl) ⟨⟨_, Heap.get?_push_size _ rfl, rfl, rfl⟩, p.isList.push _⟩
    have w := Walks.list (prog := X.prog) (w := X.w) hA s.heap.objs.size a (Nat.ne_of_lt hlt) its.toArray
    simpa using w
  · obtain ⟨its, rv, p, hz⟩ := I.tuple hq
    have p' : s.heap.IsTuple a its.toArray := p
    have hcl : ∃ ob, s.heap.get? a = some ob ∧ ob.cls ≠ .none := by obtain ⟨o, ho, hc, _⟩ := p'; exact ⟨o, ho, by rw [hc]; exact fun z => by cases z⟩
    have hlt : a < s.heap.objs.size := by obtain ⟨o, ho, _⟩ := hcl; exact Heap.lt_size ho
    refine wpAny_pyIter_tuple p' ?_
    refine h its _ (fun i h' => h'.IsTupleIter s.heap.objs.size a i ∧ h'.IsTuple a its.toArray) rv (fun A' hA => ?_) hlt hcl (Heap.get?_push_size _ rfl) ⟨⟨_, Heap.get?_push_size _ rfl, rfl, rfl⟩, p'.push _⟩
    have w := Walks.tuple (prog := X.prog) (w := X.w) hA s.heap.objs.size a (Nat.ne_of_lt hlt) its.toArray
    simpa using w
/-- what an element's text must do: at the value v of place i, wherever the objects of the making still stand -/
def EltOk (prog : Program) (w : World) (scope : Scope) (x : Str) (P : Addr) (elt : Expr) (h1 : Heap) (its : List Value) (F : Nat → Value → Prop) : Prop :=
  ∀ (cenv : Env) (A' : Around) (E' : Value → Shared → Prop) (i : Nat) (v : Value) (s₂ : Shared) (m₂ : Str → Option Value), cenv.scope = scope → A'.handled = none → its[i]? = some v → s₂.heap.Ns cenv.locals m₂ → m₂ x = some v →
    (∀ b o, b ≠ P → h1.get? b = some o → s₂.heap.get? b = some o) → wpAny (model prog w) A' (eval elt cenv) (fun y s₃ => F i y ∧ Keeps s₂ s₃) E' s₂
theorem passing_all (n : Nat) : passing (fun _ => true) n 0 = List.range n := by unfold passing; simp
theorem gen_seq {α : Type} {T : List (Addr × Str)} {c P : Addr} {elt iter : Expr} {x : Str} {px gpos : Pos} {scope : Scope} {te : TE} {k : Nat} {Q' : Value → Shared → Prop} {R : α → Addr → List V → Hp → Prop} {F : α → Nat → Value → Prop}
    (hr : Room k X.A) (TB : LamX.TabB X.base X.mg c P) (hcode : X.env.code = .ref c) (hm : (P, X.env.qual ++ "<genexpr>") ∈ T) (hu : ∀ p ∈ T, p.1 = P → p.2 = X.env.qual ++ "<genexpr>")
    (S : GxR.GenS X.env scope x) (hi : PE X iter te) (hs : ∀ v, genFold iter X.env v = pure v) (I : Inv X pins σ H s)
    (h : te σ H fun v H1 => ∃ w a xs, v = .ref a ∧ (SqL X.K H1 a xs ∨ SqT X.K H1 a xs) ∧ LamX.Tabs T H1 ∧ R w a xs H1)
    (hel : ∀ w a xs H1 s1 its, R w a xs H1 → Inv X pins σ H1 s1 → Vals xs its → (∃ ps, H1 P = some (.tbl ps)) → EltOk X.prog X.w scope x P elt s1.heap its (F w))
    (hQ : ∀ w a xs H1 g s5 fp wr G St, R w a xs H1 → WalksS X.prog X.w X.A.in1 g fp wr G xs.length (F w) St → St 0 s5 → (∀ b ∈ fp, b < s5.heap.objs.size) → (∀ s', Moved wr G s5 s' → ∃ H2, LamX.ExtN H1 H2 ∧ LamX.Tabs T H2 ∧ Inv X pins σ H2 s') → Q' (.ref g) s5) :
    wpAny (model X.prog X.w) X.A (eval (.GeneratorExp elt [⟨.Name x px, iter, [], 0⟩] scope gpos) X.env) Q' X.xe s := by
  refine wpAny_GeneratorExp_walksQ hr.hd S.co (closure_ok S.free) S.cell S.dot S.loc S.kind (by have := hr.dp; omega) ?_ hs
  refine thn (hi.run pins s σ H _ I h) fun xv s1 ⟨v, H1, I1, r1, q1⟩ => ?_
  obtain ⟨wt, a, xs, rfl, hq, hT, hR⟩ := q1
  cases r1
  refine iter_any I1 hq fun its o St rv W hlt hcl hot hst => ?_
  have hlen : xs.length = its.length := rv.length
  obtain ⟨ps, hP, ht, ha⟩ := hT _ hm
  have hP1 : s1.heap.get? P = some { cls := .none, data := .fields ps } := I1.hok P _ hP
  have hPlt : P < s1.heap.objs.size := Heap.lt_size hP1
  have hP2 : (s1.heap.push o).get? P = some { cls := .none, data := .fields ps } := Heap.get?_push_of_some _ hP1
  have lim : (s1.heap.push o).NoLimit := I1.nolimit.push o
  have haP : a ≠ P := fun e => by
    obtain ⟨ob, e1, e2⟩ := hcl
    rw [e, hP1] at e1
    cases e1
    exact e2 rfl
  have hcP : cStatics ≠ P := fun e => by
    obtain ⟨_, hns, _⟩ := I1.nolimit
    obtain ⟨o', es, ep, ho, hd, _⟩ := hns
    rw [e, hP1] at ho
    cases ho
    cases hd
  have hcl2 : cStatics < s1.heap.objs.size := let ⟨_, hns, _⟩ := I1.nolimit; hns.lt
  refine ⟨lim, ?_⟩
  -- behind the code: the heap h3
  have rest : ∀ (code : Value) (h3 : Heap) (tk : Nat) (ps' : Array Value), Heap.ExtBut P (s1.heap.push o) h3 → (s1.heap.push o).objs.size ≤ h3.objs.size → h3.get? P = some { cls := .none, data := .fields ps' } →
      (∀ (h' : Heap) (t' : Nat), (∀ b u, b ≠ P → s1.heap.get? b = some u → h'.get? b = some u) → h'.get? P = some { cls := .none, data := .fields ps' } → (∀ b u, s1.heap.objs.size < b → h3.get? b = some u → h'.get? b = some u) → ∃ H2, LamX.ExtN H1 H2 ∧ LamX.Tabs T H2 ∧ H2 P = some (.tbl ps') ∧ Inv X pins σ H2 { s1 with heap := h', toks := t' }) →
      wpAny (model X.prog X.w) X.A (builtinsFor X.env.globals X.env.builtins) (fun bi s₄ => ∃ Ia fp wr n₀ Pf St₀ pz F, Value.ref s1.heap.objs.size = .ref Ia ∧ (∀ A' : Around, A'.handled = none → Walks X.prog X.w A' Ia fp wr n₀ Pf St₀) ∧ St₀ 0 s₄.heap ∧ (∀ b ∈ fp, b < s₄.heap.objs.size) ∧ s₄.heap.NoLimit ∧ cStatics ∉ wr ∧ (∀ href : Heap, (∀ b o, s₄.heap.get? b = some o → href.get? b = some o) → QuietGen X.prog X.w (genEnv scope (cloFrom X.env.cells scope.names []) s₄.heap.objs.size code bi X.env) x [] elt (List.range s₄.heap.objs.size) wr Pf pz F href) ∧
          (∀ a h₅ tk gs, gs.bare = true → s₄.heap.objs.size < a → h₅.objs.size = a + 1 → (∀ b o, s₄.heap.get? b = some o → h₅.get? b = some o) → WalksS X.prog X.w X.A.in4 a (a :: s₄.heap.objs.size :: List.range s₄.heap.objs.size) (s₄.heap.objs.size :: wr) (GenOnlyQ s₄.gens.size) (passing pz n₀ 0).length (fun j y => ∃ i, (passing pz n₀ 0)[j]? = some i ∧ F i y) (GenAt X.prog X.w X.A.in4 a s₄.gens.size s₄.heap.objs.size (List.range s₄.heap.objs.size) wr pz n₀ F) →
            GenAt X.prog X.w X.A.in4 a s₄.gens.size s₄.heap.objs.size (List.range s₄.heap.objs.size) wr pz n₀ F 0 { s₄ with gens := s₄.gens.push gs, toks := tk, heap := h₅ } → Q' (.ref a) { s₄ with gens := s₄.gens.push gs, toks := tk, heap := h₅ })) X.xe { s1 with heap := h3, toks := tk } := by
    intro code h3 tk ps' hx hsz hP3 hfin
    obtain ⟨bm, ob, e1, e2, e3, e4, e5, e6, e7, e8⟩ := TB.bm
    have keep3 : ∀ b u, b ≠ P → s1.heap.get? b = some u → h3.get? b = some u := fun b u hb e => hx b u hb (Heap.get?_push_of_some _ e)
    have sz2 : (s1.heap.push o).objs.size = s1.heap.objs.size + 1 := Heap.size_push ..
    have hi3 : h3.get? s1.heap.objs.size = some o := hx _ _ (Nat.ne_of_gt hPlt) hot
    refine wpAny_builtinsFor (m := X.mg) (by rw [I1.ok.glob]; exact ((I1.mod.glob.keeps I1.bk).push o).extBut hx TB.gP) e1 e2 (keep3 _ _ e4 (I1.bk _ _ e5)) e6 e7 e8 ?_
    refine ⟨s1.heap.objs.size, [s1.heap.objs.size, a], [s1.heap.objs.size], its.length, (fun i v => its[i]? = some v), St, (fun _ => true), F wt, rfl, W, ?_, ?_, lim.extBut hx hcP, ?_, ?_, ?_⟩
    · refine (W X.A hr.hd).frame 0 _ _ hst fun b hb u e => hx b u (fun z => ?_) e
      rw [z] at hb
      rcases List.mem_cons.mp hb with z | z
      · exact Nat.ne_of_lt hPlt z
      · exact haP (List.mem_singleton.mp z).symm
    · intro b hb
      rcases List.mem_cons.mp hb with z | z
      · rw [z]; exact Heap.lt_size hi3
      · rw [List.mem_singleton.mp z]
        exact Nat.lt_of_lt_of_le hlt (show s1.heap.objs.size ≤ h3.objs.size by omega)
    · intro z
      exact Nat.ne_of_lt hcl2 (List.mem_singleton.mp z)
    · intro href hh
      refine ⟨fun A' E' i v s₂ m₂ hA hPv hn hmx hk => ?_, fun A' E' i v s₂ m₂ hA hPv hp hn hmx hk => ?_⟩
      · simp only [List.forIn_nil]
        exact wpAny_pure ⟨rfl, GxR.keeps_refl _⟩
      · refine hel wt a xs H1 s1 its hR I1 rv ⟨ps, hP⟩ _ A' E' i v s₂ m₂ rfl hA hPv hn hmx fun b u hb e => ?_
        have hbl := Heap.lt_size e
        refine hk b (List.mem_range.mpr ?_) (fun z => ?_) u (hh b u (keep3 b u hb e))
        · exact Nat.lt_of_lt_of_le hbl (show s1.heap.objs.size ≤ h3.objs.size by omega)
        · rw [List.mem_singleton.mp z] at hbl
          exact Nat.lt_irrefl _ hbl
    · intro g h5 tk5 gs hgb hag hsz5 hk5 W5 hat
      simp only [passing_all, List.length_range] at W5
      have W6 := W5.in4_1.imp (P' := F wt) (fun j y hy => by
        obtain ⟨i, hij, hy⟩ := hy
        obtain ⟨hj, ej⟩ := List.getElem?_eq_some_iff.mp hij
        rw [List.getElem_range] at ej
        rw [ej]
        exact hy)
      rw [← hlen] at W6 hat
      refine hQ wt a xs H1 g _ _ _ _ _ hR W6 hat (fun b hb => ?_) (fun s' hmv => ?_)
      · show b < h5.objs.size
        rw [hsz5]
        rcases List.mem_cons.mp hb with z | z
        · rw [z]; exact Nat.lt_succ_self _
        · rcases List.mem_cons.mp z with z | z
          · rw [z]; exact Nat.lt_succ_of_lt hag
          · exact Nat.lt_succ_of_lt (Nat.lt_trans (List.mem_range.mp z) hag)
      · have nwr : ∀ b u, b ≠ s1.heap.objs.size → h3.get? b = some u → b ∉ h3.objs.size :: [s1.heap.objs.size] := fun b u hne e hb => by
          have hl := Heap.lt_size e
          rcases List.mem_cons.mp hb with z | z
          · rw [z] at hl
            exact Nat.lt_irrefl _ hl
          · exact hne (List.mem_singleton.mp z)
        have mv : ∀ b u, b ≠ s1.heap.objs.size → h3.get? b = some u → s'.heap.get? b = some u := fun b u hne e => hmv.heap b u (nwr b u hne e) (hk5 b u e)
        obtain ⟨H2, x1, x2, x3, J⟩ := hfin s'.heap s'.toks (fun b u hb e => mv b u (Nat.ne_of_lt (Heap.lt_size e)) (keep3 b u hb e)) (mv P _ (Nat.ne_of_lt hPlt) hP3) (fun b u hb e => mv b u (Nat.ne_of_gt hb) e)
        have J2 := GxR.inv_tab (more := #[]) (h' := s'.heap) (g' := s'.gens) (d' := s'.drawn) (t' := s'.toks) J x3 (fun b u _ e => e) (by rw [Array.append_empty]; exact mv P _ (Nat.ne_of_lt hPlt) hP3) (AllBare.movedS (I1.bare.push hgb) hmv)
        have eH : upd H2 P (.tbl (ps' ++ #[])) = H2 := by
          funext b
          by_cases hb : b = P
          · rw [hb, upd_same, Array.append_empty, x3]
          · rw [upd_ne hb]
        rw [eH] at J2
        refine ⟨H2, x1, x2, ?_⟩
        have e9 := GxR.sh_eta s1 s' hmv.os
        rw [← e9]
        exact J2
  cases hf : codeAmong gpos ps.toList with
  | some cv =>
    refine wpAny_genexprCode_hit hcode ((TB.code.keeps fun b u e => Heap.get?_push_of_some _ (I1.bk b u e)).code hP2 ht) hf ?_
    refine rest cv (s1.heap.push o) s1.toks ps (Heap.ExtBut.refl _ _) (Nat.le_refl _) hP2 fun h' t' k1 k2 _ => ?_
    refine ⟨H1, LamX.ExtN.refl H1, hT, hP, I1.kept fun b u e => ?_⟩
    by_cases hb : b = P
    · rw [hb, hP1] at e
      cases e
      rw [hb]
      exact k2
    · exact k1 b u hb e
  | none =>
    have cd : PySem.W.CodeHd (s1.heap.push o) c P := TB.code.keeps fun b u e => Heap.get?_push_of_some _ (I1.bk b u e)
    refine wpAny_genexprCodeX hcode (cd.code hP2 ht) (cd.tab hP2) hf fun c' h3 tk hx hge hlt3 hco' hrec htab' _ => ?_
    have sz2 : (s1.heap.push o).objs.size = s1.heap.objs.size + 1 := Heap.size_push ..
    refine rest _ h3 tk _ hx (Nat.le_trans hge (Nat.le_of_lt hlt3)) htab'.2 fun h' t' k1 k2 k3 => ?_
    obtain ⟨c2, oc, vs, t, ec, hoc, hd, hv⟩ := hrec
    cases ec
    have hge1 : s1.heap.objs.size ≤ c' := by have : (s1.heap.push o).objs.size ≤ c' := hge; omega
    have nC : H1 c' = none := I1.hok.fresh hge1
    have J := LamX.inv_table (t' := t') (more := #[rawInt gpos.line, rawInt gpos.col, .ref c']) (h' := h') I1 hP k1 k2 hge1 ⟨oc, vs, t, k3 c' oc (by have : (s1.heap.push o).objs.size ≤ c' := hge; omega) hoc, hd, hv⟩
    have hE : LamX.ExtN H1 (upd (upd H1 P (.tbl (ps ++ #[rawInt gpos.line, rawInt gpos.col, .ref c']))) c' (LamX.CodeO c' (X.env.qual ++ "<genexpr>"))) := by
      intro b u e n
      have nb : b ≠ P := fun z => by
        rw [z, hP] at e
        exact n ps (Option.some.inj e).symm
      rw [upd_ne (ne_of_none e nC), upd_ne nb]
      exact e
    have eL : (ps ++ #[rawInt gpos.line, rawInt gpos.col, .ref c']).toList = ps.toList ++ [rawInt gpos.line, rawInt gpos.col, .ref c'] := by simp
    refine ⟨_, hE, fun p hp => ?_, by rw [upd_ne (ne_of_none hP nC), upd_same], J⟩
    by_cases hb : p.1 = P
    · rw [hu p hp hb, hb]
      refine ⟨_, by rw [upd_ne (ne_of_none hP nC), upd_same], by rw [eL]; exact PySem.TriplesOk_snoc _ _ _ _ ht, fun p' cv hcv => ?_⟩
      rw [eL] at hcv
      rcases LamX.among_app _ ht hcv with z | z
      · obtain ⟨c0, q1, q2⟩ := ha p' cv z
        exact ⟨c0, q1, hE _ _ q2 LamX.codeO_ne⟩
      · exact ⟨c', z, upd_same⟩
    · obtain ⟨ps', a1, a2, a3⟩ := hT p hp
      refine ⟨ps', by rw [upd_ne (ne_of_none a1 nC), upd_ne hb]; exact a1, a2, fun p' cv hcv => ?_⟩
      obtain ⟨c0, q1, q2⟩ := a3 p' cv hcv
      exact ⟨c0, q1, hE _ _ q2 LamX.codeO_ne⟩
end
end DL
set_option Elab.async false
set_option linter.all false
set_option maxRecDepth 100000
set_option maxHeartbeats 2000000
/-! DM3: the elements of generator expressions; any, all, sum of them. -/
namespace DL
open PySem PySem.Spec PyProof.Rows L2
/-- where an element is run: the making's state s1, the running state s₂ -/
structure At (X : Cx) (G : Gx) (scope : Scope) (x : Str) (P : Addr) (m : List Addr) (S : Store) (H1 : Hp) (s1 : Shared) (v : Value) (cenv : Env) (A' : Around) (s₂ : Shared) : Prop where
  inv : ∃ pins σ, Inv X pins σ H1 s1
  sim : Sim X.K G m S H1
  sc : cenv.scope = scope
  hd : A'.handled = none
  ns : ∃ m₂, s₂.heap.Ns cenv.locals m₂ ∧ m₂ x = some v
  keep : ∀ b o, b ≠ P → s1.heap.get? b = some o → s₂.heap.get? b = some o
  tab : ∃ ps, H1 P = some (.tbl ps)
theorem At.go {X : Cx} {G : Gx} {scope : Scope} {x : Str} {P : Addr} {m : List Addr} {S : Store} {H1 : Hp} {s1 : Shared} {v : Value} {cenv : Env} {A' : Around} {s₂ s₃ : Shared} (t : At X G scope x P m S H1 s1 v cenv A' s₂) (k : Keeps s₂ s₃) : At X G scope x P m S H1 s1 v cenv A' s₃ := by
  obtain ⟨h', tk, e, hk⟩ := k
  subst e
  obtain ⟨m₂, hn, hm⟩ := t.ns
  exact ⟨t.inv, t.sim, t.sc, t.hd, ⟨m₂, hn.keeps hk, hm⟩, fun b o hb e => hk b o (t.keep b o hb e), t.tab⟩
abbrev GE := D → Store → Option D
def EJ (X : Cx) (G : Gx) (scope : Scope) (x : Str) (P : Addr) (e : Expr) (g : GE) : Prop :=
  ∀ (m : List Addr) (S : Store) (H1 : Hp) (s1 : Shared) (d : D) (v0 : V) (v : Value) (r : D) (cenv : Env) (A' : Around) (E' : Value → Shared → Prop) (s₂ : Shared), At X G scope x P m S H1 s1 v cenv A' s₂ → SV X.K m H1 d v0 → RelV v0 v → g d S = some r →
    wpAny (model X.prog X.w) A' (eval e cenv) (fun y s₃ => (∃ rv, RelV rv y ∧ SV X.K m H1 r rv) ∧ Keeps s₂ s₃) E' s₂
theorem keeps_tr {a b c : Shared} (h : Keeps a b) (q : Keeps b c) : Keeps a c := by
  obtain ⟨h1, t1, e1, k1⟩ := h
  obtain ⟨h2, t2, e2, k2⟩ := q
  subst e1
  subst e2
  exact ⟨h2, t2, rfl, fun b o e => k2 b o (k1 b o e)⟩
section
variable {X : Cx} {G : Gx} {scope : Scope} {x : Str} {P : Addr} {a b : Expr} {ga gb : GE} {pos : Pos}
theorem ej_name (hk : scope.kind = .function) (hl : scope.names.lookup x = some .local) (hd : (x == ("__debug__" : Str)) = false := by decide) : EJ X G scope x P (.Name x pos) (fun d _ => some d) := by
  intro m S H1 s1 d v0 v r cenv A' E' s₂ t sv rv e
  cases e
  obtain ⟨m₂, hn, hm⟩ := t.ns
  refine wpAny_Name (wpAny_loadName_local (by rw [t.sc]; exact hk) (show cenv.scope.names.lookup x = some .local by rw [t.sc]; exact hl) hn hm ?_) hd
  exact ⟨⟨v0, rv, sv⟩, GxR.keeps_refl _⟩
theorem ej_int {i : Int} {j : Nat} : EJ X G scope x P (.Constant (.int i) j pos) (fun _ _ => some (.int i)) := by
  intro m S H1 s1 d v0 v r cenv A' E' s₂ t sv rv e
  cases e
  exact wpAny_Constant_int ⟨⟨.int i, ⟨_, rfl⟩, rfl⟩, GxR.keeps_tok _ _⟩
def g2 (f : D → D → Option D) (ga gb : GE) : GE := fun d S => match ga d S, gb d S with
  | some p, some q => f p q
  | _, _ => none
theorem g2_some {f : D → D → Option D} {d : D} {S : Store} {r : D} (h : g2 f ga gb d S = some r) : ∃ p q, ga d S = some p ∧ gb d S = some q ∧ f p q = some r := by
  unfold g2 at h
  split at h
  · exact ⟨_, _, by assumption, by assumption, h⟩
  · cases h
def cmpG (p : Int → Int → Bool) : D → D → Option D
  | .int i, .int j => some (.bl (p i j))
  | _, _ => none
theorem ej_cmp {op : CmpOp} {p : Int → Int → Bool} (ho : ∀ {A : Around} {E : Value → Shared → Prop} {s : Shared} {i j : Int} {t u : Tok} {Q : Value → Shared → Prop}, Q (.bool (p i j)) s → wpAny (model X.prog X.w) A (compareOp op (.int i t) (.int j u)) Q E s)
    (ha : EJ X G scope x P a ga) (hb : EJ X G scope x P b gb) (hm : behindInMarks op b = false := by with_unfolding_all rfl) : EJ X G scope x P (.Compare a [op] [b] pos) (g2 (cmpG p) ga gb) := by
  intro m S H1 s1 d v0 v r cenv A' E' s₂ t sv rv e
  obtain ⟨p1, q1, e1, e2, e3⟩ := g2_some e
  refine wpAny_Compare1 ?_ hm
  refine wpAny_mono (ha m S H1 s1 d v0 v p1 cenv A' E' s₂ t sv rv e1) (fun y s3 hy => ?_) fun _ _ e => e
  obtain ⟨⟨v1, r1, sv1⟩, k1⟩ := hy
  refine wpAny_mono (hb m S H1 s1 d v0 v q1 cenv A' E' s3 (t.go k1) sv rv e2) (fun z s4 hz => ?_) fun _ _ e => e
  obtain ⟨⟨v2, r2, sv2⟩, k2⟩ := hz
  unfold cmpG at e3
  split at e3
  · cases e3
    cases sv1; cases sv2
    obtain ⟨t1, rfl⟩ := r1
    obtain ⟨t2, rfl⟩ := r2
    exact ho ⟨⟨.bl _, rfl, rfl⟩, keeps_tr k1 k2⟩
  · cases e3
theorem ej_lt (ha : EJ X G scope x P a ga) (hb : EJ X G scope x P b gb) (hm : behindInMarks .Lt b = false := by with_unfolding_all rfl) : EJ X G scope x P (.Compare a [.Lt] [b] pos) (g2 (cmpG fun i j => decide (i < j)) ga gb) := ej_cmp (fun q => lt_int q) ha hb hm
def ixG : D → D → Option D
  | .tup xs, .int k => atI xs k
  | _, _ => none
theorem ej_ix (ha : EJ X G scope x P a ga) (hb : EJ X G scope x P b gb) (hs : PlainIx b := by exact (fun _ _ => rfl)) : EJ X G scope x P (.Subscript a b pos) (g2 ixG ga gb) := by
  intro m S H1 s1 d v0 v r cenv A' E' s₂ t sv rv e
  obtain ⟨p1, q1, e1, e2, e3⟩ := g2_some e
  refine Subscript_ ?_
  refine wpAny_mono (ha m S H1 s1 d v0 v p1 cenv A' E' s₂ t sv rv e1) (fun y s3 hy => ?_) fun _ _ e => e
  obtain ⟨⟨v1, r1, sv1⟩, k1⟩ := hy
  refine wpAny_mono (hb m S H1 s1 d v0 v q1 cenv A' E' s3 (t.go k1) sv rv e2) (fun z s4 hz => ?_) fun _ _ e => e
  obtain ⟨⟨v2, r2, sv2⟩, k2⟩ := hz
  have t4 := (t.go k1).go k2
  unfold ixG at e3
  split at e3
  · rename_i xs k
    obtain ⟨p, vs, rfl, hq, hv⟩ := sv1
    cases sv2
    cases r1
    obtain ⟨t2, rfl⟩ := r2
    obtain ⟨pins, σ, I⟩ := t.inv
    obtain ⟨its, rvs, pl, hz⟩ := I.tuple hq
    obtain ⟨u, eu, su⟩ := atI_svs hv e3
    obtain ⟨j, h1, h2, h3, h4, h5⟩ := atI_get eu
    obtain ⟨w, ew, rw'⟩ := rvs.get h2
    have hl := rvs.length
    have hn := line63
    have pl4 : IsTup s4.heap p its.toArray := by
      obtain ⟨o, ho, hc, n, hd⟩ := pl
      refine ⟨o, t4.keep p o (fun z => ?_) ho, hc, n, hd⟩
      obtain ⟨ps, hP⟩ := t.tab
      have hP1 : s1.heap.get? P = some { cls := .none, data := .fields ps } := I.hok P _ hP
      rw [z, hP1] at ho
      cases ho
      cases hc
    exact subscriptTail_builtinR (x := w) pl4.typeIs slot_tuple_getitem.lookup
      (getItem_tuple (j := j) (Q := fun r s' => r = w ∧ ((∃ rv, RelV rv r ∧ SV X.K m H1 _ rv) ∧ Keeps s₂ s')) pl4 (by omega) (by omega) (by rw [List.size_toArray, ← hl]; exact h1) (by simpa using ew) ⟨rfl, ⟨u, rw', su⟩, keeps_tr k1 k2⟩) (hs _ _)
  · cases e3
/-! ### any, all, sum of a generator expression -/
def boolsG (g : GE) (S : Store) : List D → Option (List Bool)
  | [] => some []
  | d :: ds => match g d S, boolsG g S ds with
    | some (.bl b), some bs => some (b :: bs)
    | _, _ => none
def intsG (g : GE) (S : Store) : List D → Option (List Int)
  | [] => some []
  | d :: ds => match g d S, intsG g S ds with
    | some (.int b), some bs => some (b :: bs)
    | _, _ => none
theorem boolsG_at {g : GE} {S : Store} : ∀ {ds : List D} {bs : List Bool}, boolsG g S ds = some bs → ds.length = bs.length ∧ ∀ (i : Nat) (d : D), ds[i]? = some d → ∃ b, bs[i]? = some b ∧ g d S = some (.bl b)
  | [], bs, h => by cases h; exact ⟨rfl, fun i d e => by simp at e⟩
  | d :: ds, bs, h => by
    unfold boolsG at h
    split at h
    · rename_i b bs' e1 e2
      cases h
      obtain ⟨q1, q2⟩ := boolsG_at e2
      refine ⟨by simp [q1], fun i d' e => ?_⟩
      cases i with
      | zero => simp at e; subst e; exact ⟨b, by simp, e1⟩
      | succ i => simpa using q2 i d' (by simpa using e)
    · cases h
theorem intsG_at {g : GE} {S : Store} : ∀ {ds : List D} {bs : List Int}, intsG g S ds = some bs → ds.length = bs.length ∧ ∀ (i : Nat) (d : D), ds[i]? = some d → ∃ b, bs[i]? = some b ∧ g d S = some (.int b)
  | [], bs, h => by cases h; exact ⟨rfl, fun i d e => by simp at e⟩
  | d :: ds, bs, h => by
    unfold intsG at h
    split at h
    · rename_i b bs' e1 e2
      cases h
      obtain ⟨q1, q2⟩ := intsG_at e2
      refine ⟨by simp [q1], fun i d' e => ?_⟩
      cases i with
      | zero => simp at e; subst e; exact ⟨b, by simp, e1⟩
      | succ i => simpa using q2 i d' (by simpa using e)
    · cases h
def dAnyG (fe : DE) (g : GE) : DE := fun ρ S => (fe ρ S).bind fun d S1 => match seqAt S1 d with
  | some xs => (match boolsG g S1 xs with
    | some bs => .ok (.bl (bs.any id)) S1
    | none => .bad)
  | none => .bad
def dAllG (fe : DE) (g : GE) : DE := fun ρ S => (fe ρ S).bind fun d S1 => match seqAt S1 d with
  | some xs => (match boolsG g S1 xs with
    | some bs => .ok (.bl (bs.all id)) S1
    | none => .bad)
  | none => .bad
def dSumG (fe : DE) (g : GE) : DE := fun ρ S => (fe ρ S).bind fun d S1 => match seqAt S1 d with
  | some xs => (match intsG g S1 xs with
    | some bs => .ok (.int bs.sum) S1
    | none => .bad)
  | none => .bad
def trB (bs : List Bool) (j : Nat) : Bool := (bs[j]?).getD false
theorem any_trB (bs : List Bool) : (List.range bs.length).any (trB bs) = bs.any id := by
  rw [Bool.eq_iff_iff, List.any_eq_true, List.any_eq_true]
  constructor
  · rintro ⟨j, hj, h⟩
    have hj' := List.mem_range.mp hj
    unfold trB at h
    rw [List.getElem?_eq_getElem hj'] at h
    exact ⟨_, List.getElem_mem hj', h⟩
  · rintro ⟨b, hb, h⟩
    obtain ⟨j, hj, e⟩ := List.getElem_of_mem hb
    refine ⟨j, List.mem_range.mpr hj, ?_⟩
    unfold trB
    rw [List.getElem?_eq_getElem hj, e]
    exact h
theorem all_trB (bs : List Bool) : (List.range bs.length).all (trB bs) = bs.all id := by
  rw [Bool.eq_iff_iff, List.all_eq_true, List.all_eq_true]
  constructor
  · intro h b hb
    obtain ⟨j, hj, e⟩ := List.getElem_of_mem hb
    have q := h j (List.mem_range.mpr hj)
    unfold trB at q
    rw [List.getElem?_eq_getElem hj, e] at q
    exact q
  · intro h j hj
    have hj' := List.mem_range.mp hj
    unfold trB
    rw [List.getElem?_eq_getElem hj']
    exact h _ (List.getElem_mem hj')
/-- what the making knows of the items -/
structure GW where
  m : List Addr
  S : Store
  ds : List D
def RW (X : Cx) (G : Gx) (w : GW) (xs : List V) (H1 : Hp) : Prop := Sim X.K G w.m w.S H1 ∧ SVs X.K w.m H1 w.ds xs
theorem elt_of {elt : Expr} {g : GE} {its : List Value} {xs : List V} {w : GW} {H1 : Hp} {s1 : Shared} {pins : List (Addr × Obj)} {σ : L2.St} {F : Nat → Value → Prop} (hel : EJ X G scope x P elt g) (hR : RW X G w xs H1) (I : Inv X pins σ H1 s1) (rv : Vals xs its) (hP : ∃ ps, H1 P = some (.tbl ps))
    (hF : ∀ (i : Nat) (d : D), w.ds[i]? = some d → ∃ r, g d w.S = some r ∧ ∀ rv y, RelV rv y → SV X.K w.m H1 r rv → F i y) : EltOk X.prog X.w scope x P elt s1.heap its F := by
  intro cenv A' E' i v s₂ m₂ hsc hA hv hn hmx hk
  obtain ⟨sm, sv⟩ := hR
  have hi : i < its.length := (List.getElem?_eq_some_iff.mp hv).1
  have hix : i < xs.length := by rw [rv.length]; exact hi
  have hid : i < w.ds.length := by rw [sv.len]; exact hix
  obtain ⟨v0, h1, h2⟩ := sv.get (i := i) (d := w.ds[i]) (by simp [hid])
  obtain ⟨u, h3, h4⟩ := rv.get h1
  rw [hv] at h3
  cases h3
  obtain ⟨r, e1, e2⟩ := hF i w.ds[i] (by simp [hid])
  refine wpAny_mono (hel w.m w.S H1 s1 w.ds[i] v0 v r cenv A' E' s₂ ⟨⟨pins, σ, I⟩, sm, hsc, hA, ⟨m₂, hn, hmx⟩, hk, hP⟩ h2 h4 e1) (fun y s3 hy => ?_) fun _ _ e => e
  obtain ⟨⟨rv, q1, q2⟩, k⟩ := hy
  exact ⟨e2 rv y q1 q2, k⟩
variable {W : WX} {iter elt : Expr} {fe : DE} {g : GE} {px p gpos : Pos} {k : Nat} {c : Addr}
theorem je_anyG (hr : Room k X.A) (hm : X.mg "any" = none) (TB : LamX.TabB X.base X.mg c P) (hcode : X.env.code = .ref c) (hT : (P, X.env.qual ++ "<genexpr>") ∈ G.T) (hu : ∀ p ∈ G.T, p.1 = P → p.2 = X.env.qual ++ "<genexpr>")
    (S : GxR.GenS X.env scope x) (hi : JE X G W iter fe) (hel : EJ X G scope x P elt g) (hs : ∀ v, genFold iter X.env v = pure v := by intro _; rfl) (hg : Gl X "any" := by rfl)
    (he : starEach [.GeneratorExp elt [⟨.Name x px, iter, [], 0⟩] scope gpos] X.env = (false, eval (.GeneratorExp elt [⟨.Name x px, iter, [], 0⟩] scope gpos) X.env) :: starEach [] X.env := by rfl) :
    JE X G W (.Call (.Name "any" p) [.GeneratorExp elt [⟨.Name x px, iter, [], 0⟩] scope gpos] [] pos) (dAnyG fe g) := by
  refine ⟨fun pins s σ H Q I h => ?_⟩
  obtain ⟨m, ρ, St, sr, sm, eo⟩ := h
  refine wpAny_Call_Name_kw (ld_blt I hg hm boot_any ?_)
  refine PyProof.Rows.callWith_builtin1 ?_ he (by rfl)
  rw [he]
  show wpAny _ _ (spliced ((false, eval (.GeneratorExp elt [⟨.Name x px, iter, [], 0⟩] scope gpos) X.env) :: backTo pos (starEach [] X.env))) _ _ s
  refine Calls.spliced_cons (gen_seq (T := G.T) (R := fun (w : GW × List Bool) a xs H1 => RW X G w.1 xs H1 ∧ boolsG g w.1.S w.1.ds = some w.2 ∧ ∀ H2, LamX.ExtN H1 H2 → LamX.Tabs G.T H2 → Q (.bl (w.2.any id)) H2) (F := fun w i y => ∃ b, w.2[i]? = some b ∧ y = .bool b)
    hr TB hcode hT hu S hi hs I ⟨m, ρ, St, sr, sm, EO.then (rel := SV X.K) eo fun d S1 v H1 m1 st1 sm1 r1 eo1 => ?_⟩ (fun w a xs H1 s1 its hR I1 rv hP => ?_) (fun w a xs H1 g5 s5 fp wr GG Sg hR Wk hst hfp hfin => ?_))
  · split at eo1
    · rename_i ds e1
      split at eo1
      · rename_i bs e2
        obtain ⟨q, vs, rfl, sv, sq⟩ := seqAt_ok sm1 e1 r1
        exact ⟨(⟨m1, S1, ds⟩, bs), q, vs, rfl, sq, sm1.tabs, ⟨sm1, sv⟩, e2, fun H2 x1 x2 => by
          obtain ⟨st2, sm2⟩ := sim_ext sm1 x1 x2
          exact eo1 _ H2 m1 st2 sm2 rfl⟩
      · exact eo1.elim
    · exact eo1.elim
  · obtain ⟨b1, b2⟩ := boolsG_at hR.2.1
    refine elt_of hel hR.1 I1 rv hP fun i d hd => ?_
    obtain ⟨b, e1, e2⟩ := b2 i d hd
    refine ⟨_, e2, fun rv y q1 q2 => ⟨b, e1, ?_⟩⟩
    cases q2
    cases q1
    rfl
  · obtain ⟨b1, b2⟩ := boolsG_at hR.2.1
    have hn : xs.length = w.2.length := by rw [← hR.1.2.len, b1]
    refine Calls.spliced_nil ?_
    refine call_any_walkS (Wk.self 0 _ _ _ hst ⟨g5, fp, wr, GG, xs.length, _, Sg, trB w.2, rfl, Wk, hst, ?_, fun s' hmv => ?_⟩)
    · intro j y sj Qj Ej hy hQj
      obtain ⟨b, e1, rfl⟩ := hy
      have hQ2 : Qj (trB w.2 j) sj := hQj
      unfold trB at hQ2
      rw [e1] at hQ2
      exact wpAny_truthy_bool hQ2
    · obtain ⟨H2, x1, x2, J⟩ := hfin s' hmv
      refine ⟨.bl _, H2, J, rfl, ?_⟩
      rw [hn, any_trB]
      exact hR.2.2 H2 x1 x2
theorem je_allG (hr : Room k X.A) (hm : X.mg "all" = none) (TB : LamX.TabB X.base X.mg c P) (hcode : X.env.code = .ref c) (hT : (P, X.env.qual ++ "<genexpr>") ∈ G.T) (hu : ∀ p ∈ G.T, p.1 = P → p.2 = X.env.qual ++ "<genexpr>")
    (S : GxR.GenS X.env scope x) (hi : JE X G W iter fe) (hel : EJ X G scope x P elt g) (hs : ∀ v, genFold iter X.env v = pure v := by intro _; rfl) (hg : Gl X "all" := by rfl)
    (he : starEach [.GeneratorExp elt [⟨.Name x px, iter, [], 0⟩] scope gpos] X.env = (false, eval (.GeneratorExp elt [⟨.Name x px, iter, [], 0⟩] scope gpos) X.env) :: starEach [] X.env := by rfl) :
    JE X G W (.Call (.Name "all" p) [.GeneratorExp elt [⟨.Name x px, iter, [], 0⟩] scope gpos] [] pos) (dAllG fe g) := by
  refine ⟨fun pins s σ H Q I h => ?_⟩
  obtain ⟨m, ρ, St, sr, sm, eo⟩ := h
  refine wpAny_Call_Name_kw (ld_blt I hg hm PyProof.Rows.boot_all ?_)
  refine PyProof.Rows.callWith_builtin1 ?_ he (by rfl)
  rw [he]
  show wpAny _ _ (spliced ((false, eval (.GeneratorExp elt [⟨.Name x px, iter, [], 0⟩] scope gpos) X.env) :: backTo pos (starEach [] X.env))) _ _ s
  refine Calls.spliced_cons (gen_seq (T := G.T) (R := fun (w : GW × List Bool) a xs H1 => RW X G w.1 xs H1 ∧ boolsG g w.1.S w.1.ds = some w.2 ∧ ∀ H2, LamX.ExtN H1 H2 → LamX.Tabs G.T H2 → Q (.bl (w.2.all id)) H2) (F := fun w i y => ∃ b, w.2[i]? = some b ∧ y = .bool b)
    hr TB hcode hT hu S hi hs I ⟨m, ρ, St, sr, sm, EO.then (rel := SV X.K) eo fun d S1 v H1 m1 st1 sm1 r1 eo1 => ?_⟩ (fun w a xs H1 s1 its hR I1 rv hP => ?_) (fun w a xs H1 g5 s5 fp wr GG Sg hR Wk hst hfp hfin => ?_))
  · split at eo1
    · rename_i ds e1
      split at eo1
      · rename_i bs e2
        obtain ⟨q, vs, rfl, sv, sq⟩ := seqAt_ok sm1 e1 r1
        exact ⟨(⟨m1, S1, ds⟩, bs), q, vs, rfl, sq, sm1.tabs, ⟨sm1, sv⟩, e2, fun H2 x1 x2 => by
          obtain ⟨st2, sm2⟩ := sim_ext sm1 x1 x2
          exact eo1 _ H2 m1 st2 sm2 rfl⟩
      · exact eo1.elim
    · exact eo1.elim
  · obtain ⟨b1, b2⟩ := boolsG_at hR.2.1
    refine elt_of hel hR.1 I1 rv hP fun i d hd => ?_
    obtain ⟨b, e1, e2⟩ := b2 i d hd
    refine ⟨_, e2, fun rv y q1 q2 => ⟨b, e1, ?_⟩⟩
    cases q2
    cases q1
    rfl
  · obtain ⟨b1, b2⟩ := boolsG_at hR.2.1
    have hn : xs.length = w.2.length := by rw [← hR.1.2.len, b1]
    refine Calls.spliced_nil ?_
    refine call_all_walkS (Wk.self 0 _ _ _ hst ⟨g5, fp, wr, GG, xs.length, _, Sg, trB w.2, rfl, Wk, hst, ?_, fun s' hmv => ?_⟩)
    · intro j y sj Qj Ej hy hQj
      obtain ⟨b, e1, rfl⟩ := hy
      have hQ2 : Qj (trB w.2 j) sj := hQj
      unfold trB at hQ2
      rw [e1] at hQ2
      exact wpAny_truthy_bool hQ2
    · obtain ⟨H2, x1, x2, J⟩ := hfin s' hmv
      refine ⟨.bl _, H2, J, rfl, ?_⟩
      rw [hn, all_trB]
      exact hR.2.2 H2 x1 x2
theorem preSum_take (bs : List Int) : ∀ n, n ≤ bs.length → preSum (fun j => (bs[j]?).getD 0) n = (bs.take n).sum
  | 0, _ => by simp [preSum]
  | n + 1, h => by
    rw [preSum, preSum_take bs n (by omega), List.take_add_one, List.getElem?_eq_getElem (by omega)]
    simp only [Option.getD_some, Option.toList_some, List.sum_append, List.sum_cons, List.sum_nil, Int.add_zero]
theorem preSum_list (bs : List Int) : preSum (fun j => (bs[j]?).getD 0) bs.length = bs.sum := by
  rw [preSum_take bs _ (Nat.le_refl _), List.take_length]
theorem je_sumG (hr : Room k X.A) (hm : X.mg "sum" = none) (TB : LamX.TabB X.base X.mg c P) (hcode : X.env.code = .ref c) (hT : (P, X.env.qual ++ "<genexpr>") ∈ G.T) (hu : ∀ p ∈ G.T, p.1 = P → p.2 = X.env.qual ++ "<genexpr>")
    (S : GxR.GenS X.env scope x) (hi : JE X G W iter fe) (hel : EJ X G scope x P elt g) (hs : ∀ v, genFold iter X.env v = pure v := by intro _; rfl) (hg : Gl X "sum" := by rfl)
    (he : starEach [.GeneratorExp elt [⟨.Name x px, iter, [], 0⟩] scope gpos] X.env = (false, eval (.GeneratorExp elt [⟨.Name x px, iter, [], 0⟩] scope gpos) X.env) :: starEach [] X.env := by rfl) :
    JE X G W (.Call (.Name "sum" p) [.GeneratorExp elt [⟨.Name x px, iter, [], 0⟩] scope gpos] [] pos) (dSumG fe g) := by
  refine ⟨fun pins s σ H Q I h => ?_⟩
  obtain ⟨m, ρ, St, sr, sm, eo⟩ := h
  refine wpAny_Call_Name_kw (ld_blt I hg hm PyProof.Rows.boot_sum ?_)
  refine PyProof.Rows.callWith_builtin1 ?_ he (by rfl)
  rw [he]
  show wpAny _ _ (spliced ((false, eval (.GeneratorExp elt [⟨.Name x px, iter, [], 0⟩] scope gpos) X.env) :: backTo pos (starEach [] X.env))) _ _ s
  refine Calls.spliced_cons (gen_seq (T := G.T) (R := fun (w : GW × List Int) a xs H1 => RW X G w.1 xs H1 ∧ intsG g w.1.S w.1.ds = some w.2 ∧ ∀ H2, LamX.ExtN H1 H2 → LamX.Tabs G.T H2 → Q (.int w.2.sum) H2) (F := fun w i y => ∃ b t, w.2[i]? = some b ∧ y = .int b t)
    hr TB hcode hT hu S hi hs I ⟨m, ρ, St, sr, sm, EO.then (rel := SV X.K) eo fun d S1 v H1 m1 st1 sm1 r1 eo1 => ?_⟩ (fun w a xs H1 s1 its hR I1 rv hP => ?_) (fun w a xs H1 g5 s5 fp wr GG Sg hR Wk hst hfp hfin => ?_))
  · split at eo1
    · rename_i ds e1
      split at eo1
      · rename_i bs e2
        obtain ⟨q, vs, rfl, sv, sq⟩ := seqAt_ok sm1 e1 r1
        exact ⟨(⟨m1, S1, ds⟩, bs), q, vs, rfl, sq, sm1.tabs, ⟨sm1, sv⟩, e2, fun H2 x1 x2 => by
          obtain ⟨st2, sm2⟩ := sim_ext sm1 x1 x2
          exact eo1 _ H2 m1 st2 sm2 rfl⟩
      · exact eo1.elim
    · exact eo1.elim
  · obtain ⟨b1, b2⟩ := intsG_at hR.2.1
    refine elt_of hel hR.1 I1 rv hP fun i d hd => ?_
    obtain ⟨b, e1, e2⟩ := b2 i d hd
    refine ⟨_, e2, fun rv y q1 q2 => ?_⟩
    cases q2
    obtain ⟨t, rfl⟩ := q1
    exact ⟨b, t, e1, rfl⟩
  · obtain ⟨b1, b2⟩ := intsG_at hR.2.1
    have hn : xs.length = w.2.length := by rw [← hR.1.2.len, b1]
    refine Calls.spliced_nil ?_
    refine call_sum_walkAnyS (Wk.self 0 _ _ _ hst ⟨g5, fp, wr, GG, xs.length, _, Sg, (fun j => (w.2[j]?).getD 0), rfl, Wk, hst, hfp, ?_, fun s' t' hmv => ?_⟩)
    · rintro j y ⟨b, t, e1, rfl⟩
      exact ⟨t, by dsimp only; rw [e1]; rfl⟩
    · obtain ⟨H2, x1, x2, J⟩ := hfin s' hmv
      refine ⟨.int _, H2, J, ⟨t', rfl⟩, ?_⟩
      rw [hn, preSum_list]
      exact hR.2.2 H2 x1 x2
end
end DL
set_option Elab.async false
set_option linter.all false
set_option maxRecDepth 100000
set_option maxHeartbeats 2000000
/-! DM4: what is not told; in; sums, least and greatest of lists; reversed; index; names of the top. -/
namespace DL
open PySem PySem.Spec PyProof.Rows L2
def dBad : DE := fun _ _ => .bad
def dBadS : DS := fun _ _ => .bad
def flatOf : D → Option V
  | .non => some .non
  | .bl b => some (.bl b)
  | .int i => some (.int i)
  | .str x => some (.str x)
  | _ => none
def flatsOf : List D → Option (List V)
  | [] => some []
  | d :: ds => match flatOf d, flatsOf ds with
    | some v, some vs => some (v :: vs)
    | _, _ => none
def intsOf : List D → Option (List Int)
  | [] => some []
  | .int i :: ds => (intsOf ds).map (i :: ·)
  | _ :: _ => none
section
variable {K : PySem.W.Frag} {m : List Addr} {H : Hp}
theorem flatOf_ok {d : D} {v u : V} (e : flatOf d = some u) (h : SV K m H d v) : v = u ∧ flatV u = true := by
  cases d with
  | non => cases e; cases h; exact ⟨rfl, rfl⟩
  | bl b => cases e; cases h; exact ⟨rfl, rfl⟩
  | int b => cases e; cases h; exact ⟨rfl, rfl⟩
  | str b => cases e; cases h; exact ⟨rfl, rfl⟩
  | _ => cases e
theorem flatsOf_ok : ∀ {ds : List D} {vs us : List V}, flatsOf ds = some us → SVs K m H ds vs → vs = us ∧ us.all flatV = true
  | [], vs, us, e, h => by cases e; rw [show vs = [] from h]; exact ⟨rfl, rfl⟩
  | d :: ds, vs, us, e, h => by
    obtain ⟨v, r, rfl, a, b⟩ := (show ∃ v r, vs = v :: r ∧ SV K m H d v ∧ SVs K m H ds r from h)
    unfold flatsOf at e
    split at e
    · rename_i u us' e1 e2
      cases e
      obtain ⟨rfl, f1⟩ := flatOf_ok e1 a
      obtain ⟨rfl, f2⟩ := flatsOf_ok e2 b
      exact ⟨rfl, by rw [List.all_cons, f1, f2]; rfl⟩
    · cases e
theorem intsOf_ok : ∀ {ds : List D} {vs : List V} {ns : List Int}, intsOf ds = some ns → SVs K m H ds vs → vs = ns.map V.int
  | [], vs, ns, e, h => by cases e; rw [show vs = [] from h]; rfl
  | d :: ds, vs, ns, e, h => by
    obtain ⟨v, r, rfl, a, b⟩ := (show ∃ v r, vs = v :: r ∧ SV K m H d v ∧ SVs K m H ds r from h)
    cases d with
    | int i =>
      have e : (intsOf ds).map (i :: ·) = some ns := e
      cases z : intsOf ds with
      | none => rw [z] at e; cases e
      | some ns' =>
        rw [z] at e
        cases e
        cases a
        rw [intsOf_ok z b]
        rfl
    | _ => cases e
end
def inD : D2 := fun x y S => match flatOf x, (seqAt S y).bind flatsOf with
  | some u, some us => some (.bl (inV u us), S)
  | _, _ => none
def notInD : D2 := fun x y S => match flatOf x, (seqAt S y).bind flatsOf with
  | some u, some us => some (.bl (!inV u us), S)
  | _, _ => none
/-- a list that is read -/
def lstOf (S : Store) : D → Option (List D)
  | .fl xs => some xs
  | .obj n => lstAt S n
  | _ => none
theorem lstOf_ok {K : PySem.W.Frag} {G : Gx} {m : List Addr} {S : Store} {H : Hp} (s : Sim K G m S H) {d : D} {v : V} {xs : List D} (h : lstOf S d = some xs) (r : SV K m H d v) : ∃ p vs, v = .ref p ∧ SVs K m H xs vs ∧ SqL K H p vs := by
  cases d with
  | fl ys => cases h; obtain ⟨p, vs, e, q, r⟩ := r; exact ⟨p, vs, e, r, q.l⟩
  | obj n =>
    obtain ⟨a, e, hm⟩ := r
    obtain ⟨a', vs, h1, h2, h3⟩ := lstAt_ok s h
    rw [hm] at h1; cases h1
    exact ⟨a, vs, e, h3, SqL.of h2⟩
  | _ => cases h
def sumLD : DB := fun ds S => match ds with
  | [d] => ((lstOf S d).bind intsOf).map fun ns => (.int ns.sum, S)
  | _ => none
def maxI : List Int → Option Int
  | [] => none
  | i :: is => some (is.foldl max i)
def minI : List Int → Option Int
  | [] => none
  | i :: is => some (is.foldl min i)
theorem foldl_max_mem (is : List Int) : ∀ i, is.foldl max i = i ∨ is.foldl max i ∈ is := by
  induction is with
  | nil => intro i; exact .inl rfl
  | cons j is ih =>
    intro i
    rw [List.foldl_cons]
    rcases ih (max i j) with h | h
    · rcases Int.le_total i j with q | q
      · right; rw [h, Int.max_eq_right q]; exact List.mem_cons_self
      · left; rw [h, Int.max_eq_left q]
    · exact .inr (List.mem_cons_of_mem _ h)
theorem foldl_max_le (is : List Int) : ∀ i, i ≤ is.foldl max i ∧ ∀ y ∈ is, y ≤ is.foldl max i := by
  induction is with
  | nil => intro i; exact ⟨Int.le_refl _, fun _ h => nomatch h⟩
  | cons j is ih =>
    intro i
    rw [List.foldl_cons]
    obtain ⟨h1, h2⟩ := ih (max i j)
    refine ⟨Int.le_trans (Int.le_max_left i j) h1, fun y hy => ?_⟩
    rcases List.mem_cons.mp hy with rfl | hy
    · exact Int.le_trans (Int.le_max_right i y) h1
    · exact h2 y hy
theorem foldl_min_mem (is : List Int) : ∀ i, is.foldl min i = i ∨ is.foldl min i ∈ is := by
  induction is with
  | nil => intro i; exact .inl rfl
  | cons j is ih =>
    intro i
    rw [List.foldl_cons]
    rcases ih (min i j) with h | h
    · rcases Int.le_total i j with q | q
      · left; rw [h, Int.min_eq_left q]
      · right; rw [h, Int.min_eq_right q]; exact List.mem_cons_self
    · exact .inr (List.mem_cons_of_mem _ h)
theorem foldl_min_le (is : List Int) : ∀ i, is.foldl min i ≤ i ∧ ∀ y ∈ is, is.foldl min i ≤ y := by
  induction is with
  | nil => intro i; exact ⟨Int.le_refl _, fun _ h => nomatch h⟩
  | cons j is ih =>
    intro i
    rw [List.foldl_cons]
    obtain ⟨h1, h2⟩ := ih (min i j)
    refine ⟨Int.le_trans h1 (Int.min_le_left i j), fun y hy => ?_⟩
    rcases List.mem_cons.mp hy with rfl | hy
    · exact Int.le_trans h1 (Int.min_le_right i y)
    · exact h2 y hy
def maxD2 : DB := fun ds S => match ds with
  | [d] => (((lstOf S d).bind intsOf).bind maxI).map fun i => (.int i, S)
  | ds => maxD ds S
def minD2 : DB := fun ds S => match ds with
  | [d] => (((lstOf S d).bind intsOf).bind minI).map fun i => (.int i, S)
  | ds => minD ds S
def mulD2 : D2 := fun a b S => match a, b with
  | .obj n, .int k => (match lstAt S n with
    | some xs => if -1000 ≤ k ∧ k ≤ 1000 ∧ xs.length ≤ 1000 then some (newO (.lst (List.replicate k.toNat xs).flatten) S) else none
    | none => none)
  | a, b => mulD a b S
def diRevS (fe : DE) : DI := fun ρ S => (fe ρ S).bind fun d S1 => match d with
  | .tup xs => .ok ⟨xs.reverse, grdT⟩ S1
  | .fl xs => .ok ⟨xs.reverse, grdT⟩ S1
  | .obj n => (match lstAt S1 n with
    | some xs => .ok ⟨xs.reverse, grdL n xs⟩ S1
    | none => .bad)
  | _ => .bad
section
variable {X : Cx} {G : Gx} {W : WX} {e o : Expr} {fe fo : DE} {p pos apos : Pos}
theorem je_bad : JE X G W e dBad := ⟨fun pins s σ H Q I ⟨m, ρ, S, sr, sm, eo⟩ => eo.elim⟩
theorem js_bad {st : Stmt} : JS X G W st dBadS := ⟨fun pins s σ H E I ⟨m, ρ, S, sr, sm, q⟩ => q.elim⟩
theorem jop_in : JOp X G (compareOp .In) inD :=
  OpR.imp op_in_seq fun x y H Q ⟨m, S, a, b, d, S', sm, ra, rb, e, k⟩ => by
    unfold inD at e
    split at e
    · rename_i u us e1 e2
      cases e
      cases z : seqAt S b with
      | none => rw [z] at e2; cases e2
      | some ys =>
        rw [z] at e2
        obtain ⟨q, vs, rfl, sv, sq⟩ := seqAt_ok sm z rb
        obtain ⟨rfl, f1⟩ := flatOf_ok e1 ra
        obtain ⟨rfl, f2⟩ := flatsOf_ok e2 sv
        exact ⟨q, _, rfl, sq, f1, f2, k _ H m sm.refl sm rfl⟩
    · cases e
theorem jop_notIn : JOp X G (compareOp .NotIn) notInD :=
  OpR.imp op_notIn_seq fun x y H Q ⟨m, S, a, b, d, S', sm, ra, rb, e, k⟩ => by
    unfold notInD at e
    split at e
    · rename_i u us e1 e2
      cases e
      cases z : seqAt S b with
      | none => rw [z] at e2; cases e2
      | some ys =>
        rw [z] at e2
        obtain ⟨q, vs, rfl, sv, sq⟩ := seqAt_ok sm z rb
        obtain ⟨rfl, f1⟩ := flatOf_ok e1 ra
        obtain ⟨rfl, f2⟩ := flatsOf_ok e2 sv
        exact ⟨q, _, rfl, sq, f1, f2, k _ H m sm.refl sm rfl⟩
    · cases e
theorem jb_sum (hc : X.calm = true) : CallR X (.builtin "sum") (BR X.K G sumLD) := CallR.imp (cr_sum hc) fun vs H Q ⟨m, S, ds, d, S', sm, r, e, k⟩ => by
  unfold sumLD at e
  split at e
  · rename_i d0
    obtain ⟨v, rfl, q⟩ := svs1 r
    cases z : lstOf S d0 with
    | none => rw [z] at e; cases e
    | some xs =>
      rw [z] at e
      cases z2 : intsOf xs with
      | none => rw [show (some xs).bind intsOf = none from z2] at e; cases e
      | some ns =>
        rw [show (some xs).bind intsOf = some ns from z2] at e
        cases e
        obtain ⟨p, vs, rfl, sv, sq⟩ := lstOf_ok sm z q
        rw [intsOf_ok z2 sv] at sq
        exact ⟨p, ns, rfl, sq, k _ H m sm.refl sm rfl⟩
  · cases e
theorem jb_max2 (hc : X.calm = true) : CallR X (.builtin "max") (BR X.K G maxD2) := CallR.imp (CallR.or (cr_max hc) (jb_max (G := G) hc)) fun vs H Q ⟨m, S, ds, d, S', sm, r, e, k⟩ => by
  unfold maxD2 at e
  split at e
  · rename_i d0
    obtain ⟨v, rfl, q⟩ := svs1 r
    cases z : lstOf S d0 with
    | none => rw [z] at e; cases e
    | some xs =>
      rw [z] at e
      cases z2 : intsOf xs with
      | none => rw [show (some xs).bind intsOf = none from z2] at e; cases e
      | some ns =>
        rw [show (some xs).bind intsOf = some ns from z2] at e
        cases ns with
        | nil => cases e
        | cons i is =>
          cases e
          obtain ⟨p, vs, rfl, sv, sq⟩ := lstOf_ok sm z q
          rw [intsOf_ok z2 sv] at sq
          refine .inl ⟨p, i :: is, rfl, sq, by simp, fun mx h1 h2 => ?_⟩
          have e9 : mx = is.foldl max i := by
            have q1 := foldl_max_le is i
            have q2 := foldl_max_mem is i
            have a1 : mx ≤ is.foldl max i := by
              rcases List.mem_cons.mp h1 with rfl | h1
              · exact q1.1
              · exact q1.2 _ h1
            have a2 : is.foldl max i ≤ mx := by
              rcases q2 with q2 | q2
              · rw [q2]; exact h2 _ List.mem_cons_self
              · exact h2 _ (List.mem_cons_of_mem _ q2)
            omega
          subst e9
          exact k _ H m sm.refl sm rfl
  · exact .inr ⟨m, S, _, d, S', sm, r, e, k⟩
theorem jb_min2 (hc : X.calm = true) : CallR X (.builtin "min") (BR X.K G minD2) := CallR.imp (CallR.or (cr_min hc) (jb_min (G := G) hc)) fun vs H Q ⟨m, S, ds, d, S', sm, r, e, k⟩ => by
  unfold minD2 at e
  split at e
  · rename_i d0
    obtain ⟨v, rfl, q⟩ := svs1 r
    cases z : lstOf S d0 with
    | none => rw [z] at e; cases e
    | some xs =>
      rw [z] at e
      cases z2 : intsOf xs with
      | none => rw [show (some xs).bind intsOf = none from z2] at e; cases e
      | some ns =>
        rw [show (some xs).bind intsOf = some ns from z2] at e
        cases ns with
        | nil => cases e
        | cons i is =>
          cases e
          obtain ⟨p, vs, rfl, sv, sq⟩ := lstOf_ok sm z q
          rw [intsOf_ok z2 sv] at sq
          refine .inl ⟨p, i :: is, rfl, sq, by simp, fun mx h1 h2 => ?_⟩
          have e9 : mx = is.foldl min i := by
            have q1 := foldl_min_le is i
            have q2 := foldl_min_mem is i
            have a1 : is.foldl min i ≤ mx := by
              rcases List.mem_cons.mp h1 with rfl | h1
              · exact q1.1
              · exact q1.2 _ h1
            have a2 : mx ≤ is.foldl min i := by
              rcases q2 with q2 | q2
              · rw [q2]; exact h2 _ List.mem_cons_self
              · exact h2 _ (List.mem_cons_of_mem _ q2)
            omega
          subst e9
          exact k _ H m sm.refl sm rfl
  · exact .inr ⟨m, S, _, d, S', sm, r, e, k⟩
theorem jop_mul2 : JOp X G (binaryOp .Mult) mulD2 := by
  refine OpR.imp (OpR.or op_rep (jop_mul (G := G))) fun x y H Q ⟨m, S, a, b, d, S', sm, ra, rb, e, k⟩ => ?_
  unfold mulD2 at e
  split at e
  · rename_i n kk
    split at e
    · rename_i xs z
      split at e
      · rename_i hz
        cases e
        obtain ⟨a, rfl, hm⟩ := ra
        obtain ⟨a', vs, h1, h2, h3⟩ := lstAt_ok sm z
        rw [hm] at h1; cases h1
        cases rb
        refine .inl ⟨a, kk, vs, rfl, rfl, h2, by omega, by omega, ?_, fun p hp => ?_⟩
        · rw [← h3.len]
          have : xs.length * kk.toNat ≤ 1000 * 1000 := Nat.mul_le_mul hz.2.2 (by omega)
          exact size6 this
        · exact k _ _ (m ++ [p]) (Step.new sm hp) (sim_lst (rep_svs h3 kk.toNat) sm hp) (sv_new sm)
      · cases e
    · cases e
  · exact .inr ⟨m, S, _, _, d, S', sm, ra, rb, e, k⟩
/-- a name of the top whose value is data -/
theorem je_glob {x : Str} {u : Value} {d : D} (hm : X.mg x = some u) (hd : ∀ m H, ∃ v, RelV v u ∧ SV X.K m H d v) (hg : Gl X x := by rfl) (hdb : (x == ("__debug__" : Str)) = false := by decide) : JE X G W (.Name x pos) (dC d) := by
  obtain ⟨v0, r0, _⟩ := hd [] (fun _ => none)
  refine PE.imp (pe_glob hg hm r0 hdb) fun σ H Q ⟨m, ρ, S, sr, sm, eo⟩ => ?_
  obtain ⟨v, r, q⟩ := hd m H
  have : v = v0 := RelV.inj r r0
  subst this
  exact eo _ H m sm.refl sm q
end
end DL
set_option Elab.async false
set_option linter.all false
set_option maxRecDepth 100000
set_option maxHeartbeats 2000000
/-! DM5: the least of a list of data; reversed; index. -/
namespace DL
open PySem PySem.Spec PyProof.Rows L2 RT
mutual
def D.ofP : PyData → D
  | .none => .non
  | .bool b => .bl b
  | .int i => .int i
  | .str x => .str x
  | .tuple xs => .tup (D.ofPs xs)
  | .list xs => .fl (D.ofPs xs)
  | .dict _ => .non
def D.ofPs : List PyData → List D
  | [] => []
  | p :: ps => D.ofP p :: D.ofPs ps
end
mutual
theorem ofP_toP : ∀ {d : D} {p : PyData}, D.toP d = some p → D.ofP p = d
  | .non, p, e => by cases e; rfl
  | .bl b, p, e => by cases e; rfl
  | .int b, p, e => by cases e; rfl
  | .str b, p, e => by cases e; rfl
  | .tup xs, p, e => by
    have e : (D.toPs xs).map PyData.tuple = some p := e
    cases z : D.toPs xs with
    | none => rw [z] at e; cases e
    | some ps => rw [z] at e; cases e; simp only [D.ofP]; rw [ofPs_toPs z]
  | .fl xs, p, e => by
    have e : (D.toPs xs).map PyData.list = some p := e
    cases z : D.toPs xs with
    | none => rw [z] at e; cases e
    | some ps => rw [z] at e; cases e; simp only [D.ofP]; rw [ofPs_toPs z]
  | .obj n, p, e => by cases e
theorem ofPs_toPs : ∀ {ds : List D} {ps : List PyData}, D.toPs ds = some ps → D.ofPs ps = ds
  | [], ps, e => by cases e; rfl
  | d :: ds, ps, e => by
    have e : (match D.toP d, D.toPs ds with
      | some p, some ps => some (p :: ps)
      | _, _ => none) = some ps := e
    cases z1 : D.toP d with
    | none => rw [z1] at e; cases e
    | some p =>
      cases z2 : D.toPs ds with
      | none => rw [z1, z2] at e; cases e
      | some q => rw [z1, z2] at e; cases e; simp only [D.ofPs]; rw [ofP_toP z1, ofPs_toPs z2]
end
theorem toPs_at : ∀ {ds : List D} {ps : List PyData} {i : Nat} {d : D}, D.toPs ds = some ps → ds[i]? = some d → ∃ p, ps[i]? = some p ∧ D.toP d = some p
  | [], ps, i, d, e, h => by simp at h
  | d' :: ds, ps, i, d, e, h => by
    have e : (match D.toP d', D.toPs ds with
      | some p, some ps => some (p :: ps)
      | _, _ => none) = some ps := e
    cases z1 : D.toP d' with
    | none => rw [z1] at e; cases e
    | some p =>
      cases z2 : D.toPs ds with
      | none => rw [z1, z2] at e; cases e
      | some q =>
        rw [z1, z2] at e
        cases e
        cases i with
        | zero => simp at h; subst h; exact ⟨p, by simp, z1⟩
        | succ i =>
          obtain ⟨p', h1, h2⟩ := toPs_at z2 (i := i) (by simpa using h)
          exact ⟨p', by simpa using h1, h2⟩
/-- the least of alike data -/
def likeB (ps : List PyData) : Bool := (ps.all fun x => ps.all fun y => PySem.W.alike x y) && ps.all fun x => match x with
  | .none => false
  | _ => true
def minP : DB := fun ds S => match ds with
  | [d] => (match (lstOf S d).bind D.toPs with
    | some (p :: ps) => if likeB (p :: ps) = true ∧ PyData.depthAll (p :: ps) ≤ 60 then some (D.ofP (PySem.W.minD p ps), S) else none
    | _ => none)
  | _ => none
def minD3 : DB := fun ds S => match minD2 ds S with
  | some r => some r
  | none => minP ds S
theorem likeB_ok {ps : List PyData} (h : likeB ps = true) : PySem.W.AlikeAll ps := by
  unfold likeB at h
  rw [Bool.and_eq_true] at h
  refine ⟨fun x hx y hy => List.all_eq_true.mp (List.all_eq_true.mp h.1 x hx) y hy, fun x hx z => ?_⟩
  have := List.all_eq_true.mp h.2 x hx
  rw [z] at this
  cases this
section
variable {X : Cx} {G : Gx} {W : WX} {e o tg : Expr} {fe fo : DE} {p pos apos cpos : Pos}
theorem jb_minP (hc : X.calm = true) (hu : X.A.units + 64 < cLine) : CallR X (.builtin "min") (BR X.K G minP) := by
  intro pins s σ H vs us Q I r ⟨m, S, ds, d, S', sm, rs, e, k⟩
  unfold minP at e
  split at e
  · rename_i d0
    obtain ⟨v, rfl, q⟩ := svs1 rs
    cases z : lstOf S d0 with
    | none => rw [z] at e; cases e
    | some xs =>
      rw [z] at e
      split at e
      · rename_i p0 ps z2
        split at e
        · rename_i hz
          cases e
          obtain ⟨a, ws, rfl, sv, sq⟩ := lstOf_ok sm z q
          obtain ⟨its, rv, hl, _⟩ := I.list sq
          have z3 : D.toPs xs = some (p0 :: ps) := z2
          obtain ⟨as, hr⟩ := Dp.readsAll I (p0 :: ps) ws its (toPs_ok z3 sv) rv
          rw [Vals.ref1 r]
          refine PySem.W.min_list_data (I.ok.hd hc) hl.isList (by simpa using hr) (likeB_ok hz.1) (by have := hz.2; omega) fun i v' h' tk bs hi hrd hk => ?_
          have hi' : its[i]? = some v' := by simpa using hi
          have hlt : i < its.length := (List.getElem?_eq_some_iff.mp hi').1
          have hlw : i < ws.length := by rw [rv.length]; exact hlt
          have hlx : i < xs.length := by rw [sv.len]; exact hlw
          obtain ⟨u, h1, h2⟩ := sv.get (i := i) (d := xs[i]) (by simp [hlx])
          obtain ⟨u', h3, h4⟩ := rv.get h1
          rw [hi'] at h3
          cases h3
          obtain ⟨p', h5, h6⟩ := toPs_at z3 (i := i) (d := xs[i]) (by simp [hlx])
          obtain ⟨bs', hr'⟩ := Dp.reads I p' u v' (toP_ok h6 h2) h4
          have eq := (reads_det (fun b o e _ => hk b o e) hr' hrd).1
          rw [eq] at k
          rw [ofP_toP h6] at k
          exact ⟨u, H, I.kept hk, h4, k u H m sm.refl sm h2⟩
        · cases e
      · cases e
  · cases e
theorem jb_min3 (hc : X.calm = true) (hu : X.A.units + 64 < cLine) : CallR X (.builtin "min") (BR X.K G minD3) := CallR.imp (CallR.or (jb_min2 (G := G) hc) (jb_minP (G := G) hc hu)) fun vs H Q ⟨m, S, ds, d, S', sm, r, e, k⟩ => by
  unfold minD3 at e
  split at e
  · rename_i rr z
    cases e
    exact .inl ⟨m, S, ds, d, S', sm, r, z, k⟩
  · exact .inr ⟨m, S, ds, d, S', sm, r, e, k⟩
/-! ### reversed -/
theorem ji_revS (hm : X.mg "reversed" = none) (he : JE X G W e fe) (hg : Gl X "reversed" := by rfl) (hs : starEach [e] X.env = (false, eval e X.env) :: starEach [] X.env := by rfl) : JI X G W tg (.Call (.Name "reversed" p) [e] [] pos) (diRevS fe) :=
  PI.imp (pi_revA hg hm he hs) fun σ H R ⟨m, ρ, S, sr, sm, eo⟩ => ⟨m, ρ, S, sr, sm, EO.then (rel := SV X.K) eo fun d S1 v H1 m1 st1 sm1 r1 eo1 => by
    cases d with
    | tup xs =>
      obtain ⟨a, vs, rfl, q, r⟩ := r1
      refine ⟨a, vs, rfl, .inr ⟨q, eo1 _ H1 m1 sm1.refl sm1 ?_⟩⟩
      show Walk (ItvT X.K a vs.length) xs.reverse.length _ _
      rw [List.length_reverse, r.len]
      refine ⟨fun i H' hi ⟨m', S', st, sm', hg⟩ => ⟨hi, vs, vs[vs.length - 1 - i]'(by omega), sqT_step sm1 st q, by simp [show vs.length - 1 - i < vs.length by omega]⟩, fun H' _ => Nat.le_refl _, fun i H' x H'' hi _ hy m' S' st sm' hg' => ?_⟩
      obtain ⟨e', hx⟩ := hy
      subst e'
      have hx := hx vs (sqT_step sm1 st q)
      have hlt : xs.length - 1 - i < xs.length := by rw [r.len]; omega
      obtain ⟨u, h4, h5⟩ := r.get (i := xs.length - 1 - i) (d := xs[xs.length - 1 - i]) (by simp [hlt])
      rw [r.len, hx] at h4; cases h4
      refine ⟨xs[xs.length - 1 - i], ?_, sm'.refl, sm', h5.mono sm1 st⟩
      rw [List.getElem?_reverse (by rw [r.len]; exact hi)]
      simp [hlt]
    | fl xs =>
      obtain ⟨a, vs, rfl, q, r⟩ := r1
      refine ⟨a, vs, rfl, .inl ⟨q.l, eo1 _ H1 m1 sm1.refl sm1 ?_⟩⟩
      show Walk (Itv X.K a vs.length) xs.reverse.length _ _
      rw [List.length_reverse, r.len]
      refine ⟨fun i H' hi ⟨m', S', st, sm', hg⟩ => ⟨hi, vs, vs[vs.length - 1 - i]'(by omega), (sqF_step sm1 st q).l, by simp [show vs.length - 1 - i < vs.length by omega]⟩, fun H' _ => Nat.le_refl _, fun i H' x H'' hi _ hy m' S' st sm' hg' => ?_⟩
      obtain ⟨e', hx⟩ := hy
      subst e'
      have hx := hx vs (sqF_step sm1 st q).l
      have hlt : xs.length - 1 - i < xs.length := by rw [r.len]; omega
      obtain ⟨u, h4, h5⟩ := r.get (i := xs.length - 1 - i) (d := xs[xs.length - 1 - i]) (by simp [hlt])
      rw [r.len, hx] at h4; cases h4
      refine ⟨xs[xs.length - 1 - i], ?_, sm'.refl, sm', h5.mono sm1 st⟩
      rw [List.getElem?_reverse (by rw [r.len]; exact hi)]
      simp [hlt]
    | obj n =>
      dsimp only at eo1
      cases z : lstAt S1 n with
      | none => rw [z] at eo1; exact eo1.elim
      | some xs =>
        rw [z] at eo1
        obtain ⟨a, rfl, hma⟩ := r1
        obtain ⟨a', vs, h1, h2, r⟩ := lstAt_ok sm1 z
        rw [hma] at h1; cases h1
        refine ⟨a, vs, rfl, .inl ⟨SqL.of h2, eo1 _ H1 m1 sm1.refl sm1 ?_⟩⟩
        have key : ∀ H' m' S', Step m1 H1 m' H' → Sim X.K G m' S' H' → grdL n xs S' = true → ∃ (us : List V), H' a = some (.lst us) ∧ SVs X.K m' H' xs us := by
          intro H' m' S' st sm' hg
          obtain ⟨a', us, h1, h2, h3⟩ := lstAt_ok sm' (grdL_ok hg)
          rw [st.get hma] at h1; cases h1
          exact ⟨us, h2, h3⟩
        show Walk (Itv X.K a vs.length) xs.reverse.length _ _
        rw [List.length_reverse, ← r.len]
        refine ⟨fun i H' hi ⟨m', S', st, sm', hg⟩ => ?_, fun H' _ => Nat.le_refl _, fun i H' x H'' hi _ hy m' S' st sm' hg' => ?_⟩
        · obtain ⟨us, h3, h4⟩ := key H' m' S' st sm' hg
          have hl := h4.len
          exact ⟨hi, us, us[xs.length - 1 - i]'(by omega), SqL.of h3, by simp [show xs.length - 1 - i < us.length by omega]⟩
        · obtain ⟨us, h3, h4⟩ := key H' m' S' st sm' hg'
          obtain ⟨e', hx⟩ := hy
          subst e'
          have hx := hx us (SqL.of h3)
          have hlt : xs.length - 1 - i < xs.length := by omega
          obtain ⟨u, h5, h6⟩ := h4.get (i := xs.length - 1 - i) (d := xs[xs.length - 1 - i]) (by simp [hlt])
          rw [hx] at h5; cases h5
          refine ⟨xs[xs.length - 1 - i], ?_, sm'.refl, sm', h6⟩
          rw [List.getElem?_reverse hi]
          simp [hlt]
    | _ => exact eo1.elim⟩
end
end DL
set_option Elab.async false
set_option linter.all false
set_option maxRecDepth 100000
set_option maxHeartbeats 4000000
/-! DM6: an own exception whose __init__ says super().__init__(text) and keeps what it got. -/
namespace DL
open PySem PySem.Spec PyProof.Rows L2 PySem.W PySem.Calls
/-- the text of such an __init__ -/
def initBody (prm fld : Str) (txt : Str) (j : Nat) (p0 p1 ap p2 p3 p4 p5 p6 p7 p8 : Pos) : List Stmt :=
  [.Expr (.Call (.Attribute (.Call (.Name "super" p0) [] [] p1) "__init__" ap) [.Constant (.str txt) j p2] [] p3) p4, .Assign [.Attribute (.Name "self" p5) fld p6] (.Name prm p7) p8]
section
variable {prog : Program} {w : World} {K : PySem.W.Frag} {A : Around} {s : Shared} {R : Result → Shared → Prop}
theorem init_raw {f C cc cda a t0 : Addr} {u : Value} {prm fld txt : Str} {j : Nat} {p0 p1 ap p2 p3 p4 p5 p6 p7 p8 : Pos} {name qual : Str} {params : Arguments} {scope : Scope} {dV kV doc pm ct oc ccl cl : Value} {an od cdd cld : Option Addr} {osl ccs csl : Array (Option Value)} {ar : Arg} {vs : Array Value} {file : Str} {tf : Tok} {mg mb : Str → Option Value}
    (X : K.In s.heap) (lim : s.heap.NoLimit) (hroom : A.depth < recursionLimit)
    (hlk : K.lookup f = some ⟨oc, od, .func (ksFn name qual params (initBody prm fld txt j p0 p1 ap p2 p3 p4 p5 p6 p7 p8) scope dV kV doc pm an (.ref cda) ct cc), osl⟩) (hcd : codeIn K (.ref cda) qual = true)
    (hbind : BindsTo s (ksFn name qual params (initBody prm fld txt j p0 p1 ap p2 p3 p4 p5 p6 p7 p8) scope dV kV doc pm an (.ref cda) ct cc) ⟨[.ref a, u], []⟩ [(("self" : Str), .ref a), (prm, u)])
    (hne : (prm == ("self" : Str)) = false) (hcell : ∀ x ∈ scope.names, x.2 ≠ .cell) (hself : scope.names.lookup ("self" : Str) = some .local) (hprm : scope.names.lookup prm = some .local)
    (hco : scope.isCoroutine = false) (hgen : scope.isGenerator = false) (hk : scope.kind = .function) (hks : scope.names.lookup ("super" : Str) = some .globalImplicit) (hkc : scope.names.lookup ("__class__" : Str) = some .free)
    (hp : (params.posonlyargs ++ params.args).head? = some ar) (har : ar.arg = ("self" : Str)) (hcode : K.lookup cda = some ⟨ccl, cdd, .fields vs, ccs⟩) (hvs : vs[2]? = some (.str file tf)) (hfile : ((prog.main.file : Str) == file) = true)
    (htop : (prog.main.scope.names.lookup ("super" : Str)).isSome = false) (hG : s.heap.Ns mainGlobals mg) (hmg : mg ("super" : Str) = none) (hB : s.heap.Ns builtinsNs mb) (hmb : mb ("super" : Str) = some (.type "super"))
    (hcc : K.lookup cc = some ⟨cl, cld, .cell (some (.ref C)), csl⟩) (T : OexC K C) (hsub : mroIn K C (.ref C) = some true) (hop : nsIn K cStatics "thirdparty.any" = some none) (hsup : ks_superIn K C C "__init__" = some (some (.builtin "ValueError.__init__")))
    (hVE : subIn K (.ref C) (.type "ValueError") = some true) (hfld : findIn K (.ref C) fld = some none)
    (he : s.heap.get? a = some ({ cls := .ref C, dict := none, data := .fields #[.ref t0, .none, .none, .none, .bool false, .none] } : Obj))
    (hKa : K.lookup a = none) (hdp : (prm == ("__debug__" : Str)) = false) {pl : Env → Sem Bool}
    (hev : ∀ env : Env, eval (.Call (.Attribute (.Call (.Name "super" p0) [] [] p1) "__init__" ap) [.Constant (.str txt) j p2] [] p3) env = (do
      let ov ← attributeBase (.Call (.Name "super" p0) [] [] p1) "__init__" env (eval (.Call (.Name "super" p0) [] [] p1) env)
      standAt ap.atName
      let (f, first) ← holding [ov] (getMethod ov "__init__" (pl env))
      callWith p3 f first (backTo p3 (starEach [.Constant (.str txt) j p2] env)) []))
    (hsw1 : ∀ env : Env, swapsWith (.Call (.Attribute (.Call (.Name "super" p0) [] [] p1) "__init__" ap) [.Constant (.str txt) j p2] [] p3) none p4.line env = pure false)
    (hsw2 : ∀ env : Env, swapsWith (.Name prm p7) (some (.Attribute (.Name "self" p5) fld p6)) p8.line env = pure false)
    (hR : ∀ h' tk dx t1, (∀ b o, b ≠ a → s.heap.get? b = some o → h'.get? b = some o) → s.heap.objs.size ≤ dx → dx ≠ a → h'.get? a = some ({ cls := .ref C, dict := some dx, data := .fields #[.ref t1, .none, .none, .none, .bool false, .none] } : Obj) →
      (∃ mA, h'.Ns1 dx mA ∧ ∀ y, mA y = if y = fld then some u else none) → R (.ok (.ret .none)) { s with heap := h', toks := tk }) :
    codeAny (model prog w) A (.call (.ref f) ⟨[.ref a, u], []⟩) R s := by
  have hbd := hbind
  refine ks_codeAny_call_defAt (fd := ksFn name qual params (initBody prm fld txt j p0 p1 ap p2 p3 p4 p5 p6 p7 p8) scope dV kV doc pm an (.ref cda) ct cc) (body := initBody prm fld txt j p0 p1 ap p2 p3 p4 p5 p6 p7 p8) (binds := [(("self" : Str), .ref a), (prm, u)]) hroom (X _ _ hlk) rfl lim (codeRec_of X hcd) rfl hbind hcell ?hloc (fun h1 hns1 hk1 => ?_) hco hgen hk
  case hloc =>
    intro x hx
    rcases List.mem_cons.mp hx with rfl | hx
    · exact hself
    · rw [List.mem_singleton.mp hx]; exact hprm
  have X1 : K.In h1 := X.keeps hk1
  have he1 : h1.get? a = some ({ cls := .ref C, dict := none, data := .fields #[.ref t0, .none, .none, .none, .bool false, .none] } : Obj) := hk1 _ _ he
  obtain ⟨nm, q, Nn, bs, bm, sn, sub, ab, col, dd, k0, k1, k2, k3, k5, hC, hbm⟩ := T.cls
  have hcl : clsIn K C = some { name := nm, bases := bs, mro := .ref C :: bm, ns := Nn, qualname := q, hasDict := true, slotNames := sn, subclasses := sub, abstract := ab, collection := col, hasDel := false } := by unfold clsIn; rw [hC] <;> rfl
  have hD1 := X1 _ _ hC
  have vs1 : (fun x => ([(("self" : Str), Value.ref a), (prm, u)]).reverse.lookup x) ("self" : Str) = some (.ref a) := by
    show List.lookup ("self" : Str) [(prm, u), (("self" : Str), Value.ref a)] = _
    rw [List.lookup_cons]
    have : (("self" : Str) == prm) = false := by
      have := hne
      rw [Bool.eq_false_iff] at this ⊢
      intro z
      exact this (by rw [beq_iff_eq] at z ⊢; exact z.symm)
    rw [this]
    rfl
  have vs2 : (fun x => ([(("self" : Str), Value.ref a), (prm, u)]).reverse.lookup x) prm = some u := by
    show List.lookup prm [(prm, u), (("self" : Str), Value.ref a)] = _
    rw [List.lookup_cons, beq_self_eq_true]
  have haC : a ≠ C := fun z => by
    rw [z, hD1] at he1
    cases he1
  refine ks_wpAt_execs_cons (ks_wpAt_Expr_any (ks_wpAt_MethodCall ?_ (hev _)) ?hia (hsw1 _))
  case hia =>
    have ek : (callEnv (ksFn name qual params (initBody prm fld txt j p0 p1 ap p2 p3 p4 p5 p6 p7 p8) scope dV kV doc pm an (.ref cda) ct cc) s.heap.objs.size f).scope.kind = .function := hk
    unfold interactive
    rw [ek]
    rfl
  refine ks_wpAt_super_base (env := callEnv (ksFn name qual params (initBody prm fld txt j p0 p1 ap p2 p3 p4 p5 p6 p7 p8) scope dV kV doc pm an (.ref cda) ct cc) s.heap.objs.size f) hks hkc rfl rfl (X1 _ _ hlk) rfl hp rfl (X1 _ _ hcode) rfl hvs hfile htop ?_
  refine ks_loadName_global hk hks (loadGlobal_builtin (hG.keeps hk1) hmg (hB.keeps hk1) hmb ⟨rfl, ?_⟩)
  refine wpAny_loadName_free hk hkc rfl ⟨_, X1 _ _ hcc, rfl⟩ ?_
  rw [har]
  refine wpAny_loadName_local hk hself hns1 vs1 ?_
  refine ks_wpAny_isType_cls hD1 rfl ⟨rfl, ?_⟩
  refine ks_wpAny_call_super hD1 rfl he1 rfl (fun c e => by cases e) (looks_mroIn X1 hsub) (fun h2 e2 k2 => ?_)
  have X2 : K.In h2 := X1.keeps k2
  have he2 := k2 _ _ he1
  have Ia : InstAt h2 a ({ cls := .ref C, dict := none, data := .fields #[.ref t0, .none, .none, .none, .bool false, .none] } : Obj) C none := ⟨he2, rfl, rfl, trivial⟩
  refine kxs_getMethod kxs_ValueError e2 (looks_opaque X2 hop) (l₀ := .ref C :: bm) (fun A Q E s k q => wpAny_bind ((looks_clsIn X2 hcl) A _ E s k (wpAny_pure q))) rfl X2 ?hf (Ia.type.andThen (looks_subIn X2 hVE)) haC rfl ?_
  case hf =>
    unfold ks_superIn at hsup
    rw [hcl] at hsup
    exact hsup
  -- the bound __init__ at h2's end
  have hu3 : (h2.push (kxs_mw "ValueError.__init__" a)).get? h2.objs.size = some (kxs_mw "ValueError.__init__" a) := Heap.get?_push_at rfl rfl
  have k3' : ∀ b o, h2.get? b = some o → (h2.push (kxs_mw "ValueError.__init__" a)).get? b = some o := fun b o e => Heap.get?_push_of_some _ e
  refine kxs_callWith (i := "ValueError.__init__") (x := a) rfl (evalArgs_plain ?_)
  refine Calls.spliced_cons (@Calls.Constant_str _ _ _ _ _ txt j p2 _ (Calls.spliced_nil ⟨hu3, ?_⟩))
  refine wpAny_call (codeAny_of_tree ?_)
  show wpAny _ _ (callAny (.ref h2.objs.size) ⟨_, []⟩) _ _ _
  simp only [callAny]
  refine wpAny_bind (wpAny_load hu3 ?_)
  simp only [kxs_mw, show (Value.type "method-wrapper" == Value.type "method" || Value.type "method-wrapper" == Value.type "builtin_function_or_method" || Value.type "method-wrapper" == Value.type "method-wrapper") = true by decide, if_true]
  refine KFB.if_so (by decide) ?_
  refine wpAny_bind (check_bound_init F.excBase_ValueError.toExcCallFacts (k3' _ _ (X2 _ _ hC)) (k3' _ _ he2) rfl ?_)
  refine wpAny_bind (wpAny_pure (wpAny_pure ?_))
  refine ⟨plainId_quiet F.excBase_ValueError.init.plain _, codeAny_builtin F.excBase_ValueError.initEntry ?_⟩
  refine exc_init_tree (cls := .ref C) (t0 := t0) (dv := none) (c2 := .none) (c3 := .none) (b4 := .bool false) (k3' _ _ he2) (by simp [sizeLine_eq]) fun h4 k4 e4 _ => ?_
  have halt : a < s.heap.objs.size := Heap.lt_size he
  have kk : ∀ b o, b ≠ a → h1.get? b = some o → h4.get? b = some o := fun b o hb e => k4 b o hb (k3' _ _ (k2 _ _ e))
  have X4 : K.In h4 := fun b o e => kk b o (fun z => by rw [z, hKa] at e; cases e) (X1 b o e)
  have hns4 : h4.Ns s.heap.objs.size (fun x => ([(("self" : Str), Value.ref a), (prm, u)]).reverse.lookup x) := by
    obtain ⟨oL, es, ep, hoL, r⟩ := hns1
    exact ⟨oL, es, ep, kk _ _ (Nat.ne_of_gt halt) hoL, r⟩
  refine ks_wpAt_execs_cons (ks_wpAt_Assign_Attr (wpAt_of_wpAny (wpAny_Name (wpAny_loadName_local hk hprm hns4 vs2 ?_) hdp)) (hsw2 _))
  refine wpAny_Name (wpAny_loadName_local hk hself hns4 vs1 ?_) rfl
  refine PySem.W.set_plain X4 (ox := { cls := .ref C, dict := none, data := .fields #[.ref _, .none, .none, .none, .bool false, .none] }) (od := none) ⟨e4, rfl, rfl, trivial⟩ T.sa ?_
  refine PySem.HandSPX.exc_osa X4 e4 hcl (show PySem.HandSPX.refsVE (.ref C :: bm) = true from hbm) rfl hfld (fun h' tk' dx k dn dne hx hn => ?_)
  show PySem.wpAt _ _ _ (execs [] _) _ _ _
  rw [execs_nil]
  refine wpAt_of_wpAny (wpAny_pure ?_)
  have sz4 : s.heap.objs.size ≤ h4.objs.size := by
    obtain ⟨oL, es, ep, hoL, r⟩ := hns4
    exact Nat.le_of_lt (Heap.lt_size hoL)
  exact hR h' tk' dx _ (fun b o hb e => k b o hb (kk b o hb (hk1 b o e))) (Nat.le_trans sz4 dn) dne hx ⟨_, hn, fun y => rfl⟩
end
end DL
set_option Elab.async false
set_option linter.all false
set_option maxRecDepth 100000
set_option maxHeartbeats 4000000
/-! DM7: raise of such an exception. -/
namespace DL
open PySem PySem.Spec PyProof.Rows L2 PySem.W PySem.Calls
/-- what the written part says of a class whose __init__ is of that text -/
structure SupC (K : PySem.W.Frag) (prog : Program) (C : Addr) (fld : Str) : Prop where
  T : OexC K C
  ex : ∃ (f cc cda : Addr) (prm txt : Str) (j : Nat) (p0 p1 ap p2 p3 p4 p5 p6 p7 p8 : Pos) (name qual : Str) (params : Arguments) (scope : Scope) (dV kV doc pm ct oc ccl cl : Value) (an od cdd cld : Option Addr) (osl ccs csl : Array (Option Value)) (ar : Arg) (vs : Array Value) (file : Str) (tf : Tok) (pl : Env → Sem Bool),
    findIn K (.ref C) "__init__" = some (some (.ref f)) ∧ typeIn K (.ref f) = some (.type "function") ∧
    K.lookup f = some ⟨oc, od, .func (ksFn name qual params (initBody prm fld txt j p0 p1 ap p2 p3 p4 p5 p6 p7 p8) scope dV kV doc pm an (.ref cda) ct cc), osl⟩ ∧ codeIn K (.ref cda) qual = true ∧
    (∀ u v : Value, bindArgs (ksFn name qual params (initBody prm fld txt j p0 p1 ap p2 p3 p4 p5 p6 p7 p8) scope dV kV doc pm an (.ref cda) ct cc) ⟨[u, v], []⟩ = pure [(("self" : Str), u), (prm, v)]) ∧
    (prm == ("self" : Str)) = false ∧ (∀ x ∈ scope.names, x.2 ≠ .cell) ∧ scope.names.lookup ("self" : Str) = some .local ∧ scope.names.lookup prm = some .local ∧
    scope.isCoroutine = false ∧ scope.isGenerator = false ∧ scope.kind = .function ∧ scope.names.lookup ("super" : Str) = some .globalImplicit ∧ scope.names.lookup ("__class__" : Str) = some .free ∧
    (params.posonlyargs ++ params.args).head? = some ar ∧ ar.arg = ("self" : Str) ∧ K.lookup cda = some ⟨ccl, cdd, .fields vs, ccs⟩ ∧ vs[2]? = some (.str file tf) ∧ ((prog.main.file : Str) == file) = true ∧
    (prog.main.scope.names.lookup ("super" : Str)).isSome = false ∧ K.lookup cc = some ⟨cl, cld, .cell (some (.ref C)), csl⟩ ∧ mroIn K C (.ref C) = some true ∧ nsIn K cStatics "thirdparty.any" = some none ∧
    ks_superIn K C C "__init__" = some (some (.builtin "ValueError.__init__")) ∧ subIn K (.ref C) (.type "ValueError") = some true ∧ findIn K (.ref C) fld = some none ∧ (prm == ("__debug__" : Str)) = false ∧
    (∀ env : Env, eval (.Call (.Attribute (.Call (.Name "super" p0) [] [] p1) "__init__" ap) [.Constant (.str txt) j p2] [] p3) env = (do
      let ov ← attributeBase (.Call (.Name "super" p0) [] [] p1) "__init__" env (eval (.Call (.Name "super" p0) [] [] p1) env)
      standAt ap.atName
      let (f, first) ← holding [ov] (getMethod ov "__init__" (pl env))
      callWith p3 f first (backTo p3 (starEach [.Constant (.str txt) j p2] env)) [])) ∧
    (∀ env : Env, swapsWith (.Call (.Attribute (.Call (.Name "super" p0) [] [] p1) "__init__" ap) [.Constant (.str txt) j p2] [] p3) none p4.line env = pure false) ∧
    (∀ env : Env, swapsWith (.Name prm p7) (some (.Attribute (.Name "self" p5) fld p6)) p8.line env = pure false)
theorem boot_super : bootBuiltins "super" = some (.type "super") := by decide +kernel
def tMkS (C : Addr) (fld : Str) (ta : TA) : L2.St → Hp → XK → Prop := fun σ H Q => ta σ H fun vs H1 => ∃ v, vs = [v] ∧ ∀ dx, H1 dx = none → Q (.ref C) (some dx) (upd H1 dx (.xd [(fld, v)]))
theorem pmk_sup {X : Cx} {x fld : Str} {C : Addr} {k : Nat} {e : Expr} {ta : TA} {p pos : Pos} (SC : SupC X.K X.prog C fld) (hr : Room (k + 1) X.A) (hg : Gl X x) (hm : X.mg x = some (.ref C)) (hms : X.mg "super" = none) (ha : PA X [e] ta)
    (hdb : (x == ("__debug__" : Str)) = false := by decide) (he : starEach [e] X.env = (false, eval e X.env) :: starEach [] X.env := by rfl) (hpl : (backTo pos (starEach [] X.env)).any (·.1) = false := by rfl) :
    PMk X (.Call (.Name x p) [e] [] pos) (tMkS C fld ta) := by
  intro pins s σ H Q I h
  have T := SC.T
  obtain ⟨fI, cc, cda, prm, txt, j, p0, p1, ap, p2, p3, p4, p5, p6, p7, p8, name, qual, params, scope, dV, kV, doc, pm, ct, oc, ccl, cl, an, od, cdd, cld, osl, ccs, csl, ar, vsC, file, tf, pl, iC, tI, hlk, hcd, hbind, hne, hcell, hself, hprm, hco, hgen, hk, hks, hkc, hp, har, hcode, hvs, hfile, htop, hcc, hsub, hop, hsup, hVE, hfld, hdp, hev, hsw1, hsw2⟩ := SC.ex
  obtain ⟨nm, q, N, bs, bm, sn, sub, ab, col, dd, k0, k1, k2, k3, k5, hC, hbm⟩ := T.cls
  refine wpAny_Call_Name_kw (ld_glob I hg hm ?_ hdb)
  refine PySem.W.callWith_K (h₀ := X.base) I.ok.mod.kin T.kC (thn (ha.run pos pins s σ H _ I h) fun us s1 ⟨vs, H1, I1, r1, q1⟩ => ⟨I1.kIn, ?_⟩) he hpl
  show wpAny _ _ (call (.ref C) us) _ _ _
  obtain ⟨v, rfl, q1⟩ := q1
  obtain ⟨u, ru, eu⟩ : ∃ u, RelV v u ∧ us = [u] := by
    cases r1 with
    | cons ru r2 => cases r2; exact ⟨_, ru, rfl⟩
  subst eu
  obtain ⟨hp1, g, dr, tk, os⟩ := s1
  have hsz : hp1.objs.size ≤ hp1.objs.size + 1 := Nat.le_succ _
  have hn : H1 (hp1.objs.size + 1) = none := I1.hok.fresh hsz
  have kk : ∀ b o, hp1.get? b = some o → ((hp1.push (PySem.W.kdv_tup [u])).push (PySem.HandSPX.excO C hp1.objs.size)).get? b = some o := fun b o e => Heap.get?_push_of_some _ (Heap.get?_push_of_some _ e)
  have hget : ((hp1.push (PySem.W.kdv_tup [u])).push (PySem.HandSPX.excO C hp1.objs.size)).get? (hp1.objs.size + 1) = some (PySem.HandSPX.excO C hp1.objs.size) := by heap_get
  have I2 : Inv X pins σ (upd H1 (hp1.objs.size + 1) (exo (hp1.objs.size + 1) C none)) ⟨(hp1.push (PySem.W.kdv_tup [u])).push (PySem.HandSPX.excO C hp1.objs.size), g, dr, tk, os⟩ :=
    I1.laid (t' := tk) (a := hp1.objs.size + 1) (o := exo (hp1.objs.size + 1) C none) (h' := (hp1.push (PySem.W.kdv_tup [u])).push (PySem.HandSPX.excO C hp1.objs.size)) kk hsz (exo_ok hget)
  obtain ⟨mb, hb1, hb2⟩ := I1.mod.blt
  have hKa : X.K.lookup (hp1.objs.size + 1) = none := by
    cases z : X.K.lookup (hp1.objs.size + 1) with
    | none => rfl
    | some o => exact absurd (Heap.lt_size (I1.kIn _ _ z)) (by show ¬ hp1.objs.size + 1 < hp1.objs.size; omega)
  refine wpAny_call (PySem.HandSPX.call_own F.excBase_ValueError (fun Y => PySem.HandSPX.refsVE_contains Y bm hbm) (I1.kIn _ _ hC) (PySem.W.looks_findIn I1.kIn iC) (fun self => PySem.W.bind_fn I1.kIn self tI) (by simp [sizeLine_eq]) ?_)
  refine init_raw (mg := X.mg) (mb := mb) I2.kIn I2.nolimit (hr.make C [u] []).depth hlk hcd (BindsTo.of_eq (hbind _ _)) hne hcell hself hprm hco hgen hk hks hkc hp har hcode hvs hfile htop ((I2.mod.glob.keeps I2.bk)) hms (hb1.keeps I2.bk) ((hb2 _ (by decide)).trans boot_super) hcc T hsub hop hsup hVE hfld hget hKa hdp hev hsw1 hsw2 ?_
  intro h' tk' dx t1 kp hdx hda hx hnA
  obtain ⟨mA, hn1, hmA⟩ := hnA
  have hdx' : hp1.objs.size ≤ dx := by
    have e1 : ((hp1.push (PySem.W.kdv_tup [u])).push (PySem.HandSPX.excO C hp1.objs.size)).objs.size = hp1.objs.size + 1 + 1 := by rw [Heap.size_push, Heap.size_push]
    have : ((hp1.push (PySem.W.kdv_tup [u])).push (PySem.HandSPX.excO C hp1.objs.size)).objs.size ≤ dx := hdx
    exact Nat.le_trans (by omega) this
  have hd1 : H1 dx = none := I1.hok.fresh hdx'
  have hd2 : upd H1 (hp1.objs.size + 1) (exo (hp1.objs.size + 1) C none) dx = none := I2.hok.fresh hdx
  have ea0 : upd H1 (hp1.objs.size + 1) (exo (hp1.objs.size + 1) C none) (hp1.objs.size + 1) = some (exo (hp1.objs.size + 1) C none) := upd_same
  generalize hA : hp1.objs.size + 1 = aa at *
  generalize hH : upd H1 aa (exo aa C none) = Ha at *
  generalize hh2 : (hp1.push (PySem.W.kdv_tup [u])).push (PySem.HandSPX.excO C hp1.objs.size) = h2 at *
  have na : ∀ {b : Addr}, Ha b = none → b ≠ aa := fun {b} n z => by
    rw [z, ea0] at n
    cases n
  have nd : ∀ {b : Addr} {o : Obj}, h2.get? b = some o → b ≠ dx := fun {b o} e => Nat.ne_of_lt (Nat.lt_of_lt_of_le (Heap.lt_size e) hdx)
  have un2 : Un (frs X.stack) [] Ha (upd (upd Ha dx (exd dx [(fld, v)])) aa (exo aa C (some dx))) h2 h' := {
    keep := fun b o e n _ _ => kp b o (na n) e
    slot := fun b o e n _ _ => ⟨o.slots, kp b o (na n) e⟩
    free := fun b o e n _ => by rw [upd_ne (na n), upd_ne (nd e)]; exact n
    there := fun b o e _ => by
      by_cases hb : b = aa
      · exact ⟨_, by rw [hb]; exact hx⟩
      · exact ⟨o, kp b o hb e⟩
    tups := fun b xs e => by rw [upd_ne (at_ne ea0 e exo_tup), upd_ne (ne_of_none e hd2)]; exact e
    frzs := fun b o z e => by rw [upd_ne (at_ne ea0 e exo_frz), upd_ne (ne_of_none e hd2)]; exact e
    tbls := fun b ps e => ⟨#[], by rw [upd_ne (at_ne ea0 e exo_tbl), upd_ne (ne_of_none e hd2), e]; simp⟩ }
  have hok2 : HOk X.prog X.w (upd (upd Ha dx (exd dx [(fld, v)])) aa (exo aa C (some dx))) h' := by
    intro b o e
    by_cases hb : b = aa
    · rw [hb, upd_same] at e
      cases e
      rw [hb]
      exact exo_ok hx
    · rw [upd_ne hb] at e
      by_cases hd : b = dx
      · rw [hd, upd_same] at e
        cases e
        rw [hd]
        refine exd_ok hn1 fun y => ?_
        rw [hmA y]
        exact relO_put (fs := []) (mA := fun _ => none) ru (fun g => True.intro) y
      · rw [upd_ne hd] at e
        refine (I2.hok b o e).stay (fun c z hc e3 => kp c z ?_ e3) (fun c hc => by rw [upd_ne (at_ne ea0 hc exo_own), upd_ne (ne_of_none hc hd2)]; exact hc) (fun c xs hc => by rw [upd_ne (at_ne ea0 hc exo_tup), upd_ne (ne_of_none hc hd2)]; exact hc)
        rcases hc with hc | hc
        · rw [hc]; exact hb
        · exact at_ne ea0 hc exo_own
  have eaF : upd (upd Ha dx (exd dx [(fld, v)])) aa (exo aa C (some dx)) aa = some (exo aa C (some dx)) := upd_same
  have edF : upd (upd Ha dx (exd dx [(fld, v)])) aa (exo aa C (some dx)) dx = some (exd dx [(fld, v)]) := by rw [upd_ne hda, upd_same]
  subst hH
  refine ⟨rfl, mk_end (raises_own T.exC T.tyC) I1 hsz kk un2 hok2 rfl I1.bare eaF edF hd1 ?_⟩
  have eH : upd (del (upd (upd (upd H1 aa (exo aa C none)) dx (exd dx [(fld, v)])) aa (exo aa C (some dx))) aa) dx (.xd [(fld, v)]) = upd H1 dx (.xd [(fld, v)]) := by
    funext b
    by_cases h1 : b = dx
    · rw [h1, upd_same, upd_same]
    · rw [upd_ne h1, upd_ne h1]
      by_cases h2 : b = aa
      · rw [h2, del_same, hn]
      · rw [del_ne h2, upd_ne h2, upd_ne h1, upd_ne h2]
  rw [eH]
  exact q1 dx hd1
/-- raise C(e) -/
def dRaiseI (c : String) (fe : DE) : DS := fun ρ S => liftS (fe ρ S) ρ fun _ S1 => .exn ⟨c⟩ ρ S1
section
variable {X : Cx} {G : Gx} {W : WX} {e : Expr} {fe : DE} {p pos pos' : Pos}
theorem js_raiseI {x fld : Str} {c : String} {k : Nat} (hc : X.calm = true) (tk : Takes X W) (SC : SupC X.K X.prog (G.cA c) fld) (hr : Room (k + 1) X.A) (hm : X.mg x = some (.ref (G.cA c))) (hms : X.mg "super" = none) (he : JE X G W e fe) (hg : Gl X x := by rfl)
    (hdb : (x == ("__debug__" : Str)) = false := by decide) (hs : starEach [e] X.env = (false, eval e X.env) :: starEach [] X.env := by rfl) (hpl : (backTo pos (starEach [] X.env)).any (·.1) = false := by rfl) :
    JS X G W (.Raise (some (.Call (.Name x p) [e] [] pos)) none pos') (dRaiseI c fe) :=
  PS.imp (ps_raise hc tk (pmk_sup SC hr hg hm hms (ja_cons he ja_nil hs) hdb hs hpl)) fun E σ H ⟨m, ρ, S, sr, sm, q⟩ => ⟨m, ρ, S, sr, sm, by
    unfold daCons daNil
    unfold dRaiseI at q
    cases z : fe ρ S with
    | bad => rw [z] at q; exact q.elim
    | exn x S1 => rw [z] at q; exact fun cls dx H' m' st sm' xo => q cls dx σ H' m' st sm' (sr.mono sm st) xo
    | ok d S1 =>
      rw [z] at q
      simp only [Out.bind_ok] at q ⊢
      intro vs H1 m1 st1 sm1 r1
      obtain ⟨v, rfl, rv⟩ := svs1 r1
      exact ⟨v, rfl, fun dx hdx => q _ _ σ _ m1 (st1.trans (Step.beside sm1 hdx)) (sm1.beside hdx) ((sr.mono sm st1).mono sm1 (Step.beside sm1 hdx)) rfl⟩⟩
end
end DL
set_option Elab.async false
set_option linter.all false
set_option maxRecDepth 100000
set_option maxHeartbeats 4000000
/-! DM8: the written part asked for such a class. -/
namespace DL
open PySem PySem.Spec PyProof.Rows L2 PySem.W PySem.Calls
def exName : Expr → Option (Str × Pos)
  | .Name x p => some (x, p)
  | _ => none
def exCall : Expr → Option (Expr × List Expr × List Keyword × Pos)
  | .Call f as ks p => some (f, as, ks, p)
  | _ => none
def exAttr : Expr → Option (Expr × Str × Pos)
  | .Attribute o n p => some (o, n, p)
  | _ => none
def exStr : Expr → Option (Str × Nat × Pos)
  | .Constant (.str x) j p => some (x, j, p)
  | _ => none
def stExpr : Stmt → Option (Expr × Pos)
  | .Expr e p => some (e, p)
  | _ => none
def stAsg : Stmt → Option (List Expr × Expr × Pos)
  | .Assign ts e p => some (ts, e, p)
  | _ => none
theorem exName_ok {e : Expr} {x : Str} {p : Pos} (h : exName e = some (x, p)) : e = .Name x p := by
  unfold exName at h; split at h
  · cases h; rfl
  · cases h
theorem exCall_ok {e f : Expr} {as : List Expr} {ks : List Keyword} {p : Pos} (h : exCall e = some (f, as, ks, p)) : e = .Call f as ks p := by
  unfold exCall at h; split at h
  · cases h; rfl
  · cases h
theorem exAttr_ok {e o : Expr} {n : Str} {p : Pos} (h : exAttr e = some (o, n, p)) : e = .Attribute o n p := by
  unfold exAttr at h; split at h
  · cases h; rfl
  · cases h
theorem exStr_ok {e : Expr} {x : Str} {j : Nat} {p : Pos} (h : exStr e = some (x, j, p)) : e = .Constant (.str x) j p := by
  unfold exStr at h; split at h
  · cases h; rfl
  · cases h
theorem stExpr_ok {s : Stmt} {e : Expr} {p : Pos} (h : stExpr s = some (e, p)) : s = .Expr e p := by
  unfold stExpr at h; split at h
  · cases h; rfl
  · cases h
theorem stAsg_ok {s : Stmt} {ts : List Expr} {e : Expr} {p : Pos} (h : stAsg s = some (ts, e, p)) : s = .Assign ts e p := by
  unfold stAsg at h; split at h
  · cases h; rfl
  · cases h
/-- the first row: super().__init__(txt) -/
def part1 (s : Stmt) : Option (Str × Nat × Pos × Pos × Pos × Pos × Pos × Pos) :=
  (stExpr s).bind fun (e, p4) => (exCall e).bind fun (f, as, ks, p3) => (exAttr f).bind fun (o, n, ap) => (exCall o).bind fun (f2, as2, ks2, p1) => (exName f2).bind fun (n2, p0) => match as, ks, as2, ks2 with
    | [c], [], [], [] => (exStr c).bind fun (t, j, p2) => if n = ("__init__" : Str) ∧ n2 = ("super" : Str) then some (t, j, p0, p1, ap, p2, p3, p4) else none
    | _, _, _, _ => none
theorem part1_ok {s : Stmt} {t : Str} {j : Nat} {p0 p1 ap p2 p3 p4 : Pos} (h : part1 s = some (t, j, p0, p1, ap, p2, p3, p4)) : s = .Expr (.Call (.Attribute (.Call (.Name "super" p0) [] [] p1) "__init__" ap) [.Constant (.str t) j p2] [] p3) p4 := by
  unfold part1 at h
  obtain ⟨⟨e, q4⟩, h1, h⟩ := Option.bind_eq_some_iff.mp h
  obtain ⟨⟨f, as, ks, q3⟩, h2, h⟩ := Option.bind_eq_some_iff.mp h
  obtain ⟨⟨o, n, aq⟩, h3, h⟩ := Option.bind_eq_some_iff.mp h
  obtain ⟨⟨f2, as2, ks2, q1⟩, h4, h⟩ := Option.bind_eq_some_iff.mp h
  obtain ⟨⟨n2, q0⟩, h5, h⟩ := Option.bind_eq_some_iff.mp h
  dsimp only at h
  split at h
  · obtain ⟨⟨t', j', q2⟩, h6, h⟩ := Option.bind_eq_some_iff.mp h
    dsimp only at h
    split at h
    · rename_i hc
      cases h
      rw [stExpr_ok h1, exCall_ok h2, exAttr_ok h3, exCall_ok h4, exName_ok h5, exStr_ok h6, hc.1, hc.2]
    · cases h
  · cases h
/-- the second: self.fld = prm -/
def part2 (s : Stmt) : Option (Str × Str × Pos × Pos × Pos × Pos) :=
  (stAsg s).bind fun (ts, e, p8) => (exName e).bind fun (prm, p7) => match ts with
    | [t] => (exAttr t).bind fun (o, fld, p6) => (exName o).bind fun (n, p5) => if n = ("self" : Str) then some (prm, fld, p5, p6, p7, p8) else none
    | _ => none
theorem part2_ok {s : Stmt} {prm fld : Str} {p5 p6 p7 p8 : Pos} (h : part2 s = some (prm, fld, p5, p6, p7, p8)) : s = .Assign [.Attribute (.Name "self" p5) fld p6] (.Name prm p7) p8 := by
  unfold part2 at h
  obtain ⟨⟨ts, e, q8⟩, h1, h⟩ := Option.bind_eq_some_iff.mp h
  obtain ⟨⟨prm', q7⟩, h2, h⟩ := Option.bind_eq_some_iff.mp h
  dsimp only at h
  split at h
  · obtain ⟨⟨o, fld', q6⟩, h3, h⟩ := Option.bind_eq_some_iff.mp h
    obtain ⟨⟨n, q5⟩, h4, h⟩ := Option.bind_eq_some_iff.mp h
    dsimp only at h
    split at h
    · rename_i hc
      cases h
      have h4' : exName o = some (n, p5) := h4
      rw [stAsg_ok h1, exName_ok h2, exAttr_ok h3, exName_ok h4', hc]
    · cases h
  · cases h
/-- the text's parts -/
def parts (b : List Stmt) : Option (List Str × Nat × List Pos) := match b with
  | [s1, s2] => (part1 s1).bind fun (t, j, p0, p1, ap, p2, p3, p4) => (part2 s2).map fun (prm, fld, p5, p6, p7, p8) => ([t, prm, fld], j, [p0, p1, ap, p2, p3, p4, p5, p6, p7, p8])
  | _ => none
theorem parts_ok {b : List Stmt} {prm fld txt : Str} {j : Nat} {p0 p1 ap p2 p3 p4 p5 p6 p7 p8 : Pos} (h : parts b = some ([txt, prm, fld], j, [p0, p1, ap, p2, p3, p4, p5, p6, p7, p8])) : b = initBody prm fld txt j p0 p1 ap p2 p3 p4 p5 p6 p7 p8 := by
  unfold parts at h
  split at h
  · rename_i s1 s2
    obtain ⟨⟨t, j', q0, q1, aq, q2, q3, q4⟩, h1, h⟩ := Option.bind_eq_some_iff.mp h
    cases z : part2 s2 with
    | none => rw [z] at h; cases h
    | some b =>
      obtain ⟨prm', fld', q5, q6, q7, q8⟩ := b
      rw [z] at h
      cases h
      rw [part1_ok h1, part2_ok z]
      rfl
  · cases h
def paramsB (prm : Str) (p : Arguments) : Bool := match p.posonlyargs, p.args, p.vararg, p.kwonlyargs, p.kw_defaults, p.kwarg, p.defaults with
  | [], [a, b], none, [], [], none, [] => decide (a.arg = ("self" : Str)) && decide (b.arg = prm)
  | _, _, _, _, _, _, _ => false
theorem paramsB_ok {prm : Str} {p : Arguments} (h : paramsB prm p = true) : ∃ a1 q1 a2 q2, p = ⟨[], [⟨"self", a1, q1⟩, ⟨prm, a2, q2⟩], none, [], [], none, []⟩ := by
  obtain ⟨x1, x2, x3, x4, x5, x6, x7⟩ := p
  unfold paramsB at h
  dsimp only at h
  split at h
  · rename_i a b
    rw [Bool.and_eq_true] at h
    obtain ⟨n1, a1, q1⟩ := a
    obtain ⟨n2, a2, q2⟩ := b
    have e1 := of_decide_eq_true h.1
    have e2 := of_decide_eq_true h.2
    dsimp only at e1 e2
    subst e1 e2
    exact ⟨a1, q1, a2, q2, rfl⟩
  · cases h
def scopeB (prm : Str) (sc : Scope) : Bool := decide (∀ x ∈ sc.names, x.2 ≠ .cell) && (decide (sc.names.lookup ("self" : Str) = some .local) && (decide (sc.names.lookup prm = some .local) && (decide (sc.isCoroutine = false) && (decide (sc.isGenerator = false) && (decide (sc.kind = .function) && (decide (sc.names.lookup ("super" : Str) = some .globalImplicit) && decide (sc.names.lookup ("__class__" : Str) = some .free)))))))
/-- the code object tells the file -/
def fileB (K : PySem.W.Frag) (prog : Program) (cda : Addr) : Bool := match K.lookup cda with
  | some ⟨_, _, .fields vs, _⟩ => (match vs[2]? with
    | some (Value.str file _) => ((prog.main.file : Str) == file)
    | _ => false)
  | _ => false
theorem fileB_ok {K : PySem.W.Frag} {prog : Program} {cda : Addr} (h : fileB K prog cda = true) : ∃ ccl cdd vs ccs file tf, K.lookup cda = some ⟨ccl, cdd, .fields vs, ccs⟩ ∧ vs[2]? = some (.str file tf) ∧ ((prog.main.file : Str) == file) = true := by
  unfold fileB at h
  split at h
  · rename_i a b vs c e
    split at h
    · rename_i file tf e2
      exact ⟨a, b, vs, c, file, tf, e, e2, h⟩
    · cases h
  · cases h
def cellB (K : PySem.W.Frag) (cc C : Addr) : Bool := match K.lookup cc with
  | some ⟨_, _, .cell (some v), _⟩ => decide (v = .ref C)
  | _ => false
theorem cellB_ok {K : PySem.W.Frag} {cc C : Addr} (h : cellB K cc C = true) : ∃ cl cld csl, K.lookup cc = some ⟨cl, cld, .cell (some (.ref C)), csl⟩ := by
  unfold cellB at h
  split at h
  · rename_i a b v c e
    have e2 := of_decide_eq_true h
    subst e2
    exact ⟨a, b, c, e⟩
  · cases h
/-- the class at C: its own __init__ is of the text b -/
def supB (K : PySem.W.Frag) (prog : Program) (C : Addr) (prm fld : Str) (b : List Stmt) : Bool :=
  PySem.W.excInitIn K C [.type "ValueError", .type "Exception", .type "BaseException", .type "object"] "ValueError.__new__" && (match K.lookup (He.ma K C "__init__") with
    | some ⟨_, _, .func fd, _⟩ => (match fd.body, fd.closure, fd.code with
      | .stmts b', [(x, cc)], .ref cda => decide (parts b' = parts b) && (decide (x = ("__class__" : Str)) && (paramsB prm fd.params && (scopeB prm fd.scope && (decide (fd.globals = mainGlobals) && (decide (fd.builtins = builtinsNs) && (decide (fd.defaults = .none) && (codeIn K (.ref cda) fd.qualname && (fileB K prog cda && cellB K cc C))))))))
      | _, _, _ => false)
    | _ => false)
theorem supB_ok {K : PySem.W.Frag} {prog : Program} {C : Addr} {prm fld txt : Str} {j : Nat} {p0 p1 ap p2 p3 p4 p5 p6 p7 p8 : Pos} {b : List Stmt} {pl : Env → Sem Bool} (T : OexC K C) (h : supB K prog C prm fld b = true) (hb : parts b = some ([txt, prm, fld], j, [p0, p1, ap, p2, p3, p4, p5, p6, p7, p8]))
    (hi : findIn K (.ref C) "__init__" = some (some (.ref (He.ma K C "__init__")))) (ht : typeIn K (.ref (He.ma K C "__init__")) = some (.type "function"))
    (hbind : ∀ (name qual : Str) (body : List Stmt) (scope : Scope) (kV doc pm : Value) (an : Option Addr) (cdv ct : Value) (cc : Addr) (a1 : Option Expr) (q1 : Pos) (a2 : Option Expr) (q2 : Pos) (u v : Value), bindArgs (ksFn name qual ⟨[], [⟨"self", a1, q1⟩, ⟨prm, a2, q2⟩], none, [], [], none, []⟩ body scope .none kV doc pm an cdv ct cc) ⟨[u, v], []⟩ = pure [(("self" : Str), u), (prm, v)])
    (hne : (prm == ("self" : Str)) = false) (hdp : (prm == ("__debug__" : Str)) = false) (htop : (prog.main.scope.names.lookup ("super" : Str)).isSome = false) (hsub : mroIn K C (.ref C) = some true) (hop : nsIn K cStatics "thirdparty.any" = some none)
    (hsup : ks_superIn K C C "__init__" = some (some (.builtin "ValueError.__init__"))) (hVE : subIn K (.ref C) (.type "ValueError") = some true) (hfld : findIn K (.ref C) fld = some none)
    (hev : ∀ env : Env, eval (.Call (.Attribute (.Call (.Name "super" p0) [] [] p1) "__init__" ap) [.Constant (.str txt) j p2] [] p3) env = (do
      let ov ← attributeBase (.Call (.Name "super" p0) [] [] p1) "__init__" env (eval (.Call (.Name "super" p0) [] [] p1) env)
      standAt ap.atName
      let (f, first) ← holding [ov] (getMethod ov "__init__" (pl env))
      callWith p3 f first (backTo p3 (starEach [.Constant (.str txt) j p2] env)) []))
    (hsw1 : ∀ env : Env, swapsWith (.Call (.Attribute (.Call (.Name "super" p0) [] [] p1) "__init__" ap) [.Constant (.str txt) j p2] [] p3) none p4.line env = pure false)
    (hsw2 : ∀ env : Env, swapsWith (.Name prm p7) (some (.Attribute (.Name "self" p5) fld p6)) p8.line env = pure false) : SupC K prog C fld := by
  refine ⟨T, ?_⟩
  unfold supB at h
  rw [Bool.and_eq_true] at h
  have h := h.2
  generalize hf : He.ma K C "__init__" = f at *
  split at h
  · rename_i oc od fd osl lk
    split at h
    · rename_i b' x cc cda e1 e2 e3
      simp only [Bool.and_eq_true] at h
      obtain ⟨c1, c2, c3, c4, c5, c6, c7, c8, c9, c10⟩ := h
      have d1 := of_decide_eq_true c1
      clear c1
      have d2 := of_decide_eq_true c2
      clear c2
      have d5 := of_decide_eq_true c5
      clear c5
      have d6 := of_decide_eq_true c6
      clear c6
      have d7 := of_decide_eq_true c7
      clear c7
      rw [hb] at d1
      have eb := parts_ok d1
      obtain ⟨a1, q1, a2, q2, ep⟩ := paramsB_ok c3
      unfold scopeB at c4
      simp only [Bool.and_eq_true, decide_eq_true_eq] at c4
      obtain ⟨s1, s2, s3, s4, s5, s6, s7, s8⟩ := c4
      obtain ⟨ccl, cdd, vs, ccs, file, tf, f1, f2, f3⟩ := fileB_ok c9
      obtain ⟨cl, cld, csl, g1⟩ := cellB_ok c10
      obtain ⟨n1, n2, n3, n4, n5, n6, n7, n8, n9, n10, n11, n12, n13, n14, n15⟩ := fd
      dsimp only at e1 e2 e3 c3 d5 d6 d7 c8 ep s1 s2 s3 s4 s5 s6 s7 s8
      subst e1 e2 e3 d2 d5 d6 d7 ep eb
      exact ⟨f, cc, cda, prm, txt, j, p0, p1, ap, p2, p3, p4, p5, p6, p7, p8, n1, n2, _, n5, .none, n9, n10, n11, n14, oc, ccl, cl, n12, od, cdd, cld, osl, ccs, csl, ⟨"self", a1, q1⟩, vs, file, tf, pl,
        hi, ht, lk, c8, fun u v => hbind _ _ _ _ _ _ _ _ _ _ _ _ _ _ _ u v, hne, s1, s2, s3, s4, s5, s6, s7, s8, rfl, rfl, f1, f2, f3, htop, g1, hsub, hop, hsup, hVE, hfld, hdp, hev, hsw1, hsw2⟩
    · cases h
  · cases h
end DL
set_option Elab.async false
set_option linter.all false
set_option maxRecDepth 100000
set_option maxHeartbeats 4000000
/-! DM9: the whole look at such a class; tuples of the top. -/
namespace DL
open PySem PySem.Spec PyProof.Rows L2 PySem.W PySem.Calls
def oexB (K : PySem.W.Frag) (C : Addr) : Bool := (match K.lookup C with
  | some ⟨c, _, .cls cd, sl⟩ => decide (c = .type "type") && (match cd.mro, sl.toList with
    | .ref C' :: bm, [_, _, _, _, some (.builtin n), _] => decide (C' = C) && (decide (n = "ValueError.__new__") && (!cd.hasDel && (cd.hasDict && PySem.HandSPX.refsVE bm)))
    | _, _ => false)
  | _ => false) && (decide (findIn K (.ref C) "__setattr__" = some (some (.builtin "object.__setattr__"))) && (decide (subIn K (.ref C) (.type "BaseException") = some true) && (decide (typeIn K (.ref C) = some (.type "type")) && keepIn K (.ref C))))
theorem oexB_ok {K : PySem.W.Frag} {C : Addr} (h : oexB K C = true) : OexC K C := by
  unfold oexB at h
  rw [Bool.and_eq_true] at h
  obtain ⟨h1, h2⟩ := h
  simp only [Bool.and_eq_true, decide_eq_true_eq] at h2
  obtain ⟨a1, a2, a3, a4⟩ := h2
  refine ⟨?_, a1, a2, a3, a4⟩
  split at h1
  · rename_i c dd cd sl ho
    rw [Bool.and_eq_true] at h1
    obtain ⟨hc, h1⟩ := h1
    have hc := of_decide_eq_true hc
    subst hc
    split at h1
    · rename_i C' bm k0 k1 k2 k3 n k5 hm hs
      simp only [Bool.and_eq_true, decide_eq_true_eq, Bool.not_eq_true'] at h1
      obtain ⟨e1, e2, e3, e4, e5⟩ := h1
      obtain ⟨nm, bs, mro, ns, qn, hd, sn, sub, ab, col, del⟩ := cd
      dsimp only at hm e3 e4
      subst hm e1 e2 e3 e4
      have hsl : sl = #[k0, k1, k2, k3, some (.builtin "ValueError.__new__"), k5] := by
        obtain ⟨l⟩ := sl
        simp only at hs
        rw [hs]
      subst hsl
      exact ⟨nm, qn, ns, bs, bm, sn, sub, ab, col, dd, k0, k1, k2, k3, k5, ho, e5⟩
    · cases h1
  · cases h1
def clsB (K : PySem.W.Frag) (prog : Program) (C : Addr) (prm fld : Str) (b : List Stmt) : Bool := oexB K C && (supB K prog C prm fld b && (decide (findIn K (.ref C) "__init__" = some (some (.ref (He.ma K C "__init__")))) && (decide (typeIn K (.ref (He.ma K C "__init__")) = some (.type "function")) && (decide (mroIn K C (.ref C) = some true) && (decide (nsIn K cStatics "thirdparty.any" = some none) && (decide (ks_superIn K C C "__init__" = some (some (.builtin "ValueError.__init__"))) && (decide (subIn K (.ref C) (.type "ValueError") = some true) && decide (findIn K (.ref C) fld = some none))))))))
theorem clsB_ok {K : PySem.W.Frag} {prog : Program} {C : Addr} {prm fld txt : Str} {j : Nat} {p0 p1 ap p2 p3 p4 p5 p6 p7 p8 : Pos} {b : List Stmt} {pl : Env → Sem Bool} (h : clsB K prog C prm fld b = true) (hb : parts b = some ([txt, prm, fld], j, [p0, p1, ap, p2, p3, p4, p5, p6, p7, p8]))
    (hbind : ∀ (name qual : Str) (body : List Stmt) (scope : Scope) (kV doc pm : Value) (an : Option Addr) (cdv ct : Value) (cc : Addr) (a1 : Option Expr) (q1 : Pos) (a2 : Option Expr) (q2 : Pos) (u v : Value), bindArgs (ksFn name qual ⟨[], [⟨"self", a1, q1⟩, ⟨prm, a2, q2⟩], none, [], [], none, []⟩ body scope .none kV doc pm an cdv ct cc) ⟨[u, v], []⟩ = pure [(("self" : Str), u), (prm, v)])
    (hev : ∀ env : Env, eval (.Call (.Attribute (.Call (.Name "super" p0) [] [] p1) "__init__" ap) [.Constant (.str txt) j p2] [] p3) env = (do
      let ov ← attributeBase (.Call (.Name "super" p0) [] [] p1) "__init__" env (eval (.Call (.Name "super" p0) [] [] p1) env)
      standAt ap.atName
      let (f, first) ← holding [ov] (getMethod ov "__init__" (pl env))
      callWith p3 f first (backTo p3 (starEach [.Constant (.str txt) j p2] env)) []))
    (hsw1 : ∀ env : Env, swapsWith (.Call (.Attribute (.Call (.Name "super" p0) [] [] p1) "__init__" ap) [.Constant (.str txt) j p2] [] p3) none p4.line env = pure false)
    (hsw2 : ∀ env : Env, swapsWith (.Name prm p7) (some (.Attribute (.Name "self" p5) fld p6)) p8.line env = pure false)
    (htop : (prog.main.scope.names.lookup ("super" : Str)).isSome = false) (hne : (prm == ("self" : Str)) = false := by decide) (hdp : (prm == ("__debug__" : Str)) = false := by decide) : SupC K prog C fld := by
  unfold clsB at h
  simp only [Bool.and_eq_true, decide_eq_true_eq] at h
  obtain ⟨h1, h2, h3, h4, h5, h6, h7, h8, h9⟩ := h
  exact supB_ok (oexB_ok h1) h2 hb h3 h4 hbind hne hdp htop h5 h6 h7 h8 h9 hev hsw1 hsw2
/-- a tuple of texts at the top -/
theorem svs_strs {K : PySem.W.Frag} {m : List Addr} {H : Hp} : ∀ zs : List Str, SVs K m H (zs.map D.str) ((zs.map He.Dv.str).map (He.Dv.v K))
  | [] => rfl
  | z :: zs => ⟨.str z, _, rfl, rfl, svs_strs zs⟩
def genSB (scope : Scope) (x : Str) : Bool := decide (scope.kind = .function) && (decide (scope.isCoroutine = false) && (decide (∀ y ∈ scope.names, y.2 ≠ .cell) && (decide (scope.names.lookup (".0" : Str) = some NameKind.local) && (decide (scope.names.lookup x = some .local) && decide (∀ y ∈ scope.names, y.2 ≠ .free)))))
theorem genS_by {env : Env} {scope : Scope} {x : Str} (h : genSB scope x = true) : GxR.GenS env scope x := by
  unfold genSB at h
  simp only [Bool.and_eq_true, decide_eq_true_eq] at h
  obtain ⟨h1, h2, h3, h4, h5, h6⟩ := h
  exact ⟨h1, h2, h3, h4, h5, fun y hy e => absurd e (h6 y hy)⟩
def dIndex (fo fe : DE) : DE := fun ρ S => (fo ρ S).bind fun o S1 => match o with
  | .obj n => (match lstAt S1 n with
    | some _ => (fe ρ S1).bind fun y S2 => (match flatOf y, (lstAt S2 n).bind flatsOf with
      | some u, some us => (match us.findIdx? (fun z => eqV z u) with
        | some k => .ok (.int (k : Int)) S2
        | none => .bad)
      | _, _ => .bad)
    | none => .bad)
  | _ => .bad
section
variable {X : Cx} {G : Gx} {W : WX} {e o : Expr} {fe fo : DE} {p pos apos cpos : Pos}
theorem je_globT {x : Str} {zs : List Str} (hm : X.mg x = some (.ref (He.ga X.K x))) (h : He.tupB X.K x (zs.map He.Dv.str) = true) (hg : Gl X x := by rfl) (hdb : (x == ("__debug__" : Str)) = false := by decide) : JE X G W (.Name x pos) (dC (.tup (zs.map D.str))) :=
  je_glob hm (fun m H => ⟨.ref (He.ga X.K x), rfl, _, _, rfl, He.tupB_ok h H, svs_strs zs⟩) hg hdb
theorem je_index (ho : JE X G W o fo) (he : JE X G W e fe) (hbase : attributeBase o "index" X.env (eval o X.env) = eval o X.env := by rfl)
    (hfew : ((backTo cpos (starEach [e] X.env)).all (fun x => !x.1) && (backToKw cpos (keywordEach [] X.env)).all (fun x => x.1.isSome) && decide ([e].length + ([] : List Keyword).length + (if ([] : List Keyword).isEmpty then 0 else 1) < 30)) = true := by rfl)
    (hline : (apos.endLine == cpos.line) = true := by rfl) (hs : starEach [e] X.env = (false, eval e X.env) :: starEach [] X.env := by rfl) (hplain : (backTo cpos (starEach [] X.env)).any (·.1) = false := by rfl) :
    JE X G W (.Call (.Attribute o "index" apos) [e] [] cpos) (dIndex fo fe) :=
  PE.imp (pe_bm PySem.F.plainAttrs_list PySem.F.slot_list_index PySem.F.type_list_index mt_index ho (ja_cons he ja_nil hs) hbase hfew hline hs hplain) fun σ H Q ⟨m, ρ, S, sr, sm, eo⟩ => ⟨m, ρ, S, sr, sm, EO.then (rel := SV X.K) eo fun x S1 v H1 m1 st1 sm1 r1 eo1 => by
    cases x with
    | obj n =>
      dsimp only at eo1
      cases z : lstAt S1 n with
      | none => rw [z] at eo1; exact eo1.elim
      | some xs0 =>
        rw [z] at eo1
        dsimp only at eo1
        obtain ⟨a, rfl, hm⟩ := r1
        obtain ⟨a', ws0, h1, h2, h3⟩ := lstAt_ok sm1 z
        rw [hm] at h1; cases h1
        refine ⟨.inl ⟨rfl, ws0, SqL.of h2⟩, m1, ρ, S1, sr.mono sm st1, sm1, ?_⟩
        unfold daCons daNil
        cases z2 : fe ρ S1 with
        | bad => rw [z2] at eo1; exact eo1.elim
        | exn x S2 => rw [z2] at eo1; exact eo1
        | ok d S2 =>
          rw [z2] at eo1
          simp only [Out.bind_ok] at eo1 ⊢
          intro vs H2 m2 st2 sm2 r2
          have eo2 := eo1.step st2
          obtain ⟨y, rfl, ry⟩ := svs1 r2
          split at eo2
          · rename_i u us e1 e2
            split at eo2
            · rename_i kx e3
              cases z3 : lstAt S2 n with
              | none => rw [z3] at e2; cases e2
              | some xs =>
                rw [z3] at e2
                obtain ⟨a', ws, g1, g2, g3⟩ := lstAt_ok sm2 z3
                rw [st2.get hm] at g1; cases g1
                obtain ⟨rfl, f1⟩ := flatOf_ok e1 ry
                obtain ⟨rfl, f2⟩ := flatsOf_ok (show flatsOf xs = some us from e2) g3
                obtain ⟨hk, hk2, hk3⟩ := List.findIdx?_eq_some_iff_getElem.mp e3
                refine ⟨a, ws, y, kx, ws[kx], rfl, rfl, SqL.of g2, f1, f2, by simp [hk], hk2, fun i z' hi hz => ?_, eo2 _ H2 m2 sm2.refl sm2 rfl⟩
                obtain ⟨hi2, hz2⟩ := List.getElem?_eq_some_iff.mp hz
                have := hk3 i hi
                rw [← hz2]
                simpa using this
            · exact eo2.elim
          · exact eo2.elim
    | _ => exact eo1.elim⟩
end
end DL
set_option Elab.async false
set_option linter.all false
set_option maxRecDepth 100000
set_option maxHeartbeats 4000000
/-! DM10: the hook whose written part holds the statics too. -/
namespace DL
open PySem PySem.Spec PyProof.Rows L2 PySem.W PySem.Calls
variable {n : Nat} {fa : List He.Fa} {fn : List He.DefD} {ts : List He.Tab} {tf : List He.Defn} {ex : PySem.W.Frag → Bool}
/-- the written part: what the names reach, and the statics -/
def frY (n : Nat) (g : Addr → Option Obj) : PySem.W.Frag := He.frT g (He.asD g n ++ [cStatics])
def obsY (n : Nat) (fa : List He.Fa) (fn : List He.DefD) (ts : List He.Tab) (tf : List He.Defn) (ex : PySem.W.Frag → Bool) (g : Addr → Option Obj) : He.AlX :=
  (He.obsT fa fn ts (frY n g), (ex (frY n g) && He.tabsB g tf (frY n g)))
theorem tabs_ok {h : Heap} {as : List Addr} (z : He.tabsB h.get? tf (He.frT h.get? as) = true) : ∀ p ∈ tf, PySem.W.codeHdIn (He.frT h.get? as) (He.cT (He.frT h.get? as) p).1 (He.cT (He.frT h.get? as) p).2 = true ∧ (He.frT h.get? as).lookup (He.cT (He.frT h.get? as) p).2 = none ∧ h.get? (He.cT (He.frT h.get? as) p).2 = some { cls := .none, data := .fields #[] } := by
  intro p hp
  have zp := List.all_eq_true.mp z p hp
  rw [Bool.and_eq_true] at zp
  refine ⟨zp.1, ?_⟩
  have z2 := zp.2
  generalize (He.cT (He.frT h.get? as) p).2 = t at z2 ⊢
  cases q : h.get? t with
  | none => rw [q] at z2; exact nomatch z2
  | some o => rw [q] at z2; exact ⟨He.frT_none q z2, congrArg some (He.emptyTab_eq z2)⟩
theorem saysY_of {w : World} {h : Heap} (e : obsY n fa fn ts tf ex h.get? = He.valX fn ts w) : He.SaysX fa fn ts tf ex w h (frY n h.get?) := by
  have e2 : (ex (frY n h.get?) && He.tabsB h.get? tf (frY n h.get?)) = true := congrArg Prod.snd e
  rw [Bool.and_eq_true] at e2
  have k := tabs_ok e2.2
  exact { t := congrArg Prod.fst e, more := e2.1, hd := fun p hp => (k p hp).1, out := fun p hp => (k p hp).2.1, empty := fun p hp => (k p hp).2.2 }
def hookY (n : Nat) (fa : List He.Fa) (fn : List He.DefD) (ts : List He.Tab) (tf : List He.Defn) (ex : PySem.W.Frag → Bool) : PySem.W.Hook :=
  { He.hookX n fa fn ts tf ex with obs := fun s => obsY n fa fn ts tf ex s.heap.get?, of := fun _ _ e => ⟨_, He.frT_in, saysY_of e⟩ }
theorem obsY_eq {g : Addr → Option Obj} {s : Shared} (h : ∀ a, g a = s.heap.get? a) : obsY n fa fn ts tf ex g = (hookY n fa fn ts tf ex).obs s := by
  rw [funext h]
  rfl
end DL
set_option Elab.async false
set_option linter.all false
set_option maxRecDepth 100000
set_option maxHeartbeats 0
namespace Pr
open PySem PySem.Spec PyProof.Rows L2 DL
def top (i : Nat) : Stmt := PySem.Challenge.pw_wagehall_k13_loans_paid_off.main.body.getD i (.Pass ⟨0, 0, 0, 0⟩)
abbrev s_part : Stmt := top 12
abbrev s_add : Stmt := top 13
abbrev s_times : Stmt := top 14
abbrev s_over : Stmt := top 15
abbrev s_order : Stmt := top 16
abbrev s_rounded : Stmt := top 17
abbrev s_interest : Stmt := top 19
abbrev s_check_loan : Stmt := top 20
abbrev s_even_pay : Stmt := top 21
abbrev s_left_behind : Stmt := top 22
abbrev s_plan : Stmt := top 23
abbrev s_in_parts : Stmt := top 24
abbrev s_all_at_end : Stmt := top 25
abbrev s_look_plan : Stmt := top 26
abbrev s_paid_ahead : Stmt := top 27
abbrev s_worth_now : Stmt := top 28
abbrev s_rate_of : Stmt := top 29
abbrev s_grown : Stmt := top 30
abbrev s_year_rate : Stmt := top 31
abbrev s_day_interest : Stmt := top 32
abbrev s_times_till : Stmt := top 33
abbrev s_cheapest : Stmt := top 34
abbrev s__law_dice : Stmt := top 36
abbrev s__law_roll : Stmt := top 37
abbrev s__law_rounds : Stmt := top 38
abbrev s__law_told : Stmt := top 39
abbrev s__law_least : Stmt := top 40
abbrev s__law_left : Stmt := top 41
abbrev s__law_worth : Stmt := top 42
abbrev s__law_ahead : Stmt := top 43
abbrev s__law_offers : Stmt := top 44
abbrev s__law_laid : Stmt := top 45
abbrev s__law_worths : Stmt := top 46
abbrev s_law : Stmt := top 47
def d_part : He.DefD := ⟨("part", none), "part", "part", defArgs s_part, defBody s_part, defScope s_part, [], []⟩
def d_add : He.DefD := ⟨("add", none), "add", "add", defArgs s_add, defBody s_add, defScope s_add, [], []⟩
def d_times : He.DefD := ⟨("times", none), "times", "times", defArgs s_times, defBody s_times, defScope s_times, [], []⟩
def d_over : He.DefD := ⟨("over", none), "over", "over", defArgs s_over, defBody s_over, defScope s_over, [], []⟩
def d_order : He.DefD := ⟨("order", none), "order", "order", defArgs s_order, defBody s_order, defScope s_order, [], []⟩
def d_rounded : He.DefD := ⟨("rounded", none), "rounded", "rounded", defArgs s_rounded, defBody s_rounded, defScope s_rounded, [], []⟩
def d_interest : He.DefD := ⟨("interest", none), "interest", "interest", defArgs s_interest, defBody s_interest, defScope s_interest, [], []⟩
def d_check_loan : He.DefD := ⟨("check_loan", none), "check_loan", "check_loan", defArgs s_check_loan, defBody s_check_loan, defScope s_check_loan, [], []⟩
def d_even_pay : He.DefD := ⟨("even_pay", none), "even_pay", "even_pay", defArgs s_even_pay, defBody s_even_pay, defScope s_even_pay, [], []⟩
def d_left_behind : He.DefD := ⟨("left_behind", none), "left_behind", "left_behind", defArgs s_left_behind, defBody s_left_behind, defScope s_left_behind, [], []⟩
def d_plan : He.DefD := ⟨("plan", none), "plan", "plan", defArgs s_plan, defBody s_plan, defScope s_plan, [], []⟩
def d_in_parts : He.DefD := ⟨("in_parts", none), "in_parts", "in_parts", defArgs s_in_parts, defBody s_in_parts, defScope s_in_parts, [], []⟩
def d_all_at_end : He.DefD := ⟨("all_at_end", none), "all_at_end", "all_at_end", defArgs s_all_at_end, defBody s_all_at_end, defScope s_all_at_end, [], []⟩
def d_look_plan : He.DefD := ⟨("look_plan", none), "look_plan", "look_plan", defArgs s_look_plan, defBody s_look_plan, defScope s_look_plan, [], []⟩
def d_paid_ahead : He.DefD := ⟨("paid_ahead", none), "paid_ahead", "paid_ahead", defArgs s_paid_ahead, defBody s_paid_ahead, defScope s_paid_ahead, [], []⟩
def d_worth_now : He.DefD := ⟨("worth_now", none), "worth_now", "worth_now", defArgs s_worth_now, defBody s_worth_now, defScope s_worth_now, [], []⟩
def d_rate_of : He.DefD := ⟨("rate_of", none), "rate_of", "rate_of", defArgs s_rate_of, defBody s_rate_of, defScope s_rate_of, [], []⟩
def d_grown : He.DefD := ⟨("grown", none), "grown", "grown", defArgs s_grown, defBody s_grown, defScope s_grown, [], []⟩
def d_year_rate : He.DefD := ⟨("year_rate", none), "year_rate", "year_rate", defArgs s_year_rate, defBody s_year_rate, defScope s_year_rate, [], []⟩
def d_day_interest : He.DefD := ⟨("day_interest", none), "day_interest", "day_interest", defArgs s_day_interest, defBody s_day_interest, defScope s_day_interest, [], []⟩
def d_times_till : He.DefD := ⟨("times_till", none), "times_till", "times_till", defArgs s_times_till, defBody s_times_till, defScope s_times_till, [], []⟩
def d_cheapest : He.DefD := ⟨("cheapest", none), "cheapest", "cheapest", defArgs s_cheapest, defBody s_cheapest, defScope s_cheapest, [], []⟩
def d__law_dice : He.DefD := ⟨("_law_dice", none), "_law_dice", "_law_dice", defArgs s__law_dice, defBody s__law_dice, defScope s__law_dice, [], []⟩
def d__law_roll : He.DefD := ⟨("_law_roll", none), "_law_roll", "_law_roll", defArgs s__law_roll, defBody s__law_roll, defScope s__law_roll, [], []⟩
def d__law_rounds : He.DefD := ⟨("_law_rounds", none), "_law_rounds", "_law_rounds", defArgs s__law_rounds, defBody s__law_rounds, defScope s__law_rounds, [], []⟩
def d__law_told : He.DefD := ⟨("_law_told", none), "_law_told", "_law_told", defArgs s__law_told, defBody s__law_told, defScope s__law_told, [], []⟩
def d__law_least : He.DefD := ⟨("_law_least", none), "_law_least", "_law_least", defArgs s__law_least, defBody s__law_least, defScope s__law_least, [], []⟩
def d__law_left : He.DefD := ⟨("_law_left", none), "_law_left", "_law_left", defArgs s__law_left, defBody s__law_left, defScope s__law_left, [], []⟩
def d__law_worth : He.DefD := ⟨("_law_worth", none), "_law_worth", "_law_worth", defArgs s__law_worth, defBody s__law_worth, defScope s__law_worth, [], []⟩
def d__law_ahead : He.DefD := ⟨("_law_ahead", none), "_law_ahead", "_law_ahead", defArgs s__law_ahead, defBody s__law_ahead, defScope s__law_ahead, [], []⟩
def d__law_offers : He.DefD := ⟨("_law_offers", none), "_law_offers", "_law_offers", defArgs s__law_offers, defBody s__law_offers, defScope s__law_offers, [], []⟩
def d__law_laid : He.DefD := ⟨("_law_laid", none), "_law_laid", "_law_laid", defArgs s__law_laid, defBody s__law_laid, defScope s__law_laid, [], []⟩
def d__law_worths : He.DefD := ⟨("_law_worths", none), "_law_worths", "_law_worths", defArgs s__law_worths, defBody s__law_worths, defScope s__law_worths, [], []⟩
def d_law : He.DefD := ⟨("law", none), "law", "law", defArgs s_law, defBody s_law, defScope s_law, [], []⟩
def fn : List He.DefD := [d_part, d_add, d_times, d_over, d_order, d_rounded, d_interest, d_check_loan, d_even_pay, d_left_behind, d_plan, d_in_parts, d_all_at_end, d_look_plan, d_paid_ahead, d_worth_now, d_rate_of, d_grown, d_year_rate, d_day_interest, d_times_till, d_cheapest, d__law_dice, d__law_roll, d__law_rounds, d__law_told, d__law_least, d__law_left, d__law_worth, d__law_ahead, d__law_offers, d__law_laid, d__law_worths, d_law]
def fa0 : List He.Fa := [.glo "WageFault", .glo "BadMoney", .glo "BadDay", .glo "BadRule", .glo "Unbalanced", .glo "Shut", .glo "Short", .glo "BadText", .glo "NoAnswer", .glo "part", .glo "add", .glo "times", .glo "over", .glo "order", .glo "rounded", .glo "interest", .glo "check_loan", .glo "even_pay", .glo "left_behind", .glo "plan", .glo "in_parts", .glo "all_at_end", .glo "look_plan", .glo "paid_ahead", .glo "worth_now", .glo "rate_of", .glo "grown", .glo "year_rate", .glo "day_interest", .glo "times_till"]
def fa1 : List He.Fa := [.glo "cheapest", .glo "_law_dice", .glo "_law_roll", .glo "_law_rounds", .glo "_law_told", .glo "_law_least", .glo "_law_left", .glo "_law_worth", .glo "_law_ahead", .glo "_law_offers", .glo "_law_laid", .glo "_law_worths", .glo "law", .glo "RULES", .free "abs", .free "any", .free "enumerate", .free "int", .free "len", .free "list", .free "max", .free "min", .free "range", .free "reversed", .free "sum", .free "super", .free "tuple", .exc "WageFault", .keep "WageFault", .exc "BadMoney"]
def fa2 : List He.Fa := [.keep "BadMoney", .exc "BadDay", .keep "BadDay", .exc "BadRule", .keep "BadRule", .keep "Unbalanced", .exc "Shut", .keep "Shut", .keep "Short", .keep "BadText", .exc "NoAnswer", .keep "NoAnswer", .exm "WageFault" "WageFault" true, .exm "WageFault" "BadMoney" false, .exm "WageFault" "BadDay" false, .exm "WageFault" "BadRule" false, .exm "WageFault" "Unbalanced" false, .exm "WageFault" "Shut" false, .exm "WageFault" "Short" false, .exm "WageFault" "BadText" false, .exm "WageFault" "NoAnswer" false, .exm "BadMoney" "WageFault" true, .exm "BadMoney" "BadMoney" true, .exm "BadMoney" "BadDay" false, .exm "BadMoney" "BadRule" false, .exm "BadMoney" "Unbalanced" false, .exm "BadMoney" "Shut" false, .exm "BadMoney" "Short" false, .exm "BadMoney" "BadText" false, .exm "BadMoney" "NoAnswer" false]
def fa3 : List He.Fa := [.exm "BadDay" "WageFault" true, .exm "BadDay" "BadMoney" false, .exm "BadDay" "BadDay" true, .exm "BadDay" "BadRule" false, .exm "BadDay" "Unbalanced" false, .exm "BadDay" "Shut" false, .exm "BadDay" "Short" false, .exm "BadDay" "BadText" false, .exm "BadDay" "NoAnswer" false, .exm "BadRule" "WageFault" true, .exm "BadRule" "BadMoney" false, .exm "BadRule" "BadDay" false, .exm "BadRule" "BadRule" true, .exm "BadRule" "Unbalanced" false, .exm "BadRule" "Shut" false, .exm "BadRule" "Short" false, .exm "BadRule" "BadText" false, .exm "BadRule" "NoAnswer" false, .exm "Shut" "WageFault" true, .exm "Shut" "BadMoney" false, .exm "Shut" "BadDay" false, .exm "Shut" "BadRule" false, .exm "Shut" "Unbalanced" false, .exm "Shut" "Shut" true, .exm "Shut" "Short" false, .exm "Shut" "BadText" false, .exm "Shut" "NoAnswer" false, .exm "NoAnswer" "WageFault" true, .exm "NoAnswer" "BadMoney" false, .exm "NoAnswer" "BadDay" false]
def fa4 : List He.Fa := [.exm "NoAnswer" "BadRule" false, .exm "NoAnswer" "Unbalanced" false, .exm "NoAnswer" "Shut" false, .exm "NoAnswer" "Short" false, .exm "NoAnswer" "BadText" false, .exm "NoAnswer" "NoAnswer" true, .exm "Short" "WageFault" true, .exm "Short" "BadMoney" false, .exm "Short" "BadDay" false, .exm "Short" "BadRule" false, .exm "Short" "Unbalanced" false, .exm "Short" "Shut" false, .exm "Short" "Short" true, .exm "Short" "BadText" false, .exm "Short" "NoAnswer" false]
def fa : List He.Fa := fa0 ++ fa1 ++ fa2 ++ fa3 ++ fa4
def tf : List He.Defn := [("rate_of", none), ("cheapest", none), ("law", none)]
abbrev R : PySem.W.OpenRow := PySem.W.OpenLaw.row PySem.Challenge.rw_wagehall_k13_loans_paid_off
def exB (K : PySem.W.Frag) : Bool := decide ((tf.map fun p => (He.cT K p).2).Nodup) && (clsB K PySem.Challenge.pw_wagehall_k13_loans_paid_off (He.ga K "Short") "lacking" "lacking" (defBody (inClass (top 7) 0)) && He.tupB K "RULES" ((["down", "up", "half up", "half even", "half down"] : List Str).map He.Dv.str))
abbrev hk : PySem.W.Hook := hookY 5 fa fn [] tf exB
def ob (s : PySem.W.SharedT) : hk.α := obsY 5 fa fn [] tf exB (HandSHeadRun.getT s)
theorem ob_eq (s : PySem.W.SharedT) : ob s = hk.obs s.abs := obsY_eq (HandSHeadRun.getT_eq s)
def nm0 : List PySem.Str := ["WageFault", "BadMoney", "BadDay", "BadRule", "Unbalanced", "Shut", "Short", "BadText", "NoAnswer", "part", "add", "times", "over", "order", "rounded", "interest", "check_loan", "even_pay", "left_behind", "plan", "in_parts", "all_at_end", "look_plan", "paid_ahead", "worth_now", "rate_of", "grown", "year_rate", "day_interest", "times_till"]
def nm1 : List PySem.Str := ["cheapest", "_law_dice", "_law_roll", "_law_rounds", "_law_told", "_law_least", "_law_left", "_law_worth", "_law_ahead", "_law_offers", "_law_laid", "_law_worths", "RULES"]
def names : List PySem.Str := nm0 ++ nm1
theorem run (w : World) : HandSHeadRun.RunEq R (PySem.W.view R.prog [47]) hk ob 20000 names w := by
  intro os
  kernel_rfl
end Pr
set_option Elab.async false
set_option linter.all false
namespace Pr
open PySem PySem.Spec PyProof.Rows L2 DL
def raisable : List String := ["BadMoney", "BadDay", "BadRule", "Shut", "Short", "NoAnswer"]
def tellers : List (String × Str) := [("BadMoney", "money"), ("BadDay", "day"), ("BadRule", "rule"), ("Unbalanced", "unbalanced"), ("Shut", "shut"), ("Short", "short"), ("BadText", "text"), ("NoAnswer", "no answer")]
/-- _law_dice: slots 0 cell -/
def f__law_dice : DS :=
  (dSeq (dIfS (dB (dChain ltD ltD (dOp subD (dC (.int 0)) (dC (.int 10))) (dVar 0) (dC (.int 10))))
  (dRet (dLst (daCons (dBlt absD (daCons (dVar 0) daNil)) (daCons (dC (.int 0)) (daCons (dC (.int 2)) daNil)))))
  dNext)
  (dRet (dLst (daCons (dVar 0) (daCons (dOp addD (dC (.int 1)) (dOp modD (dBlt intD (daCons (dVar 0) daNil)) (dC (.int 1009)))) (daCons (dBlt intD (daCons (dOp geD (dVar 0) (dOp powD (dC (.int 10)) (dC (.int 18)))) daNil)) daNil))))))
def M__law_dice : DF := runD 1 f__law_dice
/-- _law_rounds: slots 0 script, 1 most, 2 cells, 3 cell -/
def f__law_rounds (M__law_dice : DF) : DS :=
  (dSeq (dAsg (dSl (dVar 0) dpNone (dpSome (dVar 1))) (gN 2))
  (dSeq (dIfS (dB (dOp eqD (dVar 2) (dLst daNil)))
  (dAsg (dLst (daCons (dC (.int 0)) daNil)) (gN 2))
  dNext)
  (dRet (dLc (diSeq (dVar 2)) (gN 3) dYes (dCall 1 M__law_dice (daCons (dVar 3) daNil)) [3]))))
def M__law_rounds : DF := runD 4 (f__law_rounds M__law_dice)
/-- part: slots 0 top, 1 bottom, 2 a, 3 b, 4 sign -/
def f_part : DS :=
  (dSeq (dIfS (dB (dOp eqD (dVar 1) (dC (.int 0))))
  (dRaise "BadRule")
  dNext)
  (dSeq (dPar2 2 3 (daCons (dBlt absD (daCons (dVar 0) daNil)) (daCons (dBlt absD (daCons (dVar 1) daNil)) daNil)))
  (dSeq (whileD (dB (dOp neD (dVar 3) (dC (.int 0)))) (dPar2 2 3 (daCons (dVar 3) (daCons (dOp modD (dVar 2) (dVar 3)) daNil))) fuel)
  (dSeq (dAsg (dIf (dB (dOp gtD (dVar 1) (dC (.int 0)))) (dC (.int 1)) (dUn negD (dC (.int 1)))) (gN 4))
  (dSeq (dAsg (dBlt maxD (daCons (dVar 2) (daCons (dC (.int 1)) daNil))) (gN 2))
  (dRet (dTup (daCons (dOp fdivD (dOp mulD (dVar 4) (dVar 0)) (dVar 2)) (daCons (dOp fdivD (dBlt absD (daCons (dVar 1) daNil)) (dVar 2)) daNil)))))))))
def M_part : DF := runD 5 f_part
/-- check_loan: slots 0 sum_there, 1 rate, 2 many -/
def f_check_loan : DS :=
  (dIfS (dOrT (dB (dOp ltD (dVar 0) (dC (.int 0)))) (dOrT (dB (dOp ltD (dOp ixD (dVar 1) (dC (.int 0))) (dC (.int 0)))) (dB (dOp ltD (dVar 2) (dC (.int 1))))))
  (dRaise "BadRule")
  dNext)
def M_check_loan : DF := runD 3 f_check_loan
/-- rounded: slots 0 a, 1 rule, 2 sign, 3 whole, 4 rest, 5 up -/
def f_rounded : DS :=
  (dSeq (dIfS (dB (dOp notInD (dVar 1) (dC (.tup [.str "down", .str "up", .str "half up", .str "half even", .str "half down"]))))
  (dRaise "BadRule")
  dNext)
  (dSeq (dAsg (dIf (dB (dOp ltD (dOp ixD (dVar 0) (dC (.int 0))) (dC (.int 0)))) (dUn negD (dC (.int 1))) (dC (.int 1))) (gN 2))
  (dSeq (dPar2 3 4 (daCons (dOp fdivD (dBlt absD (daCons (dOp ixD (dVar 0) (dC (.int 0))) daNil)) (dOp ixD (dVar 0) (dC (.int 1)))) (daCons (dOp modD (dBlt absD (daCons (dOp ixD (dVar 0) (dC (.int 0))) daNil)) (dOp ixD (dVar 0) (dC (.int 1)))) daNil)))
  (dSeq (dAsg (dOrV (dAndV (dOp eqD (dVar 1) (dC (.str "up"))) (dOp gtD (dVar 4) (dC (.int 0)))) (dAndV (dOp gtD (dOp mulD (dC (.int 2)) (dVar 4)) (dOp ixD (dVar 0) (dC (.int 1)))) (dOp eqD (dSl (dVar 1) dpNone (dpSome (dC (.int 4)))) (dC (.str "half"))))) (gN 5))
  (dSeq (dIfS (dAndT (dB (dOp eqD (dOp mulD (dC (.int 2)) (dVar 4)) (dOp ixD (dVar 0) (dC (.int 1))))) (dB (dOp eqD (dSl (dVar 1) dpNone (dpSome (dC (.int 4)))) (dC (.str "half")))))
  (dAsg (dOrV (dOp eqD (dVar 1) (dC (.str "half up"))) (dAndV (dOp eqD (dVar 1) (dC (.str "half even"))) (dOp eqD (dOp modD (dVar 3) (dC (.int 2))) (dC (.int 1))))) (gN 5))
  dNext)
  (dRet (dOp mulD (dVar 2) (dOp addD (dVar 3) (dBlt intD (daCons (dVar 5) daNil))))))))))
def M_rounded : DF := runD 6 f_rounded
/-- times: slots 0 a, 1 b -/
def f_times (M_part : DF) : DS :=
  (dRet (dCall 2 M_part (daCons (dOp mulD (dOp ixD (dVar 0) (dC (.int 0))) (dOp ixD (dVar 1) (dC (.int 0)))) (daCons (dOp mulD (dOp ixD (dVar 0) (dC (.int 1))) (dOp ixD (dVar 1) (dC (.int 1)))) daNil))))
def M_times : DF := runD 2 (f_times M_part)
/-- interest: slots 0 left, 1 rate -/
def f_interest (M_times : DF) (M_rounded : DF) : DS :=
  (dRet (dCall 2 M_rounded (daCons (dCall 2 M_times (daCons (dTup (daCons (dVar 0) (daCons (dC (.int 1)) daNil))) (daCons (dVar 1) daNil))) (daCons (dC (.str "half up")) daNil))))
def M_interest : DF := runD 2 (f_interest M_times M_rounded)
/-- left_behind: slots 0 sum_there, 1 rate, 2 pay, 3 many, 4 left, 5 k -/
def f_left_behind (M_interest : DF) : DS :=
  (dSeq (dAsg (dVar 0) (gN 4))
  (dSeq (dFor (diRange1 (dVar 3)) (gN 5)
  (dSeq (dAug 4 iaddD (dOp subD (dCall 2 M_interest (daCons (dVar 4) (daCons (dVar 1) daNil))) (dVar 2)))
  (dIfS (dB (dOp leD (dVar 4) (dC (.int 0))))
  dBrk
  dNext)))
  (dRet (dVar 4))))
def M_left_behind : DF := runD 6 (f_left_behind M_interest)
/-- even_pay: slots 0 sum_there, 1 rate, 2 many, 3 low, 4 high, 5 middle -/
def f_even_pay (M_left_behind : DF) (M_interest : DF) (M_check_loan : DF) : DS :=
  (dSeq (dDrop (dCall 3 M_check_loan (daCons (dVar 0) (daCons (dVar 1) (daCons (dVar 2) daNil)))))
  (dSeq (dPar2 3 4 (daCons (dUn negD (dC (.int 1))) (daCons (dOp addD (dOp addD (dVar 0) (dCall 2 M_interest (daCons (dVar 0) (daCons (dVar 1) daNil)))) (dC (.int 1))) daNil)))
  (dSeq (whileD (dB (dOp gtD (dOp subD (dVar 4) (dVar 3)) (dC (.int 1)))) (dSeq (dAsg (dOp fdivD (dOp addD (dVar 3) (dVar 4)) (dC (.int 2))) (gN 5))
  (dIfS (dB (dOp leD (dCall 4 M_left_behind (daCons (dVar 0) (daCons (dVar 1) (daCons (dVar 5) (daCons (dVar 2) daNil))))) (dC (.int 0))))
  (dAsg (dVar 5) (gN 4))
  (dAsg (dVar 5) (gN 3)))) fuel)
  (dRet (dVar 4)))))
def M_even_pay : DF := runD 6 (f_even_pay M_left_behind M_interest M_check_loan)
/-- plan: slots 0 sum_there, 1 rate, 2 many, 3 pay, 4 left, 5 found, 6 k, 7 much, 8 mine -/
def f_plan (M_interest : DF) (M_even_pay : DF) : DS :=
  (dSeq (dPar3 3 4 5 (daCons (dCall 3 M_even_pay (daCons (dVar 0) (daCons (dVar 1) (daCons (dVar 2) daNil)))) (daCons (dVar 0) (daCons (dLst daNil) daNil))))
  (dSeq (dFor (diRange1 (dVar 2)) (gN 6)
  (dSeq (dAsg (dCall 2 M_interest (daCons (dVar 4) (daCons (dVar 1) daNil))) (gN 7))
  (dSeq (dAsg (dIf (dB (dOp ltD (dVar 6) (dOp subD (dVar 2) (dC (.int 1))))) (dBlt minD (daCons (dVar 3) (daCons (dOp addD (dVar 4) (dVar 7)) daNil))) (dOp addD (dVar 4) (dVar 7))) (gN 8))
  (dSeq (dDrop (dApp (dVar 5) (dTup (daCons (dVar 7) (daCons (dOp subD (dVar 8) (dVar 7)) (daCons (dVar 8) (daCons (dOp subD (dOp addD (dVar 4) (dVar 7)) (dVar 8)) daNil)))))))
  (dAug 4 iaddD (dOp subD (dVar 7) (dVar 8)))))))
  (dRet (dBlt tupleD (daCons (dVar 5) daNil)))))
def M_plan : DF := runD 9 (f_plan M_interest M_even_pay)
/-- _law_roll: slots 0 dice, 1 many, 2 found -/
def f__law_roll : DS :=
  (dSeq (dIfS (dOrT (dB (dOp eqD (dOp ixD (dVar 0) (dC (.int 2))) (dC (.int 2)))) (dAndT (dB (dOp eqD (dOp ixD (dVar 0) (dC (.int 2))) (dC (.int 1)))) (dB (dOp gtD (dOp ixD (dVar 0) (dC (.int 0))) (dC (.int 0))))))
  (dSeq (dAsg (dOp modD (dBlt intD (daCons (dOp ixD (dVar 0) (dC (.int 0))) daNil)) (dVar 1)) (gN 2))
  (dSeq (dAsg (dOp fdivD (dOp ixD (dVar 0) (dC (.int 0))) (dVar 1)) (gIx (dVar 0) (dC (.int 0))))
  (dRet (dVar 2))))
  dNext)
  (dSeq (dAsg (dC (.int 0)) (gIx (dVar 0) (dC (.int 2))))
  (dSeq (dAsg (dOp modD (dBlt intD (daCons (dOp addD (dOp addD (dOp mulD (dOp ixD (dVar 0) (dC (.int 0))) (dC (.int 48271))) (dOp mulD (dOp ixD (dVar 0) (dC (.int 1))) (dC (.int 69621)))) (dC (.int 11))) daNil)) (dC (.int 2147483647))) (gIx (dVar 0) (dC (.int 0))))
  (dSeq (dAsg (dOp addD (dOp ixD (dVar 0) (dC (.int 1))) (dC (.int 1))) (gIx (dVar 0) (dC (.int 1))))
  (dRet (dOp modD (dBlt intD (daCons (dOp addD (dOp fdivD (dOp ixD (dVar 0) (dC (.int 0))) (dC (.int 7))) (dOp ixD (dVar 0) (dC (.int 0)))) daNil)) (dVar 1)))))))
def M__law_roll : DF := runD 3 f__law_roll
/-- _law_left: slots 0 sum_there, 1 hundredths, 2 pay, 3 many, 4 left, 5 k -/
def f__law_left : DS :=
  (dSeq (dAsg (dVar 0) (gN 4))
  (dSeq (dFor (diRange1 (dVar 3)) (gN 5)
  (dIfS (dB (dOp gtD (dVar 4) (dC (.int 0))))
  (dAsg (dOp subD (dOp addD (dVar 4) (dOp fdivD (dOp addD (dOp mulD (dOp mulD (dC (.int 2)) (dVar 4)) (dVar 1)) (dC (.int 100))) (dC (.int 200)))) (dVar 2)) (gN 4))
  dNext))
  (dRet (dVar 4))))
def M__law_left : DF := runD 6 f__law_left
/-- in_parts: slots 0 sum_there, 1 rate, 2 many, 3 left, 4 found, 5 k, 6 off, 7 much -/
def f_in_parts (M_interest : DF) (M_check_loan : DF) : DS :=
  (dSeq (dDrop (dCall 3 M_check_loan (daCons (dVar 0) (daCons (dVar 1) (daCons (dVar 2) daNil)))))
  (dSeq (dPar2 3 4 (daCons (dVar 0) (daCons (dLst daNil) daNil)))
  (dSeq (dFor (diRange1 (dVar 2)) (gN 5)
  (dSeq (dAsg (dOp addD (dOp fdivD (dVar 0) (dVar 2)) (dBlt intD (daCons (dOp ltD (dVar 5) (dOp modD (dVar 0) (dVar 2))) daNil))) (gN 6))
  (dSeq (dAsg (dCall 2 M_interest (daCons (dVar 3) (daCons (dVar 1) daNil))) (gN 7))
  (dSeq (dAug 3 isubD (dVar 6))
  (dDrop (dApp (dVar 4) (dTup (daCons (dVar 7) (daCons (dVar 6) (daCons (dOp addD (dVar 6) (dVar 7)) (daCons (dVar 3) daNil)))))))))))
  (dRet (dBlt tupleD (daCons (dVar 4) daNil))))))
def M_in_parts : DF := runD 8 (f_in_parts M_interest M_check_loan)
/-- all_at_end: slots 0 sum_there, 1 rate, 2 many, 3 much, 4 rows -/
def f_all_at_end (M_interest : DF) (M_check_loan : DF) : DS :=
  (dSeq (dDrop (dCall 3 M_check_loan (daCons (dVar 0) (daCons (dVar 1) (daCons (dVar 2) daNil)))))
  (dSeq (dAsg (dCall 2 M_interest (daCons (dVar 0) (daCons (dVar 1) daNil))) (gN 3))
  (dSeq (dAsg (dOp mulD2 (dLst (daCons (dTup (daCons (dVar 3) (daCons (dC (.int 0)) (daCons (dVar 3) (daCons (dVar 0) daNil))))) daNil)) (dOp subD (dVar 2) (dC (.int 1)))) (gN 4))
  (dRet (dOp addD (dBlt tupleD (daCons (dVar 4) daNil)) (dTup (daCons (dTup (daCons (dVar 3) (daCons (dVar 0) (daCons (dOp addD (dVar 0) (dVar 3)) (daCons (dC (.int 0)) daNil))))) daNil)))))))
def M_all_at_end : DF := runD 5 (f_all_at_end M_interest M_check_loan)
/-- paid_ahead: slots 0 rows, 1 sum_there, 2 rate, 3 k, 4 extra, 5 much, 6 off, 7 pay, 8 left, 9 found, 10 usual, 11 more, 12 mine, 13 row -/
def f_paid_ahead (M_interest : DF) : DS :=
  (dSeq (dIfS (dOrT (dNotT (dB (dChain leD ltD (dC (.int 0)) (dVar 3) (dBlt lenD (daCons (dVar 0) daNil))))) (dB (dOp ltD (dVar 4) (dC (.int 0)))))
  (dRaise "BadRule")
  dNext)
  (dSeq (dIfS (dB (dOp gtD (dVar 4) (dOp ixD (dOp ixD (dVar 0) (dVar 3)) (dC (.int 3)))))
  (dRaiseI "Short" (dOp subD (dVar 4) (dOp ixD (dOp ixD (dVar 0) (dVar 3)) (dC (.int 3)))))
  dNext)
  (dSeq (dAsg (dOp ixD (dVar 0) (dVar 3)) (gT 4 (gsCons (gN 5) (gsCons (gN 6) (gsCons (gN 7) (gsCons (gN 8) gsNil))))))
  (dSeq (dAsg (dOp addD (dBlt listD (daCons (dSl (dVar 0) dpNone (dpSome (dVar 3))) daNil)) (dLst (daCons (dTup (daCons (dVar 5) (daCons (dOp addD (dVar 6) (dVar 4)) (daCons (dOp addD (dVar 7) (dVar 4)) (daCons (dOp subD (dVar 8) (dVar 4)) daNil))))) daNil))) (gN 9))
  (dSeq (dAug 8 isubD (dVar 4))
  (dSeq (dAsg (dBlt maxD2 (daCons (dLc (diSeq (dVar 0)) (gN 13) dYes (dOp ixD (dVar 13) (dC (.int 2))) [13]) daNil)) (gN 10))
  (dSeq (whileD (dB (dOp gtD (dVar 8) (dC (.int 0)))) (dSeq (dAsg (dCall 2 M_interest (daCons (dVar 8) (daCons (dVar 2) daNil))) (gN 11))
  (dSeq (dIfS (dB (dOp geD (dVar 11) (dVar 10)))
  (dRaise "NoAnswer")
  dNext)
  (dSeq (dAsg (dBlt minD (daCons (dVar 10) (daCons (dOp addD (dVar 8) (dVar 11)) daNil))) (gN 12))
  (dSeq (dDrop (dApp (dVar 9) (dTup (daCons (dVar 11) (daCons (dOp subD (dVar 12) (dVar 11)) (daCons (dVar 12) (daCons (dOp subD (dOp addD (dVar 8) (dVar 11)) (dVar 12)) daNil)))))))
  (dAug 8 iaddD (dOp subD (dVar 11) (dVar 12))))))) fuel)
  (dRet (dBlt tupleD (daCons (dVar 9) daNil))))))))))
def M_paid_ahead : DF := runD 14 (f_paid_ahead M_interest)
/-- look_plan: slots 0 sum_there, 1 rate, 2 rows, 3 left, 4 k, 5 much, 6 off, 7 pay, 8 after -/
def f_look_plan (M_interest : DF) : DS :=
  (dSeq (dAsg (dVar 0) (gN 3))
  (dSeq (dFor (diEnum (dVar 2)) (gT 2 (gsCons (gN 4) (gsCons (gT 4 (gsCons (gN 5) (gsCons (gN 6) (gsCons (gN 7) (gsCons (gN 8) gsNil))))) gsNil)))
  (dSeq (dIfS (dOrT (dB (dOp neD (dVar 5) (dCall 2 M_interest (daCons (dVar 3) (daCons (dVar 1) daNil))))) (dOrT (dB (dOp neD (dOp addD (dVar 6) (dVar 5)) (dVar 7))) (dB (dOp neD (dVar 8) (dOp subD (dVar 3) (dVar 6))))))
  (dRet (dVar 4))
  dNext)
  (dAsg (dVar 8) (gN 3))))
  (dRet (dIf (dB (dOp eqD (dVar 3) (dC (.int 0)))) (dC .non) (dBlt lenD (daCons (dVar 2) daNil))))))
def M_look_plan : DF := runD 9 (f_look_plan M_interest)
/-- _law_ahead: slots 0 dice, 1 whole, 2 rate, 3 rows, 4 many, 5 k, 6 extra, 7 ahead, 8 row -/
def f__law_ahead (M_look_plan : DF) (M_paid_ahead : DF) (M__law_roll : DF) : DS :=
  (dSeq (dAsg (dCall 2 M__law_roll (daCons (dVar 0) (daCons (dVar 4) daNil))) (gN 5))
  (dSeq (dAsg (dCall 2 M__law_roll (daCons (dVar 0) (daCons (dOp addD (dOp ixD (dOp ixD (dVar 3) (dVar 5)) (dC (.int 3))) (dC (.int 1))) daNil))) (gN 6))
  (dSeq (dAsg (dCall 5 M_paid_ahead (daCons (dVar 3) (daCons (dVar 1) (daCons (dVar 2) (daCons (dVar 5) (daCons (dVar 6) daNil)))))) (gN 7))
  (dSeq (dIfS (dB (dOp notND (dCall 3 M_look_plan (daCons (dVar 1) (daCons (dVar 2) (daCons (dVar 7) daNil)))) (dC .non)))
  (dRet (dC (.bl false)))
  dNext)
  (dSeq (dIfS (dOrT (dB (dOp gtD (dBlt sumLD (daCons (dLc (diSeq (dVar 7)) (gN 8) dYes (dOp ixD (dVar 8) (dC (.int 0))) [8]) daNil)) (dBlt sumLD (daCons (dLc (diSeq (dVar 3)) (gN 8) dYes (dOp ixD (dVar 8) (dC (.int 0))) [8]) daNil)))) (dB (dOp gtD (dBlt lenD (daCons (dVar 7) daNil)) (dBlt lenD (daCons (dVar 3) daNil)))))
  (dRet (dC (.bl false)))
  dNext)
  (dRet (dC (.bl true))))))))
def M__law_ahead : DF := runD 9 (f__law_ahead M_look_plan M_paid_ahead M__law_roll)
/-- order: slots 0 a, 1 b, 2 gap -/
def f_order : DS :=
  (dSeq (dAsg (dOp subD (dOp mulD (dOp ixD (dVar 0) (dC (.int 0))) (dOp ixD (dVar 1) (dC (.int 1)))) (dOp mulD (dOp ixD (dVar 1) (dC (.int 0))) (dOp ixD (dVar 0) (dC (.int 1))))) (gN 2))
  (dRet (dOp subD (dOp gtD (dVar 2) (dC (.int 0))) (dOp ltD (dVar 2) (dC (.int 0))))))
def M_order : DF := runD 3 f_order
/-- add: slots 0 a, 1 b -/
def f_add (M_part : DF) : DS :=
  (dRet (dCall 2 M_part (daCons (dOp addD (dOp mulD (dOp ixD (dVar 0) (dC (.int 0))) (dOp ixD (dVar 1) (dC (.int 1)))) (dOp mulD (dOp ixD (dVar 1) (dC (.int 0))) (dOp ixD (dVar 0) (dC (.int 1))))) (daCons (dOp mulD (dOp ixD (dVar 0) (dC (.int 1))) (dOp ixD (dVar 1) (dC (.int 1)))) daNil))))
def M_add : DF := runD 2 (f_add M_part)
/-- over: slots 0 a, 1 b -/
def f_over (M_part : DF) : DS :=
  (dRet (dCall 2 M_part (daCons (dOp mulD (dOp ixD (dVar 0) (dC (.int 0))) (dOp ixD (dVar 1) (dC (.int 1)))) (daCons (dOp mulD (dOp ixD (dVar 0) (dC (.int 1))) (dOp ixD (dVar 1) (dC (.int 0)))) daNil))))
def M_over : DF := runD 2 (f_over M_part)
/-- worth_now: slots 0 pays, 1 rate, 2 found, 3 one, 4 below, 5 pay -/
def f_worth_now (M_times : DF) (M_add : DF) (M_over : DF) : DS :=
  (dSeq (dAsg (dTup (daCons (dTup (daCons (dC (.int 0)) (daCons (dC (.int 1)) daNil))) (daCons (dTup (daCons (dC (.int 1)) (daCons (dC (.int 1)) daNil))) daNil))) (gT 2 (gsCons (gN 2) (gsCons (gN 3) gsNil))))
  (dSeq (dAsg (dCall 2 M_add (daCons (dTup (daCons (dC (.int 1)) (daCons (dC (.int 1)) daNil))) (daCons (dVar 1) daNil))) (gN 4))
  (dSeq (dFor (diSeq (dVar 0)) (gN 5)
  (dSeq (dAsg (dCall 2 M_over (daCons (dVar 3) (daCons (dVar 4) daNil))) (gN 3))
  (dAsg (dCall 2 M_add (daCons (dVar 2) (daCons (dCall 2 M_times (daCons (dTup (daCons (dVar 5) (daCons (dC (.int 1)) daNil))) (daCons (dVar 3) daNil))) daNil))) (gN 2))))
  (dRet (dVar 2)))))
def M_worth_now : DF := runD 6 (f_worth_now M_times M_add M_over)
/-- rate_of: slots 0 sum_there, 1 pays, 2 fine, 3 low, 4 high, 5 middle, 6 pay -/
def f_rate_of (M_part : DF) (M_worth_now : DF) (M_order : DF) : DS :=
  (dSeq (dIfS (dOrT (dB (dOp ltD (dVar 2) (dC (.int 1)))) (dOrT (dB (dOp ltD (dVar 0) (dC (.int 1)))) (dOrT (dB (dAnyG (dVar 1) (g2 (cmpG fun i j => decide (i < j)) (fun d _ => some d) (fun _ _ => some (.int 0))))) (dB (dOp ltD (dBlt sumLD (daCons (dVar 1) daNil)) (dVar 0))))))
  (dRaise "NoAnswer")
  dNext)
  (dSeq (dPar2 3 4 (daCons (dC (.int 0)) (daCons (dVar 2) daNil)))
  (dSeq (whileD (dB (dOp gtD (dCall 2 M_order (daCons (dCall 2 M_worth_now (daCons (dVar 1) (daCons (dCall 2 M_part (daCons (dVar 4) (daCons (dVar 2) daNil))) daNil))) (daCons (dTup (daCons (dVar 0) (daCons (dC (.int 1)) daNil))) daNil))) (dC (.int 0)))) (dSeq (dAug 4 imulD (dC (.int 2)))
  (dIfS (dB (dOp gtD (dVar 4) (dOp mulD (dC (.int 1000)) (dVar 2))))
  (dRaise "NoAnswer")
  dNext)) fuel)
  (dSeq (whileD (dB (dOp gtD (dOp subD (dVar 4) (dVar 3)) (dC (.int 1)))) (dSeq (dAsg (dOp fdivD (dOp addD (dVar 3) (dVar 4)) (dC (.int 2))) (gN 5))
  (dIfS (dB (dOp geD (dCall 2 M_order (daCons (dCall 2 M_worth_now (daCons (dVar 1) (daCons (dCall 2 M_part (daCons (dVar 5) (daCons (dVar 2) daNil))) daNil))) (daCons (dTup (daCons (dVar 0) (daCons (dC (.int 1)) daNil))) daNil))) (dC (.int 0))))
  (dAsg (dVar 5) (gN 3))
  (dAsg (dVar 5) (gN 4)))) fuel)
  (dRet (dTup (daCons (dCall 2 M_part (daCons (dVar 3) (daCons (dVar 2) daNil))) (daCons (dCall 2 M_part (daCons (dVar 4) (daCons (dVar 2) daNil))) daNil))))))))
def M_rate_of : DF := runD 7 (f_rate_of M_part M_worth_now M_order)
/-- _law_least: slots 0 top, 1 bottom, 2 a, 3 b -/
def f__law_least : DS :=
  (dSeq (dPar2 2 3 (daCons (dBlt absD (daCons (dVar 0) daNil)) (daCons (dVar 1) daNil)))
  (dSeq (whileD (dB (dOp neD (dVar 3) (dC (.int 0)))) (dPar2 2 3 (daCons (dVar 3) (daCons (dOp modD (dVar 2) (dVar 3)) daNil))) fuel)
  (dSeq (dAsg (dBlt maxD (daCons (dVar 2) (daCons (dC (.int 1)) daNil))) (gN 2))
  (dRet (dTup (daCons (dOp fdivD (dVar 0) (dVar 2)) (daCons (dOp fdivD (dVar 1) (dVar 2)) daNil)))))))
def M__law_least : DF := runD 4 f__law_least
/-- _law_worth: slots 0 pays, 1 hundredths, 2 top, 3 bottom, 4 pay -/
def f__law_worth (M__law_least : DF) : DS :=
  (dSeq (dAsg (dTup (daCons (dC (.int 0)) (daCons (dC (.int 1)) daNil))) (gT 2 (gsCons (gN 2) (gsCons (gN 3) gsNil))))
  (dSeq (dFor (diRevS (dVar 0)) (gN 4)
  (dPar2 2 3 (daCons (dOp mulD (dOp addD (dVar 2) (dOp mulD (dVar 4) (dVar 3))) (dC (.int 100))) (daCons (dOp mulD (dVar 3) (dOp addD (dC (.int 100)) (dVar 1))) daNil))))
  (dRet (dCall 2 M__law_least (daCons (dVar 2) (daCons (dVar 3) daNil))))))
def M__law_worth : DF := runD 5 (f__law_worth M__law_least)
/-- grown: slots 0 sum_there, 1 rate, 2 many, 3 found, 4 k -/
def f_grown (M_add : DF) (M_times : DF) : DS :=
  (dSeq (dAsg (dTup (daCons (dVar 0) (daCons (dC (.int 1)) daNil))) (gN 3))
  (dSeq (dFor (diRange1 (dVar 2)) (gN 4)
  (dAsg (dCall 2 M_times (daCons (dVar 3) (daCons (dCall 2 M_add (daCons (dTup (daCons (dC (.int 1)) (daCons (dC (.int 1)) daNil))) (daCons (dVar 1) daNil))) daNil))) (gN 3)))
  (dRet (dVar 3))))
def M_grown : DF := runD 5 (f_grown M_add M_times)
/-- year_rate: slots 0 rate, 1 many, 2 found, 3 k -/
def f_year_rate (M_add : DF) (M_times : DF) : DS :=
  (dSeq (dAsg (dTup (daCons (dC (.int 1)) (daCons (dC (.int 1)) daNil))) (gN 2))
  (dSeq (dFor (diRange1 (dVar 1)) (gN 3)
  (dAsg (dCall 2 M_times (daCons (dVar 2) (daCons (dCall 2 M_add (daCons (dTup (daCons (dC (.int 1)) (daCons (dC (.int 1)) daNil))) (daCons (dVar 0) daNil))) daNil))) (gN 2)))
  (dRet (dCall 2 M_add (daCons (dVar 2) (daCons (dTup (daCons (dUn negD (dC (.int 1))) (daCons (dC (.int 1)) daNil))) daNil))))))
def M_year_rate : DF := runD 4 (f_year_rate M_add M_times)
/-- day_interest: slots 0 sum_there, 1 rate, 2 days, 3 year_days -/
def f_day_interest (M_part : DF) (M_times : DF) (M_rounded : DF) : DS :=
  (dSeq (dIfS (dOrT (dB (dOp ltD (dVar 2) (dC (.int 0)))) (dB (dOp ltD (dVar 3) (dC (.int 1)))))
  (dRaise "BadRule")
  dNext)
  (dRet (dCall 2 M_rounded (daCons (dCall 2 M_times (daCons (dCall 2 M_times (daCons (dTup (daCons (dVar 0) (daCons (dC (.int 1)) daNil))) (daCons (dVar 1) daNil))) (daCons (dCall 2 M_part (daCons (dVar 2) (daCons (dVar 3) daNil))) daNil))) (daCons (dC (.str "half up")) daNil)))))
def M_day_interest : DF := runD 4 (f_day_interest M_part M_times M_rounded)
/-- _law_worths: slots 0 whole, 1 hundredths, 2 rate, 3 rows, 4 pays, 5 low, 6 high, 7 top, 8 bottom, 9 turn, 10 row -/
def f__law_worths (M_day_interest : DF) (M_year_rate : DF) (M__law_least : DF) (M_grown : DF) (M_worth_now : DF) (M_order : DF) (M_rate_of : DF) (M__law_worth : DF) : DS :=
  (dSeq (dAsg (dLc (diSeq (dVar 3)) (gN 10) dYes (dOp ixD (dVar 10) (dC (.int 2))) [10]) (gN 4))
  (dSeq (dIfS (dB (dOp neD (dCall 2 M_worth_now (daCons (dVar 4) (daCons (dVar 2) daNil))) (dCall 2 M__law_worth (daCons (dVar 4) (daCons (dVar 1) daNil)))))
  (dRet (dC (.bl false)))
  dNext)
  (dSeq (dAsg (dCall 3 M_rate_of (daCons (dVar 0) (daCons (dVar 4) (daCons (dC (.int 200)) daNil)))) (gT 2 (gsCons (gN 5) (gsCons (gN 6) gsNil))))
  (dSeq (dIfS (dOrT (dB (dOp ltD (dCall 2 M_order (daCons (dCall 2 M_worth_now (daCons (dVar 4) (daCons (dVar 5) daNil))) (daCons (dTup (daCons (dVar 0) (daCons (dC (.int 1)) daNil))) daNil))) (dC (.int 0)))) (dB (dOp gtD (dCall 2 M_order (daCons (dCall 2 M_worth_now (daCons (dVar 4) (daCons (dVar 6) daNil))) (daCons (dTup (daCons (dVar 0) (daCons (dC (.int 1)) daNil))) daNil))) (dC (.int 0)))))
  (dRet (dC (.bl false)))
  dNext)
  (dSeq (dIfS (dB (dOp leD (dOp subD (dOp mulD (dOp ixD (dVar 6) (dC (.int 0))) (dOp ixD (dVar 5) (dC (.int 1)))) (dOp mulD (dOp ixD (dVar 5) (dC (.int 0))) (dOp ixD (dVar 6) (dC (.int 1))))) (dC (.int 0))))
  (dRet (dC (.bl false)))
  dNext)
  (dSeq (dPar2 7 8 (daCons (dVar 0) (daCons (dC (.int 1)) daNil)))
  (dSeq (dFor (diRange1 (dC (.int 3))) (gN 9)
  (dPar2 7 8 (daCons (dOp mulD (dVar 7) (dOp addD (dC (.int 100)) (dVar 1))) (daCons (dOp mulD (dVar 8) (dC (.int 100))) daNil))))
  (dSeq (dIfS (dB (dOp neD (dCall 3 M_grown (daCons (dVar 0) (daCons (dVar 2) (daCons (dC (.int 3)) daNil)))) (dCall 2 M__law_least (daCons (dVar 7) (daCons (dVar 8) daNil)))))
  (dRet (dC (.bl false)))
  dNext)
  (dSeq (dIfS (dB (dOp neD (dCall 2 M_year_rate (daCons (dVar 2) (daCons (dC (.int 2)) daNil))) (dCall 2 M__law_least (daCons (dOp addD (dOp mulD (dOp mulD (dC (.int 2)) (dVar 1)) (dC (.int 100))) (dOp mulD (dVar 1) (dVar 1))) (daCons (dC (.int 10000)) daNil)))))
  (dRet (dC (.bl false)))
  dNext)
  (dSeq (dIfS (dB (dOp neD (dCall 4 M_day_interest (daCons (dVar 0) (daCons (dVar 2) (daCons (dC (.int 0)) (daCons (dC (.int 360)) daNil))))) (dC (.int 0))))
  (dRet (dC (.bl false)))
  dNext)
  (dRet (dC (.bl true)))))))))))))
def M__law_worths : DF := runD 11 (f__law_worths M_day_interest M_year_rate M__law_least M_grown M_worth_now M_order M_rate_of M__law_worth)
/-- cheapest: slots 0 offers, 1 sum_there, 2 rows, 3 k, 4 rate, 5 many, 6 price, 7 row -/
def f_cheapest (M_plan : DF) : DS :=
  (dSeq (dAsg (dLst daNil) (gN 2))
  (dSeq (dFor (diEnum (dVar 0)) (gT 2 (gsCons (gN 3) (gsCons (gT 3 (gsCons (gN 4) (gsCons (gN 5) (gsCons (gN 6) gsNil)))) gsNil)))
  (dDrop (dApp (dVar 2) (dTup (daCons (dOp addD (dVar 6) (dSumG (dCall 3 M_plan (daCons (dVar 1) (daCons (dVar 4) (daCons (dVar 5) daNil)))) (g2 ixG (fun d _ => some d) (fun _ _ => some (.int 2))))) (daCons (dVar 3) daNil))))))
  (dRet (dOp ixD (dBlt minD3 (daCons (dVar 2) daNil)) (dC (.int 1))))))
def M_cheapest : DF := runD 8 (f_cheapest M_plan)
/-- _law_offers: slots 0 dice, 1 whole, 2 offers, 3 costs, 4 j, 5 one, 6 times_there, 7 price, 8 row -/
def f__law_offers (M_cheapest : DF) (M_plan : DF) (M__law_roll : DF) (M_part : DF) : DS :=
  (dSeq (dAsg (dLc (diRange1 (dC (.int 3))) (gN 4) dYes (dTup (daCons (dCall 2 M_part (daCons (dCall 2 M__law_roll (daCons (dVar 0) (daCons (dC (.int 10)) daNil))) (daCons (dC (.int 100)) daNil))) (daCons (dOp addD (dC (.int 1)) (dCall 2 M__law_roll (daCons (dVar 0) (daCons (dC (.int 4)) daNil)))) (daCons (dCall 2 M__law_roll (daCons (dVar 0) (daCons (dC (.int 20)) daNil))) daNil)))) [4]) (gN 2))
  (dSeq (dAsg (dLc (diSeq (dVar 2)) (gT 3 (gsCons (gN 5) (gsCons (gN 6) (gsCons (gN 7) gsNil)))) dYes (dOp addD (dVar 7) (dBlt sumLD (daCons (dLc (diSeq (dCall 3 M_plan (daCons (dVar 1) (daCons (dVar 5) (daCons (dVar 6) daNil))))) (gN 8) dYes (dOp ixD (dVar 8) (dC (.int 2))) [8]) daNil))) [5, 6, 7]) (gN 3))
  (dSeq (dIfS (dB (dOp neD (dCall 2 M_cheapest (daCons (dVar 2) (daCons (dVar 1) daNil))) (dIndex (dVar 3) (dBlt minD3 (daCons (dVar 3) daNil)))))
  (dRet (dC (.bl false)))
  dNext)
  (dRet (dC (.bl true))))))
def M__law_offers : DF := runD 9 (f__law_offers M_cheapest M_plan M__law_roll M_part)
/-- times_till: slots 0 goal, 1 start, 2 pay, 3 rate, 4 most, 5 left, 6 k -/
def f_times_till (M_interest : DF) : DS :=
  (dSeq (dAsg (dVar 1) (gN 5))
  (dSeq (dFor (diRange1 (dOp addD (dVar 4) (dC (.int 1)))) (gN 6)
  (dSeq (dIfS (dB (dOp geD (dVar 5) (dVar 0)))
  (dRet (dVar 6))
  dNext)
  (dAug 5 iaddD (dOp addD (dCall 2 M_interest (daCons (dVar 5) (daCons (dVar 3) daNil))) (dVar 2)))))
  (dRaise "NoAnswer")))
def M_times_till : DF := runD 7 (f_times_till M_interest)
/-- _law_laid: slots 0 dice, 1 hundredths, 2 rate, 3 goal, 4 laid, 5 count, 6 there, 7 turn -/
def f__law_laid (M_times_till : DF) (M__law_roll : DF) : DS :=
  (dSeq (dPar2 3 4 (daCons (dOp addD (dC (.int 100)) (dCall 2 M__law_roll (daCons (dVar 0) (daCons (dC (.int 100)) daNil)))) (daCons (dOp addD (dC (.int 5)) (dCall 2 M__law_roll (daCons (dVar 0) (daCons (dC (.int 9)) daNil)))) daNil)))
  (dSeq (dAsg (dCall 5 M_times_till (daCons (dVar 3) (daCons (dC (.int 0)) (daCons (dVar 4) (daCons (dVar 2) (daCons (dC (.int 99)) daNil)))))) (gN 5))
  (dSeq (dAsg (dLst (daCons (dC (.int 0)) daNil)) (gN 6))
  (dSeq (dFor (diRange1 (dVar 5)) (gN 7)
  (dDrop (dApp (dVar 6) (dOp addD (dOp addD (dOp ixD (dVar 6) (dVar 7)) (dOp fdivD (dOp addD (dOp mulD (dOp mulD (dC (.int 2)) (dOp ixD (dVar 6) (dVar 7))) (dVar 1)) (dC (.int 100))) (dC (.int 200)))) (dVar 4)))))
  (dSeq (dIfS (dOrT (dB (dOp ltD (dOp ixD (dVar 6) (dVar 5)) (dVar 3))) (dAndT (dB (dOp gtD (dVar 5) (dC (.int 0)))) (dB (dOp geD (dOp ixD (dVar 6) (dOp subD (dVar 5) (dC (.int 1)))) (dVar 3)))))
  (dRet (dC (.bl false)))
  dNext)
  (dRet (dC (.bl true))))))))
def M__law_laid : DF := runD 8 (f__law_laid M_times_till M__law_roll)
/-- law: slots 0 script, 1 dice, 2 whole, 3 hundredths, 4 many, 5 rate, 6 pay, 7 rows, 8 one, 9 row -/
def f_law (M__law_rounds : DF) (M_times_till : DF) (M_rate_of : DF) (M_paid_ahead : DF) (M_even_pay : DF) (M__law_laid : DF) (M__law_offers : DF) (M__law_worths : DF) (M__law_ahead : DF) (M_look_plan : DF) (M_interest : DF) (M_all_at_end : DF) (M_in_parts : DF) (M_plan : DF) (M_left_behind : DF) (M__law_left : DF) (M_part : DF) (M__law_roll : DF) : DS :=
  (dSeq (dFor (diSeq (dCall 2 M__law_rounds (daCons (dVar 0) (daCons (dC (.int 3)) daNil)))) (gN 1)
  (dSeq (dAsg (dTup (daCons (dOp addD (dC (.int 1)) (dCall 2 M__law_roll (daCons (dVar 1) (daCons (dC (.int 500)) daNil)))) (daCons (dCall 2 M__law_roll (daCons (dVar 1) (daCons (dC (.int 10)) daNil))) (daCons (dOp addD (dC (.int 1)) (dCall 2 M__law_roll (daCons (dVar 1) (daCons (dC (.int 6)) daNil)))) daNil)))) (gT 3 (gsCons (gN 2) (gsCons (gN 3) (gsCons (gN 4) gsNil)))))
  (dSeq (dAsg (dCall 2 M_part (daCons (dVar 3) (daCons (dC (.int 100)) daNil))) (gN 5))
  (dSeq (dAsg (dCall 3 M_even_pay (daCons (dVar 2) (daCons (dVar 5) (daCons (dVar 4) daNil)))) (gN 6))
  (dSeq (dIfS (dB (dOp gtD (dCall 4 M__law_left (daCons (dVar 2) (daCons (dVar 3) (daCons (dVar 6) (daCons (dVar 4) daNil))))) (dC (.int 0))))
  (dRet (dC (.bl false)))
  dNext)
  (dSeq (dIfS (dAndT (dB (dOp gtD (dVar 6) (dC (.int 0)))) (dB (dOp leD (dCall 4 M__law_left (daCons (dVar 2) (daCons (dVar 3) (daCons (dOp subD (dVar 6) (dC (.int 1))) (daCons (dVar 4) daNil))))) (dC (.int 0)))))
  (dRet (dC (.bl false)))
  dNext)
  (dSeq (dIfS (dB (dOp neD (dCall 4 M_left_behind (daCons (dVar 2) (daCons (dVar 5) (daCons (dVar 6) (daCons (dVar 4) daNil))))) (dCall 4 M__law_left (daCons (dVar 2) (daCons (dVar 3) (daCons (dVar 6) (daCons (dVar 4) daNil)))))))
  (dRet (dC (.bl false)))
  dNext)
  (dSeq (dAsg (dCall 3 M_plan (daCons (dVar 2) (daCons (dVar 5) (daCons (dVar 4) daNil)))) (gN 7))
  (dSeq (dFor (diSeq (dLst (daCons (dVar 7) (daCons (dCall 3 M_in_parts (daCons (dVar 2) (daCons (dVar 5) (daCons (dVar 4) daNil)))) (daCons (dCall 3 M_all_at_end (daCons (dVar 2) (daCons (dVar 5) (daCons (dVar 4) daNil)))) daNil))))) (gN 8)
  (dSeq (dIfS (dOrT (dB (dOp notND (dCall 3 M_look_plan (daCons (dVar 2) (daCons (dVar 5) (daCons (dVar 8) daNil)))) (dC .non))) (dB (dOp neD (dBlt sumLD (daCons (dLc (diSeq (dVar 8)) (gN 9) dYes (dOp ixD (dVar 9) (dC (.int 1))) [9]) daNil)) (dVar 2))))
  (dRet (dC (.bl false)))
  dNext)
  (dSeq (dIfS (dB (dOp neD (dBlt sumLD (daCons (dLc (diSeq (dVar 8)) (gN 9) dYes (dOp ixD (dVar 9) (dC (.int 2))) [9]) daNil)) (dOp addD (dVar 2) (dBlt sumLD (daCons (dLc (diSeq (dVar 8)) (gN 9) dYes (dOp ixD (dVar 9) (dC (.int 0))) [9]) daNil)))))
  (dRet (dC (.bl false)))
  dNext)
  (dIfS (dOrT (dB (dOp neD (dOp ixD (dOp ixD (dVar 8) (dOp subD (dBlt lenD (daCons (dVar 8) daNil)) (dC (.int 1)))) (dC (.int 3))) (dC (.int 0)))) (dB (dOp neD (dBlt lenD (daCons (dVar 8) daNil)) (dVar 4))))
  (dRet (dC (.bl false)))
  dNext))))
  (dSeq (dIfS (dOrT (dB (dOp neD (dLc (diSeq (dVar 7)) (gN 9) (dB (dOp gtD (dOp ixD (dVar 9) (dC (.int 2))) (dVar 6))) (dVar 9) [9]) (dLst daNil))) (dB (dOp neD (dOp ixD (dOp ixD (dVar 7) (dC (.int 0))) (dC (.int 0))) (dCall 2 M_interest (daCons (dVar 2) (daCons (dVar 5) daNil))))))
  (dRet (dC (.bl false)))
  dNext)
  (dSeq (dIfS (dAndT (dB (dOp isND (dCall 3 M_look_plan (daCons (dOp addD (dVar 2) (dC (.int 1))) (daCons (dVar 5) (daCons (dVar 7) daNil)))) (dC .non))) (dB (dOp gtD (dVar 3) (dC (.int 0)))))
  (dRet (dC (.bl false)))
  dNext)
  (dSeq (dIfS (dNotT (dB (dCall 5 M__law_ahead (daCons (dVar 1) (daCons (dVar 2) (daCons (dVar 5) (daCons (dVar 7) (daCons (dVar 4) daNil))))))))
  (dRet (dC (.bl false)))
  dNext)
  (dSeq (dIfS (dNotT (dB (dCall 4 M__law_worths (daCons (dVar 2) (daCons (dVar 3) (daCons (dVar 5) (daCons (dVar 7) daNil)))))))
  (dRet (dC (.bl false)))
  dNext)
  (dSeq (dIfS (dNotT (dB (dCall 2 M__law_offers (daCons (dVar 1) (daCons (dVar 2) daNil)))))
  (dRet (dC (.bl false)))
  dNext)
  (dSeq (dIfS (dNotT (dB (dCall 3 M__law_laid (daCons (dVar 1) (daCons (dVar 3) (daCons (dVar 5) daNil))))))
  (dRet (dC (.bl false)))
  dNext)
  (dSeq (dIfS (dB (dOp neD (dTold raisable tellers (dCall 3 M_even_pay (daCons (dC (.int 5)) (daCons (dTup (daCons (dOp subD (dC (.int 0)) (dC (.int 1))) (daCons (dC (.int 2)) daNil))) (daCons (dC (.int 1)) daNil))))) (dC (.str "rule"))))
  (dRet (dC (.bl false)))
  dNext)
  (dSeq (dIfS (dB (dOp neD (dTold raisable tellers (dCall 5 M_paid_ahead (daCons (dVar 7) (daCons (dVar 2) (daCons (dVar 5) (daCons (dOp subD (dVar 4) (dC (.int 1))) (daCons (dC (.int 1)) daNil))))))) (dC (.str "short"))))
  (dRet (dC (.bl false)))
  dNext)
  (dSeq (dIfS (dB (dOp neD (dTold raisable tellers (dCall 3 M_rate_of (daCons (dC (.int 50)) (daCons (dLst (daCons (dC (.int 10)) daNil)) (daCons (dC (.int 100)) daNil))))) (dC (.str "no answer"))))
  (dRet (dC (.bl false)))
  dNext)
  (dIfS (dB (dOp neD (dTold raisable tellers (dCall 5 M_times_till (daCons (dC (.int 9)) (daCons (dC (.int 0)) (daCons (dC (.int 0)) (daCons (dVar 5) (daCons (dC (.int 5)) daNil))))))) (dC (.str "no answer"))))
  (dRet (dC (.bl false)))
  dNext)))))))))))))))))))
  (dRet (dC (.bl true))))
def M_law : DF := runD 10 (f_law M__law_rounds M_times_till M_rate_of M_paid_ahead M_even_pay M__law_laid M__law_offers M__law_worths M__law_ahead M_look_plan M_interest M_all_at_end M_in_parts M_plan M_left_behind M__law_left M_part M__law_roll)
end Pr
set_option Elab.async false
set_option linter.all false
set_option maxRecDepth 100000
set_option maxHeartbeats 4000000
namespace Pr
open PySem PySem.Spec PyProof.Rows L2 DL
def GK (K : PySem.W.Frag) : Gx := ⟨fun c => He.ga K (Str.ofString c), [((He.cT K ("rate_of", none)).2, (("rate_of" : Str) ++ (".<locals>." : Str)) ++ ("<genexpr>" : Str)), ((He.cT K ("cheapest", none)).2, (("cheapest" : Str) ++ (".<locals>." : Str)) ++ ("<genexpr>" : Str)), ((He.cT K ("law", none)).2, (("law" : Str) ++ (".<locals>." : Str)) ++ ("<lambda>" : Str))]⟩
theorem code_is {K : PySem.W.Frag} {p : Str × Option Str} {cdv : Value} {qual : Str} (hl : ∃ (oc : Value) (od : Option Addr) (osl : Array (Option Value)) (fd : FuncData), K.lookup (He.fAd K p) = some ⟨oc, od, .func fd, osl⟩ ∧ fd.code = cdv) (hcd : PySem.W.codeIn K cdv qual = true) : cdv = .ref (He.cT K p).1 := by
  obtain ⟨oc, od, osl, fd, lk, e⟩ := hl
  obtain ⟨x, ex⟩ := He.codeIn_ref hcd
  have z := He.codeOf_eq lk (e.trans ex)
  rw [ex]
  exact congrArg Value.ref z.symm
theorem sc__law_told : FnScope ["what"] ["what"] (defScope s__law_told) := ⟨rfl, rfl, rfl, by decide +kernel, rfl, by decide +kernel, by decide +kernel⟩
abbrev N__law_dice : List Str := ["cell"]
theorem sc__law_dice : FnScope N__law_dice ["cell"] (defScope s__law_dice) := ⟨rfl, rfl, rfl, by decide +kernel, rfl, by decide +kernel, by decide +kernel⟩
abbrev N__law_rounds : List Str := ["script", "most", "cells", "cell"]
theorem sc__law_rounds : FnScope N__law_rounds ["script", "most"] (defScope s__law_rounds) := ⟨rfl, rfl, rfl, by decide +kernel, rfl, by decide +kernel, by decide +kernel⟩
abbrev N_part : List Str := ["top", "bottom", "a", "b", "sign"]
theorem sc_part : FnScope N_part ["top", "bottom"] (defScope s_part) := ⟨rfl, rfl, rfl, by decide +kernel, rfl, by decide +kernel, by decide +kernel⟩
abbrev N_check_loan : List Str := ["sum_there", "rate", "many"]
theorem sc_check_loan : FnScope N_check_loan ["sum_there", "rate", "many"] (defScope s_check_loan) := ⟨rfl, rfl, rfl, by decide +kernel, rfl, by decide +kernel, by decide +kernel⟩
abbrev N_rounded : List Str := ["a", "rule", "sign", "whole", "rest", "up"]
theorem sc_rounded : FnScope N_rounded ["a", "rule"] (defScope s_rounded) := ⟨rfl, rfl, rfl, by decide +kernel, rfl, by decide +kernel, by decide +kernel⟩
abbrev N_times : List Str := ["a", "b"]
theorem sc_times : FnScope N_times ["a", "b"] (defScope s_times) := ⟨rfl, rfl, rfl, by decide +kernel, rfl, by decide +kernel, by decide +kernel⟩
abbrev N_interest : List Str := ["left", "rate"]
theorem sc_interest : FnScope N_interest ["left", "rate"] (defScope s_interest) := ⟨rfl, rfl, rfl, by decide +kernel, rfl, by decide +kernel, by decide +kernel⟩
abbrev N_left_behind : List Str := ["sum_there", "rate", "pay", "many", "left", "k"]
theorem sc_left_behind : FnScope N_left_behind ["sum_there", "rate", "pay", "many"] (defScope s_left_behind) := ⟨rfl, rfl, rfl, by decide +kernel, rfl, by decide +kernel, by decide +kernel⟩
abbrev N_even_pay : List Str := ["sum_there", "rate", "many", "low", "high", "middle"]
theorem sc_even_pay : FnScope N_even_pay ["sum_there", "rate", "many"] (defScope s_even_pay) := ⟨rfl, rfl, rfl, by decide +kernel, rfl, by decide +kernel, by decide +kernel⟩
abbrev N_plan : List Str := ["sum_there", "rate", "many", "pay", "left", "found", "k", "much", "mine"]
theorem sc_plan : FnScope N_plan ["sum_there", "rate", "many"] (defScope s_plan) := ⟨rfl, rfl, rfl, by decide +kernel, rfl, by decide +kernel, by decide +kernel⟩
abbrev N__law_roll : List Str := ["dice", "many", "found"]
theorem sc__law_roll : FnScope N__law_roll ["dice", "many"] (defScope s__law_roll) := ⟨rfl, rfl, rfl, by decide +kernel, rfl, by decide +kernel, by decide +kernel⟩
abbrev N__law_left : List Str := ["sum_there", "hundredths", "pay", "many", "left", "k"]
theorem sc__law_left : FnScope N__law_left ["sum_there", "hundredths", "pay", "many"] (defScope s__law_left) := ⟨rfl, rfl, rfl, by decide +kernel, rfl, by decide +kernel, by decide +kernel⟩
abbrev N_in_parts : List Str := ["sum_there", "rate", "many", "left", "found", "k", "off", "much"]
theorem sc_in_parts : FnScope N_in_parts ["sum_there", "rate", "many"] (defScope s_in_parts) := ⟨rfl, rfl, rfl, by decide +kernel, rfl, by decide +kernel, by decide +kernel⟩
abbrev N_all_at_end : List Str := ["sum_there", "rate", "many", "much", "rows"]
theorem sc_all_at_end : FnScope N_all_at_end ["sum_there", "rate", "many"] (defScope s_all_at_end) := ⟨rfl, rfl, rfl, by decide +kernel, rfl, by decide +kernel, by decide +kernel⟩
abbrev N_paid_ahead : List Str := ["rows", "sum_there", "rate", "k", "extra", "much", "off", "pay", "left", "found", "usual", "more", "mine", "row"]
theorem sc_paid_ahead : FnScope N_paid_ahead ["rows", "sum_there", "rate", "k", "extra"] (defScope s_paid_ahead) := ⟨rfl, rfl, rfl, by decide +kernel, rfl, by decide +kernel, by decide +kernel⟩
abbrev N_look_plan : List Str := ["sum_there", "rate", "rows", "left", "k", "much", "off", "pay", "after"]
theorem sc_look_plan : FnScope N_look_plan ["sum_there", "rate", "rows"] (defScope s_look_plan) := ⟨rfl, rfl, rfl, by decide +kernel, rfl, by decide +kernel, by decide +kernel⟩
abbrev N__law_ahead : List Str := ["dice", "whole", "rate", "rows", "many", "k", "extra", "ahead", "row"]
theorem sc__law_ahead : FnScope N__law_ahead ["dice", "whole", "rate", "rows", "many"] (defScope s__law_ahead) := ⟨rfl, rfl, rfl, by decide +kernel, rfl, by decide +kernel, by decide +kernel⟩
abbrev N_order : List Str := ["a", "b", "gap"]
theorem sc_order : FnScope N_order ["a", "b"] (defScope s_order) := ⟨rfl, rfl, rfl, by decide +kernel, rfl, by decide +kernel, by decide +kernel⟩
abbrev N_add : List Str := ["a", "b"]
theorem sc_add : FnScope N_add ["a", "b"] (defScope s_add) := ⟨rfl, rfl, rfl, by decide +kernel, rfl, by decide +kernel, by decide +kernel⟩
abbrev N_over : List Str := ["a", "b"]
theorem sc_over : FnScope N_over ["a", "b"] (defScope s_over) := ⟨rfl, rfl, rfl, by decide +kernel, rfl, by decide +kernel, by decide +kernel⟩
abbrev N_worth_now : List Str := ["pays", "rate", "found", "one", "below", "pay"]
theorem sc_worth_now : FnScope N_worth_now ["pays", "rate"] (defScope s_worth_now) := ⟨rfl, rfl, rfl, by decide +kernel, rfl, by decide +kernel, by decide +kernel⟩
abbrev N_rate_of : List Str := ["sum_there", "pays", "fine", "low", "high", "middle", "pay"]
theorem sc_rate_of : FnScope N_rate_of ["sum_there", "pays", "fine"] (defScope s_rate_of) := ⟨rfl, rfl, rfl, by decide +kernel, rfl, by decide +kernel, by decide +kernel⟩
abbrev N__law_least : List Str := ["top", "bottom", "a", "b"]
theorem sc__law_least : FnScope N__law_least ["top", "bottom"] (defScope s__law_least) := ⟨rfl, rfl, rfl, by decide +kernel, rfl, by decide +kernel, by decide +kernel⟩
abbrev N__law_worth : List Str := ["pays", "hundredths", "top", "bottom", "pay"]
theorem sc__law_worth : FnScope N__law_worth ["pays", "hundredths"] (defScope s__law_worth) := ⟨rfl, rfl, rfl, by decide +kernel, rfl, by decide +kernel, by decide +kernel⟩
abbrev N_grown : List Str := ["sum_there", "rate", "many", "found", "k"]
theorem sc_grown : FnScope N_grown ["sum_there", "rate", "many"] (defScope s_grown) := ⟨rfl, rfl, rfl, by decide +kernel, rfl, by decide +kernel, by decide +kernel⟩
abbrev N_year_rate : List Str := ["rate", "many", "found", "k"]
theorem sc_year_rate : FnScope N_year_rate ["rate", "many"] (defScope s_year_rate) := ⟨rfl, rfl, rfl, by decide +kernel, rfl, by decide +kernel, by decide +kernel⟩
abbrev N_day_interest : List Str := ["sum_there", "rate", "days", "year_days"]
theorem sc_day_interest : FnScope N_day_interest ["sum_there", "rate", "days", "year_days"] (defScope s_day_interest) := ⟨rfl, rfl, rfl, by decide +kernel, rfl, by decide +kernel, by decide +kernel⟩
abbrev N__law_worths : List Str := ["whole", "hundredths", "rate", "rows", "pays", "low", "high", "top", "bottom", "turn", "row"]
theorem sc__law_worths : FnScope N__law_worths ["whole", "hundredths", "rate", "rows"] (defScope s__law_worths) := ⟨rfl, rfl, rfl, by decide +kernel, rfl, by decide +kernel, by decide +kernel⟩
abbrev N_cheapest : List Str := ["offers", "sum_there", "rows", "k", "rate", "many", "price", "row"]
theorem sc_cheapest : FnScope N_cheapest ["offers", "sum_there"] (defScope s_cheapest) := ⟨rfl, rfl, rfl, by decide +kernel, rfl, by decide +kernel, by decide +kernel⟩
abbrev N__law_offers : List Str := ["dice", "whole", "offers", "costs", "j", "one", "times_there", "price", "row"]
theorem sc__law_offers : FnScope N__law_offers ["dice", "whole"] (defScope s__law_offers) := ⟨rfl, rfl, rfl, by decide +kernel, rfl, by decide +kernel, by decide +kernel⟩
abbrev N_times_till : List Str := ["goal", "start", "pay", "rate", "most", "left", "k"]
theorem sc_times_till : FnScope N_times_till ["goal", "start", "pay", "rate", "most"] (defScope s_times_till) := ⟨rfl, rfl, rfl, by decide +kernel, rfl, by decide +kernel, by decide +kernel⟩
abbrev N__law_laid : List Str := ["dice", "hundredths", "rate", "goal", "laid", "count", "there", "turn"]
theorem sc__law_laid : FnScope N__law_laid ["dice", "hundredths", "rate"] (defScope s__law_laid) := ⟨rfl, rfl, rfl, by decide +kernel, rfl, by decide +kernel, by decide +kernel⟩
abbrev N_law : List Str := ["script", "dice", "whole", "hundredths", "many", "rate", "pay", "rows", "one", "row"]
theorem sc_law : FnScope N_law ["script"] (defScope s_law) := ⟨rfl, rfl, rfl, by decide +kernel, rfl, by decide +kernel, by decide +kernel⟩
section
variable {P : Program} {w : World} {K : PySem.W.Frag} {mg : Str → Option Value} {base h0 : Heap} (KX : K.In h0) (Gn : h0.Ns mainGlobals mg) (c : He.SaysD fa fn K)
include KX Gn c
theorem g_WageFault : mg "WageFault" = some (.ref ((GK K).cA "WageFault")) := He.glo_ok KX Gn (c.fact 0 (f := .glo "WageFault") rfl)
theorem g_BadMoney : mg "BadMoney" = some (.ref ((GK K).cA "BadMoney")) := He.glo_ok KX Gn (c.fact 1 (f := .glo "BadMoney") rfl)
theorem g_BadDay : mg "BadDay" = some (.ref ((GK K).cA "BadDay")) := He.glo_ok KX Gn (c.fact 2 (f := .glo "BadDay") rfl)
theorem g_BadRule : mg "BadRule" = some (.ref ((GK K).cA "BadRule")) := He.glo_ok KX Gn (c.fact 3 (f := .glo "BadRule") rfl)
theorem g_Unbalanced : mg "Unbalanced" = some (.ref ((GK K).cA "Unbalanced")) := He.glo_ok KX Gn (c.fact 4 (f := .glo "Unbalanced") rfl)
theorem g_Shut : mg "Shut" = some (.ref ((GK K).cA "Shut")) := He.glo_ok KX Gn (c.fact 5 (f := .glo "Shut") rfl)
theorem g_Short : mg "Short" = some (.ref ((GK K).cA "Short")) := He.glo_ok KX Gn (c.fact 6 (f := .glo "Short") rfl)
theorem g_BadText : mg "BadText" = some (.ref ((GK K).cA "BadText")) := He.glo_ok KX Gn (c.fact 7 (f := .glo "BadText") rfl)
theorem g_NoAnswer : mg "NoAnswer" = some (.ref ((GK K).cA "NoAnswer")) := He.glo_ok KX Gn (c.fact 8 (f := .glo "NoAnswer") rfl)
theorem g_part : mg "part" = some (.ref ((GK K).cA "part")) := He.glo_ok KX Gn (c.fact 9 (f := .glo "part") rfl)
theorem g_add : mg "add" = some (.ref ((GK K).cA "add")) := He.glo_ok KX Gn (c.fact 10 (f := .glo "add") rfl)
theorem g_times : mg "times" = some (.ref ((GK K).cA "times")) := He.glo_ok KX Gn (c.fact 11 (f := .glo "times") rfl)
theorem g_over : mg "over" = some (.ref ((GK K).cA "over")) := He.glo_ok KX Gn (c.fact 12 (f := .glo "over") rfl)
theorem g_order : mg "order" = some (.ref ((GK K).cA "order")) := He.glo_ok KX Gn (c.fact 13 (f := .glo "order") rfl)
theorem g_rounded : mg "rounded" = some (.ref ((GK K).cA "rounded")) := He.glo_ok KX Gn (c.fact 14 (f := .glo "rounded") rfl)
theorem g_interest : mg "interest" = some (.ref ((GK K).cA "interest")) := He.glo_ok KX Gn (c.fact 15 (f := .glo "interest") rfl)
theorem g_check_loan : mg "check_loan" = some (.ref ((GK K).cA "check_loan")) := He.glo_ok KX Gn (c.fact 16 (f := .glo "check_loan") rfl)
theorem g_even_pay : mg "even_pay" = some (.ref ((GK K).cA "even_pay")) := He.glo_ok KX Gn (c.fact 17 (f := .glo "even_pay") rfl)
theorem g_left_behind : mg "left_behind" = some (.ref ((GK K).cA "left_behind")) := He.glo_ok KX Gn (c.fact 18 (f := .glo "left_behind") rfl)
theorem g_plan : mg "plan" = some (.ref ((GK K).cA "plan")) := He.glo_ok KX Gn (c.fact 19 (f := .glo "plan") rfl)
theorem g_in_parts : mg "in_parts" = some (.ref ((GK K).cA "in_parts")) := He.glo_ok KX Gn (c.fact 20 (f := .glo "in_parts") rfl)
theorem g_all_at_end : mg "all_at_end" = some (.ref ((GK K).cA "all_at_end")) := He.glo_ok KX Gn (c.fact 21 (f := .glo "all_at_end") rfl)
theorem g_look_plan : mg "look_plan" = some (.ref ((GK K).cA "look_plan")) := He.glo_ok KX Gn (c.fact 22 (f := .glo "look_plan") rfl)
theorem g_paid_ahead : mg "paid_ahead" = some (.ref ((GK K).cA "paid_ahead")) := He.glo_ok KX Gn (c.fact 23 (f := .glo "paid_ahead") rfl)
theorem g_worth_now : mg "worth_now" = some (.ref ((GK K).cA "worth_now")) := He.glo_ok KX Gn (c.fact 24 (f := .glo "worth_now") rfl)
theorem g_rate_of : mg "rate_of" = some (.ref ((GK K).cA "rate_of")) := He.glo_ok KX Gn (c.fact 25 (f := .glo "rate_of") rfl)
theorem g_grown : mg "grown" = some (.ref ((GK K).cA "grown")) := He.glo_ok KX Gn (c.fact 26 (f := .glo "grown") rfl)
theorem g_year_rate : mg "year_rate" = some (.ref ((GK K).cA "year_rate")) := He.glo_ok KX Gn (c.fact 27 (f := .glo "year_rate") rfl)
theorem g_day_interest : mg "day_interest" = some (.ref ((GK K).cA "day_interest")) := He.glo_ok KX Gn (c.fact 28 (f := .glo "day_interest") rfl)
theorem g_times_till : mg "times_till" = some (.ref ((GK K).cA "times_till")) := He.glo_ok KX Gn (c.fact 29 (f := .glo "times_till") rfl)
theorem g_cheapest : mg "cheapest" = some (.ref ((GK K).cA "cheapest")) := He.glo_ok KX Gn (c.fact 30 (f := .glo "cheapest") rfl)
theorem g__law_dice : mg "_law_dice" = some (.ref ((GK K).cA "_law_dice")) := He.glo_ok KX Gn (c.fact 31 (f := .glo "_law_dice") rfl)
theorem g__law_roll : mg "_law_roll" = some (.ref ((GK K).cA "_law_roll")) := He.glo_ok KX Gn (c.fact 32 (f := .glo "_law_roll") rfl)
theorem g__law_rounds : mg "_law_rounds" = some (.ref ((GK K).cA "_law_rounds")) := He.glo_ok KX Gn (c.fact 33 (f := .glo "_law_rounds") rfl)
theorem g__law_told : mg "_law_told" = some (.ref ((GK K).cA "_law_told")) := He.glo_ok KX Gn (c.fact 34 (f := .glo "_law_told") rfl)
theorem g__law_least : mg "_law_least" = some (.ref ((GK K).cA "_law_least")) := He.glo_ok KX Gn (c.fact 35 (f := .glo "_law_least") rfl)
theorem g__law_left : mg "_law_left" = some (.ref ((GK K).cA "_law_left")) := He.glo_ok KX Gn (c.fact 36 (f := .glo "_law_left") rfl)
theorem g__law_worth : mg "_law_worth" = some (.ref ((GK K).cA "_law_worth")) := He.glo_ok KX Gn (c.fact 37 (f := .glo "_law_worth") rfl)
theorem g__law_ahead : mg "_law_ahead" = some (.ref ((GK K).cA "_law_ahead")) := He.glo_ok KX Gn (c.fact 38 (f := .glo "_law_ahead") rfl)
theorem g__law_offers : mg "_law_offers" = some (.ref ((GK K).cA "_law_offers")) := He.glo_ok KX Gn (c.fact 39 (f := .glo "_law_offers") rfl)
theorem g__law_laid : mg "_law_laid" = some (.ref ((GK K).cA "_law_laid")) := He.glo_ok KX Gn (c.fact 40 (f := .glo "_law_laid") rfl)
theorem g__law_worths : mg "_law_worths" = some (.ref ((GK K).cA "_law_worths")) := He.glo_ok KX Gn (c.fact 41 (f := .glo "_law_worths") rfl)
theorem g_law : mg "law" = some (.ref ((GK K).cA "law")) := He.glo_ok KX Gn (c.fact 42 (f := .glo "law") rfl)
theorem g_RULES : mg "RULES" = some (.ref ((GK K).cA "RULES")) := He.glo_ok KX Gn (c.fact 43 (f := .glo "RULES") rfl)
theorem z_abs : mg "abs" = none := He.free_ok KX Gn (c.fact 44 (f := .free "abs") rfl)
theorem z_any : mg "any" = none := He.free_ok KX Gn (c.fact 45 (f := .free "any") rfl)
theorem z_enumerate : mg "enumerate" = none := He.free_ok KX Gn (c.fact 46 (f := .free "enumerate") rfl)
theorem z_int : mg "int" = none := He.free_ok KX Gn (c.fact 47 (f := .free "int") rfl)
theorem z_len : mg "len" = none := He.free_ok KX Gn (c.fact 48 (f := .free "len") rfl)
theorem z_list : mg "list" = none := He.free_ok KX Gn (c.fact 49 (f := .free "list") rfl)
theorem z_max : mg "max" = none := He.free_ok KX Gn (c.fact 50 (f := .free "max") rfl)
theorem z_min : mg "min" = none := He.free_ok KX Gn (c.fact 51 (f := .free "min") rfl)
theorem z_range : mg "range" = none := He.free_ok KX Gn (c.fact 52 (f := .free "range") rfl)
theorem z_reversed : mg "reversed" = none := He.free_ok KX Gn (c.fact 53 (f := .free "reversed") rfl)
theorem z_sum : mg "sum" = none := He.free_ok KX Gn (c.fact 54 (f := .free "sum") rfl)
theorem z_super : mg "super" = none := He.free_ok KX Gn (c.fact 55 (f := .free "super") rfl)
theorem z_tuple : mg "tuple" = none := He.free_ok KX Gn (c.fact 56 (f := .free "tuple") rfl)
theorem x_BadMoney : PySem.W.excIn K ((GK K).cA "BadMoney") He.veBase "ValueError.__new__" = true ∧ PySem.W.keepIn K (.ref ((GK K).cA "BadMoney")) = true ∧ PySem.W.subIn K (.ref ((GK K).cA "BadMoney")) (.type "BaseException") = some true ∧ PySem.W.typeIn K (.ref ((GK K).cA "BadMoney")) = some (.type "type") := He.exc_ok (c.fact 59 (f := .exc "BadMoney") rfl)
theorem x_BadDay : PySem.W.excIn K ((GK K).cA "BadDay") He.veBase "ValueError.__new__" = true ∧ PySem.W.keepIn K (.ref ((GK K).cA "BadDay")) = true ∧ PySem.W.subIn K (.ref ((GK K).cA "BadDay")) (.type "BaseException") = some true ∧ PySem.W.typeIn K (.ref ((GK K).cA "BadDay")) = some (.type "type") := He.exc_ok (c.fact 61 (f := .exc "BadDay") rfl)
theorem x_BadRule : PySem.W.excIn K ((GK K).cA "BadRule") He.veBase "ValueError.__new__" = true ∧ PySem.W.keepIn K (.ref ((GK K).cA "BadRule")) = true ∧ PySem.W.subIn K (.ref ((GK K).cA "BadRule")) (.type "BaseException") = some true ∧ PySem.W.typeIn K (.ref ((GK K).cA "BadRule")) = some (.type "type") := He.exc_ok (c.fact 63 (f := .exc "BadRule") rfl)
theorem x_Shut : PySem.W.excIn K ((GK K).cA "Shut") He.veBase "ValueError.__new__" = true ∧ PySem.W.keepIn K (.ref ((GK K).cA "Shut")) = true ∧ PySem.W.subIn K (.ref ((GK K).cA "Shut")) (.type "BaseException") = some true ∧ PySem.W.typeIn K (.ref ((GK K).cA "Shut")) = some (.type "type") := He.exc_ok (c.fact 66 (f := .exc "Shut") rfl)
theorem x_NoAnswer : PySem.W.excIn K ((GK K).cA "NoAnswer") He.veBase "ValueError.__new__" = true ∧ PySem.W.keepIn K (.ref ((GK K).cA "NoAnswer")) = true ∧ PySem.W.subIn K (.ref ((GK K).cA "NoAnswer")) (.type "BaseException") = some true ∧ PySem.W.typeIn K (.ref ((GK K).cA "NoAnswer")) = some (.type "type") := He.exc_ok (c.fact 70 (f := .exc "NoAnswer") rfl)
theorem exall : ∀ e ∈ raisable, ∀ q ∈ tellers, PySem.W.exmOne K (.ref ((GK K).cA e)) (.ref ((GK K).cA q.1)) = some (subB e q.1) := by
  unfold raisable tellers
  exact List.forall_mem_cons.mpr ⟨List.forall_mem_cons.mpr ⟨by rw [show subB "BadMoney" "BadMoney" = true from by decide]; exact He.exm_ok (c.fact 82 (f := .exm "BadMoney" "BadMoney" true) rfl), List.forall_mem_cons.mpr ⟨by rw [show subB "BadMoney" "BadDay" = false from by decide]; exact He.exm_ok (c.fact 83 (f := .exm "BadMoney" "BadDay" false) rfl), List.forall_mem_cons.mpr ⟨by rw [show subB "BadMoney" "BadRule" = false from by decide]; exact He.exm_ok (c.fact 84 (f := .exm "BadMoney" "BadRule" false) rfl), List.forall_mem_cons.mpr ⟨by rw [show subB "BadMoney" "Unbalanced" = false from by decide]; exact He.exm_ok (c.fact 85 (f := .exm "BadMoney" "Unbalanced" false) rfl), List.forall_mem_cons.mpr ⟨by rw [show subB "BadMoney" "Shut" = false from by decide]; exact He.exm_ok (c.fact 86 (f := .exm "BadMoney" "Shut" false) rfl), List.forall_mem_cons.mpr ⟨by rw [show subB "BadMoney" "Short" = false from by decide]; exact He.exm_ok (c.fact 87 (f := .exm "BadMoney" "Short" false) rfl), List.forall_mem_cons.mpr ⟨by rw [show subB "BadMoney" "BadText" = false from by decide]; exact He.exm_ok (c.fact 88 (f := .exm "BadMoney" "BadText" false) rfl), List.forall_mem_cons.mpr ⟨by rw [show subB "BadMoney" "NoAnswer" = false from by decide]; exact He.exm_ok (c.fact 89 (f := .exm "BadMoney" "NoAnswer" false) rfl), (fun _ h => nomatch h)⟩⟩⟩⟩⟩⟩⟩⟩, List.forall_mem_cons.mpr ⟨List.forall_mem_cons.mpr ⟨by rw [show subB "BadDay" "BadMoney" = false from by decide]; exact He.exm_ok (c.fact 91 (f := .exm "BadDay" "BadMoney" false) rfl), List.forall_mem_cons.mpr ⟨by rw [show subB "BadDay" "BadDay" = true from by decide]; exact He.exm_ok (c.fact 92 (f := .exm "BadDay" "BadDay" true) rfl), List.forall_mem_cons.mpr ⟨by rw [show subB "BadDay" "BadRule" = false from by decide]; exact He.exm_ok (c.fact 93 (f := .exm "BadDay" "BadRule" false) rfl), List.forall_mem_cons.mpr ⟨by rw [show subB "BadDay" "Unbalanced" = false from by decide]; exact He.exm_ok (c.fact 94 (f := .exm "BadDay" "Unbalanced" false) rfl), List.forall_mem_cons.mpr ⟨by rw [show subB "BadDay" "Shut" = false from by decide]; exact He.exm_ok (c.fact 95 (f := .exm "BadDay" "Shut" false) rfl), List.forall_mem_cons.mpr ⟨by rw [show subB "BadDay" "Short" = false from by decide]; exact He.exm_ok (c.fact 96 (f := .exm "BadDay" "Short" false) rfl), List.forall_mem_cons.mpr ⟨by rw [show subB "BadDay" "BadText" = false from by decide]; exact He.exm_ok (c.fact 97 (f := .exm "BadDay" "BadText" false) rfl), List.forall_mem_cons.mpr ⟨by rw [show subB "BadDay" "NoAnswer" = false from by decide]; exact He.exm_ok (c.fact 98 (f := .exm "BadDay" "NoAnswer" false) rfl), (fun _ h => nomatch h)⟩⟩⟩⟩⟩⟩⟩⟩, List.forall_mem_cons.mpr ⟨List.forall_mem_cons.mpr ⟨by rw [show subB "BadRule" "BadMoney" = false from by decide]; exact He.exm_ok (c.fact 100 (f := .exm "BadRule" "BadMoney" false) rfl), List.forall_mem_cons.mpr ⟨by rw [show subB "BadRule" "BadDay" = false from by decide]; exact He.exm_ok (c.fact 101 (f := .exm "BadRule" "BadDay" false) rfl), List.forall_mem_cons.mpr ⟨by rw [show subB "BadRule" "BadRule" = true from by decide]; exact He.exm_ok (c.fact 102 (f := .exm "BadRule" "BadRule" true) rfl), List.forall_mem_cons.mpr ⟨by rw [show subB "BadRule" "Unbalanced" = false from by decide]; exact He.exm_ok (c.fact 103 (f := .exm "BadRule" "Unbalanced" false) rfl), List.forall_mem_cons.mpr ⟨by rw [show subB "BadRule" "Shut" = false from by decide]; exact He.exm_ok (c.fact 104 (f := .exm "BadRule" "Shut" false) rfl), List.forall_mem_cons.mpr ⟨by rw [show subB "BadRule" "Short" = false from by decide]; exact He.exm_ok (c.fact 105 (f := .exm "BadRule" "Short" false) rfl), List.forall_mem_cons.mpr ⟨by rw [show subB "BadRule" "BadText" = false from by decide]; exact He.exm_ok (c.fact 106 (f := .exm "BadRule" "BadText" false) rfl), List.forall_mem_cons.mpr ⟨by rw [show subB "BadRule" "NoAnswer" = false from by decide]; exact He.exm_ok (c.fact 107 (f := .exm "BadRule" "NoAnswer" false) rfl), (fun _ h => nomatch h)⟩⟩⟩⟩⟩⟩⟩⟩, List.forall_mem_cons.mpr ⟨List.forall_mem_cons.mpr ⟨by rw [show subB "Shut" "BadMoney" = false from by decide]; exact He.exm_ok (c.fact 109 (f := .exm "Shut" "BadMoney" false) rfl), List.forall_mem_cons.mpr ⟨by rw [show subB "Shut" "BadDay" = false from by decide]; exact He.exm_ok (c.fact 110 (f := .exm "Shut" "BadDay" false) rfl), List.forall_mem_cons.mpr ⟨by rw [show subB "Shut" "BadRule" = false from by decide]; exact He.exm_ok (c.fact 111 (f := .exm "Shut" "BadRule" false) rfl), List.forall_mem_cons.mpr ⟨by rw [show subB "Shut" "Unbalanced" = false from by decide]; exact He.exm_ok (c.fact 112 (f := .exm "Shut" "Unbalanced" false) rfl), List.forall_mem_cons.mpr ⟨by rw [show subB "Shut" "Shut" = true from by decide]; exact He.exm_ok (c.fact 113 (f := .exm "Shut" "Shut" true) rfl), List.forall_mem_cons.mpr ⟨by rw [show subB "Shut" "Short" = false from by decide]; exact He.exm_ok (c.fact 114 (f := .exm "Shut" "Short" false) rfl), List.forall_mem_cons.mpr ⟨by rw [show subB "Shut" "BadText" = false from by decide]; exact He.exm_ok (c.fact 115 (f := .exm "Shut" "BadText" false) rfl), List.forall_mem_cons.mpr ⟨by rw [show subB "Shut" "NoAnswer" = false from by decide]; exact He.exm_ok (c.fact 116 (f := .exm "Shut" "NoAnswer" false) rfl), (fun _ h => nomatch h)⟩⟩⟩⟩⟩⟩⟩⟩, List.forall_mem_cons.mpr ⟨List.forall_mem_cons.mpr ⟨by rw [show subB "Short" "BadMoney" = false from by decide]; exact He.exm_ok (c.fact 127 (f := .exm "Short" "BadMoney" false) rfl), List.forall_mem_cons.mpr ⟨by rw [show subB "Short" "BadDay" = false from by decide]; exact He.exm_ok (c.fact 128 (f := .exm "Short" "BadDay" false) rfl), List.forall_mem_cons.mpr ⟨by rw [show subB "Short" "BadRule" = false from by decide]; exact He.exm_ok (c.fact 129 (f := .exm "Short" "BadRule" false) rfl), List.forall_mem_cons.mpr ⟨by rw [show subB "Short" "Unbalanced" = false from by decide]; exact He.exm_ok (c.fact 130 (f := .exm "Short" "Unbalanced" false) rfl), List.forall_mem_cons.mpr ⟨by rw [show subB "Short" "Shut" = false from by decide]; exact He.exm_ok (c.fact 131 (f := .exm "Short" "Shut" false) rfl), List.forall_mem_cons.mpr ⟨by rw [show subB "Short" "Short" = true from by decide]; exact He.exm_ok (c.fact 132 (f := .exm "Short" "Short" true) rfl), List.forall_mem_cons.mpr ⟨by rw [show subB "Short" "BadText" = false from by decide]; exact He.exm_ok (c.fact 133 (f := .exm "Short" "BadText" false) rfl), List.forall_mem_cons.mpr ⟨by rw [show subB "Short" "NoAnswer" = false from by decide]; exact He.exm_ok (c.fact 134 (f := .exm "Short" "NoAnswer" false) rfl), (fun _ h => nomatch h)⟩⟩⟩⟩⟩⟩⟩⟩, List.forall_mem_cons.mpr ⟨List.forall_mem_cons.mpr ⟨by rw [show subB "NoAnswer" "BadMoney" = false from by decide]; exact He.exm_ok (c.fact 118 (f := .exm "NoAnswer" "BadMoney" false) rfl), List.forall_mem_cons.mpr ⟨by rw [show subB "NoAnswer" "BadDay" = false from by decide]; exact He.exm_ok (c.fact 119 (f := .exm "NoAnswer" "BadDay" false) rfl), List.forall_mem_cons.mpr ⟨by rw [show subB "NoAnswer" "BadRule" = false from by decide]; exact He.exm_ok (c.fact 120 (f := .exm "NoAnswer" "BadRule" false) rfl), List.forall_mem_cons.mpr ⟨by rw [show subB "NoAnswer" "Unbalanced" = false from by decide]; exact He.exm_ok (c.fact 121 (f := .exm "NoAnswer" "Unbalanced" false) rfl), List.forall_mem_cons.mpr ⟨by rw [show subB "NoAnswer" "Shut" = false from by decide]; exact He.exm_ok (c.fact 122 (f := .exm "NoAnswer" "Shut" false) rfl), List.forall_mem_cons.mpr ⟨by rw [show subB "NoAnswer" "Short" = false from by decide]; exact He.exm_ok (c.fact 123 (f := .exm "NoAnswer" "Short" false) rfl), List.forall_mem_cons.mpr ⟨by rw [show subB "NoAnswer" "BadText" = false from by decide]; exact He.exm_ok (c.fact 124 (f := .exm "NoAnswer" "BadText" false) rfl), List.forall_mem_cons.mpr ⟨by rw [show subB "NoAnswer" "NoAnswer" = true from by decide]; exact He.exm_ok (c.fact 125 (f := .exm "NoAnswer" "NoAnswer" true) rfl), (fun _ h => nomatch h)⟩⟩⟩⟩⟩⟩⟩⟩, (fun _ h => nomatch h)⟩⟩⟩⟩⟩⟩
theorem fn__law_dice  : FnD P w K mg base (GK K) 1 (He.fAd K ("_law_dice", none)) 1 (runD 1 (f__law_dice)) := by
  obtain ⟨fd, F0⟩ := c.def_ 22 (d := d__law_dice) rfl
  have F : FunD K "_law_dice" "_law_dice" (defArgs s__law_dice) (defBody s__law_dice) (defScope s__law_dice) [] [] (He.fAd K ("_law_dice", none)) fd := F0
  have b : Binds K fd ["cell"] [] := F.bindsN fun _ _ _ _ _ _ us hl => match us, hl with | [_], _ => rfl
  exact fnD_of F sc__law_dice b fun cdv A outer s H E hl hcd hr => (jss_cons (js_if (jt_chain jop_lt jop_lt (je_op jop_sub je_int je_int) (je_var 0) je_int)
  (jss_one (js_ret (je_lst (ja_cons (je_blt jb_abs (z_abs KX Gn c) boot_abs (ja_cons (je_var 0) ja_nil)) (ja_cons je_int (ja_cons je_int ja_nil))))))
  jss_nil)
  (jss_one (js_ret (je_lst (ja_cons (je_var 0) (ja_cons (je_op jop_add je_int (je_op jop_mod (je_bty jb_int (z_int KX Gn c) boot_int (ja_cons (je_var 0) ja_nil)) je_int)) (ja_cons (je_bty jb_int (z_int KX Gn c) boot_int (ja_cons (je_cmp jop_ge (je_var 0) (je_op jop_pow je_int je_int)) ja_nil)) ja_nil)))))))
theorem fn__law_rounds {M__law_dice : DF} (h__law_dice : FnD P w K mg base (GK K) 1 (He.fAd K ("_law_dice", none)) 1 M__law_dice) : FnD P w K mg base (GK K) 2 (He.fAd K ("_law_rounds", none)) 2 (runD 4 (f__law_rounds M__law_dice)) := by
  obtain ⟨fd, F0⟩ := c.def_ 24 (d := d__law_rounds) rfl
  have F : FunD K "_law_rounds" "_law_rounds" (defArgs s__law_rounds) (defBody s__law_rounds) (defScope s__law_rounds) [] [] (He.fAd K ("_law_rounds", none)) fd := F0
  have b : Binds K fd ["script", "most"] [] := F.bindsN fun _ _ _ _ _ _ us hl => match us, hl with | [_, _], _ => rfl
  exact fnD_of F sc__law_rounds b fun cdv A outer s H E hl hcd hr => (jss_cons (js_set 2 sc__law_rounds.nd (je_slice (je_var 0) jp_none (jp_some (je_var 1))))
  (jss_cons (js_if (jt_cmp (jop_eq hr.units) (je_var 2) (je_lst ja_nil))
  (jss_one (js_set 2 sc__law_rounds.nd (je_lst (ja_cons je_int ja_nil))))
  jss_nil)
  (jss_one (js_ret (je_lc rfl sc__law_rounds.nd (blkOk_by (own := [("cell", 3)]) (N := N__law_rounds) (sc := defScope s__law_rounds) (by decide +kernel)) (ji_seq (je_var 2)) (fun _ _ _ _ _ => (jgv_name 3 sc__law_rounds.nd (by decide))) (fun _ _ _ _ _ => jts_nil) (fun _ _ _ _ _ => (je_call h__law_dice takes0 (hr.mono (by decide)) (g__law_dice KX Gn c) (ja_cons (je_var 3) ja_nil))))))))
theorem fn_part  : FnD P w K mg base (GK K) 1 (He.fAd K ("part", none)) 2 (runD 5 (f_part)) := by
  obtain ⟨fd, F0⟩ := c.def_ 0 (d := d_part) rfl
  have F : FunD K "part" "part" (defArgs s_part) (defBody s_part) (defScope s_part) [] [] (He.fAd K ("part", none)) fd := F0
  have b : Binds K fd ["top", "bottom"] [] := F.bindsN fun _ _ _ _ _ _ us hl => match us, hl with | [_, _], _ => rfl
  exact fnD_of F sc_part b fun cdv A outer s H E hl hcd hr => (jss_cons (js_if (jt_cmp (jop_eq hr.units) (je_var 1) je_int)
  (jss_one (js_raise (c := "BadRule") rfl (takes_of rfl rfl rfl rfl) PySem.F.excBase_ValueError (x_BadRule KX Gn c).1 (g_BadRule KX Gn c) (x_BadRule KX Gn c).2.1 (raises_own (x_BadRule KX Gn c).2.2.1 (x_BadRule KX Gn c).2.2.2)))
  jss_nil)
  (jss_cons (js_par2 2 3 rfl sc_part.nd (ja_cons (je_blt jb_abs (z_abs KX Gn c) boot_abs (ja_cons (je_var 0) ja_nil)) (ja_cons (je_blt jb_abs (z_abs KX Gn c) boot_abs (ja_cons (je_var 1) ja_nil)) ja_nil)))
  (jss_cons (js_while (passes_of rfl) (jt_cmp (jop_ne hr.units) (je_var 3) je_int) (jss_one (js_par2 2 3 rfl sc_part.nd (ja_cons (je_var 3) (ja_cons (je_op jop_mod (je_var 2) (je_var 3)) ja_nil)))))
  (jss_cons (js_set 4 sc_part.nd (je_if (jt_cmp jop_gt (je_var 1) je_int) je_int (je_neg je_int)))
  (jss_cons (js_set 2 sc_part.nd (je_blt (jb_max rfl) (z_max KX Gn c) boot_max (ja_cons (je_var 2) (ja_cons je_int ja_nil))))
  (jss_one (js_ret (je_tup (ja_cons (je_op jop_fdiv (je_op jop_mul (je_var 4) (je_var 0)) (je_var 2)) (ja_cons (je_op jop_fdiv (je_blt jb_abs (z_abs KX Gn c) boot_abs (ja_cons (je_var 1) ja_nil)) (je_var 2)) ja_nil))))))))))
theorem fn_check_loan  : FnD P w K mg base (GK K) 1 (He.fAd K ("check_loan", none)) 3 (runD 3 (f_check_loan)) := by
  obtain ⟨fd, F0⟩ := c.def_ 7 (d := d_check_loan) rfl
  have F : FunD K "check_loan" "check_loan" (defArgs s_check_loan) (defBody s_check_loan) (defScope s_check_loan) [] [] (He.fAd K ("check_loan", none)) fd := F0
  have b : Binds K fd ["sum_there", "rate", "many"] [] := F.bindsN fun _ _ _ _ _ _ us hl => match us, hl with | [_, _, _], _ => rfl
  exact fnD_of F sc_check_loan b fun cdv A outer s H E hl hcd hr => (jss_one (js_if (jt_of (jw_or (jt_cmp jop_lt (je_var 0) je_int) (jw_or (jt_cmp jop_lt (je_ix (je_var 1) je_int) je_int) (jw_or1 (jt_cmp jop_lt (je_var 2) je_int)))))
  (jss_one (js_raise (c := "BadRule") rfl (takes_of rfl rfl rfl rfl) PySem.F.excBase_ValueError (x_BadRule KX Gn c).1 (g_BadRule KX Gn c) (x_BadRule KX Gn c).2.1 (raises_own (x_BadRule KX Gn c).2.2.1 (x_BadRule KX Gn c).2.2.2)))
  jss_nil))
theorem fn_rounded  (tup_RULES : He.tupB K "RULES" ((["down", "up", "half up", "half even", "half down"] : List Str).map He.Dv.str) = true) : FnD P w K mg base (GK K) 1 (He.fAd K ("rounded", none)) 2 (runD 6 (f_rounded)) := by
  obtain ⟨fd, F0⟩ := c.def_ 5 (d := d_rounded) rfl
  have F : FunD K "rounded" "rounded" (defArgs s_rounded) (defBody s_rounded) (defScope s_rounded) [] [] (He.fAd K ("rounded", none)) fd := F0
  have b : Binds K fd ["a", "rule"] [] := F.bindsN fun _ _ _ _ _ _ us hl => match us, hl with | [_, _], _ => rfl
  exact fnD_of F sc_rounded b fun cdv A outer s H E hl hcd hr => (jss_cons (js_if (jt_cmp jop_notIn (je_var 1) (je_globT (zs := ["down", "up", "half up", "half even", "half down"]) (g_RULES KX Gn c) tup_RULES))
  (jss_one (js_raise (c := "BadRule") rfl (takes_of rfl rfl rfl rfl) PySem.F.excBase_ValueError (x_BadRule KX Gn c).1 (g_BadRule KX Gn c) (x_BadRule KX Gn c).2.1 (raises_own (x_BadRule KX Gn c).2.2.1 (x_BadRule KX Gn c).2.2.2)))
  jss_nil)
  (jss_cons (js_set 2 sc_rounded.nd (je_if (jt_cmp jop_lt (je_ix (je_var 0) je_int) je_int) (je_neg je_int) je_int))
  (jss_cons (js_par2 3 4 rfl sc_rounded.nd (ja_cons (je_op jop_fdiv (je_blt jb_abs (z_abs KX Gn c) boot_abs (ja_cons (je_ix (je_var 0) je_int) ja_nil)) (je_ix (je_var 0) je_int)) (ja_cons (je_op jop_mod (je_blt jb_abs (z_abs KX Gn c) boot_abs (ja_cons (je_ix (je_var 0) je_int) ja_nil)) (je_ix (je_var 0) je_int)) ja_nil)))
  (jss_cons (js_set 5 sc_rounded.nd (je_or (je_and (je_cmp (jop_eq hr.units) (je_var 1) je_str) (je_one (je_cmp jop_gt (je_var 4) je_int))) (je_one (je_and (je_cmp jop_gt (je_op jop_mul je_int (je_var 4)) (je_ix (je_var 0) je_int)) (je_one (je_cmp (jop_eq hr.units) (je_slice (je_var 1) jp_none (jp_some je_int)) je_str))))))
  (jss_cons (js_if (jt_of (jw_and (jt_cmp (jop_eq hr.units) (je_op jop_mul je_int (je_var 4)) (je_ix (je_var 0) je_int)) (jw_and1 (jt_cmp (jop_eq hr.units) (je_slice (je_var 1) jp_none (jp_some je_int)) je_str))))
  (jss_one (js_set 5 sc_rounded.nd (je_or (je_cmp (jop_eq hr.units) (je_var 1) je_str) (je_one (je_and (je_cmp (jop_eq hr.units) (je_var 1) je_str) (je_one (je_cmp (jop_eq hr.units) (je_op jop_mod (je_var 3) je_int) je_int)))))))
  jss_nil)
  (jss_one (js_ret (je_op jop_mul (je_var 2) (je_op jop_add (je_var 3) (je_bty jb_int (z_int KX Gn c) boot_int (ja_cons (je_var 5) ja_nil)))))))))))
theorem fn_times {M_part : DF} (h_part : FnD P w K mg base (GK K) 1 (He.fAd K ("part", none)) 2 M_part) : FnD P w K mg base (GK K) 2 (He.fAd K ("times", none)) 2 (runD 2 (f_times M_part)) := by
  obtain ⟨fd, F0⟩ := c.def_ 2 (d := d_times) rfl
  have F : FunD K "times" "times" (defArgs s_times) (defBody s_times) (defScope s_times) [] [] (He.fAd K ("times", none)) fd := F0
  have b : Binds K fd ["a", "b"] [] := F.bindsN fun _ _ _ _ _ _ us hl => match us, hl with | [_, _], _ => rfl
  exact fnD_of F sc_times b fun cdv A outer s H E hl hcd hr => (jss_one (js_ret (je_call h_part (takes_of rfl rfl rfl rfl) (hr.mono (by decide)) (g_part KX Gn c) (ja_cons (je_op jop_mul (je_ix (je_var 0) je_int) (je_ix (je_var 1) je_int)) (ja_cons (je_op jop_mul (je_ix (je_var 0) je_int) (je_ix (je_var 1) je_int)) ja_nil)))))
theorem fn_interest {M_times : DF} (h_times : FnD P w K mg base (GK K) 2 (He.fAd K ("times", none)) 2 M_times) {M_rounded : DF} (h_rounded : FnD P w K mg base (GK K) 1 (He.fAd K ("rounded", none)) 2 M_rounded) : FnD P w K mg base (GK K) 3 (He.fAd K ("interest", none)) 2 (runD 2 (f_interest M_times M_rounded)) := by
  obtain ⟨fd, F0⟩ := c.def_ 6 (d := d_interest) rfl
  have F : FunD K "interest" "interest" (defArgs s_interest) (defBody s_interest) (defScope s_interest) [] [] (He.fAd K ("interest", none)) fd := F0
  have b : Binds K fd ["left", "rate"] [] := F.bindsN fun _ _ _ _ _ _ us hl => match us, hl with | [_, _], _ => rfl
  exact fnD_of F sc_interest b fun cdv A outer s H E hl hcd hr => (jss_one (js_ret (je_call h_rounded (takes_of rfl rfl rfl rfl) (hr.mono (by decide)) (g_rounded KX Gn c) (ja_cons (je_call h_times (takes_of rfl rfl rfl rfl) (hr.mono (by decide)) (g_times KX Gn c) (ja_cons (je_tup (ja_cons (je_var 0) (ja_cons je_int ja_nil))) (ja_cons (je_var 1) ja_nil))) (ja_cons je_str ja_nil)))))
theorem fn_left_behind {M_interest : DF} (h_interest : FnD P w K mg base (GK K) 3 (He.fAd K ("interest", none)) 2 M_interest) : FnD P w K mg base (GK K) 4 (He.fAd K ("left_behind", none)) 4 (runD 6 (f_left_behind M_interest)) := by
  obtain ⟨fd, F0⟩ := c.def_ 9 (d := d_left_behind) rfl
  have F : FunD K "left_behind" "left_behind" (defArgs s_left_behind) (defBody s_left_behind) (defScope s_left_behind) [] [] (He.fAd K ("left_behind", none)) fd := F0
  have b : Binds K fd ["sum_there", "rate", "pay", "many"] [] := F.bindsN fun _ _ _ _ _ _ us hl => match us, hl with | [_, _, _, _], _ => rfl
  exact fnD_of F sc_left_behind b fun cdv A outer s H E hl hcd hr => (jss_cons (js_set 4 sc_left_behind.nd (je_var 0))
  (jss_cons (js_for (passes_of rfl) rfl (ji_range1 (z_range KX Gn c) (je_var 3)) (jg_name 5 sc_left_behind.nd)
  (jss_cons (js_aug 4 sc_left_behind.nd jip_add (je_op jop_sub (je_call h_interest (takes_of rfl rfl rfl rfl) (hr.mono (by decide)) (g_interest KX Gn c) (ja_cons (je_var 4) (ja_cons (je_var 1) ja_nil))) (je_var 2)))
  (jss_one (js_if (jt_cmp jop_le (je_var 4) je_int)
  (jss_one js_break)
  jss_nil))))
  (jss_one (js_ret (je_var 4)))))
theorem fn_even_pay {M_left_behind : DF} (h_left_behind : FnD P w K mg base (GK K) 4 (He.fAd K ("left_behind", none)) 4 M_left_behind) {M_interest : DF} (h_interest : FnD P w K mg base (GK K) 3 (He.fAd K ("interest", none)) 2 M_interest) {M_check_loan : DF} (h_check_loan : FnD P w K mg base (GK K) 1 (He.fAd K ("check_loan", none)) 3 M_check_loan) : FnD P w K mg base (GK K) 5 (He.fAd K ("even_pay", none)) 3 (runD 6 (f_even_pay M_left_behind M_interest M_check_loan)) := by
  obtain ⟨fd, F0⟩ := c.def_ 8 (d := d_even_pay) rfl
  have F : FunD K "even_pay" "even_pay" (defArgs s_even_pay) (defBody s_even_pay) (defScope s_even_pay) [] [] (He.fAd K ("even_pay", none)) fd := F0
  have b : Binds K fd ["sum_there", "rate", "many"] [] := F.bindsN fun _ _ _ _ _ _ us hl => match us, hl with | [_, _, _], _ => rfl
  exact fnD_of F sc_even_pay b fun cdv A outer s H E hl hcd hr => (jss_cons (js_expr (je_call h_check_loan (takes_of rfl rfl rfl rfl) (hr.mono (by decide)) (g_check_loan KX Gn c) (ja_cons (je_var 0) (ja_cons (je_var 1) (ja_cons (je_var 2) ja_nil)))))
  (jss_cons (js_par2 3 4 rfl sc_even_pay.nd (ja_cons (je_neg je_int) (ja_cons (je_op jop_add (je_op jop_add (je_var 0) (je_call h_interest (takes_of rfl rfl rfl rfl) (hr.mono (by decide)) (g_interest KX Gn c) (ja_cons (je_var 0) (ja_cons (je_var 1) ja_nil)))) je_int) ja_nil)))
  (jss_cons (js_while (passes_of rfl) (jt_cmp jop_gt (je_op jop_sub (je_var 4) (je_var 3)) je_int) (jss_cons (js_set 5 sc_even_pay.nd (je_op jop_fdiv (je_op jop_add (je_var 3) (je_var 4)) je_int))
  (jss_one (js_if (jt_cmp jop_le (je_call h_left_behind (takes_of rfl rfl rfl rfl) (hr.mono (by decide)) (g_left_behind KX Gn c) (ja_cons (je_var 0) (ja_cons (je_var 1) (ja_cons (je_var 5) (ja_cons (je_var 2) ja_nil))))) je_int)
  (jss_one (js_set 4 sc_even_pay.nd (je_var 5)))
  (jss_one (js_set 3 sc_even_pay.nd (je_var 5)))))))
  (jss_one (js_ret (je_var 4))))))
theorem fn_plan {M_interest : DF} (h_interest : FnD P w K mg base (GK K) 3 (He.fAd K ("interest", none)) 2 M_interest) {M_even_pay : DF} (h_even_pay : FnD P w K mg base (GK K) 5 (He.fAd K ("even_pay", none)) 3 M_even_pay) : FnD P w K mg base (GK K) 6 (He.fAd K ("plan", none)) 3 (runD 9 (f_plan M_interest M_even_pay)) := by
  obtain ⟨fd, F0⟩ := c.def_ 10 (d := d_plan) rfl
  have F : FunD K "plan" "plan" (defArgs s_plan) (defBody s_plan) (defScope s_plan) [] [] (He.fAd K ("plan", none)) fd := F0
  have b : Binds K fd ["sum_there", "rate", "many"] [] := F.bindsN fun _ _ _ _ _ _ us hl => match us, hl with | [_, _, _], _ => rfl
  exact fnD_of F sc_plan b fun cdv A outer s H E hl hcd hr => (jss_cons (js_par3 3 4 5 rfl sc_plan.nd (ja_cons (je_call h_even_pay (takes_of rfl rfl rfl rfl) (hr.mono (by decide)) (g_even_pay KX Gn c) (ja_cons (je_var 0) (ja_cons (je_var 1) (ja_cons (je_var 2) ja_nil)))) (ja_cons (je_var 0) (ja_cons (je_lst ja_nil) ja_nil))))
  (jss_cons (js_for (passes_of rfl) rfl (ji_range1 (z_range KX Gn c) (je_var 2)) (jg_name 6 sc_plan.nd)
  (jss_cons (js_set 7 sc_plan.nd (je_call h_interest (takes_of rfl rfl rfl rfl) (hr.mono (by decide)) (g_interest KX Gn c) (ja_cons (je_var 4) (ja_cons (je_var 1) ja_nil))))
  (jss_cons (js_set 8 sc_plan.nd (je_if (jt_cmp jop_lt (je_var 6) (je_op jop_sub (je_var 2) je_int)) (je_blt (jb_min rfl) (z_min KX Gn c) boot_min (ja_cons (je_var 3) (ja_cons (je_op jop_add (je_var 4) (je_var 7)) ja_nil))) (je_op jop_add (je_var 4) (je_var 7))))
  (jss_cons (js_expr (je_app (je_var 5) (je_tup (ja_cons (je_var 7) (ja_cons (je_op jop_sub (je_var 8) (je_var 7)) (ja_cons (je_var 8) (ja_cons (je_op jop_sub (je_op jop_add (je_var 4) (je_var 7)) (je_var 8)) ja_nil)))))))
  (jss_one (js_aug 4 sc_plan.nd jip_add (je_op jop_sub (je_var 7) (je_var 8))))))))
  (jss_one (js_ret (je_bty jb_tuple (z_tuple KX Gn c) boot_tuple (ja_cons (je_var 5) ja_nil))))))
theorem fn__law_roll  : FnD P w K mg base (GK K) 1 (He.fAd K ("_law_roll", none)) 2 (runD 3 (f__law_roll)) := by
  obtain ⟨fd, F0⟩ := c.def_ 23 (d := d__law_roll) rfl
  have F : FunD K "_law_roll" "_law_roll" (defArgs s__law_roll) (defBody s__law_roll) (defScope s__law_roll) [] [] (He.fAd K ("_law_roll", none)) fd := F0
  have b : Binds K fd ["dice", "many"] [] := F.bindsN fun _ _ _ _ _ _ us hl => match us, hl with | [_, _], _ => rfl
  exact fnD_of F sc__law_roll b fun cdv A outer s H E hl hcd hr => (jss_cons (js_if (jt_of (jw_or (jt_cmp (jop_eq hr.units) (je_ix (je_var 0) je_int) je_int) (jw_or1 (jt_of (jw_and (jt_cmp (jop_eq hr.units) (je_ix (je_var 0) je_int) je_int) (jw_and1 (jt_cmp jop_gt (je_ix (je_var 0) je_int) je_int)))))))
  (jss_cons (js_set 2 sc__law_roll.nd (je_op jop_mod (je_bty jb_int (z_int KX Gn c) boot_int (ja_cons (je_ix (je_var 0) je_int) ja_nil)) (je_var 1)))
  (jss_cons (js_asg (je_op jop_fdiv (je_ix (je_var 0) je_int) (je_var 1)) (jg_ix (je_var 0) je_int))
  (jss_one (js_ret (je_var 2)))))
  jss_nil)
  (jss_cons (js_asg je_int (jg_ix (je_var 0) je_int))
  (jss_cons (js_asg (je_op jop_mod (je_bty jb_int (z_int KX Gn c) boot_int (ja_cons (je_op jop_add (je_op jop_add (je_op jop_mul (je_ix (je_var 0) je_int) je_int) (je_op jop_mul (je_ix (je_var 0) je_int) je_int)) je_int) ja_nil)) je_int) (jg_ix (je_var 0) je_int))
  (jss_cons (js_asg (je_op jop_add (je_ix (je_var 0) je_int) je_int) (jg_ix (je_var 0) je_int))
  (jss_one (js_ret (je_op jop_mod (je_bty jb_int (z_int KX Gn c) boot_int (ja_cons (je_op jop_add (je_op jop_fdiv (je_ix (je_var 0) je_int) je_int) (je_ix (je_var 0) je_int)) ja_nil)) (je_var 1))))))))
theorem fn__law_left  : FnD P w K mg base (GK K) 1 (He.fAd K ("_law_left", none)) 4 (runD 6 (f__law_left)) := by
  obtain ⟨fd, F0⟩ := c.def_ 27 (d := d__law_left) rfl
  have F : FunD K "_law_left" "_law_left" (defArgs s__law_left) (defBody s__law_left) (defScope s__law_left) [] [] (He.fAd K ("_law_left", none)) fd := F0
  have b : Binds K fd ["sum_there", "hundredths", "pay", "many"] [] := F.bindsN fun _ _ _ _ _ _ us hl => match us, hl with | [_, _, _, _], _ => rfl
  exact fnD_of F sc__law_left b fun cdv A outer s H E hl hcd hr => (jss_cons (js_set 4 sc__law_left.nd (je_var 0))
  (jss_cons (js_for (passes_of rfl) rfl (ji_range1 (z_range KX Gn c) (je_var 3)) (jg_name 5 sc__law_left.nd)
  (jss_one (js_if (jt_cmp jop_gt (je_var 4) je_int)
  (jss_one (js_set 4 sc__law_left.nd (je_op jop_sub (je_op jop_add (je_var 4) (je_op jop_fdiv (je_op jop_add (je_op jop_mul (je_op jop_mul je_int (je_var 4)) (je_var 1)) je_int) je_int)) (je_var 2))))
  jss_nil)))
  (jss_one (js_ret (je_var 4)))))
theorem fn_in_parts {M_interest : DF} (h_interest : FnD P w K mg base (GK K) 3 (He.fAd K ("interest", none)) 2 M_interest) {M_check_loan : DF} (h_check_loan : FnD P w K mg base (GK K) 1 (He.fAd K ("check_loan", none)) 3 M_check_loan) : FnD P w K mg base (GK K) 4 (He.fAd K ("in_parts", none)) 3 (runD 8 (f_in_parts M_interest M_check_loan)) := by
  obtain ⟨fd, F0⟩ := c.def_ 11 (d := d_in_parts) rfl
  have F : FunD K "in_parts" "in_parts" (defArgs s_in_parts) (defBody s_in_parts) (defScope s_in_parts) [] [] (He.fAd K ("in_parts", none)) fd := F0
  have b : Binds K fd ["sum_there", "rate", "many"] [] := F.bindsN fun _ _ _ _ _ _ us hl => match us, hl with | [_, _, _], _ => rfl
  exact fnD_of F sc_in_parts b fun cdv A outer s H E hl hcd hr => (jss_cons (js_expr (je_call h_check_loan (takes_of rfl rfl rfl rfl) (hr.mono (by decide)) (g_check_loan KX Gn c) (ja_cons (je_var 0) (ja_cons (je_var 1) (ja_cons (je_var 2) ja_nil)))))
  (jss_cons (js_par2 3 4 rfl sc_in_parts.nd (ja_cons (je_var 0) (ja_cons (je_lst ja_nil) ja_nil)))
  (jss_cons (js_for (passes_of rfl) rfl (ji_range1 (z_range KX Gn c) (je_var 2)) (jg_name 5 sc_in_parts.nd)
  (jss_cons (js_set 6 sc_in_parts.nd (je_op jop_add (je_op jop_fdiv (je_var 0) (je_var 2)) (je_bty jb_int (z_int KX Gn c) boot_int (ja_cons (je_cmp jop_lt (je_var 5) (je_op jop_mod (je_var 0) (je_var 2))) ja_nil))))
  (jss_cons (js_set 7 sc_in_parts.nd (je_call h_interest (takes_of rfl rfl rfl rfl) (hr.mono (by decide)) (g_interest KX Gn c) (ja_cons (je_var 3) (ja_cons (je_var 1) ja_nil))))
  (jss_cons (js_aug 3 sc_in_parts.nd jip_sub (je_var 6))
  (jss_one (js_expr (je_app (je_var 4) (je_tup (ja_cons (je_var 7) (ja_cons (je_var 6) (ja_cons (je_op jop_add (je_var 6) (je_var 7)) (ja_cons (je_var 3) ja_nil))))))))))))
  (jss_one (js_ret (je_bty jb_tuple (z_tuple KX Gn c) boot_tuple (ja_cons (je_var 4) ja_nil)))))))
theorem fn_all_at_end {M_interest : DF} (h_interest : FnD P w K mg base (GK K) 3 (He.fAd K ("interest", none)) 2 M_interest) {M_check_loan : DF} (h_check_loan : FnD P w K mg base (GK K) 1 (He.fAd K ("check_loan", none)) 3 M_check_loan) : FnD P w K mg base (GK K) 4 (He.fAd K ("all_at_end", none)) 3 (runD 5 (f_all_at_end M_interest M_check_loan)) := by
  obtain ⟨fd, F0⟩ := c.def_ 12 (d := d_all_at_end) rfl
  have F : FunD K "all_at_end" "all_at_end" (defArgs s_all_at_end) (defBody s_all_at_end) (defScope s_all_at_end) [] [] (He.fAd K ("all_at_end", none)) fd := F0
  have b : Binds K fd ["sum_there", "rate", "many"] [] := F.bindsN fun _ _ _ _ _ _ us hl => match us, hl with | [_, _, _], _ => rfl
  exact fnD_of F sc_all_at_end b fun cdv A outer s H E hl hcd hr => (jss_cons (js_expr (je_call h_check_loan (takes_of rfl rfl rfl rfl) (hr.mono (by decide)) (g_check_loan KX Gn c) (ja_cons (je_var 0) (ja_cons (je_var 1) (ja_cons (je_var 2) ja_nil)))))
  (jss_cons (js_set 3 sc_all_at_end.nd (je_call h_interest (takes_of rfl rfl rfl rfl) (hr.mono (by decide)) (g_interest KX Gn c) (ja_cons (je_var 0) (ja_cons (je_var 1) ja_nil))))
  (jss_cons (js_set 4 sc_all_at_end.nd (je_op jop_mul2 (je_lst (ja_cons (je_tup (ja_cons (je_var 3) (ja_cons je_int (ja_cons (je_var 3) (ja_cons (je_var 0) ja_nil))))) ja_nil)) (je_op jop_sub (je_var 2) je_int)))
  (jss_one (js_ret (je_op jop_add (je_bty jb_tuple (z_tuple KX Gn c) boot_tuple (ja_cons (je_var 4) ja_nil)) (je_tup (ja_cons (je_tup (ja_cons (je_var 3) (ja_cons (je_var 0) (ja_cons (je_op jop_add (je_var 0) (je_var 3)) (ja_cons je_int ja_nil))))) ja_nil))))))))
theorem fn_paid_ahead {M_interest : DF} (h_interest : FnD P w K mg base (GK K) 3 (He.fAd K ("interest", none)) 2 M_interest) (sup_Short : SupC K P ((GK K).cA "Short") "lacking") : FnD P w K mg base (GK K) 4 (He.fAd K ("paid_ahead", none)) 5 (runD 14 (f_paid_ahead M_interest)) := by
  obtain ⟨fd, F0⟩ := c.def_ 14 (d := d_paid_ahead) rfl
  have F : FunD K "paid_ahead" "paid_ahead" (defArgs s_paid_ahead) (defBody s_paid_ahead) (defScope s_paid_ahead) [] [] (He.fAd K ("paid_ahead", none)) fd := F0
  have b : Binds K fd ["rows", "sum_there", "rate", "k", "extra"] [] := F.bindsN fun _ _ _ _ _ _ us hl => match us, hl with | [_, _, _, _, _], _ => rfl
  exact fnD_of F sc_paid_ahead b fun cdv A outer s H E hl hcd hr => (jss_cons (js_if (jt_of (jw_or (jt_not (jt_chain jop_le jop_lt je_int (je_var 3) (je_blt jb_len (z_len KX Gn c) boot_len (ja_cons (je_var 0) ja_nil)))) (jw_or1 (jt_cmp jop_lt (je_var 4) je_int))))
  (jss_one (js_raise (c := "BadRule") rfl (takes_of rfl rfl rfl rfl) PySem.F.excBase_ValueError (x_BadRule KX Gn c).1 (g_BadRule KX Gn c) (x_BadRule KX Gn c).2.1 (raises_own (x_BadRule KX Gn c).2.2.1 (x_BadRule KX Gn c).2.2.2)))
  jss_nil)
  (jss_cons (js_if (jt_cmp jop_gt (je_var 4) (je_ix (je_ix (je_var 0) (je_var 3)) je_int))
  (jss_one (js_raiseI (c := "Short") (fld := "lacking") (k := 0) rfl (takes_of rfl rfl rfl rfl) sup_Short (hr.mono (by decide)) (g_Short KX Gn c) (z_super KX Gn c) (je_op jop_sub (je_var 4) (je_ix (je_ix (je_var 0) (je_var 3)) je_int))))
  jss_nil)
  (jss_cons (js_asg (je_ix (je_var 0) (je_var 3)) (jg_tup rfl (jgs_cons (jg_name 5 sc_paid_ahead.nd) (jgs_cons (jg_name 6 sc_paid_ahead.nd) (jgs_cons (jg_name 7 sc_paid_ahead.nd) (jgs_cons (jg_name 8 sc_paid_ahead.nd) jgs_nil))))))
  (jss_cons (js_set 9 sc_paid_ahead.nd (je_op jop_add (je_bty jb_list (z_list KX Gn c) boot_list (ja_cons (je_slice (je_var 0) jp_none (jp_some (je_var 3))) ja_nil)) (je_lst (ja_cons (je_tup (ja_cons (je_var 5) (ja_cons (je_op jop_add (je_var 6) (je_var 4)) (ja_cons (je_op jop_add (je_var 7) (je_var 4)) (ja_cons (je_op jop_sub (je_var 8) (je_var 4)) ja_nil))))) ja_nil))))
  (jss_cons (js_aug 8 sc_paid_ahead.nd jip_sub (je_var 4))
  (jss_cons (js_set 10 sc_paid_ahead.nd (je_blt (jb_max2 rfl) (z_max KX Gn c) boot_max (ja_cons (je_lc rfl sc_paid_ahead.nd (blkOk_by (own := [("row", 13)]) (N := N_paid_ahead) (sc := defScope s_paid_ahead) (by decide +kernel)) (ji_seq (je_var 0)) (fun _ _ _ _ _ => (jgv_name 13 sc_paid_ahead.nd (by decide))) (fun _ _ _ _ _ => jts_nil) (fun _ _ _ _ _ => (je_ix (je_var 13) je_int))) ja_nil)))
  (jss_cons (js_while (passes_of rfl) (jt_cmp jop_gt (je_var 8) je_int) (jss_cons (js_set 11 sc_paid_ahead.nd (je_call h_interest (takes_of rfl rfl rfl rfl) (hr.mono (by decide)) (g_interest KX Gn c) (ja_cons (je_var 8) (ja_cons (je_var 2) ja_nil))))
  (jss_cons (js_if (jt_cmp jop_ge (je_var 11) (je_var 10))
  (jss_one (js_raise (c := "NoAnswer") rfl (takes_of rfl rfl rfl rfl) PySem.F.excBase_ValueError (x_NoAnswer KX Gn c).1 (g_NoAnswer KX Gn c) (x_NoAnswer KX Gn c).2.1 (raises_own (x_NoAnswer KX Gn c).2.2.1 (x_NoAnswer KX Gn c).2.2.2)))
  jss_nil)
  (jss_cons (js_set 12 sc_paid_ahead.nd (je_blt (jb_min rfl) (z_min KX Gn c) boot_min (ja_cons (je_var 10) (ja_cons (je_op jop_add (je_var 8) (je_var 11)) ja_nil))))
  (jss_cons (js_expr (je_app (je_var 9) (je_tup (ja_cons (je_var 11) (ja_cons (je_op jop_sub (je_var 12) (je_var 11)) (ja_cons (je_var 12) (ja_cons (je_op jop_sub (je_op jop_add (je_var 8) (je_var 11)) (je_var 12)) ja_nil)))))))
  (jss_one (js_aug 8 sc_paid_ahead.nd jip_add (je_op jop_sub (je_var 11) (je_var 12)))))))))
  (jss_one (js_ret (je_bty jb_tuple (z_tuple KX Gn c) boot_tuple (ja_cons (je_var 9) ja_nil)))))))))))
theorem fn_look_plan {M_interest : DF} (h_interest : FnD P w K mg base (GK K) 3 (He.fAd K ("interest", none)) 2 M_interest) : FnD P w K mg base (GK K) 4 (He.fAd K ("look_plan", none)) 3 (runD 9 (f_look_plan M_interest)) := by
  obtain ⟨fd, F0⟩ := c.def_ 13 (d := d_look_plan) rfl
  have F : FunD K "look_plan" "look_plan" (defArgs s_look_plan) (defBody s_look_plan) (defScope s_look_plan) [] [] (He.fAd K ("look_plan", none)) fd := F0
  have b : Binds K fd ["sum_there", "rate", "rows"] [] := F.bindsN fun _ _ _ _ _ _ us hl => match us, hl with | [_, _, _], _ => rfl
  exact fnD_of F sc_look_plan b fun cdv A outer s H E hl hcd hr => (jss_cons (js_set 3 sc_look_plan.nd (je_var 0))
  (jss_cons (js_for (passes_of rfl) rfl (ji_enum (z_enumerate KX Gn c) (je_var 2)) (jg_tup rfl (jgs_cons (jg_name 4 sc_look_plan.nd) (jgs_cons (jg_tup rfl (jgs_cons (jg_name 5 sc_look_plan.nd) (jgs_cons (jg_name 6 sc_look_plan.nd) (jgs_cons (jg_name 7 sc_look_plan.nd) (jgs_cons (jg_name 8 sc_look_plan.nd) jgs_nil))))) jgs_nil)))
  (jss_cons (js_if (jt_of (jw_or (jt_cmp (jop_ne hr.units) (je_var 5) (je_call h_interest (takes_of rfl rfl rfl rfl) (hr.mono (by decide)) (g_interest KX Gn c) (ja_cons (je_var 3) (ja_cons (je_var 1) ja_nil)))) (jw_or (jt_cmp (jop_ne hr.units) (je_op jop_add (je_var 6) (je_var 5)) (je_var 7)) (jw_or1 (jt_cmp (jop_ne hr.units) (je_var 8) (je_op jop_sub (je_var 3) (je_var 6)))))))
  (jss_one (js_ret (je_var 4)))
  jss_nil)
  (jss_one (js_set 3 sc_look_plan.nd (je_var 8)))))
  (jss_one (js_ret (je_if (jt_cmp (jop_eq hr.units) (je_var 3) je_int) je_non (je_blt jb_len (z_len KX Gn c) boot_len (ja_cons (je_var 2) ja_nil)))))))
theorem fn__law_ahead {M_look_plan : DF} (h_look_plan : FnD P w K mg base (GK K) 4 (He.fAd K ("look_plan", none)) 3 M_look_plan) {M_paid_ahead : DF} (h_paid_ahead : FnD P w K mg base (GK K) 4 (He.fAd K ("paid_ahead", none)) 5 M_paid_ahead) {M__law_roll : DF} (h__law_roll : FnD P w K mg base (GK K) 1 (He.fAd K ("_law_roll", none)) 2 M__law_roll) : FnD P w K mg base (GK K) 5 (He.fAd K ("_law_ahead", none)) 5 (runD 9 (f__law_ahead M_look_plan M_paid_ahead M__law_roll)) := by
  obtain ⟨fd, F0⟩ := c.def_ 29 (d := d__law_ahead) rfl
  have F : FunD K "_law_ahead" "_law_ahead" (defArgs s__law_ahead) (defBody s__law_ahead) (defScope s__law_ahead) [] [] (He.fAd K ("_law_ahead", none)) fd := F0
  have b : Binds K fd ["dice", "whole", "rate", "rows", "many"] [] := F.bindsN fun _ _ _ _ _ _ us hl => match us, hl with | [_, _, _, _, _], _ => rfl
  exact fnD_of F sc__law_ahead b fun cdv A outer s H E hl hcd hr => (jss_cons (js_set 5 sc__law_ahead.nd (je_call h__law_roll (takes_of rfl rfl rfl rfl) (hr.mono (by decide)) (g__law_roll KX Gn c) (ja_cons (je_var 0) (ja_cons (je_var 4) ja_nil))))
  (jss_cons (js_set 6 sc__law_ahead.nd (je_call h__law_roll (takes_of rfl rfl rfl rfl) (hr.mono (by decide)) (g__law_roll KX Gn c) (ja_cons (je_var 0) (ja_cons (je_op jop_add (je_ix (je_ix (je_var 3) (je_var 5)) je_int) je_int) ja_nil))))
  (jss_cons (js_set 7 sc__law_ahead.nd (je_call h_paid_ahead (takes_of rfl rfl rfl rfl) (hr.mono (by decide)) (g_paid_ahead KX Gn c) (ja_cons (je_var 3) (ja_cons (je_var 1) (ja_cons (je_var 2) (ja_cons (je_var 5) (ja_cons (je_var 6) ja_nil)))))))
  (jss_cons (js_if (jt_cmp jop_notN (je_call h_look_plan (takes_of rfl rfl rfl rfl) (hr.mono (by decide)) (g_look_plan KX Gn c) (ja_cons (je_var 1) (ja_cons (je_var 2) (ja_cons (je_var 7) ja_nil)))) je_non)
  (jss_one (js_ret je_bl))
  jss_nil)
  (jss_cons (js_if (jt_of (jw_or (jt_cmp jop_gt (je_blt (jb_sum rfl) (z_sum KX Gn c) PyProof.Rows.boot_sum (ja_cons (je_lc rfl sc__law_ahead.nd (blkOk_by (own := [("row", 8)]) (N := N__law_ahead) (sc := defScope s__law_ahead) (by decide +kernel)) (ji_seq (je_var 7)) (fun _ _ _ _ _ => (jgv_name 8 sc__law_ahead.nd (by decide))) (fun _ _ _ _ _ => jts_nil) (fun _ _ _ _ _ => (je_ix (je_var 8) je_int))) ja_nil)) (je_blt (jb_sum rfl) (z_sum KX Gn c) PyProof.Rows.boot_sum (ja_cons (je_lc rfl sc__law_ahead.nd (blkOk_by (own := [("row", 8)]) (N := N__law_ahead) (sc := defScope s__law_ahead) (by decide +kernel)) (ji_seq (je_var 3)) (fun _ _ _ _ _ => (jgv_name 8 sc__law_ahead.nd (by decide))) (fun _ _ _ _ _ => jts_nil) (fun _ _ _ _ _ => (je_ix (je_var 8) je_int))) ja_nil))) (jw_or1 (jt_cmp jop_gt (je_blt jb_len (z_len KX Gn c) boot_len (ja_cons (je_var 7) ja_nil)) (je_blt jb_len (z_len KX Gn c) boot_len (ja_cons (je_var 3) ja_nil))))))
  (jss_one (js_ret je_bl))
  jss_nil)
  (jss_one (js_ret je_bl)))))))
theorem fn_order  : FnD P w K mg base (GK K) 1 (He.fAd K ("order", none)) 2 (runD 3 (f_order)) := by
  obtain ⟨fd, F0⟩ := c.def_ 4 (d := d_order) rfl
  have F : FunD K "order" "order" (defArgs s_order) (defBody s_order) (defScope s_order) [] [] (He.fAd K ("order", none)) fd := F0
  have b : Binds K fd ["a", "b"] [] := F.bindsN fun _ _ _ _ _ _ us hl => match us, hl with | [_, _], _ => rfl
  exact fnD_of F sc_order b fun cdv A outer s H E hl hcd hr => (jss_cons (js_set 2 sc_order.nd (je_op jop_sub (je_op jop_mul (je_ix (je_var 0) je_int) (je_ix (je_var 1) je_int)) (je_op jop_mul (je_ix (je_var 1) je_int) (je_ix (je_var 0) je_int))))
  (jss_one (js_ret (je_op jop_sub (je_cmp jop_gt (je_var 2) je_int) (je_cmp jop_lt (je_var 2) je_int)))))
theorem fn_add {M_part : DF} (h_part : FnD P w K mg base (GK K) 1 (He.fAd K ("part", none)) 2 M_part) : FnD P w K mg base (GK K) 2 (He.fAd K ("add", none)) 2 (runD 2 (f_add M_part)) := by
  obtain ⟨fd, F0⟩ := c.def_ 1 (d := d_add) rfl
  have F : FunD K "add" "add" (defArgs s_add) (defBody s_add) (defScope s_add) [] [] (He.fAd K ("add", none)) fd := F0
  have b : Binds K fd ["a", "b"] [] := F.bindsN fun _ _ _ _ _ _ us hl => match us, hl with | [_, _], _ => rfl
  exact fnD_of F sc_add b fun cdv A outer s H E hl hcd hr => (jss_one (js_ret (je_call h_part (takes_of rfl rfl rfl rfl) (hr.mono (by decide)) (g_part KX Gn c) (ja_cons (je_op jop_add (je_op jop_mul (je_ix (je_var 0) je_int) (je_ix (je_var 1) je_int)) (je_op jop_mul (je_ix (je_var 1) je_int) (je_ix (je_var 0) je_int))) (ja_cons (je_op jop_mul (je_ix (je_var 0) je_int) (je_ix (je_var 1) je_int)) ja_nil)))))
theorem fn_over {M_part : DF} (h_part : FnD P w K mg base (GK K) 1 (He.fAd K ("part", none)) 2 M_part) : FnD P w K mg base (GK K) 2 (He.fAd K ("over", none)) 2 (runD 2 (f_over M_part)) := by
  obtain ⟨fd, F0⟩ := c.def_ 3 (d := d_over) rfl
  have F : FunD K "over" "over" (defArgs s_over) (defBody s_over) (defScope s_over) [] [] (He.fAd K ("over", none)) fd := F0
  have b : Binds K fd ["a", "b"] [] := F.bindsN fun _ _ _ _ _ _ us hl => match us, hl with | [_, _], _ => rfl
  exact fnD_of F sc_over b fun cdv A outer s H E hl hcd hr => (jss_one (js_ret (je_call h_part (takes_of rfl rfl rfl rfl) (hr.mono (by decide)) (g_part KX Gn c) (ja_cons (je_op jop_mul (je_ix (je_var 0) je_int) (je_ix (je_var 1) je_int)) (ja_cons (je_op jop_mul (je_ix (je_var 0) je_int) (je_ix (je_var 1) je_int)) ja_nil)))))
theorem fn_worth_now {M_times : DF} (h_times : FnD P w K mg base (GK K) 2 (He.fAd K ("times", none)) 2 M_times) {M_add : DF} (h_add : FnD P w K mg base (GK K) 2 (He.fAd K ("add", none)) 2 M_add) {M_over : DF} (h_over : FnD P w K mg base (GK K) 2 (He.fAd K ("over", none)) 2 M_over) : FnD P w K mg base (GK K) 3 (He.fAd K ("worth_now", none)) 2 (runD 6 (f_worth_now M_times M_add M_over)) := by
  obtain ⟨fd, F0⟩ := c.def_ 15 (d := d_worth_now) rfl
  have F : FunD K "worth_now" "worth_now" (defArgs s_worth_now) (defBody s_worth_now) (defScope s_worth_now) [] [] (He.fAd K ("worth_now", none)) fd := F0
  have b : Binds K fd ["pays", "rate"] [] := F.bindsN fun _ _ _ _ _ _ us hl => match us, hl with | [_, _], _ => rfl
  exact fnD_of F sc_worth_now b fun cdv A outer s H E hl hcd hr => (jss_cons (js_asg (je_tup (ja_cons (je_tup (ja_cons je_int (ja_cons je_int ja_nil))) (ja_cons (je_tup (ja_cons je_int (ja_cons je_int ja_nil))) ja_nil))) (jg_tup rfl (jgs_cons (jg_name 2 sc_worth_now.nd) (jgs_cons (jg_name 3 sc_worth_now.nd) jgs_nil))))
  (jss_cons (js_set 4 sc_worth_now.nd (je_call h_add (takes_of rfl rfl rfl rfl) (hr.mono (by decide)) (g_add KX Gn c) (ja_cons (je_tup (ja_cons je_int (ja_cons je_int ja_nil))) (ja_cons (je_var 1) ja_nil))))
  (jss_cons (js_for (passes_of rfl) rfl (ji_seq (je_var 0)) (jg_name 5 sc_worth_now.nd)
  (jss_cons (js_set 3 sc_worth_now.nd (je_call h_over (takes_of rfl rfl rfl rfl) (hr.mono (by decide)) (g_over KX Gn c) (ja_cons (je_var 3) (ja_cons (je_var 4) ja_nil))))
  (jss_one (js_set 2 sc_worth_now.nd (je_call h_add (takes_of rfl rfl rfl rfl) (hr.mono (by decide)) (g_add KX Gn c) (ja_cons (je_var 2) (ja_cons (je_call h_times (takes_of rfl rfl rfl rfl) (hr.mono (by decide)) (g_times KX Gn c) (ja_cons (je_tup (ja_cons (je_var 5) (ja_cons je_int ja_nil))) (ja_cons (je_var 3) ja_nil))) ja_nil)))))))
  (jss_one (js_ret (je_var 2))))))
theorem fn_rate_of {M_part : DF} (h_part : FnD P w K mg base (GK K) 1 (He.fAd K ("part", none)) 2 M_part) {M_worth_now : DF} (h_worth_now : FnD P w K mg base (GK K) 3 (He.fAd K ("worth_now", none)) 2 M_worth_now) {M_order : DF} (h_order : FnD P w K mg base (GK K) 1 (He.fAd K ("order", none)) 2 M_order) (tb : ∀ p ∈ tf, LamX.TabB base mg (He.cT K p).1 (He.cT K p).2) (nd2 : (tf.map fun p => (He.cT K p).2).Nodup) : FnD P w K mg base (GK K) 4 (He.fAd K ("rate_of", none)) 3 (runD 7 (f_rate_of M_part M_worth_now M_order)) := by
  obtain ⟨fd, F0⟩ := c.def_ 16 (d := d_rate_of) rfl
  have F : FunD K "rate_of" "rate_of" (defArgs s_rate_of) (defBody s_rate_of) (defScope s_rate_of) [] [] (He.fAd K ("rate_of", none)) fd := F0
  have b : Binds K fd ["sum_there", "pays", "fine"] [] := F.bindsN fun _ _ _ _ _ _ us hl => match us, hl with | [_, _, _], _ => rfl
  obtain ⟨fdT, FT0⟩ := c.def_ 25 (d := d__law_told) rfl
  have FT : FunD K "_law_told" "_law_told" (defArgs s__law_told) (defBody s__law_told) (defScope s__law_told) [] [] (He.fAd K ("_law_told", none)) fdT := FT0
  have bT : Binds K fdT ["what"] [] := FT.bindsN fun _ _ _ _ _ _ us hl => match us, hl with | [_], _ => rfl
  have kT := FT.kp
  obtain ⟨ocT, odT, dVT, kVT, docT, pmT, anT, cdT, ctT, oslT, rfl, lkT, hcT, _, _⟩ := FT.ex
  have hu : ∀ p ∈ (GK K).T, p.1 = (He.cT K ("rate_of", none)).2 → p.2 = (("rate_of" : Str) ++ (".<locals>." : Str)) ++ ("<genexpr>" : Str) := by
    have n2 := nd2
    simp only [tf, List.map_cons, List.map_nil, List.nodup_cons, List.mem_cons, List.not_mem_nil, or_false, not_or] at n2
    intro p hp e
    simp only [GK, List.mem_cons, List.not_mem_nil, or_false] at hp
    rcases hp with rfl | rfl | rfl
    · rfl
    · exfalso; simp_all
    · exfalso; simp_all
  refine fnD_of F sc_rate_of b fun cdv A outer s H E hl hcd hr => ?_
  have ec := code_is (p := ("rate_of", none)) hl hcd
  subst ec
  exact (jss_cons (js_if (jt_of (jw_or (jt_cmp jop_lt (je_var 2) je_int) (jw_or (jt_cmp jop_lt (je_var 0) je_int) (jw_or (jt_val (je_anyG (c := (He.cT K ("rate_of", none)).1) (P := (He.cT K ("rate_of", none)).2) (k := 1) (hr.mono (by decide)) (z_any KX Gn c) (tb ("rate_of", none) (List.Mem.head _)) rfl (List.Mem.head _) hu (genS_by (by decide +kernel)) (je_var 1) (ej_lt (ej_name (by decide +kernel) (by decide +kernel)) ej_int))) (jw_or1 (jt_cmp jop_lt (je_blt (jb_sum rfl) (z_sum KX Gn c) PyProof.Rows.boot_sum (ja_cons (je_var 1) ja_nil)) (je_var 0)))))))
  (jss_one (js_raise (c := "NoAnswer") rfl (takes_of rfl rfl rfl rfl) PySem.F.excBase_ValueError (x_NoAnswer KX Gn c).1 (g_NoAnswer KX Gn c) (x_NoAnswer KX Gn c).2.1 (raises_own (x_NoAnswer KX Gn c).2.2.1 (x_NoAnswer KX Gn c).2.2.2)))
  jss_nil)
  (jss_cons (js_par2 3 4 rfl sc_rate_of.nd (ja_cons je_int (ja_cons (je_var 2) ja_nil)))
  (jss_cons (js_while (passes_of rfl) (jt_cmp jop_gt (je_call h_order (takes_of rfl rfl rfl rfl) (hr.mono (by decide)) (g_order KX Gn c) (ja_cons (je_call h_worth_now (takes_of rfl rfl rfl rfl) (hr.mono (by decide)) (g_worth_now KX Gn c) (ja_cons (je_var 1) (ja_cons (je_call h_part (takes_of rfl rfl rfl rfl) (hr.mono (by decide)) (g_part KX Gn c) (ja_cons (je_var 4) (ja_cons (je_var 2) ja_nil))) ja_nil))) (ja_cons (je_tup (ja_cons (je_var 0) (ja_cons je_int ja_nil))) ja_nil))) je_int) (jss_cons (js_aug 4 sc_rate_of.nd jip_mul je_int)
  (jss_one (js_if (jt_cmp jop_gt (je_var 4) (je_op jop_mul je_int (je_var 2)))
  (jss_one (js_raise (c := "NoAnswer") rfl (takes_of rfl rfl rfl rfl) PySem.F.excBase_ValueError (x_NoAnswer KX Gn c).1 (g_NoAnswer KX Gn c) (x_NoAnswer KX Gn c).2.1 (raises_own (x_NoAnswer KX Gn c).2.2.1 (x_NoAnswer KX Gn c).2.2.2)))
  jss_nil))))
  (jss_cons (js_while (passes_of rfl) (jt_cmp jop_gt (je_op jop_sub (je_var 4) (je_var 3)) je_int) (jss_cons (js_set 5 sc_rate_of.nd (je_op jop_fdiv (je_op jop_add (je_var 3) (je_var 4)) je_int))
  (jss_one (js_if (jt_cmp jop_ge (je_call h_order (takes_of rfl rfl rfl rfl) (hr.mono (by decide)) (g_order KX Gn c) (ja_cons (je_call h_worth_now (takes_of rfl rfl rfl rfl) (hr.mono (by decide)) (g_worth_now KX Gn c) (ja_cons (je_var 1) (ja_cons (je_call h_part (takes_of rfl rfl rfl rfl) (hr.mono (by decide)) (g_part KX Gn c) (ja_cons (je_var 5) (ja_cons (je_var 2) ja_nil))) ja_nil))) (ja_cons (je_tup (ja_cons (je_var 0) (ja_cons je_int ja_nil))) ja_nil))) je_int)
  (jss_one (js_set 3 sc_rate_of.nd (je_var 5)))
  (jss_one (js_set 4 sc_rate_of.nd (je_var 5)))))))
  (jss_one (js_ret (je_tup (ja_cons (je_call h_part (takes_of rfl rfl rfl rfl) (hr.mono (by decide)) (g_part KX Gn c) (ja_cons (je_var 3) (ja_cons (je_var 2) ja_nil))) (ja_cons (je_call h_part (takes_of rfl rfl rfl rfl) (hr.mono (by decide)) (g_part KX Gn c) (ja_cons (je_var 4) (ja_cons (je_var 2) ja_nil))) ja_nil)))))))))
theorem fn__law_least  : FnD P w K mg base (GK K) 1 (He.fAd K ("_law_least", none)) 2 (runD 4 (f__law_least)) := by
  obtain ⟨fd, F0⟩ := c.def_ 26 (d := d__law_least) rfl
  have F : FunD K "_law_least" "_law_least" (defArgs s__law_least) (defBody s__law_least) (defScope s__law_least) [] [] (He.fAd K ("_law_least", none)) fd := F0
  have b : Binds K fd ["top", "bottom"] [] := F.bindsN fun _ _ _ _ _ _ us hl => match us, hl with | [_, _], _ => rfl
  exact fnD_of F sc__law_least b fun cdv A outer s H E hl hcd hr => (jss_cons (js_par2 2 3 rfl sc__law_least.nd (ja_cons (je_blt jb_abs (z_abs KX Gn c) boot_abs (ja_cons (je_var 0) ja_nil)) (ja_cons (je_var 1) ja_nil)))
  (jss_cons (js_while (passes_of rfl) (jt_cmp (jop_ne hr.units) (je_var 3) je_int) (jss_one (js_par2 2 3 rfl sc__law_least.nd (ja_cons (je_var 3) (ja_cons (je_op jop_mod (je_var 2) (je_var 3)) ja_nil)))))
  (jss_cons (js_set 2 sc__law_least.nd (je_blt (jb_max rfl) (z_max KX Gn c) boot_max (ja_cons (je_var 2) (ja_cons je_int ja_nil))))
  (jss_one (js_ret (je_tup (ja_cons (je_op jop_fdiv (je_var 0) (je_var 2)) (ja_cons (je_op jop_fdiv (je_var 1) (je_var 2)) ja_nil))))))))
theorem fn__law_worth {M__law_least : DF} (h__law_least : FnD P w K mg base (GK K) 1 (He.fAd K ("_law_least", none)) 2 M__law_least) : FnD P w K mg base (GK K) 2 (He.fAd K ("_law_worth", none)) 2 (runD 5 (f__law_worth M__law_least)) := by
  obtain ⟨fd, F0⟩ := c.def_ 28 (d := d__law_worth) rfl
  have F : FunD K "_law_worth" "_law_worth" (defArgs s__law_worth) (defBody s__law_worth) (defScope s__law_worth) [] [] (He.fAd K ("_law_worth", none)) fd := F0
  have b : Binds K fd ["pays", "hundredths"] [] := F.bindsN fun _ _ _ _ _ _ us hl => match us, hl with | [_, _], _ => rfl
  exact fnD_of F sc__law_worth b fun cdv A outer s H E hl hcd hr => (jss_cons (js_asg (je_tup (ja_cons je_int (ja_cons je_int ja_nil))) (jg_tup rfl (jgs_cons (jg_name 2 sc__law_worth.nd) (jgs_cons (jg_name 3 sc__law_worth.nd) jgs_nil))))
  (jss_cons (js_for (passes_of rfl) rfl (ji_revS (z_reversed KX Gn c) (je_var 0)) (jg_name 4 sc__law_worth.nd)
  (jss_one (js_par2 2 3 rfl sc__law_worth.nd (ja_cons (je_op jop_mul (je_op jop_add (je_var 2) (je_op jop_mul (je_var 4) (je_var 3))) je_int) (ja_cons (je_op jop_mul (je_var 3) (je_op jop_add je_int (je_var 1))) ja_nil)))))
  (jss_one (js_ret (je_call h__law_least (takes_of rfl rfl rfl rfl) (hr.mono (by decide)) (g__law_least KX Gn c) (ja_cons (je_var 2) (ja_cons (je_var 3) ja_nil)))))))
theorem fn_grown {M_add : DF} (h_add : FnD P w K mg base (GK K) 2 (He.fAd K ("add", none)) 2 M_add) {M_times : DF} (h_times : FnD P w K mg base (GK K) 2 (He.fAd K ("times", none)) 2 M_times) : FnD P w K mg base (GK K) 3 (He.fAd K ("grown", none)) 3 (runD 5 (f_grown M_add M_times)) := by
  obtain ⟨fd, F0⟩ := c.def_ 17 (d := d_grown) rfl
  have F : FunD K "grown" "grown" (defArgs s_grown) (defBody s_grown) (defScope s_grown) [] [] (He.fAd K ("grown", none)) fd := F0
  have b : Binds K fd ["sum_there", "rate", "many"] [] := F.bindsN fun _ _ _ _ _ _ us hl => match us, hl with | [_, _, _], _ => rfl
  exact fnD_of F sc_grown b fun cdv A outer s H E hl hcd hr => (jss_cons (js_set 3 sc_grown.nd (je_tup (ja_cons (je_var 0) (ja_cons je_int ja_nil))))
  (jss_cons (js_for (passes_of rfl) rfl (ji_range1 (z_range KX Gn c) (je_var 2)) (jg_name 4 sc_grown.nd)
  (jss_one (js_set 3 sc_grown.nd (je_call h_times (takes_of rfl rfl rfl rfl) (hr.mono (by decide)) (g_times KX Gn c) (ja_cons (je_var 3) (ja_cons (je_call h_add (takes_of rfl rfl rfl rfl) (hr.mono (by decide)) (g_add KX Gn c) (ja_cons (je_tup (ja_cons je_int (ja_cons je_int ja_nil))) (ja_cons (je_var 1) ja_nil))) ja_nil))))))
  (jss_one (js_ret (je_var 3)))))
theorem fn_year_rate {M_add : DF} (h_add : FnD P w K mg base (GK K) 2 (He.fAd K ("add", none)) 2 M_add) {M_times : DF} (h_times : FnD P w K mg base (GK K) 2 (He.fAd K ("times", none)) 2 M_times) : FnD P w K mg base (GK K) 3 (He.fAd K ("year_rate", none)) 2 (runD 4 (f_year_rate M_add M_times)) := by
  obtain ⟨fd, F0⟩ := c.def_ 18 (d := d_year_rate) rfl
  have F : FunD K "year_rate" "year_rate" (defArgs s_year_rate) (defBody s_year_rate) (defScope s_year_rate) [] [] (He.fAd K ("year_rate", none)) fd := F0
  have b : Binds K fd ["rate", "many"] [] := F.bindsN fun _ _ _ _ _ _ us hl => match us, hl with | [_, _], _ => rfl
  exact fnD_of F sc_year_rate b fun cdv A outer s H E hl hcd hr => (jss_cons (js_set 2 sc_year_rate.nd (je_tup (ja_cons je_int (ja_cons je_int ja_nil))))
  (jss_cons (js_for (passes_of rfl) rfl (ji_range1 (z_range KX Gn c) (je_var 1)) (jg_name 3 sc_year_rate.nd)
  (jss_one (js_set 2 sc_year_rate.nd (je_call h_times (takes_of rfl rfl rfl rfl) (hr.mono (by decide)) (g_times KX Gn c) (ja_cons (je_var 2) (ja_cons (je_call h_add (takes_of rfl rfl rfl rfl) (hr.mono (by decide)) (g_add KX Gn c) (ja_cons (je_tup (ja_cons je_int (ja_cons je_int ja_nil))) (ja_cons (je_var 0) ja_nil))) ja_nil))))))
  (jss_one (js_ret (je_call h_add (takes_of rfl rfl rfl rfl) (hr.mono (by decide)) (g_add KX Gn c) (ja_cons (je_var 2) (ja_cons (je_tup (ja_cons (je_neg je_int) (ja_cons je_int ja_nil))) ja_nil)))))))
theorem fn_day_interest {M_part : DF} (h_part : FnD P w K mg base (GK K) 1 (He.fAd K ("part", none)) 2 M_part) {M_times : DF} (h_times : FnD P w K mg base (GK K) 2 (He.fAd K ("times", none)) 2 M_times) {M_rounded : DF} (h_rounded : FnD P w K mg base (GK K) 1 (He.fAd K ("rounded", none)) 2 M_rounded) : FnD P w K mg base (GK K) 3 (He.fAd K ("day_interest", none)) 4 (runD 4 (f_day_interest M_part M_times M_rounded)) := by
  obtain ⟨fd, F0⟩ := c.def_ 19 (d := d_day_interest) rfl
  have F : FunD K "day_interest" "day_interest" (defArgs s_day_interest) (defBody s_day_interest) (defScope s_day_interest) [] [] (He.fAd K ("day_interest", none)) fd := F0
  have b : Binds K fd ["sum_there", "rate", "days", "year_days"] [] := F.bindsN fun _ _ _ _ _ _ us hl => match us, hl with | [_, _, _, _], _ => rfl
  exact fnD_of F sc_day_interest b fun cdv A outer s H E hl hcd hr => (jss_cons (js_if (jt_of (jw_or (jt_cmp jop_lt (je_var 2) je_int) (jw_or1 (jt_cmp jop_lt (je_var 3) je_int))))
  (jss_one (js_raise (c := "BadRule") rfl (takes_of rfl rfl rfl rfl) PySem.F.excBase_ValueError (x_BadRule KX Gn c).1 (g_BadRule KX Gn c) (x_BadRule KX Gn c).2.1 (raises_own (x_BadRule KX Gn c).2.2.1 (x_BadRule KX Gn c).2.2.2)))
  jss_nil)
  (jss_one (js_ret (je_call h_rounded (takes_of rfl rfl rfl rfl) (hr.mono (by decide)) (g_rounded KX Gn c) (ja_cons (je_call h_times (takes_of rfl rfl rfl rfl) (hr.mono (by decide)) (g_times KX Gn c) (ja_cons (je_call h_times (takes_of rfl rfl rfl rfl) (hr.mono (by decide)) (g_times KX Gn c) (ja_cons (je_tup (ja_cons (je_var 0) (ja_cons je_int ja_nil))) (ja_cons (je_var 1) ja_nil))) (ja_cons (je_call h_part (takes_of rfl rfl rfl rfl) (hr.mono (by decide)) (g_part KX Gn c) (ja_cons (je_var 2) (ja_cons (je_var 3) ja_nil))) ja_nil))) (ja_cons je_str ja_nil))))))
theorem fn__law_worths {M_day_interest : DF} (h_day_interest : FnD P w K mg base (GK K) 3 (He.fAd K ("day_interest", none)) 4 M_day_interest) {M_year_rate : DF} (h_year_rate : FnD P w K mg base (GK K) 3 (He.fAd K ("year_rate", none)) 2 M_year_rate) {M__law_least : DF} (h__law_least : FnD P w K mg base (GK K) 1 (He.fAd K ("_law_least", none)) 2 M__law_least) {M_grown : DF} (h_grown : FnD P w K mg base (GK K) 3 (He.fAd K ("grown", none)) 3 M_grown) {M_worth_now : DF} (h_worth_now : FnD P w K mg base (GK K) 3 (He.fAd K ("worth_now", none)) 2 M_worth_now) {M_order : DF} (h_order : FnD P w K mg base (GK K) 1 (He.fAd K ("order", none)) 2 M_order) {M_rate_of : DF} (h_rate_of : FnD P w K mg base (GK K) 4 (He.fAd K ("rate_of", none)) 3 M_rate_of) {M__law_worth : DF} (h__law_worth : FnD P w K mg base (GK K) 2 (He.fAd K ("_law_worth", none)) 2 M__law_worth) : FnD P w K mg base (GK K) 5 (He.fAd K ("_law_worths", none)) 4 (runD 11 (f__law_worths M_day_interest M_year_rate M__law_least M_grown M_worth_now M_order M_rate_of M__law_worth)) := by
  obtain ⟨fd, F0⟩ := c.def_ 32 (d := d__law_worths) rfl
  have F : FunD K "_law_worths" "_law_worths" (defArgs s__law_worths) (defBody s__law_worths) (defScope s__law_worths) [] [] (He.fAd K ("_law_worths", none)) fd := F0
  have b : Binds K fd ["whole", "hundredths", "rate", "rows"] [] := F.bindsN fun _ _ _ _ _ _ us hl => match us, hl with | [_, _, _, _], _ => rfl
  exact fnD_of F sc__law_worths b fun cdv A outer s H E hl hcd hr => (jss_cons (js_setLc 4 rfl sc__law_worths.nd (blkOk_by (own := [("row", 10)]) (N := N__law_worths) (sc := defScope s__law_worths) (by decide +kernel)) (ji_seq (je_var 3)) (fun _ _ _ _ _ => (jgv_name 10 sc__law_worths.nd (by decide))) (fun _ _ _ _ _ => jts_nil) (fun _ _ _ _ _ => (je_ix (je_var 10) je_int)) (sw_true rfl rfl rfl (by decide +kernel)))
  (jss_cons (js_if (jt_cmp (jop_ne hr.units) (je_call h_worth_now (takes_of rfl rfl rfl rfl) (hr.mono (by decide)) (g_worth_now KX Gn c) (ja_cons (je_var 4) (ja_cons (je_var 2) ja_nil))) (je_call h__law_worth (takes_of rfl rfl rfl rfl) (hr.mono (by decide)) (g__law_worth KX Gn c) (ja_cons (je_var 4) (ja_cons (je_var 1) ja_nil))))
  (jss_one (js_ret je_bl))
  jss_nil)
  (jss_cons (js_asg (je_call h_rate_of (takes_of rfl rfl rfl rfl) (hr.mono (by decide)) (g_rate_of KX Gn c) (ja_cons (je_var 0) (ja_cons (je_var 4) (ja_cons je_int ja_nil)))) (jg_tup rfl (jgs_cons (jg_name 5 sc__law_worths.nd) (jgs_cons (jg_name 6 sc__law_worths.nd) jgs_nil))))
  (jss_cons (js_if (jt_of (jw_or (jt_cmp jop_lt (je_call h_order (takes_of rfl rfl rfl rfl) (hr.mono (by decide)) (g_order KX Gn c) (ja_cons (je_call h_worth_now (takes_of rfl rfl rfl rfl) (hr.mono (by decide)) (g_worth_now KX Gn c) (ja_cons (je_var 4) (ja_cons (je_var 5) ja_nil))) (ja_cons (je_tup (ja_cons (je_var 0) (ja_cons je_int ja_nil))) ja_nil))) je_int) (jw_or1 (jt_cmp jop_gt (je_call h_order (takes_of rfl rfl rfl rfl) (hr.mono (by decide)) (g_order KX Gn c) (ja_cons (je_call h_worth_now (takes_of rfl rfl rfl rfl) (hr.mono (by decide)) (g_worth_now KX Gn c) (ja_cons (je_var 4) (ja_cons (je_var 6) ja_nil))) (ja_cons (je_tup (ja_cons (je_var 0) (ja_cons je_int ja_nil))) ja_nil))) je_int))))
  (jss_one (js_ret je_bl))
  jss_nil)
  (jss_cons (js_if (jt_cmp jop_le (je_op jop_sub (je_op jop_mul (je_ix (je_var 6) je_int) (je_ix (je_var 5) je_int)) (je_op jop_mul (je_ix (je_var 5) je_int) (je_ix (je_var 6) je_int))) je_int)
  (jss_one (js_ret je_bl))
  jss_nil)
  (jss_cons (js_par2 7 8 rfl sc__law_worths.nd (ja_cons (je_var 0) (ja_cons je_int ja_nil)))
  (jss_cons (js_for (passes_of rfl) rfl (ji_range1 (z_range KX Gn c) je_int) (jg_name 9 sc__law_worths.nd)
  (jss_one (js_par2 7 8 rfl sc__law_worths.nd (ja_cons (je_op jop_mul (je_var 7) (je_op jop_add je_int (je_var 1))) (ja_cons (je_op jop_mul (je_var 8) je_int) ja_nil)))))
  (jss_cons (js_if (jt_cmp (jop_ne hr.units) (je_call h_grown (takes_of rfl rfl rfl rfl) (hr.mono (by decide)) (g_grown KX Gn c) (ja_cons (je_var 0) (ja_cons (je_var 2) (ja_cons je_int ja_nil)))) (je_call h__law_least (takes_of rfl rfl rfl rfl) (hr.mono (by decide)) (g__law_least KX Gn c) (ja_cons (je_var 7) (ja_cons (je_var 8) ja_nil))))
  (jss_one (js_ret je_bl))
  jss_nil)
  (jss_cons (js_if (jt_cmp (jop_ne hr.units) (je_call h_year_rate (takes_of rfl rfl rfl rfl) (hr.mono (by decide)) (g_year_rate KX Gn c) (ja_cons (je_var 2) (ja_cons je_int ja_nil))) (je_call h__law_least (takes_of rfl rfl rfl rfl) (hr.mono (by decide)) (g__law_least KX Gn c) (ja_cons (je_op jop_add (je_op jop_mul (je_op jop_mul je_int (je_var 1)) je_int) (je_op jop_mul (je_var 1) (je_var 1))) (ja_cons je_int ja_nil))))
  (jss_one (js_ret je_bl))
  jss_nil)
  (jss_cons (js_if (jt_cmp (jop_ne hr.units) (je_call h_day_interest (takes_of rfl rfl rfl rfl) (hr.mono (by decide)) (g_day_interest KX Gn c) (ja_cons (je_var 0) (ja_cons (je_var 2) (ja_cons je_int (ja_cons je_int ja_nil))))) je_int)
  (jss_one (js_ret je_bl))
  jss_nil)
  (jss_one (js_ret je_bl))))))))))))
theorem fn_cheapest {M_plan : DF} (h_plan : FnD P w K mg base (GK K) 6 (He.fAd K ("plan", none)) 3 M_plan) (tb : ∀ p ∈ tf, LamX.TabB base mg (He.cT K p).1 (He.cT K p).2) (nd2 : (tf.map fun p => (He.cT K p).2).Nodup) : FnD P w K mg base (GK K) 7 (He.fAd K ("cheapest", none)) 2 (runD 8 (f_cheapest M_plan)) := by
  obtain ⟨fd, F0⟩ := c.def_ 21 (d := d_cheapest) rfl
  have F : FunD K "cheapest" "cheapest" (defArgs s_cheapest) (defBody s_cheapest) (defScope s_cheapest) [] [] (He.fAd K ("cheapest", none)) fd := F0
  have b : Binds K fd ["offers", "sum_there"] [] := F.bindsN fun _ _ _ _ _ _ us hl => match us, hl with | [_, _], _ => rfl
  obtain ⟨fdT, FT0⟩ := c.def_ 25 (d := d__law_told) rfl
  have FT : FunD K "_law_told" "_law_told" (defArgs s__law_told) (defBody s__law_told) (defScope s__law_told) [] [] (He.fAd K ("_law_told", none)) fdT := FT0
  have bT : Binds K fdT ["what"] [] := FT.bindsN fun _ _ _ _ _ _ us hl => match us, hl with | [_], _ => rfl
  have kT := FT.kp
  obtain ⟨ocT, odT, dVT, kVT, docT, pmT, anT, cdT, ctT, oslT, rfl, lkT, hcT, _, _⟩ := FT.ex
  have hu : ∀ p ∈ (GK K).T, p.1 = (He.cT K ("cheapest", none)).2 → p.2 = (("cheapest" : Str) ++ (".<locals>." : Str)) ++ ("<genexpr>" : Str) := by
    have n2 := nd2
    simp only [tf, List.map_cons, List.map_nil, List.nodup_cons, List.mem_cons, List.not_mem_nil, or_false, not_or] at n2
    intro p hp e
    simp only [GK, List.mem_cons, List.not_mem_nil, or_false] at hp
    rcases hp with rfl | rfl | rfl
    · exfalso; simp_all
    · rfl
    · exfalso; simp_all
  refine fnD_of F sc_cheapest b fun cdv A outer s H E hl hcd hr => ?_
  have ec := code_is (p := ("cheapest", none)) hl hcd
  subst ec
  exact (jss_cons (js_set 2 sc_cheapest.nd (je_lst ja_nil))
  (jss_cons (js_for (passes_of rfl) rfl (ji_enum (z_enumerate KX Gn c) (je_var 0)) (jg_tup rfl (jgs_cons (jg_name 3 sc_cheapest.nd) (jgs_cons (jg_tup rfl (jgs_cons (jg_name 4 sc_cheapest.nd) (jgs_cons (jg_name 5 sc_cheapest.nd) (jgs_cons (jg_name 6 sc_cheapest.nd) jgs_nil)))) jgs_nil)))
  (jss_one (js_expr (je_app (je_var 2) (je_tup (ja_cons (je_op jop_add (je_var 6) (je_sumG (c := (He.cT K ("cheapest", none)).1) (P := (He.cT K ("cheapest", none)).2) (k := 1) (hr.mono (by decide)) (z_sum KX Gn c) (tb ("cheapest", none) (List.Mem.tail _ (List.Mem.head _))) rfl (List.Mem.tail _ (List.Mem.head _)) hu (genS_by (by decide +kernel)) (je_call h_plan (takes_of rfl rfl rfl rfl) (hr.mono (by decide)) (g_plan KX Gn c) (ja_cons (je_var 1) (ja_cons (je_var 4) (ja_cons (je_var 5) ja_nil)))) (ej_ix (ej_name (by decide +kernel) (by decide +kernel)) ej_int))) (ja_cons (je_var 3) ja_nil)))))))
  (jss_one (js_ret (je_ix (je_blt (jb_min3 rfl hr.units) (z_min KX Gn c) boot_min (ja_cons (je_var 2) ja_nil)) je_int)))))
theorem fn__law_offers {M_cheapest : DF} (h_cheapest : FnD P w K mg base (GK K) 7 (He.fAd K ("cheapest", none)) 2 M_cheapest) {M_plan : DF} (h_plan : FnD P w K mg base (GK K) 6 (He.fAd K ("plan", none)) 3 M_plan) {M__law_roll : DF} (h__law_roll : FnD P w K mg base (GK K) 1 (He.fAd K ("_law_roll", none)) 2 M__law_roll) {M_part : DF} (h_part : FnD P w K mg base (GK K) 1 (He.fAd K ("part", none)) 2 M_part) : FnD P w K mg base (GK K) 8 (He.fAd K ("_law_offers", none)) 2 (runD 9 (f__law_offers M_cheapest M_plan M__law_roll M_part)) := by
  obtain ⟨fd, F0⟩ := c.def_ 30 (d := d__law_offers) rfl
  have F : FunD K "_law_offers" "_law_offers" (defArgs s__law_offers) (defBody s__law_offers) (defScope s__law_offers) [] [] (He.fAd K ("_law_offers", none)) fd := F0
  have b : Binds K fd ["dice", "whole"] [] := F.bindsN fun _ _ _ _ _ _ us hl => match us, hl with | [_, _], _ => rfl
  exact fnD_of F sc__law_offers b fun cdv A outer s H E hl hcd hr => (jss_cons (js_setLc 2 rfl sc__law_offers.nd (blkOk_by (own := [("j", 4)]) (N := N__law_offers) (sc := defScope s__law_offers) (by decide +kernel)) (ji_range1 (z_range KX Gn c) je_int) (fun _ _ _ _ _ => (jgv_name 4 sc__law_offers.nd (by decide))) (fun _ _ _ _ _ => jts_nil) (fun _ _ _ _ _ => (je_tup (ja_cons (je_call h_part takes0 (hr.mono (by decide)) (g_part KX Gn c) (ja_cons (je_call h__law_roll takes0 (hr.mono (by decide)) (g__law_roll KX Gn c) (ja_cons (je_var 0) (ja_cons je_int ja_nil))) (ja_cons je_int ja_nil))) (ja_cons (je_op jop_add je_int (je_call h__law_roll takes0 (hr.mono (by decide)) (g__law_roll KX Gn c) (ja_cons (je_var 0) (ja_cons je_int ja_nil)))) (ja_cons (je_call h__law_roll takes0 (hr.mono (by decide)) (g__law_roll KX Gn c) (ja_cons (je_var 0) (ja_cons je_int ja_nil))) ja_nil))))) (sw_true rfl rfl rfl (by decide +kernel)))
  (jss_cons (js_setLc 3 rfl sc__law_offers.nd (blkOk_by (own := [("one", 5), ("times_there", 6), ("price", 7)]) (N := N__law_offers) (sc := defScope s__law_offers) (by decide +kernel)) (ji_seq (je_var 2)) (fun _ _ _ _ _ => (jgv_tup rfl (jgsv_cons (jgv_name 5 sc__law_offers.nd (by decide)) (jgsv_cons (jgv_name 6 sc__law_offers.nd (by decide)) (jgsv_cons (jgv_name 7 sc__law_offers.nd (by decide)) jgsv_nil))))) (fun _ _ _ _ _ => jts_nil) (fun _ _ _ _ _ => (je_op jop_add (je_var 7) (je_blt (jb_sum rfl) (z_sum KX Gn c) PyProof.Rows.boot_sum (ja_cons (je_lc rfl sc__law_offers.nd (blkOk_by (own := [("row", 8)]) (N := N__law_offers) (sc := _) (by kernel_rfl)) (ji_seq (je_call h_plan takes0 (hr.mono (by decide)) (g_plan KX Gn c) (ja_cons (je_var 1) (ja_cons (je_var 5) (ja_cons (je_var 6) ja_nil))))) (fun _ _ _ _ _ => (jgv_name 8 sc__law_offers.nd (by decide))) (fun _ _ _ _ _ => jts_nil) (fun _ _ _ _ _ => (je_ix (je_var 8) je_int))) ja_nil)))) (sw_true rfl rfl rfl (by decide +kernel)))
  (jss_cons (js_if (jt_cmp (jop_ne hr.units) (je_call h_cheapest (takes_of rfl rfl rfl rfl) (hr.mono (by decide)) (g_cheapest KX Gn c) (ja_cons (je_var 2) (ja_cons (je_var 1) ja_nil))) (je_index (je_var 3) (je_blt (jb_min3 rfl hr.units) (z_min KX Gn c) boot_min (ja_cons (je_var 3) ja_nil))))
  (jss_one (js_ret je_bl))
  jss_nil)
  (jss_one (js_ret je_bl)))))
theorem fn_times_till {M_interest : DF} (h_interest : FnD P w K mg base (GK K) 3 (He.fAd K ("interest", none)) 2 M_interest) : FnD P w K mg base (GK K) 4 (He.fAd K ("times_till", none)) 5 (runD 7 (f_times_till M_interest)) := by
  obtain ⟨fd, F0⟩ := c.def_ 20 (d := d_times_till) rfl
  have F : FunD K "times_till" "times_till" (defArgs s_times_till) (defBody s_times_till) (defScope s_times_till) [] [] (He.fAd K ("times_till", none)) fd := F0
  have b : Binds K fd ["goal", "start", "pay", "rate", "most"] [] := F.bindsN fun _ _ _ _ _ _ us hl => match us, hl with | [_, _, _, _, _], _ => rfl
  exact fnD_of F sc_times_till b fun cdv A outer s H E hl hcd hr => (jss_cons (js_set 5 sc_times_till.nd (je_var 1))
  (jss_cons (js_for (passes_of rfl) rfl (ji_range1 (z_range KX Gn c) (je_op jop_add (je_var 4) je_int)) (jg_name 6 sc_times_till.nd)
  (jss_cons (js_if (jt_cmp jop_ge (je_var 5) (je_var 0))
  (jss_one (js_ret (je_var 6)))
  jss_nil)
  (jss_one (js_aug 5 sc_times_till.nd jip_add (je_op jop_add (je_call h_interest (takes_of rfl rfl rfl rfl) (hr.mono (by decide)) (g_interest KX Gn c) (ja_cons (je_var 5) (ja_cons (je_var 3) ja_nil))) (je_var 2))))))
  (jss_one (js_raise (c := "NoAnswer") rfl (takes_of rfl rfl rfl rfl) PySem.F.excBase_ValueError (x_NoAnswer KX Gn c).1 (g_NoAnswer KX Gn c) (x_NoAnswer KX Gn c).2.1 (raises_own (x_NoAnswer KX Gn c).2.2.1 (x_NoAnswer KX Gn c).2.2.2)))))
theorem fn__law_laid {M_times_till : DF} (h_times_till : FnD P w K mg base (GK K) 4 (He.fAd K ("times_till", none)) 5 M_times_till) {M__law_roll : DF} (h__law_roll : FnD P w K mg base (GK K) 1 (He.fAd K ("_law_roll", none)) 2 M__law_roll) : FnD P w K mg base (GK K) 5 (He.fAd K ("_law_laid", none)) 3 (runD 8 (f__law_laid M_times_till M__law_roll)) := by
  obtain ⟨fd, F0⟩ := c.def_ 31 (d := d__law_laid) rfl
  have F : FunD K "_law_laid" "_law_laid" (defArgs s__law_laid) (defBody s__law_laid) (defScope s__law_laid) [] [] (He.fAd K ("_law_laid", none)) fd := F0
  have b : Binds K fd ["dice", "hundredths", "rate"] [] := F.bindsN fun _ _ _ _ _ _ us hl => match us, hl with | [_, _, _], _ => rfl
  exact fnD_of F sc__law_laid b fun cdv A outer s H E hl hcd hr => (jss_cons (js_par2 3 4 rfl sc__law_laid.nd (ja_cons (je_op jop_add je_int (je_call h__law_roll (takes_of rfl rfl rfl rfl) (hr.mono (by decide)) (g__law_roll KX Gn c) (ja_cons (je_var 0) (ja_cons je_int ja_nil)))) (ja_cons (je_op jop_add je_int (je_call h__law_roll (takes_of rfl rfl rfl rfl) (hr.mono (by decide)) (g__law_roll KX Gn c) (ja_cons (je_var 0) (ja_cons je_int ja_nil)))) ja_nil)))
  (jss_cons (js_set 5 sc__law_laid.nd (je_call h_times_till (takes_of rfl rfl rfl rfl) (hr.mono (by decide)) (g_times_till KX Gn c) (ja_cons (je_var 3) (ja_cons je_int (ja_cons (je_var 4) (ja_cons (je_var 2) (ja_cons je_int ja_nil)))))))
  (jss_cons (js_set 6 sc__law_laid.nd (je_lst (ja_cons je_int ja_nil)))
  (jss_cons (js_for (passes_of rfl) rfl (ji_range1 (z_range KX Gn c) (je_var 5)) (jg_name 7 sc__law_laid.nd)
  (jss_one (js_expr (je_app (je_var 6) (je_op jop_add (je_op jop_add (je_ix (je_var 6) (je_var 7)) (je_op jop_fdiv (je_op jop_add (je_op jop_mul (je_op jop_mul je_int (je_ix (je_var 6) (je_var 7))) (je_var 1)) je_int) je_int)) (je_var 4))))))
  (jss_cons (js_if (jt_of (jw_or (jt_cmp jop_lt (je_ix (je_var 6) (je_var 5)) (je_var 3)) (jw_or1 (jt_of (jw_and (jt_cmp jop_gt (je_var 5) je_int) (jw_and1 (jt_cmp jop_ge (je_ix (je_var 6) (je_op jop_sub (je_var 5) je_int)) (je_var 3))))))))
  (jss_one (js_ret je_bl))
  jss_nil)
  (jss_one (js_ret je_bl)))))))
theorem fn_law {M__law_rounds : DF} (h__law_rounds : FnD P w K mg base (GK K) 2 (He.fAd K ("_law_rounds", none)) 2 M__law_rounds) {M_times_till : DF} (h_times_till : FnD P w K mg base (GK K) 4 (He.fAd K ("times_till", none)) 5 M_times_till) {M_rate_of : DF} (h_rate_of : FnD P w K mg base (GK K) 4 (He.fAd K ("rate_of", none)) 3 M_rate_of) {M_paid_ahead : DF} (h_paid_ahead : FnD P w K mg base (GK K) 4 (He.fAd K ("paid_ahead", none)) 5 M_paid_ahead) {M_even_pay : DF} (h_even_pay : FnD P w K mg base (GK K) 5 (He.fAd K ("even_pay", none)) 3 M_even_pay) {M__law_laid : DF} (h__law_laid : FnD P w K mg base (GK K) 5 (He.fAd K ("_law_laid", none)) 3 M__law_laid) {M__law_offers : DF} (h__law_offers : FnD P w K mg base (GK K) 8 (He.fAd K ("_law_offers", none)) 2 M__law_offers) {M__law_worths : DF} (h__law_worths : FnD P w K mg base (GK K) 5 (He.fAd K ("_law_worths", none)) 4 M__law_worths) {M__law_ahead : DF} (h__law_ahead : FnD P w K mg base (GK K) 5 (He.fAd K ("_law_ahead", none)) 5 M__law_ahead) {M_look_plan : DF} (h_look_plan : FnD P w K mg base (GK K) 4 (He.fAd K ("look_plan", none)) 3 M_look_plan) {M_interest : DF} (h_interest : FnD P w K mg base (GK K) 3 (He.fAd K ("interest", none)) 2 M_interest) {M_all_at_end : DF} (h_all_at_end : FnD P w K mg base (GK K) 4 (He.fAd K ("all_at_end", none)) 3 M_all_at_end) {M_in_parts : DF} (h_in_parts : FnD P w K mg base (GK K) 4 (He.fAd K ("in_parts", none)) 3 M_in_parts) {M_plan : DF} (h_plan : FnD P w K mg base (GK K) 6 (He.fAd K ("plan", none)) 3 M_plan) {M_left_behind : DF} (h_left_behind : FnD P w K mg base (GK K) 4 (He.fAd K ("left_behind", none)) 4 M_left_behind) {M__law_left : DF} (h__law_left : FnD P w K mg base (GK K) 1 (He.fAd K ("_law_left", none)) 4 M__law_left) {M_part : DF} (h_part : FnD P w K mg base (GK K) 1 (He.fAd K ("part", none)) 2 M_part) {M__law_roll : DF} (h__law_roll : FnD P w K mg base (GK K) 1 (He.fAd K ("_law_roll", none)) 2 M__law_roll) (tb : ∀ p ∈ tf, LamX.TabB base mg (He.cT K p).1 (He.cT K p).2) (nd2 : (tf.map fun p => (He.cT K p).2).Nodup) {fd : FuncData} (F : FunD K "law" "law" (defArgs s_law) (defBody s_law) (defScope s_law) [] [] (He.fAd K ("law", none)) fd) : FnOk P w K mg base (L2.CX P w) 9 (He.fAd K ("law", none)) fd ["script"] (spD K (GK K) 1 (runD 10 (f_law M__law_rounds M_times_till M_rate_of M_paid_ahead M_even_pay M__law_laid M__law_offers M__law_worths M__law_ahead M_look_plan M_interest M_all_at_end M_in_parts M_plan M_left_behind M__law_left M_part M__law_roll))) := by
  obtain ⟨fdT, FT0⟩ := c.def_ 25 (d := d__law_told) rfl
  have FT : FunD K "_law_told" "_law_told" (defArgs s__law_told) (defBody s__law_told) (defScope s__law_told) [] [] (He.fAd K ("_law_told", none)) fdT := FT0
  have bT : Binds K fdT ["what"] [] := FT.bindsN fun _ _ _ _ _ _ us hl => match us, hl with | [_], _ => rfl
  have kT := FT.kp
  obtain ⟨ocT, odT, dVT, kVT, docT, pmT, anT, cdT, ctT, oslT, rfl, lkT, hcT, _, _⟩ := FT.ex
  have hu : ∀ p ∈ (GK K).T, p.1 = (He.cT K ("law", none)).2 → p.2 = (("law" : Str) ++ (".<locals>." : Str)) ++ ("<lambda>" : Str) := by
    have n2 := nd2
    simp only [tf, List.map_cons, List.map_nil, List.nodup_cons, List.mem_cons, List.not_mem_nil, or_false, not_or] at n2
    intro p hp e
    simp only [GK, List.mem_cons, List.not_mem_nil, or_false] at hp
    rcases hp with rfl | rfl | rfl
    · exfalso; simp_all
    · exfalso; simp_all
    · rfl
  refine fnOk_of F sc_law fun cdv A outer s H E hl hcd hr => ?_
  have ec := code_is (p := ("law", none)) hl hcd
  subst ec
  exact (jss_cons (js_for (passes_of rfl) rfl (ji_seq (je_call h__law_rounds (takes_of rfl rfl rfl rfl) (hr.mono (by decide)) (g__law_rounds KX Gn c) (ja_cons (je_var 0) (ja_cons je_int ja_nil)))) (jg_name 1 sc_law.nd)
  (jss_cons (js_asg (je_tup (ja_cons (je_op jop_add je_int (je_call h__law_roll (takes_of rfl rfl rfl rfl) (hr.mono (by decide)) (g__law_roll KX Gn c) (ja_cons (je_var 1) (ja_cons je_int ja_nil)))) (ja_cons (je_call h__law_roll (takes_of rfl rfl rfl rfl) (hr.mono (by decide)) (g__law_roll KX Gn c) (ja_cons (je_var 1) (ja_cons je_int ja_nil))) (ja_cons (je_op jop_add je_int (je_call h__law_roll (takes_of rfl rfl rfl rfl) (hr.mono (by decide)) (g__law_roll KX Gn c) (ja_cons (je_var 1) (ja_cons je_int ja_nil)))) ja_nil)))) (jg_tup rfl (jgs_cons (jg_name 2 sc_law.nd) (jgs_cons (jg_name 3 sc_law.nd) (jgs_cons (jg_name 4 sc_law.nd) jgs_nil)))))
  (jss_cons (js_set 5 sc_law.nd (je_call h_part (takes_of rfl rfl rfl rfl) (hr.mono (by decide)) (g_part KX Gn c) (ja_cons (je_var 3) (ja_cons je_int ja_nil))))
  (jss_cons (js_set 6 sc_law.nd (je_call h_even_pay (takes_of rfl rfl rfl rfl) (hr.mono (by decide)) (g_even_pay KX Gn c) (ja_cons (je_var 2) (ja_cons (je_var 5) (ja_cons (je_var 4) ja_nil)))))
  (jss_cons (js_if (jt_cmp jop_gt (je_call h__law_left (takes_of rfl rfl rfl rfl) (hr.mono (by decide)) (g__law_left KX Gn c) (ja_cons (je_var 2) (ja_cons (je_var 3) (ja_cons (je_var 6) (ja_cons (je_var 4) ja_nil))))) je_int)
  (jss_one (js_ret je_bl))
  jss_nil)
  (jss_cons (js_if (jt_of (jw_and (jt_cmp jop_gt (je_var 6) je_int) (jw_and1 (jt_cmp jop_le (je_call h__law_left (takes_of rfl rfl rfl rfl) (hr.mono (by decide)) (g__law_left KX Gn c) (ja_cons (je_var 2) (ja_cons (je_var 3) (ja_cons (je_op jop_sub (je_var 6) je_int) (ja_cons (je_var 4) ja_nil))))) je_int))))
  (jss_one (js_ret je_bl))
  jss_nil)
  (jss_cons (js_if (jt_cmp (jop_ne hr.units) (je_call h_left_behind (takes_of rfl rfl rfl rfl) (hr.mono (by decide)) (g_left_behind KX Gn c) (ja_cons (je_var 2) (ja_cons (je_var 5) (ja_cons (je_var 6) (ja_cons (je_var 4) ja_nil))))) (je_call h__law_left (takes_of rfl rfl rfl rfl) (hr.mono (by decide)) (g__law_left KX Gn c) (ja_cons (je_var 2) (ja_cons (je_var 3) (ja_cons (je_var 6) (ja_cons (je_var 4) ja_nil))))))
  (jss_one (js_ret je_bl))
  jss_nil)
  (jss_cons (js_set 7 sc_law.nd (je_call h_plan (takes_of rfl rfl rfl rfl) (hr.mono (by decide)) (g_plan KX Gn c) (ja_cons (je_var 2) (ja_cons (je_var 5) (ja_cons (je_var 4) ja_nil)))))
  (jss_cons (js_for (passes_of rfl) rfl (ji_seq (je_lst (ja_cons (je_var 7) (ja_cons (je_call h_in_parts (takes_of rfl rfl rfl rfl) (hr.mono (by decide)) (g_in_parts KX Gn c) (ja_cons (je_var 2) (ja_cons (je_var 5) (ja_cons (je_var 4) ja_nil)))) (ja_cons (je_call h_all_at_end (takes_of rfl rfl rfl rfl) (hr.mono (by decide)) (g_all_at_end KX Gn c) (ja_cons (je_var 2) (ja_cons (je_var 5) (ja_cons (je_var 4) ja_nil)))) ja_nil))))) (jg_name 8 sc_law.nd)
  (jss_cons (js_if (jt_of (jw_or (jt_cmp jop_notN (je_call h_look_plan (takes_of rfl rfl rfl rfl) (hr.mono (by decide)) (g_look_plan KX Gn c) (ja_cons (je_var 2) (ja_cons (je_var 5) (ja_cons (je_var 8) ja_nil)))) je_non) (jw_or1 (jt_cmp (jop_ne hr.units) (je_blt (jb_sum rfl) (z_sum KX Gn c) PyProof.Rows.boot_sum (ja_cons (je_lc rfl sc_law.nd (blkOk_by (own := [("row", 9)]) (N := N_law) (sc := defScope s_law) (by decide +kernel)) (ji_seq (je_var 8)) (fun _ _ _ _ _ => (jgv_name 9 sc_law.nd (by decide))) (fun _ _ _ _ _ => jts_nil) (fun _ _ _ _ _ => (je_ix (je_var 9) je_int))) ja_nil)) (je_var 2)))))
  (jss_one (js_ret je_bl))
  jss_nil)
  (jss_cons (js_if (jt_cmp (jop_ne hr.units) (je_blt (jb_sum rfl) (z_sum KX Gn c) PyProof.Rows.boot_sum (ja_cons (je_lc rfl sc_law.nd (blkOk_by (own := [("row", 9)]) (N := N_law) (sc := defScope s_law) (by decide +kernel)) (ji_seq (je_var 8)) (fun _ _ _ _ _ => (jgv_name 9 sc_law.nd (by decide))) (fun _ _ _ _ _ => jts_nil) (fun _ _ _ _ _ => (je_ix (je_var 9) je_int))) ja_nil)) (je_op jop_add (je_var 2) (je_blt (jb_sum rfl) (z_sum KX Gn c) PyProof.Rows.boot_sum (ja_cons (je_lc rfl sc_law.nd (blkOk_by (own := [("row", 9)]) (N := N_law) (sc := defScope s_law) (by decide +kernel)) (ji_seq (je_var 8)) (fun _ _ _ _ _ => (jgv_name 9 sc_law.nd (by decide))) (fun _ _ _ _ _ => jts_nil) (fun _ _ _ _ _ => (je_ix (je_var 9) je_int))) ja_nil))))
  (jss_one (js_ret je_bl))
  jss_nil)
  (jss_one (js_if (jt_of (jw_or (jt_cmp (jop_ne hr.units) (je_ix (je_ix (je_var 8) (je_op jop_sub (je_blt jb_len (z_len KX Gn c) boot_len (ja_cons (je_var 8) ja_nil)) je_int)) je_int) je_int) (jw_or1 (jt_cmp (jop_ne hr.units) (je_blt jb_len (z_len KX Gn c) boot_len (ja_cons (je_var 8) ja_nil)) (je_var 4)))))
  (jss_one (js_ret je_bl))
  jss_nil)))))
  (jss_cons (js_if (jt_of (jw_or (jt_cmp (jop_ne hr.units) (je_lc rfl sc_law.nd (blkOk_by (own := [("row", 9)]) (N := N_law) (sc := defScope s_law) (by decide +kernel)) (ji_seq (je_var 7)) (fun _ _ _ _ _ => (jgv_name 9 sc_law.nd (by decide))) (fun _ _ _ _ _ => (jts_one (jt_cmp jop_gt (je_ix (je_var 9) je_int) (je_var 6)))) (fun _ _ _ _ _ => (je_var 9))) (je_lst ja_nil)) (jw_or1 (jt_cmp (jop_ne hr.units) (je_ix (je_ix (je_var 7) je_int) je_int) (je_call h_interest (takes_of rfl rfl rfl rfl) (hr.mono (by decide)) (g_interest KX Gn c) (ja_cons (je_var 2) (ja_cons (je_var 5) ja_nil)))))))
  (jss_one (js_ret je_bl))
  jss_nil)
  (jss_cons (js_if (jt_of (jw_and (jt_cmp jop_isN (je_call h_look_plan (takes_of rfl rfl rfl rfl) (hr.mono (by decide)) (g_look_plan KX Gn c) (ja_cons (je_op jop_add (je_var 2) je_int) (ja_cons (je_var 5) (ja_cons (je_var 7) ja_nil)))) je_non) (jw_and1 (jt_cmp jop_gt (je_var 3) je_int))))
  (jss_one (js_ret je_bl))
  jss_nil)
  (jss_cons (js_if (jt_not (jt_val (je_call h__law_ahead (takes_of rfl rfl rfl rfl) (hr.mono (by decide)) (g__law_ahead KX Gn c) (ja_cons (je_var 1) (ja_cons (je_var 2) (ja_cons (je_var 5) (ja_cons (je_var 7) (ja_cons (je_var 4) ja_nil))))))))
  (jss_one (js_ret je_bl))
  jss_nil)
  (jss_cons (js_if (jt_not (jt_val (je_call h__law_worths (takes_of rfl rfl rfl rfl) (hr.mono (by decide)) (g__law_worths KX Gn c) (ja_cons (je_var 2) (ja_cons (je_var 3) (ja_cons (je_var 5) (ja_cons (je_var 7) ja_nil)))))))
  (jss_one (js_ret je_bl))
  jss_nil)
  (jss_cons (js_if (jt_not (jt_val (je_call h__law_offers (takes_of rfl rfl rfl rfl) (hr.mono (by decide)) (g__law_offers KX Gn c) (ja_cons (je_var 1) (ja_cons (je_var 2) ja_nil)))))
  (jss_one (js_ret je_bl))
  jss_nil)
  (jss_cons (js_if (jt_not (jt_val (je_call h__law_laid (takes_of rfl rfl rfl rfl) (hr.mono (by decide)) (g__law_laid KX Gn c) (ja_cons (je_var 1) (ja_cons (je_var 3) (ja_cons (je_var 5) ja_nil))))))
  (jss_one (js_ret je_bl))
  jss_nil)
  (jss_cons (js_if (jt_cmp (jop_ne hr.units) (je_told (k := 5) (rs := raisable) (cs := tellers) (g__law_told KX Gn c) kT lkT hcT bT sc__law_told rfl (Or.inl rfl) (fun _ => rfl) (.cons rfl (g_BadMoney KX Gn c) (by decide) (.cons rfl (g_BadDay KX Gn c) (by decide) (.cons rfl (g_BadRule KX Gn c) (by decide) (.cons rfl (g_Unbalanced KX Gn c) (by decide) (.cons rfl (g_Shut KX Gn c) (by decide) (.cons rfl (g_Short KX Gn c) (by decide) (.cons rfl (g_BadText KX Gn c) (by decide) (.cons rfl (g_NoAnswer KX Gn c) (by decide) (.nil))))))))) (exall KX Gn c) (tb ("law", none) (List.Mem.tail _ (List.Mem.tail _ (List.Mem.head _)))) rfl (List.Mem.tail _ (List.Mem.tail _ (List.Mem.head _))) hu (hr.mono (by decide)) (LamX.lamS_by (sc := defScope s_law) (by decide +kernel)) rfl (fun _ _ _ _ _ => rfl) (fun A2 outer2 s2 H2 E2 f2 c2 hr2 => (je_call h_even_pay lam_takes (hr2.mono (by decide)) (g_even_pay KX Gn c) (ja_cons je_int (ja_cons (je_tup (ja_cons (je_op jop_sub je_int je_int) (ja_cons je_int ja_nil))) (ja_cons je_int ja_nil)))))) je_str)
  (jss_one (js_ret je_bl))
  jss_nil)
  (jss_cons (js_if (jt_cmp (jop_ne hr.units) (je_told (k := 4) (rs := raisable) (cs := tellers) (g__law_told KX Gn c) kT lkT hcT bT sc__law_told rfl (Or.inl rfl) (fun _ => rfl) (.cons rfl (g_BadMoney KX Gn c) (by decide) (.cons rfl (g_BadDay KX Gn c) (by decide) (.cons rfl (g_BadRule KX Gn c) (by decide) (.cons rfl (g_Unbalanced KX Gn c) (by decide) (.cons rfl (g_Shut KX Gn c) (by decide) (.cons rfl (g_Short KX Gn c) (by decide) (.cons rfl (g_BadText KX Gn c) (by decide) (.cons rfl (g_NoAnswer KX Gn c) (by decide) (.nil))))))))) (exall KX Gn c) (tb ("law", none) (List.Mem.tail _ (List.Mem.tail _ (List.Mem.head _)))) rfl (List.Mem.tail _ (List.Mem.tail _ (List.Mem.head _))) hu (hr.mono (by decide)) (LamX.lamS_by (sc := defScope s_law) (by decide +kernel)) rfl (fun _ _ _ _ _ => rfl) (fun A2 outer2 s2 H2 E2 f2 c2 hr2 => (je_call h_paid_ahead lam_takes (hr2.mono (by decide)) (g_paid_ahead KX Gn c) (ja_cons (je_var 7) (ja_cons (je_var 2) (ja_cons (je_var 5) (ja_cons (je_op jop_sub (je_var 4) je_int) (ja_cons je_int ja_nil)))))))) je_str)
  (jss_one (js_ret je_bl))
  jss_nil)
  (jss_cons (js_if (jt_cmp (jop_ne hr.units) (je_told (k := 4) (rs := raisable) (cs := tellers) (g__law_told KX Gn c) kT lkT hcT bT sc__law_told rfl (Or.inl rfl) (fun _ => rfl) (.cons rfl (g_BadMoney KX Gn c) (by decide) (.cons rfl (g_BadDay KX Gn c) (by decide) (.cons rfl (g_BadRule KX Gn c) (by decide) (.cons rfl (g_Unbalanced KX Gn c) (by decide) (.cons rfl (g_Shut KX Gn c) (by decide) (.cons rfl (g_Short KX Gn c) (by decide) (.cons rfl (g_BadText KX Gn c) (by decide) (.cons rfl (g_NoAnswer KX Gn c) (by decide) (.nil))))))))) (exall KX Gn c) (tb ("law", none) (List.Mem.tail _ (List.Mem.tail _ (List.Mem.head _)))) rfl (List.Mem.tail _ (List.Mem.tail _ (List.Mem.head _))) hu (hr.mono (by decide)) (LamX.lamS_by (sc := defScope s_law) (by decide +kernel)) rfl (fun _ _ _ _ _ => rfl) (fun A2 outer2 s2 H2 E2 f2 c2 hr2 => (je_call h_rate_of lam_takes (hr2.mono (by decide)) (g_rate_of KX Gn c) (ja_cons je_int (ja_cons (je_lst (ja_cons je_int ja_nil)) (ja_cons je_int ja_nil)))))) je_str)
  (jss_one (js_ret je_bl))
  jss_nil)
  (jss_one (js_if (jt_cmp (jop_ne hr.units) (je_told (k := 4) (rs := raisable) (cs := tellers) (g__law_told KX Gn c) kT lkT hcT bT sc__law_told rfl (Or.inl rfl) (fun _ => rfl) (.cons rfl (g_BadMoney KX Gn c) (by decide) (.cons rfl (g_BadDay KX Gn c) (by decide) (.cons rfl (g_BadRule KX Gn c) (by decide) (.cons rfl (g_Unbalanced KX Gn c) (by decide) (.cons rfl (g_Shut KX Gn c) (by decide) (.cons rfl (g_Short KX Gn c) (by decide) (.cons rfl (g_BadText KX Gn c) (by decide) (.cons rfl (g_NoAnswer KX Gn c) (by decide) (.nil))))))))) (exall KX Gn c) (tb ("law", none) (List.Mem.tail _ (List.Mem.tail _ (List.Mem.head _)))) rfl (List.Mem.tail _ (List.Mem.tail _ (List.Mem.head _))) hu (hr.mono (by decide)) (LamX.lamS_by (sc := defScope s_law) (by decide +kernel)) rfl (fun _ _ _ _ _ => rfl) (fun A2 outer2 s2 H2 E2 f2 c2 hr2 => (je_call h_times_till lam_takes (hr2.mono (by decide)) (g_times_till KX Gn c) (ja_cons je_int (ja_cons je_int (ja_cons je_int (ja_cons (je_var 5) (ja_cons je_int ja_nil)))))))) je_str)
  (jss_one (js_ret je_bl))
  jss_nil))))))))))))))))))))
  (jss_one (js_ret je_bl)))
end
end Pr
set_option Elab.async false
set_option linter.all false
set_option maxRecDepth 100000
set_option maxHeartbeats 0
namespace Pr
open PySem PySem.Spec PyProof.Rows L2 DL
section
variable {P : Program} {w : World} {K : PySem.W.Frag} {mg : Str → Option Value} {base h0 : Heap}
theorem walk_law (KX : K.In h0) (Gn : h0.Ns mainGlobals mg) (c : He.SaysD fa fn K)
   (sup_Short : SupC K P ((GK K).cA "Short") "lacking") (tup_RULES : He.tupB K "RULES" ((["down", "up", "half up", "half even", "half down"] : List Str).map He.Dv.str) = true) (tb : ∀ p ∈ tf, LamX.TabB base mg (He.cT K p).1 (He.cT K p).2) (nd2 : (tf.map fun p => (He.cT K p).2).Nodup) {fd : FuncData} (F : FunD K "law" "law" (defArgs s_law) (defBody s_law) (defScope s_law) [] [] (He.fAd K ("law", none)) fd) : FnOk P w K mg base (L2.CX P w) 9 (He.fAd K ("law", none)) fd ["script"] (spD K (GK K) 1 M_law) := by
  have h__law_dice : FnD P w K mg base (GK K) 1 (He.fAd K ("_law_dice", none)) 1 M__law_dice := fn__law_dice KX Gn c
  have h__law_rounds : FnD P w K mg base (GK K) 2 (He.fAd K ("_law_rounds", none)) 2 M__law_rounds := fn__law_rounds KX Gn c h__law_dice
  have h_part : FnD P w K mg base (GK K) 1 (He.fAd K ("part", none)) 2 M_part := fn_part KX Gn c
  have h_check_loan : FnD P w K mg base (GK K) 1 (He.fAd K ("check_loan", none)) 3 M_check_loan := fn_check_loan KX Gn c
  have h_rounded : FnD P w K mg base (GK K) 1 (He.fAd K ("rounded", none)) 2 M_rounded := fn_rounded KX Gn c tup_RULES
  have h_times : FnD P w K mg base (GK K) 2 (He.fAd K ("times", none)) 2 M_times := fn_times KX Gn c h_part
  have h_interest : FnD P w K mg base (GK K) 3 (He.fAd K ("interest", none)) 2 M_interest := fn_interest KX Gn c h_times h_rounded
  have h_left_behind : FnD P w K mg base (GK K) 4 (He.fAd K ("left_behind", none)) 4 M_left_behind := fn_left_behind KX Gn c h_interest
  have h_even_pay : FnD P w K mg base (GK K) 5 (He.fAd K ("even_pay", none)) 3 M_even_pay := fn_even_pay KX Gn c h_left_behind h_interest h_check_loan
  have h_plan : FnD P w K mg base (GK K) 6 (He.fAd K ("plan", none)) 3 M_plan := fn_plan KX Gn c h_interest h_even_pay
  have h__law_roll : FnD P w K mg base (GK K) 1 (He.fAd K ("_law_roll", none)) 2 M__law_roll := fn__law_roll KX Gn c
  have h__law_left : FnD P w K mg base (GK K) 1 (He.fAd K ("_law_left", none)) 4 M__law_left := fn__law_left KX Gn c
  have h_in_parts : FnD P w K mg base (GK K) 4 (He.fAd K ("in_parts", none)) 3 M_in_parts := fn_in_parts KX Gn c h_interest h_check_loan
  have h_all_at_end : FnD P w K mg base (GK K) 4 (He.fAd K ("all_at_end", none)) 3 M_all_at_end := fn_all_at_end KX Gn c h_interest h_check_loan
  have h_paid_ahead : FnD P w K mg base (GK K) 4 (He.fAd K ("paid_ahead", none)) 5 M_paid_ahead := fn_paid_ahead KX Gn c h_interest sup_Short
  have h_look_plan : FnD P w K mg base (GK K) 4 (He.fAd K ("look_plan", none)) 3 M_look_plan := fn_look_plan KX Gn c h_interest
  have h__law_ahead : FnD P w K mg base (GK K) 5 (He.fAd K ("_law_ahead", none)) 5 M__law_ahead := fn__law_ahead KX Gn c h_look_plan h_paid_ahead h__law_roll
  have h_order : FnD P w K mg base (GK K) 1 (He.fAd K ("order", none)) 2 M_order := fn_order KX Gn c
  have h_add : FnD P w K mg base (GK K) 2 (He.fAd K ("add", none)) 2 M_add := fn_add KX Gn c h_part
  have h_over : FnD P w K mg base (GK K) 2 (He.fAd K ("over", none)) 2 M_over := fn_over KX Gn c h_part
  have h_worth_now : FnD P w K mg base (GK K) 3 (He.fAd K ("worth_now", none)) 2 M_worth_now := fn_worth_now KX Gn c h_times h_add h_over
  have h_rate_of : FnD P w K mg base (GK K) 4 (He.fAd K ("rate_of", none)) 3 M_rate_of := fn_rate_of KX Gn c h_part h_worth_now h_order tb nd2
  have h__law_least : FnD P w K mg base (GK K) 1 (He.fAd K ("_law_least", none)) 2 M__law_least := fn__law_least KX Gn c
  have h__law_worth : FnD P w K mg base (GK K) 2 (He.fAd K ("_law_worth", none)) 2 M__law_worth := fn__law_worth KX Gn c h__law_least
  have h_grown : FnD P w K mg base (GK K) 3 (He.fAd K ("grown", none)) 3 M_grown := fn_grown KX Gn c h_add h_times
  have h_year_rate : FnD P w K mg base (GK K) 3 (He.fAd K ("year_rate", none)) 2 M_year_rate := fn_year_rate KX Gn c h_add h_times
  have h_day_interest : FnD P w K mg base (GK K) 3 (He.fAd K ("day_interest", none)) 4 M_day_interest := fn_day_interest KX Gn c h_part h_times h_rounded
  have h__law_worths : FnD P w K mg base (GK K) 5 (He.fAd K ("_law_worths", none)) 4 M__law_worths := fn__law_worths KX Gn c h_day_interest h_year_rate h__law_least h_grown h_worth_now h_order h_rate_of h__law_worth
  have h_cheapest : FnD P w K mg base (GK K) 7 (He.fAd K ("cheapest", none)) 2 M_cheapest := fn_cheapest KX Gn c h_plan tb nd2
  have h__law_offers : FnD P w K mg base (GK K) 8 (He.fAd K ("_law_offers", none)) 2 M__law_offers := fn__law_offers KX Gn c h_cheapest h_plan h__law_roll h_part
  have h_times_till : FnD P w K mg base (GK K) 4 (He.fAd K ("times_till", none)) 5 M_times_till := fn_times_till KX Gn c h_interest
  have h__law_laid : FnD P w K mg base (GK K) 5 (He.fAd K ("_law_laid", none)) 3 M__law_laid := fn__law_laid KX Gn c h_times_till h__law_roll
  exact fn_law KX Gn c h__law_rounds h_times_till h_rate_of h_paid_ahead h_even_pay h__law_laid h__law_offers h__law_worths h__law_ahead h_look_plan h_interest h_all_at_end h_in_parts h_plan h_left_behind h__law_left h_part h__law_roll tb nd2 F
end
theorem at_law {w : World} {K : PySem.W.Frag} {mg : Str → Option Value} {h : Heap} {ad : Addr} (KX : K.In h) (Gn : h.Ns mainGlobals mg) (hm : mg ("law" : Str) = some (.ref ad)) (c : He.SaysX fa fn [] tf exB w h K)
    (ok : ∀ (ns : List Int) (d : D) (S : Store), ns.length ≤ 63 → (∀ z ∈ ns, Builtin.Int.intBits z ≤ 1048576) → ScriptAt ns d S → ∃ S2, M_law [d] S = .ok (.bl true) S2) : LamX.LawAtS PySem.Challenge.rw_wagehall_k13_loans_paid_off w K (L2.CX PySem.Challenge.rw_wagehall_k13_loans_paid_off.prog w) 9 63 "script" mg ad h := by
  have cd := c.t.d
  obtain ⟨fd, F0⟩ := cd.def_ 33 (d := d_law) rfl
  have F : FunD K "law" "law" (defArgs s_law) (defBody s_law) (defScope s_law) [] [] (He.fAd K ("law", none)) fd := F0
  have e := hm.symm.trans (g_law KX Gn cd)
  cases e
  have b := FunD.bindsA (ps := ["script"]) F fun _ _ _ _ _ _ us hl => match us, hl with | [_], _ => rfl
  have more := c.more
  unfold exB at more
  simp only [Bool.and_eq_true] at more
  obtain ⟨nd0, sup_Short_b, tup_RULES_b⟩ := more
  have nd2 : (tf.map fun p => (He.cT K p).2).Nodup := of_decide_eq_true nd0
  have sup_Short := clsB_ok sup_Short_b rfl (fun _ _ _ _ _ _ _ _ _ _ _ _ _ _ _ _ _ => rfl) (fun _ => rfl) (fun _ => rfl) (fun _ => rfl) rfl
  have tup_RULES := tup_RULES_b
  refine ⟨fd, tf.map (He.cT K), spD K (GK K) 1 M_law, fun p hp => ?_, fun p hp => ?_, fun p hp => ?_, fun s v => b s [v] rfl, fun H a ns hl hb hT hS => ?_, fun base KB GB hB => ?_⟩
  · obtain ⟨q, hq, rfl⟩ := List.mem_map.mp hp
    exact c.empty q hq
  · obtain ⟨q, hq, rfl⟩ := List.mem_map.mp hp
    exact c.out q hq
  · obtain ⟨q, hq, rfl⟩ := List.mem_map.mp hp
    exact PySem.W.codeHd_of_K KX (c.hd q hq)
  · refine law_sp (fun p hp => ?_) hS fun d S hs => ok ns d S hl hb hs
    have hp2 : ∃ q ∈ tf, p.1 = (He.cT K q).2 := by
      simp only [GK, List.mem_cons, List.not_mem_nil, or_false] at hp
      rcases hp with rfl | rfl | rfl
      · exact ⟨_, (.head _), rfl⟩
      · exact ⟨_, (.tail _ (.head _)), rfl⟩
      · exact ⟨_, (.tail _ (.tail _ (.head _))), rfl⟩
    obtain ⟨q, hq, e⟩ := hp2
    exact LamX.TabS.nil (e ▸ hT _ (List.mem_map.mpr ⟨q, hq, rfl⟩))
  · exact walk_law (P := PySem.Challenge.rw_wagehall_k13_loans_paid_off.prog) KX Gn cd sup_Short tup_RULES (fun p hp => hB _ (List.mem_map.mpr ⟨p, hp, rfl⟩)) nd2 F
end Pr
open PySem PySem.W PySem.Calls PyProof.Rows
theorem holds_it (ok : ∀ (ns : List Int) (d : DL.D) (S : DL.Store), ns.length ≤ 63 → (∀ z ∈ ns, Builtin.Int.intBits z ≤ 1048576) → DL.ScriptAt ns d S → ∃ S2, Pr.M_law [d] S = .ok (.bl true) S2) : PySem.Challenge.rw_wagehall_k13_loans_paid_off.Holds := by
  w_on; o_law
  refine HandSHeadRun.head_any (r := OpenLaw.row PySem.Challenge.rw_wagehall_k13_loans_paid_off) (q := view (OpenLaw.row PySem.Challenge.rw_wagehall_k13_loans_paid_off).prog [47]) (H := Pr.hk) (ob := Pr.ob) (M := 20000) (loose := Pr.names) (d := HandSHeadRun.topDef (OpenLaw.row PySem.Challenge.rw_wagehall_k13_loans_paid_off).prog 47) (kwd := []) Pr.ob_eq
    (by kernel_rfl) (fun s => by kernel_rfl) Pr.run (by kernel_rfl) (by kernel_rfl) (by kernel_rfl) (by rfl) (by first | assumption | decide +kernel) (by decide +kernel) ⟨rfl, rfl, rfl, rfl, rfl, by decide +kernel⟩ ?hw ?hc
  case hw => w_witness2
  case hc =>
    refine LamX.walk_ofTsE (l := PySem.Challenge.rw_wagehall_k13_loans_paid_off) (n := 63) (k := 9) (x := "script") (CX := fun w => L2.CX PySem.Challenge.rw_wagehall_k13_loans_paid_off.prog w) rfl (by decide) (by kernel_rfl) ⟨rfl, by decide, by decide⟩ ?F (fun w H s e s2 z => ?cx)
    case cx =>
      obtain ⟨_, _, _, _, _, _, _, _, _, _, _, _, z⟩ := z
      exact z
    intro w mg ad h Y G hmg0
    obtain ⟨K, KX, c⟩ := Y
    have hmg : mg ("law" : PySem.Str) = some (.ref ad) := by
      have e : (HandSHeadRun.topDef (OpenLaw.row PySem.Challenge.rw_wagehall_k13_loans_paid_off).prog 47).name = ("law" : PySem.Str) := by kernel_rfl
      rw [← e]
      exact hmg0
    exact ⟨K, KX, Pr.at_law KX G hmg c ok⟩
set_option Elab.async false
set_option linter.all false
set_option maxRecDepth 100000
set_option maxHeartbeats 1000000
/-! DLE: the denotations, evaluated by simp. -/
namespace DL
open PySem PySem.Spec PyProof.Rows L2
theorem bind_congr1 {α β : Type} {o o2 : Out α} {k : α → Store → Out β} (h : o = o2) : o.bind k = o2.bind k := by rw [h]
theorem liftS_congr1 {α : Type} {o o2 : Out α} {ρ : DEnv} {k : α → Store → OutS} (h : o = o2) : liftS o ρ k = liftS o2 ρ k := by rw [h]
def seqS (o : OutS) (g : DS) : OutS := match o with
  | .nx ρ S => g ρ S
  | o => o
theorem seqS_congr1 {o o2 : OutS} {g : DS} (h : o = o2) : seqS o g = seqS o2 g := by rw [h]
@[simp] theorem seqS_nx (ρ : DEnv) (S : Store) (g : DS) : seqS (.nx ρ S) g = g ρ S := rfl
@[simp] theorem seqS_rt (d : D) (S : Store) (g : DS) : seqS (.rt d S) g = .rt d S := rfl
@[simp] theorem seqS_exn (e : Exc) (ρ : DEnv) (S : Store) (g : DS) : seqS (.exn e ρ S) g = .exn e ρ S := rfl
@[simp] theorem seqS_bk (ρ : DEnv) (S : Store) (g : DS) : seqS (.bk ρ S) g = .bk ρ S := rfl
@[simp] theorem seqS_ct (ρ : DEnv) (S : Store) (g : DS) : seqS (.ct ρ S) g = .ct ρ S := rfl
def finS (o : OutS) : Out D := match o with
  | .nx _ S1 => .ok .non S1
  | .rt d S1 => .ok d S1
  | .exn e _ S1 => .exn e S1
  | _ => .bad
@[simp] theorem finS_nx (ρ : DEnv) (S : Store) : finS (.nx ρ S) = .ok .non S := rfl
@[simp] theorem finS_rt (d : D) (S : Store) : finS (.rt d S) = .ok d S := rfl
@[simp] theorem finS_exn (e : Exc) (ρ : DEnv) (S : Store) : finS (.exn e ρ S) = .exn e S := rfl
def asgS (o : OutS) : OutS := match o with
  | .nx ρ S => .nx ρ S
  | .exn e ρ S => .exn e ρ S
  | _ => .bad
@[simp] theorem asgS_nx (ρ : DEnv) (S : Store) : asgS (.nx ρ S) = .nx ρ S := rfl
@[simp] theorem asgS_exn (e : Exc) (ρ : DEnv) (S : Store) : asgS (.exn e ρ S) = .exn e ρ S := rfl
def optV : Option (Option D) → Store → Out D
  | some (some d), S => .ok d S
  | _, _ => .bad
@[simp] theorem optV_some (d : D) (S : Store) : optV (some (some d)) S = .ok d S := rfl
def boolO (x : D) (S : Store) : Out Bool := match x with
  | .bl b => .ok b S
  | _ => .bad
@[simp] theorem boolO_bl (b : Bool) (S : Store) : boolO (.bl b) S = .ok b S := rfl
def fldO (o : Option (String × List (Str × D))) (cs : List String) (f : Str) (S : Store) : Out D := match o with
  | some (c, fs) => if c ∈ cs then (match fs.lookup f with
    | some d => .ok d S
    | none => .bad) else .bad
  | none => .bad
section
variable (ρ : DEnv) (S : Store) (fa fb fc fe fo fi : DE) (ga gb : DT) (fr : DA) (f g : DS)
@[simp] theorem e_runD (n : Nat) (ds : List D) : runD n f ds S = finS (f (startD n ds) S) := rfl
@[simp] theorem e_dVar (i : Nat) : dVar i ρ S = optV ρ[i]? S := by
  unfold dVar optV
  cases h : ρ[i]? with
  | none => rfl
  | some o => cases o <;> rfl
@[simp] theorem e_dC (d : D) : dC d ρ S = .ok d S := rfl
@[simp] theorem e_dOp (o : D2) : dOp o fa fb ρ S = (fa ρ S).bind fun x S1 => (fb ρ S1).bind fun y S2 => optO (o x y S2) := rfl
@[simp] theorem e_dUn (o : D1) : dUn o fa ρ S = (fa ρ S).bind fun x S1 => optO (o x S1) := rfl
@[simp] theorem e_dB : dB fa ρ S = (fa ρ S).bind boolO := rfl
@[simp] theorem e_dAndT : dAndT ga gb ρ S = (ga ρ S).bind fun x S1 => if x = true then gb ρ S1 else .ok false S1 := rfl
@[simp] theorem e_dOrT : dOrT ga gb ρ S = (ga ρ S).bind fun x S1 => if x = true then .ok true S1 else gb ρ S1 := rfl
@[simp] theorem e_dNotT : dNotT ga ρ S = (ga ρ S).bind fun x S1 => .ok (!x) S1 := rfl
@[simp] theorem e_dIf : dIf ga fa fb ρ S = (ga ρ S).bind fun x S1 => if x = true then fa ρ S1 else fb ρ S1 := rfl
@[simp] theorem e_daNil : daNil ρ S = .ok [] S := rfl
@[simp] theorem e_daCons : daCons fa fr ρ S = (fa ρ S).bind fun x S1 => (fr ρ S1).bind fun xs S2 => .ok (x :: xs) S2 := rfl
@[simp] theorem e_dTup : dTup fr ρ S = (fr ρ S).bind fun xs S1 => if xs.length ≤ 1000000 then .ok (.tup xs) S1 else .bad := rfl
@[simp] theorem e_dLst : dLst fr ρ S = (fr ρ S).bind fun xs S1 => if xs.length ≤ 1000000 then .ok (.obj S1.length) (S1 ++ [.lst xs]) else .bad := rfl
@[simp] theorem e_dCall (n : Nat) (F : DF) : dCall n F fr ρ S = (fr ρ S).bind fun ds S1 => if ds.length = n then F ds S1 else .bad := rfl
@[simp] theorem e_dBlt (o : DB) : dBlt o fr ρ S = (fr ρ S).bind fun ds S1 => optO (o ds S1) := rfl
@[simp] theorem e_dNext : dNext ρ S = .nx ρ S := rfl
@[simp] theorem e_dSeq : dSeq f g ρ S = seqS (f ρ S) g := by
  unfold dSeq seqS
  cases f ρ S <;> rfl
@[simp] theorem e_dRaise (c : String) : dRaise c ρ S = .exn ⟨c⟩ ρ S := rfl
@[simp] theorem e_dRet : dRet fe ρ S = liftS (fe ρ S) ρ fun d S1 => .rt d S1 := rfl
@[simp] theorem e_dDrop : dDrop fe ρ S = liftS (fe ρ S) ρ fun _ S1 => .nx ρ S1 := rfl
@[simp] theorem e_dIfS : dIfS ga f g ρ S = liftS (ga ρ S) ρ fun b S1 => if b = true then f ρ S1 else g ρ S1 := rfl
@[simp] theorem e_dAsg (tg : DG) : dAsg fe tg ρ S = liftS (fe ρ S) ρ fun d S1 => asgS (tg d ρ S1) := rfl
@[simp] theorem e_gN (i : Nat) (d : D) : gN i d ρ S = .nx (ρ.set i (some d)) S := rfl
@[simp] theorem e_gsNil : gsNil [] ρ S = .nx ρ S := rfl
@[simp] theorem e_gsCons (g : DG) (gs : DGs) (d : D) (ds : List D) : gsCons g gs (d :: ds) ρ S = seqS (asgS (g d ρ S)) (gs ds) := by
  show (match g d ρ S with
    | .nx ρ1 S1 => gs ds ρ1 S1
    | .exn e ρ1 S1 => .exn e ρ1 S1
    | _ => .bad) = _
  cases h : g d ρ S <;> rfl
def gT_go (o : Option (List D)) (n : Nat) (gs : DGs) (ρ : DEnv) (S : Store) : OutS := match o with
  | some xs => if xs.length = n then gs xs ρ S else .bad
  | none => .bad
@[simp] theorem gT_some (xs : List D) (n : Nat) (gs : DGs) : gT_go (some xs) n gs ρ S = if xs.length = n then gs xs ρ S else .bad := rfl
@[simp] theorem e_gT (n : Nat) (gs : DGs) (d : D) : gT n gs d ρ S = gT_go (seqAt S d) n gs ρ S := rfl
def par2 (i j : Nat) (ρ : DEnv) (ds : List D) (S : Store) : OutS := match ds with
  | [d, e] => .nx ((ρ.set i (some d)).set j (some e)) S
  | _ => .bad
@[simp] theorem par2_two (i j : Nat) (d e : D) : par2 i j ρ [d, e] S = .nx ((ρ.set i (some d)).set j (some e)) S := rfl
@[simp] theorem e_dPar2 (i j : Nat) : dPar2 i j fr ρ S = liftS (fr ρ S) ρ (par2 i j ρ) := rfl
def par3 (i j l : Nat) (ρ : DEnv) (ds : List D) (S : Store) : OutS := match ds with
  | [d, e, g] => .nx (((ρ.set i (some d)).set j (some e)).set l (some g)) S
  | _ => .bad
@[simp] theorem par3_three (i j l : Nat) (d e g : D) : par3 i j l ρ [d, e, g] S = .nx (((ρ.set i (some d)).set j (some e)).set l (some g)) S := rfl
@[simp] theorem e_dPar3 (i j l : Nat) : dPar3 i j l fr ρ S = liftS (fr ρ S) ρ (par3 i j l ρ) := rfl
@[simp] theorem fldO_some (c : String) (fs : List (Str × D)) (cs : List String) (x : Str) : fldO (some (c, fs)) cs x S = if c ∈ cs then (match fs.lookup x with
    | some d => .ok d S
    | none => .bad) else .bad := rfl
@[simp] theorem e_dFld (cs : List String) (x : Str) : dFld cs x fa ρ S = (fa ρ S).bind fun d S1 => fldO (insAt S1 d) cs x S1 := rfl
def methO (c : String) (mt : Str) (n : Nat) (F : DF) (fr : DA) (ρ : DEnv) (S : Store) (x : D) (o : Option (String × List (Str × D))) : Out D := match o with
  | some (c', fs) => if c' = c ∧ fs.lookup mt = none then (fr ρ S).bind fun ds S2 => if ds.length + 1 = n then F (x :: ds) S2 else .bad else .bad
  | none => .bad
@[simp] theorem methO_some (c : String) (mt : Str) (n : Nat) (F : DF) (x : D) (c' : String) (fs : List (Str × D)) : methO c mt n F fr ρ S x (some (c', fs)) = if c' = c ∧ fs.lookup mt = none then (fr ρ S).bind fun ds S2 => if ds.length + 1 = n then F (x :: ds) S2 else .bad else .bad := rfl
@[simp] theorem e_dMeth (c : String) (mt : Str) (n : Nat) (F : DF) : dMeth c mt n F fo fr ρ S = (fo ρ S).bind fun x S1 => methO c mt n F fr ρ S1 x (insAt S1 x) := rfl
def madeO (k : Nat) (r : D) (S : Store) : Out D := match r with
  | .non => .ok (.obj k) S
  | _ => .bad
@[simp] theorem madeO_non (k : Nat) : madeO k .non S = .ok (.obj k) S := rfl
@[simp] theorem e_dMake (c : String) (n : Nat) (F : DF) : dMake c n F fr ρ S = (fr ρ S).bind fun ds S1 => if ds.length + 1 = n then (F (.obj S1.length :: ds) (S1 ++ [.ins c []])).bind (madeO S1.length) else .bad := rfl
def putO (cs : List String) (x : Str) (ρ : DEnv) (S : Store) (d o : D) (q : Option (String × List (Str × D))) : OutS := match o, q with
  | .obj n, some (c, fs) => if c ∈ cs ∧ fs.length < 1000 then .nx ρ (S.set n (.ins c (putD x d fs))) else .bad
  | _, _ => .bad
@[simp] theorem putO_some (cs : List String) (x : Str) (d : D) (n : Nat) (c : String) (fs : List (Str × D)) : putO cs x ρ S d (.obj n) (some (c, fs)) = if c ∈ cs ∧ fs.length < 1000 then .nx ρ (S.set n (.ins c (putD x d fs))) else .bad := rfl
@[simp] theorem e_dPutF (cs : List String) (x : Str) : dPutF cs x fo fe ρ S = liftS (fe ρ S) ρ fun d S1 => liftS (fo ρ S1) ρ fun o S2 => putO cs x ρ S2 d o (insAt S2 o) := rfl
end
/-! ### numbers -/
@[simp] theorem sh_int (i : Int) : SeqAt.shaped (.int i) = true := rfl
@[simp] theorem eqD_int (i j : Int) (S : Store) : eqD (.int i) (.int j) S = some (.bl (decide (i = j)), S) := by
  simp [eqD, D.toPS, D.toP, PyData.eqv]
  cases h : (i == j) <;> simp_all
@[simp] theorem neD_int (i j : Int) (S : Store) : neD (.int i) (.int j) S = some (.bl (!decide (i = j)), S) := by
  simp [neD, D.toPS, D.toP, PyData.eqv]
  cases h : (i == j) <;> simp_all
@[simp] theorem addD_int (i j : Int) (S : Store) : addD (.int i) (.int j) S = some (.int (i + j), S) := rfl
@[simp] theorem subD_int (i j : Int) (S : Store) : subD (.int i) (.int j) S = some (.int (i - j), S) := rfl
@[simp] theorem subD_bl (i j : Bool) (S : Store) : subD (.bl i) (.bl j) S = some (.int (b2 i - b2 j), S) := rfl
@[simp] theorem cmpI_int (p : Int → Int → Bool) (i j : Int) (S : Store) : cmpI p (.int i) (.int j) S = some (.bl (p i j), S) := rfl
@[simp] theorem ixD_tup (xs : List D) (k : Int) (S : Store) : ixD (.tup xs) (.int k) S = (atI xs k).map fun d => (d, S) := rfl
@[simp] theorem negD_int (i : Int) (S : Store) : negD (.int i) S = some (.int (-i), S) := rfl
theorem modD_int {i j : Int} {S : Store} (h : 0 < j) : modD (.int i) (.int j) S = some (.int (i % j), S) := by simp [modD, h]
theorem log2_lt' {a n : Nat} (h : a < 2 ^ n) (hn : 0 < n) : a.log2 < n := by
  by_cases h0 : a = 0
  · subst h0; simpa using hn
  · exact (Nat.log2_lt h0).mpr h
theorem mulD_int {i j : Int} {S : Store} (h1 : i.natAbs < 2 ^ 9000) (h2 : j.natAbs < 2 ^ 9000) : mulD (.int i) (.int j) S = some (.int (i * j), S) := by
  have a := log2_lt' h1 (by decide)
  have b := log2_lt' h2 (by decide)
  exact if_pos (.inr (by omega))
theorem fdivD_int {i j : Int} {S : Store} (h : 0 < j) (h2 : j.natAbs < 2 ^ 9000) : fdivD (.int i) (.int j) S = some (.int (i / j), S) := by
  have b := log2_lt' h2 (by decide)
  exact if_pos ⟨h, b⟩
theorem abs_nat (i : Int) : (if i < 0 then -i else i) = (i.natAbs : Int) := by split <;> omega
@[simp] theorem absD_int (i : Int) (S : Store) : absD [.int i] S = some (.int (i.natAbs : Int), S) := by
  simp only [absD, abs_nat]
@[simp] theorem maxD_int (i j : Int) (S : Store) : maxD [.int i, .int j] S = some (.int (max i j), S) := by
  simp only [maxD]
  congr 3
  split <;> omega
@[simp] theorem minD_int (i j : Int) (S : Store) : minD [.int i, .int j] S = some (.int (min i j), S) := by
  simp only [minD]
  congr 3
  split <;> omega
theorem atI_nat (xs : List D) (j : Nat) : atI xs (j : Int) = xs[j]? := by
  unfold atI ixN
  by_cases h : j < xs.length
  · rw [if_pos (by omega), if_pos (by omega)]; rfl
  · rw [if_pos (by omega), if_neg (by omega), List.getElem?_eq_none (by omega)]; rfl
@[simp] theorem atI_lit (xs : List D) (n : Nat) : atI xs (@OfNat.ofNat Int n instOfNat) = xs[n]? := atI_nat xs n
@[simp] theorem atI_zero (xs : List D) : atI xs 0 = xs[0]? := atI_nat xs 0
@[simp] theorem atI_one (xs : List D) : atI xs 1 = xs[1]? := atI_nat xs 1
end DL
set_option Elab.async false
set_option linter.all false
set_option maxRecDepth 100000
set_option maxHeartbeats 1000000
/-! DLE2: loops, comprehensions, the store, evaluated by simp. -/
namespace DL
open PySem PySem.Spec PyProof.Rows L2
/-! ### for -/
def forK (o : OutS) (k : DS) : OutS := match o with
  | .nx ρ S => k ρ S
  | .ct ρ S => k ρ S
  | .bk ρ S => .nx ρ S
  | o => o
theorem forK_congr1 {o o2 : OutS} {k : DS} (h : o = o2) : forK o k = forK o2 k := by rw [h]
@[simp] theorem forK_nx (ρ : DEnv) (S : Store) (k : DS) : forK (.nx ρ S) k = k ρ S := rfl
@[simp] theorem forK_ct (ρ : DEnv) (S : Store) (k : DS) : forK (.ct ρ S) k = k ρ S := rfl
@[simp] theorem forK_bk (ρ : DEnv) (S : Store) (k : DS) : forK (.bk ρ S) k = .nx ρ S := rfl
@[simp] theorem forK_rt (d : D) (S : Store) (k : DS) : forK (.rt d S) k = .rt d S := rfl
@[simp] theorem forK_exn (e : Exc) (ρ : DEnv) (S : Store) (k : DS) : forK (.exn e ρ S) k = .exn e ρ S := rfl
section
variable (ρ : DEnv) (S : Store) (fa fb fc fe fo : DE) (ga gb : DT) (fr : DA) (f : DS) (tg : DG) (grd : Store → Bool)
@[simp] theorem grdT_eq : grdT S = true := rfl
@[simp] theorem e_dFor (fi : DI) : dFor fi tg f ρ S = liftS (fi ρ S) ρ fun src S1 => forD src.grd tg f src.items ρ S1 := rfl
@[simp] theorem forD_nil : forD grd tg f [] ρ S = if grd S = true then .nx ρ S else .bad := rfl
@[simp] theorem forD_cons (d : D) (ds : List D) : forD grd tg f (d :: ds) ρ S = if grd S = true then forK (seqS (asgS (tg d ρ S)) f) (forD grd tg f ds) else .bad := by
  rw [forD]
  congr 1
  cases tg d ρ S with
  | nx ρ1 S1 =>
    dsimp only [asgS_nx, seqS_nx]
    cases f ρ1 S1 <;> rfl
  | _ => rfl
@[simp] theorem e_diRange1 : diRange1 fe ρ S = (fe ρ S).bind fun d S1 => match d with
  | .int j => if -1000000000000 ≤ j ∧ j ≤ 1000000000000 then .ok ⟨rngD 0 1 j.toNat, grdT⟩ S1 else .bad
  | _ => .bad := rfl
@[simp] theorem e_diRev1 : diRev1 fe ρ S = (fe ρ S).bind fun d S1 => match d with
  | .int j => if -1000000000000 ≤ j ∧ j ≤ 1000000000000 then .ok ⟨rngD (j - 1) (-1) j.toNat, grdT⟩ S1 else .bad
  | _ => .bad := rfl
@[simp] theorem e_diRange2 : diRange2 fa fb ρ S = (fa ρ S).bind fun d S1 => (fb ρ S1).bind fun e S2 => match d, e with
  | .int i, .int j => if (-1000000000000 ≤ i ∧ i ≤ 1000000000000) ∧ -1000000000000 ≤ j ∧ j ≤ 1000000000000 then .ok ⟨rngD i 1 (j - i).toNat, grdT⟩ S2 else .bad
  | _, _ => .bad := rfl
@[simp] theorem e_diSeq : diSeq fe ρ S = (fe ρ S).bind fun d S1 => optO (srcOf d S1) := rfl
@[simp] theorem e_diEnum : diEnum fe ρ S = (fe ρ S).bind fun d S1 => optO (enumOf d S1) := rfl
@[simp] theorem srcOf_tup (xs : List D) : srcOf (.tup xs) S = some (⟨xs, grdT⟩, S) := rfl
@[simp] theorem srcOf_fl (xs : List D) : srcOf (.fl xs) S = some (⟨xs, grdT⟩, S) := rfl
@[simp] theorem srcOf_obj (n : Nat) : srcOf (.obj n) S = (lstAt S n).map fun xs => (⟨xs, grdL n xs⟩, S) := rfl
@[simp] theorem enumOf_tup (xs : List D) : enumOf (.tup xs) S = some (⟨enumL xs, grdT⟩, S) := rfl
@[simp] theorem rngD_zero (lo c : Int) : rngD lo c 0 = [] := rfl
theorem rngD_succ (lo c : Int) (n : Nat) : rngD lo c (n + 1) = .int lo :: rngD (lo + c) c n := by
  unfold rngD
  rw [List.range_succ_eq_map, List.map_cons, List.map_map]
  congr 1
  · simp
  · refine List.map_congr_left fun i _ => ?_
    simp only [Function.comp, D.int.injEq]
    show lo + ((i + 1 : Nat) : Int) * c = lo + c + (i : Int) * c
    rw [Int.natCast_add, Int.add_mul]
    simp; omega
@[simp] theorem rng_1 : rngD 0 1 1 = [.int 0] := rfl
@[simp] theorem rng_2 : rngD 0 1 2 = [.int 0, .int 1] := rfl
@[simp] theorem rng_3 : rngD 0 1 3 = [.int 0, .int 1, .int 2] := rfl
@[simp] theorem rng_4 : rngD 0 1 4 = [.int 0, .int 1, .int 2, .int 3] := rfl
@[simp] theorem rng_5 : rngD 0 1 5 = [.int 0, .int 1, .int 2, .int 3, .int 4] := rfl
@[simp] theorem rev_1 : rngD 0 (-1) 1 = [.int 0] := rfl
@[simp] theorem rev_2 : rngD 1 (-1) 2 = [.int 1, .int 0] := rfl
@[simp] theorem rev_3 : rngD 2 (-1) 3 = [.int 2, .int 1, .int 0] := rfl
@[simp] theorem rev_4 : rngD 3 (-1) 4 = [.int 3, .int 2, .int 1, .int 0] := rfl
/-! ### comprehensions -/
def outU (n : Nat) (k : Store → Out Unit) (y : D) (S : Store) : Out Unit := match lstAt S n with
  | some acc => if acc.length < 1000000 then k (S.set n (.lst (acc ++ [y]))) else .bad
  | none => .bad
theorem outU_some {n : Nat} {k : Store → Out Unit} {y : D} {S : Store} {acc : List D} (h : lstAt S n = some acc) (h2 : acc.length < 1000000) : outU n k y S = k (S.set n (.lst (acc ++ [y]))) := by
  unfold outU
  rw [h]
  exact if_pos h2
/-- what a comprehension's part may end in -/
def lcE {α β : Type} (o : Out α) (k : α → Store → Out β) : Out β := match o with
  | .ok a S => k a S
  | _ => .bad
theorem lcE_congr1 {α β : Type} {o o2 : Out α} {k : α → Store → Out β} (h : o = o2) : lcE o k = lcE o2 k := by rw [h]
@[simp] theorem lcE_ok {α β : Type} (a : α) (S : Store) (k : α → Store → Out β) : lcE (.ok a S) k = k a S := rfl
def lcG {β : Type} (o : OutS) (k : DEnv → Store → Out β) : Out β := match o with
  | .nx ρ S => k ρ S
  | _ => .bad
theorem lcG_congr1 {β : Type} {o o2 : OutS} {k : DEnv → Store → Out β} (h : o = o2) : lcG o k = lcG o2 k := by rw [h]
@[simp] theorem lcG_nx {β : Type} (ρ : DEnv) (S : Store) (k : DEnv → Store → Out β) : lcG (.nx ρ S) k = k ρ S := rfl
@[simp] theorem e_dYes : dYes ρ S = .ok true S := rfl
@[simp] theorem e_dLc (fi : DI) (tt : DT) (vs : List Nat) : dLc fi tg tt fe vs ρ S = (fi ρ S).bind fun src S1 => (lcD src.grd tg tt fe S1.length (wipeD ρ vs) src.items (S1 ++ [.lst []])).bind fun _ S2 => .ok (.obj S1.length) S2 := rfl
@[simp] theorem lcD_nil (tt : DT) (n : Nat) : lcD grd tg tt fe n ρ [] S = if grd S = true then .ok () S else .bad := rfl
@[simp] theorem lcD_cons (tt : DT) (n : Nat) (d : D) (ds : List D) : lcD grd tg tt fe n ρ (d :: ds) S = if grd S = true then lcG (tg d ρ S) (fun ρ1 S1 => lcE (tt ρ1 S1) fun b S2 => if b = true then lcE (fe ρ1 S2) (outU n (lcD grd tg tt fe n ρ ds)) else lcD grd tg tt fe n ρ ds S2) else .bad := by
  rw [lcD]
  congr 1
  cases tg d ρ S with
  | nx ρ1 S1 =>
    dsimp only [lcG_nx]
    cases tt ρ1 S1 with
    | ok b S2 =>
      cases b with
      | true =>
        dsimp only [lcE_ok]
        rw [if_pos rfl]
        cases fe ρ1 S2 <;> rfl
      | false => rfl
    | _ => rfl
  | _ => rfl
@[simp] theorem wipeD_nil : wipeD ρ [] = ρ := rfl
@[simp] theorem wipeD_cons (v : Nat) (vs : List Nat) : wipeD ρ (v :: vs) = (wipeD ρ vs).set v none := rfl
@[simp] theorem e_dLc2 (fi : DI) (tt : DT) (fi1 : DI) (g1 : DG) (tt1 : DT) (vs vs1 : List Nat) : dLc2 fi tg tt fi1 g1 tt1 fe vs vs1 ρ S = (fi ρ S).bind fun src S1 => (lcD2 src.grd tg tt fi1 g1 tt1 fe vs1 S1.length (wipeD ρ vs) src.items (S1 ++ [.lst []])).bind fun _ S2 => .ok (.obj S1.length) S2 := rfl
@[simp] theorem lcD2_nil (tt : DT) (fi1 : DI) (g1 : DG) (tt1 : DT) (vs1 : List Nat) (n : Nat) : lcD2 grd tg tt fi1 g1 tt1 fe vs1 n ρ [] S = if grd S = true then .ok () S else .bad := rfl
@[simp] theorem lcD2_cons (tt : DT) (fi1 : DI) (g1 : DG) (tt1 : DT) (vs1 : List Nat) (n : Nat) (d : D) (ds : List D) : lcD2 grd tg tt fi1 g1 tt1 fe vs1 n ρ (d :: ds) S = if grd S = true then lcG (tg d ρ S) (fun ρ1 S1 => lcE (tt ρ1 S1) fun b S2 => if b = true then lcE (fi1 ρ1 S2) (fun src S3 => (lcD src.grd g1 tt1 fe n (wipeD ρ1 vs1) src.items S3).bind fun _ S4 => lcD2 grd tg tt fi1 g1 tt1 fe vs1 n ρ ds S4) else lcD2 grd tg tt fi1 g1 tt1 fe vs1 n ρ ds S2) else .bad := by
  rw [lcD2]
  congr 1
  cases tg d ρ S with
  | nx ρ1 S1 =>
    dsimp only [lcG_nx]
    cases tt ρ1 S1 with
    | ok b S2 =>
      cases b with
      | true =>
        dsimp only [lcE_ok]
        rw [if_pos rfl]
        cases fi1 ρ1 S2 <;> rfl
      | false => rfl
    | _ => rfl
  | _ => rfl
/-! ### append, slices, augmented -/
def appO (fe : DE) (ρ : DEnv) (n : Nat) (S : Store) : Option (List D) → Out D
  | some _ => (fe ρ S).bind fun d S2 => (match lstAt S2 n with
      | some xs => if xs.length < 1000000 then .ok .non (S2.set n (.lst (xs ++ [d]))) else .bad
      | none => .bad)
  | none => .bad
def app2 (n : Nat) (d : D) (S : Store) : Option (List D) → Out D
  | some xs => if xs.length < 1000000 then .ok .non (S.set n (.lst (xs ++ [d]))) else .bad
  | none => .bad
@[simp] theorem app2_some (n : Nat) (d : D) (xs : List D) : app2 n d S (some xs) = if xs.length < 1000000 then .ok .non (S.set n (.lst (xs ++ [d]))) else .bad := rfl
@[simp] theorem appO_some (n : Nat) (xs : List D) : appO fe ρ n S (some xs) = (fe ρ S).bind fun d S2 => app2 n d S2 (lstAt S2 n) := by
  unfold appO
  congr 1
@[simp] theorem e_dApp : dApp fo fe ρ S = (fo ρ S).bind fun o S1 => match o with
  | .obj n => appO fe ρ n S1 (lstAt S1 n)
  | _ => .bad := by
  unfold dApp
  congr 1
@[simp] theorem e_dSl (fl fh : DP) : dSl fa fl fh ρ S = (fa ρ S).bind fun x S1 => (fl ρ S1).bind fun l S2 => (fh ρ S2).bind fun h S3 => optO (sliceD x l h S3) := rfl
@[simp] theorem e_dpNone : dpNone ρ S = .ok none S := rfl
@[simp] theorem e_dpSome : dpSome fa ρ S = (fa ρ S).bind fun x S1 => match x with
  | .int i => .ok (some i) S1
  | _ => .bad := rfl
def augO (i : Nat) (ρ : DEnv) : Option (D × Store) → OutS
  | some (d, S2) => .nx (ρ.set i (some d)) S2
  | none => .bad
@[simp] theorem augO_some (i : Nat) (d : D) : augO i ρ (some (d, S)) = .nx (ρ.set i (some d)) S := rfl
def augS (i : Nat) (o : D2) (fe : DE) (ρ : DEnv) (S : Store) : Option (Option D) → OutS
  | some (some x) => liftS (fe ρ S) ρ fun y S1 => augO i ρ (o x y S1)
  | _ => .bad
@[simp] theorem augS_some (i : Nat) (o : D2) (x : D) : augS i o fe ρ S (some (some x)) = liftS (fe ρ S) ρ fun y S1 => augO i ρ (o x y S1) := rfl
@[simp] theorem e_dAug (i : Nat) (o : D2) : dAug i o fe ρ S = augS i o fe ρ S ρ[i]? := by
  unfold dAug augS
  cases ρ[i]? with
  | none => rfl
  | some x => cases x with
    | none => rfl
    | some d =>
      dsimp only
      congr 1
end
@[simp] theorem e_tupleD (d : D) (S : Store) : tupleD [d] S = (seqAt S d).map fun xs => (.tup xs, S) := rfl
@[simp] theorem e_listD (d : D) (S : Store) : listD [d] S = (seqAt S d).map fun xs => newO (.lst xs) S := rfl
@[simp] theorem e_lenT (xs : List D) (S : Store) : lenD [.tup xs] S = some (.int xs.length, S) := rfl
@[simp] theorem e_lenO (n : Nat) (S : Store) : lenD [.obj n] S = (lstAt S n).map fun xs => (.int xs.length, S) := rfl
@[simp] theorem e_newO (o : DO) (S : Store) : newO o S = (.obj S.length, S ++ [o]) := rfl
@[simp] theorem e_intD (i : Int) (S : Store) : intD [.int i] S = some (.int i, S) := rfl
@[simp] theorem e_intB (b : Bool) (S : Store) : intD [.bl b] S = some (.int (if b = true then 1 else 0), S) := rfl
/-! ### the store -/
section
variable (S T : Store) (k : Nat)
@[simp] theorem lstAt_cons0 (xs : List D) : lstAt (.lst xs :: T) 0 = some xs := rfl
@[simp] theorem lstAt_consS (o : DO) : lstAt (o :: T) (k + 1) = lstAt T k := rfl
@[simp] theorem lstAt_app : lstAt (S ++ T) (S.length + k) = lstAt T k := by
  unfold lstAt
  rw [List.getElem?_append_right (by omega)]
  simp
@[simp] theorem lstAt_app0 : lstAt (S ++ T) S.length = lstAt T 0 := lstAt_app S T 0
theorem lstAt_old {n : Nat} (h : n < S.length) : lstAt (S ++ T) n = lstAt S n := by
  unfold lstAt
  rw [List.getElem?_append_left h]
theorem lstAt_keep {n : Nat} {xs : List D} (h : lstAt S n = some xs) : lstAt (S ++ T) n = some xs := by
  have hn : n < S.length := by
    by_cases z : n < S.length
    · exact z
    · unfold lstAt at h
      rw [List.getElem?_eq_none (by omega)] at h
      cases h
  rw [lstAt_old S T hn, h]
@[simp] theorem set_app (o : DO) : (S ++ T).set (S.length + k) o = S ++ T.set k o := by
  rw [List.set_append_right _ _ (by omega)]
  simp
@[simp] theorem set_app0 (o : DO) : (S ++ T).set S.length o = S ++ T.set 0 o := set_app S T 0 o
theorem insAt_keep {d : D} {x : String × List (Str × D)} (h : insAt S d = some x) : insAt (S ++ T) d = some x := by
  cases d with
  | obj n =>
    have e : insAt (S ++ T) (.obj n) = insAt S (.obj n) := by
      unfold insAt
      by_cases z : n < S.length
      · dsimp only; rw [List.getElem?_append_left z]
      · exfalso
        unfold insAt at h
        dsimp only at h
        rw [List.getElem?_eq_none (by omega)] at h
        cases h
    rw [e, h]
  | _ => cases h
@[simp] theorem insAt_app : insAt (S ++ T) (.obj (S.length + k)) = insAt T (.obj k) := by
  unfold insAt
  dsimp only
  rw [List.getElem?_append_right (by omega)]
  simp
@[simp] theorem insAt_app0 : insAt (S ++ T) (.obj S.length) = insAt T (.obj 0) := insAt_app S T 0
@[simp] theorem insAt_cons0 (c : String) (fs : List (Str × D)) : insAt (.ins c fs :: T) (.obj 0) = some (c, fs) := rfl
@[simp] theorem insAt_consS (o : DO) : insAt (o :: T) (.obj (k + 1)) = insAt T (.obj k) := rfl
@[simp] theorem seqAt_tup (xs : List D) : seqAt S (.tup xs) = some xs := rfl
@[simp] theorem seqAt_fl (xs : List D) : seqAt S (.fl xs) = some xs := rfl
@[simp] theorem seqAt_obj (n : Nat) : seqAt S (.obj n) = lstAt S n := rfl
end
end DL
set_option Elab.async false
set_option linter.all false
set_option maxRecDepth 100000
set_option maxHeartbeats 1000000
namespace DL
open PySem PySem.Spec PyProof.Rows L2
/-! ### a comprehension whose parts change nothing -/
theorem lcD_map {α : Type} {grd : Store → Bool} {tg : DG} {fe : DE} {ρ : DEnv} {a f : α → D} {S1 : Store} (hg : ∀ X, grd (S1 ++ [.lst X]) = true) : ∀ (xs : List α) (acc : List D), (∀ x ∈ xs, ∀ X, ∃ ρ1, tg (a x) ρ (S1 ++ [.lst X]) = .nx ρ1 (S1 ++ [.lst X]) ∧ fe ρ1 (S1 ++ [.lst X]) = .ok (f x) (S1 ++ [.lst X])) → acc.length + xs.length < 1000000 →
    lcD grd tg dYes fe S1.length ρ (xs.map a) (S1 ++ [.lst acc]) = .ok () (S1 ++ [.lst (acc ++ xs.map f)])
  | [], acc, h, hl => by simp only [List.map_nil, lcD_nil, hg, if_true, List.append_nil]
  | x :: xs, acc, h, hl => by
    obtain ⟨ρ1, h1, h2⟩ := h x List.mem_cons_self acc
    rw [List.length_cons] at hl
    have ih := lcD_map hg xs (acc ++ [f x]) (fun y hy => h y (List.mem_cons_of_mem _ hy)) (by rw [List.length_append, List.length_singleton]; omega)
    have h3 : lstAt (S1 ++ [.lst acc]) S1.length = some acc := by simp
    simp -implicitDefEqProofs only [List.map_cons, lcD_cons, hg, if_true, h1, lcG_nx, e_dYes, lcE_ok, h2]
    rw [outU_some h3 (by omega)]
    simp -implicitDefEqProofs only [set_app0, List.set_cons_zero]
    rw [ih, List.append_assoc, List.singleton_append]
theorem dLc_map {α : Type} {fi : DI} {tg : DG} {fe : DE} {vs : List Nat} {ρ : DEnv} {S S1 : Store} {grd : Store → Bool} (xs : List α) (a f : α → D) (hi : fi ρ S = .ok ⟨xs.map a, grd⟩ S1) (hg : ∀ X, grd (S1 ++ [.lst X]) = true)
    (h : ∀ x ∈ xs, ∀ X, ∃ ρ1, tg (a x) (wipeD ρ vs) (S1 ++ [.lst X]) = .nx ρ1 (S1 ++ [.lst X]) ∧ fe ρ1 (S1 ++ [.lst X]) = .ok (f x) (S1 ++ [.lst X])) (hl : xs.length < 1000000) :
    dLc fi tg dYes fe vs ρ S = .ok (.obj S1.length) (S1 ++ [.lst (xs.map f)]) := by
  rw [e_dLc, hi]
  simp only [Out.bind_ok]
  rw [lcD_map hg xs [] h (by rw [List.length_nil]; omega)]
  simp only [Out.bind_ok, List.nil_append]
/-! ### guards, what a comprehension puts out -/
@[simp] theorem grdL_iff {n : Nat} {xs : List D} {S : Store} : grdL n xs S = true ↔ lstAt S n = some xs := by
  constructor
  · exact grdL_ok
  · intro h
    unfold grdL
    rw [h]
    exact D.beqs_refl xs
def outO (n : Nat) (k : Store → Out Unit) (y : D) (S : Store) : Option (List D) → Out Unit
  | some acc => if acc.length < 1000000 then k (S.set n (.lst (acc ++ [y]))) else .bad
  | none => .bad
@[simp] theorem e_outU (n : Nat) (k : Store → Out Unit) (y : D) (S : Store) : outU n k y S = outO n k y S (lstAt S n) := by
  unfold outU outO
  cases lstAt S n <;> rfl
@[simp] theorem outO_some (n : Nat) (k : Store → Out Unit) (y : D) (S : Store) (acc : List D) : outO n k y S (some acc) = if acc.length < 1000000 then k (S.set n (.lst (acc ++ [y]))) else .bad := rfl
@[simp] theorem addD_tup (xs ys : List D) (S : Store) : addD (.tup xs) (.tup ys) S = if xs.length + ys.length ≤ 1000000 then some (.tup (xs ++ ys), S) else none := rfl
end DL
set_option Elab.async false
set_option linter.all false
set_option maxRecDepth 100000
set_option maxHeartbeats 1000000
namespace DL
open PySem PySem.Spec PyProof.Rows L2
/-! ### told, put at an index -/
theorem told_exn {rs : List String} {cs : List (String × Str)} {f : DE} {ρ : DEnv} {S S1 : Store} {c : String} {t : Str} (h : f ρ S = .exn ⟨c⟩ S1) (hc : c ∈ rs) (hp : pickD cs c = some t) : dTold rs cs f ρ S = .ok (.str t) S1 := by
  unfold dTold
  rw [h]
  dsimp only
  rw [if_pos hc, hp]
theorem told_ok {rs : List String} {cs : List (String × Str)} {f : DE} {ρ : DEnv} {S S1 : Store} {d : D} (h : f ρ S = .ok d S1) : dTold rs cs f ρ S = .ok d S1 := by
  unfold dTold
  rw [h]
def ixPut (d : D) (ρ : DEnv) (n : Nat) (k : Int) (S : Store) : Option (List D) → OutS
  | some xs => (match ixN xs.length k with
    | some j => .nx ρ (S.set n (.lst (xs.set j d)))
    | none => .bad)
  | none => .bad
@[simp] theorem e_gIx (fo fi : DE) (d : D) (ρ : DEnv) (S : Store) : gIx fo fi d ρ S = liftS (fo ρ S) ρ fun o S1 => liftS (fi ρ S1) ρ fun i S2 => match o, i with
  | .obj n, .int k => ixPut d ρ n k S2 (lstAt S2 n)
  | _, _ => .bad := by
  unfold gIx
  congr 1
@[simp] theorem ixPut_some (d : D) (ρ : DEnv) (n : Nat) (k : Int) (S : Store) (xs : List D) : ixPut d ρ n k S (some xs) = (match ixN xs.length k with
    | some j => .nx ρ (S.set n (.lst (xs.set j d)))
    | none => .bad) := rfl
@[simp] theorem e_ixO' (n : Nat) (k : Int) (S : Store) : ixD (.obj n) (.int k) S = ((lstAt S n).bind fun xs => (atI xs k).map fun d => (d, S)) := by
  unfold ixD
  simp only [seqAt_obj]
  cases lstAt S n <;> rfl
/-! ### what stays -/
structure Kp (n : Nat) (S S' : Store) : Prop where
  len : S.length ≤ S'.length
  at_ : ∀ i, i ≠ n → i < S.length → S'[i]? = S[i]?
theorem lt_of_lst {S : Store} {n : Nat} {xs : List D} (h : lstAt S n = some xs) : n < S.length := by
  by_cases z : n < S.length
  · exact z
  · unfold lstAt at h
    rw [List.getElem?_eq_none (by omega)] at h
    cases h
theorem lt_of_ins {S : Store} {n : Nat} {x : String × List (Str × D)} (h : insAt S (.obj n) = some x) : n < S.length := by
  by_cases z : n < S.length
  · exact z
  · unfold insAt at h
    dsimp only at h
    rw [List.getElem?_eq_none (by omega)] at h
    cases h
section
variable {n : Nat} {S S1 S2 T : Store}
theorem Kp.refl : Kp n S S := ⟨Nat.le_refl _, fun _ _ _ => rfl⟩
theorem Kp.trans (a : Kp n S S1) (b : Kp n S1 S2) : Kp n S S2 := ⟨Nat.le_trans a.len b.len, fun i h1 h2 => (b.at_ i h1 (Nat.lt_of_lt_of_le h2 a.len)).trans (a.at_ i h1 h2)⟩
theorem Kp.app : Kp n S (S ++ T) := ⟨by simp, fun i _ h => by rw [List.getElem?_append_left h]⟩
theorem Kp.set {o : DO} : Kp n S (S.set n o) := ⟨by simp, fun i h _ => by rw [List.getElem?_set_ne (Ne.symm h)]⟩
theorem Kp.lst (a : Kp n S S1) {i : Nat} {xs : List D} (hi : i ≠ n) (h : lstAt S i = some xs) : lstAt S1 i = some xs := by
  have := a.at_ i hi (lt_of_lst h)
  unfold lstAt at h ⊢
  rw [this]
  exact h
theorem Kp.ins (a : Kp n S S1) {i : Nat} {x : String × List (Str × D)} (hi : i ≠ n) (h : insAt S (.obj i) = some x) : insAt S1 (.obj i) = some x := by
  have := a.at_ i hi (lt_of_ins h)
  unfold insAt at h ⊢
  dsimp only at h ⊢
  rw [this]
  exact h
theorem lst_set {l acc : List D} (h : lstAt S n = some acc) : lstAt (S.set n (.lst l)) n = some l := by
  unfold lstAt
  rw [List.getElem?_set_self (lt_of_lst h)]
theorem ne_lst_ins {i : Nat} {xs : List D} {x : String × List (Str × D)} (h : lstAt S n = some xs) (q : insAt S (.obj i) = some x) : i ≠ n := by
  rintro rfl
  unfold insAt at q
  unfold lstAt at h
  dsimp only at q
  cases z : S[i]? with
  | none => rw [z] at h; cases h
  | some o => cases o with
    | lst xs => rw [z] at q; cases q
    | ins c fs => rw [z] at h; cases h
end
/-! ### dice -/
def DiceAt (S : Store) (n : Nat) : Prop := ∃ a b f : Int, lstAt S n = some [.int a, .int b, .int f]
theorem DiceAt.app {S T : Store} {n : Nat} (h : DiceAt S n) : DiceAt (S ++ T) n := by
  obtain ⟨a, b, f, h⟩ := h
  exact ⟨a, b, f, lstAt_keep _ _ h⟩
theorem DiceAt.kp {S S1 : Store} {n i : Nat} (h : DiceAt S i) (k : Kp n S S1) (hi : i ≠ n) : DiceAt S1 i := by
  obtain ⟨a, b, f, h⟩ := h
  exact ⟨a, b, f, k.lst hi h⟩
def rollF : DS :=
  (dSeq (dIfS (dOrT (dB (dOp eqD (dOp ixD (dVar 0) (dC (.int 2))) (dC (.int 2)))) (dAndT (dB (dOp eqD (dOp ixD (dVar 0) (dC (.int 2))) (dC (.int 1)))) (dB (dOp gtD (dOp ixD (dVar 0) (dC (.int 0))) (dC (.int 0))))))
  (dSeq (dAsg (dOp modD (dBlt intD (daCons (dOp ixD (dVar 0) (dC (.int 0))) daNil)) (dVar 1)) (gN 2))
  (dSeq (dAsg (dOp fdivD (dOp ixD (dVar 0) (dC (.int 0))) (dVar 1)) (gIx (dVar 0) (dC (.int 0))))
  (dRet (dVar 2))))
  dNext)
  (dSeq (dAsg (dC (.int 0)) (gIx (dVar 0) (dC (.int 2))))
  (dSeq (dAsg (dOp modD (dBlt intD (daCons (dOp addD (dOp addD (dOp mulD (dOp ixD (dVar 0) (dC (.int 0))) (dC (.int 48271))) (dOp mulD (dOp ixD (dVar 0) (dC (.int 1))) (dC (.int 69621)))) (dC (.int 11))) daNil)) (dC (.int 2147483647))) (gIx (dVar 0) (dC (.int 0))))
  (dSeq (dAsg (dOp addD (dOp ixD (dVar 0) (dC (.int 1))) (dC (.int 1))) (gIx (dVar 0) (dC (.int 1))))
  (dRet (dOp modD (dBlt intD (daCons (dOp addD (dOp fdivD (dOp ixD (dVar 0) (dC (.int 0))) (dC (.int 7))) (dOp ixD (dVar 0) (dC (.int 0)))) daNil)) (dVar 1)))))))
theorem mul_small {i j : Int} {S : Store} (h : j.natAbs < 18446744073709551616) : mulD (.int i) (.int j) S = some (.int (i * j), S) := if_pos (.inl (.inr h))
theorem fdiv_small {i j : Int} {S : Store} (h : 0 < j) (h2 : j.natAbs < 18446744073709551616) : fdivD (.int i) (.int j) S = some (.int (i / j), S) := by
  have b := log2_lt' (n := 64) h2 (by decide)
  exact if_pos ⟨h, by omega⟩
@[simp] theorem atI_two (xs : List D) : atI xs 2 = xs[2]? := atI_nat xs 2
@[simp] theorem atI_three (xs : List D) : atI xs 3 = xs[3]? := atI_nat xs 3
@[simp] theorem ixN_30 : ixN 3 0 = some 0 := rfl
@[simp] theorem ixN_31 : ixN 3 1 = some 1 := rfl
@[simp] theorem ixN_32 : ixN 3 2 = some 2 := rfl
theorem set_set {S : Store} {n : Nat} {a b : DO} : (S.set n a).set n b = S.set n b := List.set_set ..
theorem roll_ok {S : Store} {n : Nat} {k : Int} (h : DiceAt S n) (hk : 0 < k) (hk2 : k.natAbs < 18446744073709551616) : ∃ (v : Nat) (S' : Store), (v : Int) < k ∧ runD 3 rollF [.obj n, .int k] S = .ok (.int (v : Int)) S' ∧ Kp n S S' ∧ DiceAt S' n := by
  obtain ⟨a, b, f, h⟩ := h
  have h0 : ∀ (l : List D), lstAt (S.set n (.lst l)) n = some l := fun l => lst_set h
  by_cases c : f = 2 ∨ f = 1 ∧ 0 < a
  · refine ⟨(a % k).toNat, S.set n (.lst [.int (a / k), .int b, .int f]), ?_, ?_, Kp.set, ⟨_, _, _, h0 _⟩⟩
    · have := Int.emod_lt_of_pos a hk
      have := Int.emod_nonneg a (by omega : k ≠ 0)
      omega
    · have e : ((a % k).toNat : Int) = a % k := by have := Int.emod_nonneg a (by omega : k ≠ 0); omega
      rw [e]
      rcases c with c | ⟨c1, c2⟩
      · subst c
        simp -implicitDefEqProofs only [e_runD, rollF]
        simp -implicitDefEqProofs [startD, h, h0, modD_int hk, fdiv_small hk hk2]
      · subst c1
        simp -implicitDefEqProofs only [e_runD, rollF]
        simp -implicitDefEqProofs [startD, h, h0, modD_int hk, fdiv_small hk hk2, c2]
  · have c1 : ¬ f = 2 := fun z => c (.inl z)
    have s1 : (48271 : Int).natAbs < 18446744073709551616 := by decide
    have s2 : (69621 : Int).natAbs < 18446744073709551616 := by decide
    have s3 : (0 : Int) < 2147483647 := by decide
    have s4 : (0 : Int) < 7 := by decide
    have s5 : (7 : Int).natAbs < 18446744073709551616 := by decide
    generalize hx : (a * 48271 + b * 69621 + 11) % 2147483647 = x
    refine ⟨((x / 7 + x) % k).toNat, S.set n (.lst [.int x, .int (b + 1), .int 0]), ?_, ?_, Kp.set, ⟨_, _, _, h0 _⟩⟩
    · have := Int.emod_lt_of_pos (x / 7 + x) hk
      have := Int.emod_nonneg (x / 7 + x) (by omega : k ≠ 0)
      omega
    · have e : (((x / 7 + x) % k).toNat : Int) = (x / 7 + x) % k := by have := Int.emod_nonneg (x / 7 + x) (by omega : k ≠ 0); omega
      rw [e]
      by_cases c2 : f = 1
      · have c3 : ¬ 0 < a := fun z => c (.inr ⟨c2, z⟩)
        subst c2
        simp -implicitDefEqProofs only [e_runD, rollF]
        simp -implicitDefEqProofs [startD, h, h0, modD_int hk, fdiv_small s4 s5, mul_small s1, mul_small s2, modD_int s3, hx, c3, set_set]
      · simp -implicitDefEqProofs only [e_runD, rollF]
        simp -implicitDefEqProofs [startD, h, h0, modD_int hk, fdiv_small s4 s5, mul_small s1, mul_small s2, modD_int s3, hx, c1, c2, set_set]
end DL
set_option Elab.async false
set_option linter.all false
set_option maxRecDepth 100000
set_option maxHeartbeats 1000000
namespace DL
open PySem PySem.Spec PyProof.Rows L2
/-! ### a list of whole numbers, told empty or not -/
theorem toPs_ints : ∀ (cs : List Int), D.toPs (cs.map D.int) = some (cs.map PyData.int)
  | [] => rfl
  | c :: cs => by
    rw [List.map_cons, List.map_cons]
    unfold D.toPs
    rw [toPs_ints cs]
    rfl
theorem lay_ints : ∀ (cs : List Int), PyData.canLayAll0 (cs.map PyData.int) = true
  | [] => rfl
  | c :: cs => by rw [List.map_cons, PyData.canLayAll0, lay_ints cs]; rfl
theorem depth_ints : ∀ (cs : List Int), PyData.depthAll (cs.map PyData.int) = 0
  | [] => rfl
  | c :: cs => by rw [List.map_cons, PyData.depthAll, depth_ints cs]; rfl
theorem shaped_ints (cs : List Int) : SeqAt.shaped (.list (cs.map PyData.int)) = true := by
  unfold SeqAt.shaped
  rw [PyData.canLay0, lay_ints, PyData.depth, depth_ints]
  rfl
theorem eqD_nil {S : Store} {n k : Nat} {cs : List Int} (h : lstAt S n = some (cs.map D.int)) (h2 : lstAt S k = some []) : eqD (.obj n) (.obj k) S = some (.bl (decide (cs = [])), S) := by
  unfold eqD D.toPS
  dsimp only
  rw [h, h2]
  dsimp only
  rw [toPs_ints]
  show (if SeqAt.shaped (.list (cs.map PyData.int)) = true ∧ SeqAt.shaped (.list []) = true then some (D.bl (PyData.eqv (.list (cs.map PyData.int)) (.list [])), S) else none) = _
  rw [if_pos ⟨shaped_ints cs, shaped_ints []⟩]
  cases cs <;> rfl
def diceF : DS :=
  (dSeq (dIfS (dB (dChain ltD ltD (dOp subD (dC (.int 0)) (dC (.int 10))) (dVar 0) (dC (.int 10))))
  (dRet (dLst (daCons (dBlt absD (daCons (dVar 0) daNil)) (daCons (dC (.int 0)) (daCons (dC (.int 2)) daNil)))))
  dNext)
  (dRet (dLst (daCons (dVar 0) (daCons (dOp addD (dC (.int 1)) (dOp modD (dBlt intD (daCons (dVar 0) daNil)) (dC (.int 1009)))) (daCons (dBlt intD (daCons (dOp geD (dVar 0) (dOp powD (dC (.int 10)) (dC (.int 18)))) daNil)) daNil))))))
theorem dice_ok (c : Int) (S : Store) : ∃ x y z : Int, runD 1 diceF [.int c] S = .ok (.obj S.length) (S ++ [.lst [.int x, .int y, .int z]]) := by
  by_cases h : -10 < c ∧ c < 10
  · refine ⟨c.natAbs, 0, 2, ?_⟩
    simp -implicitDefEqProofs [diceF, startD, dChain, h.1, h.2]
  · have hp : powD (.int 10) (.int 18) S = some (.int (10 ^ 18), S) := rfl
    have hm : modD (.int c) (.int 1009) S = some (.int (c % 1009), S) := modD_int (by decide)
    refine ⟨c, 1 + c % 1009, if 10 ^ 18 ≤ c then 1 else 0, ?_⟩
    by_cases h1 : -10 < c
    · have h2 : ¬ c < 10 := fun z => h ⟨h1, z⟩
      simp -implicitDefEqProofs only [diceF, e_runD]
      simp -implicitDefEqProofs [startD, dChain, h1, h2, hp, hm]
    · simp -implicitDefEqProofs only [diceF, e_runD]
      simp -implicitDefEqProofs [startD, dChain, h1, hp, hm]
def DiceO : DO → Prop
  | .lst [.int _, .int _, .int _] => True
  | _ => False
theorem DiceO.at {S : Store} {n : Nat} {o : DO} (h : DiceO o) (e : S[n]? = some o) : DiceAt S n := by
  unfold DiceO at h
  split at h
  · rename_i a b c
    exact ⟨a, b, c, by unfold lstAt; rw [e]⟩
  · exact h.elim
def roundsF (M : DF) : DS :=
  (dSeq (dAsg (dSl (dVar 0) dpNone (dpSome (dVar 1))) (gN 2))
  (dSeq (dIfS (dB (dOp eqD (dVar 2) (dLst daNil)))
  (dAsg (dLst (daCons (dC (.int 0)) daNil)) (gN 2))
  dNext)
  (dRet (dLc (diSeq (dVar 2)) (gN 3) dYes (dCall 1 M (daCons (dVar 3) daNil)) [3]))))
def objsFrom (k n : Nat) : List D := (List.range' k n).map D.obj
theorem objs_succ (k n : Nat) : objsFrom k (n + 1) = .obj k :: objsFrom (k + 1) n := by simp [objsFrom, List.range'_succ]
theorem rounds_lc {S1 : Store} {q : Nat} {cs0 : List Int} {o0 o1 o2 o3 : Option D} (hq : lstAt S1 q = some (cs0.map D.int)) : ∀ (cs : List Int) (acc : List D) (ds : List DO), acc.length + cs.length < 1000000 → ∃ es : List DO, es.length = cs.length ∧ (∀ e ∈ es, DiceO e) ∧
    lcD (grdL q (cs0.map D.int)) (gN 3) dYes (dCall 1 (runD 1 diceF) (daCons (dVar 3) daNil)) S1.length [o0, o1, o2, o3] (cs.map D.int) (S1 ++ .lst acc :: ds) = .ok () (S1 ++ .lst (acc ++ objsFrom (S1.length + 1 + ds.length) cs.length) :: (ds ++ es)) := by
  intro cs
  induction cs with
  | nil =>
    intro acc ds hl
    refine ⟨[], rfl, (fun _ h => nomatch h), ?_⟩
    simp [objsFrom, lstAt_keep _ _ hq]
  | cons c cs ih =>
    intro acc ds hl
    rw [List.length_cons] at hl
    obtain ⟨x, y, z, e⟩ := dice_ok c (S1 ++ .lst acc :: ds)
    obtain ⟨es, h1, h2, h3⟩ := ih (acc ++ [.obj (S1.length + 1 + ds.length)]) (ds ++ [.lst [.int x, .int y, .int z]]) (by rw [List.length_append, List.length_singleton]; omega)
    refine ⟨.lst [.int x, .int y, .int z] :: es, by simp [h1], ?_, ?_⟩
    · intro e he
      rcases List.mem_cons.mp he with rfl | he
      · trivial
      · exact h2 e he
    · have el : (S1 ++ .lst acc :: ds).length = S1.length + 1 + ds.length := by simp; omega
      rw [el] at e
      have hl2 : acc.length < 1000000 := by omega
      have hg : lstAt (S1 ++ .lst acc :: ds) q = some (cs0.map D.int) := lstAt_keep _ _ hq
      rw [List.map_cons, lcD_cons, if_pos (grdL_iff.mpr hg)]
      simp -implicitDefEqProofs only [e_gN, lcG_nx, e_dYes, lcE_ok, e_dCall, e_daCons, e_dVar, e_daNil]
      simp -implicitDefEqProofs [-e_runD, e, hl2]
      rw [show S1 ++ DO.lst (acc ++ [D.obj (S1.length + 1 + ds.length)]) :: (ds ++ [DO.lst [D.int x, D.int y, D.int z]]) = S1 ++ DO.lst (acc ++ [D.obj (S1.length + 1 + ds.length)]) :: (ds ++ [DO.lst [D.int x, D.int y, D.int z]]) from rfl, h3]
      simp [objs_succ, Nat.add_assoc]
theorem rounds_ok {ns : List Int} {d : D} {S : Store} (hs : ScriptAt ns d S) (k : Nat) (hk : 1 ≤ k) (hk2 : k ≤ 1000) : ∃ (j n : Nat) (S1 : Store) (es : List DO), 1 ≤ n ∧ n ≤ k ∧ es.length = n ∧ S1.length = j ∧ (∀ e ∈ es, DiceO e) ∧ runD 4 (roundsF (runD 1 diceF)) [d, .int (k : Int)] S = .ok (.obj j) (S1 ++ .lst (objsFrom (j + 1) n) :: es) := by
  have cut : ∀ xs : List D, cutD xs none (some (k : Int)) = xs.take k := by
    intro xs
    unfold cutD
    rw [HT.sIx_nat, HT.sIx_none]
    simp
  have sl : sliceD d none (some (k : Int)) S = some (.obj S.length, S ++ [.lst ((ns.take k).map D.int)]) := by
    rcases hs with ⟨rfl, rfl⟩ | ⟨rfl, rfl⟩
    · unfold sliceD
      dsimp only
      rw [cut, ← List.map_take]
      rfl
    · unfold sliceD
      dsimp only
      rw [show lstAt [DO.lst (ns.map D.int)] 0 = some (ns.map D.int) from rfl, Option.map_some, cut, ← List.map_take]
      rfl
  have e1 := eqD_nil (S := S ++ [.lst ((ns.take k).map D.int), .lst []]) (n := S.length) (k := S.length + 1) (cs := ns.take k) (by simp) (by simp)
  by_cases z : ns.take k = []
  · obtain ⟨es, h1, h2, h3⟩ := rounds_lc (S1 := S ++ [.lst ((ns.take k).map D.int), .lst [], .lst [.int 0]]) (q := S.length + 2) (cs0 := [0]) (o0 := some d) (o1 := some (.int (k : Int))) (o2 := some (.obj (S.length + 2))) (o3 := none) (by simp) [0] [] [] (by simp)
    refine ⟨S.length + 3, 1, S ++ [.lst ((ns.take k).map D.int), .lst [], .lst [.int 0]], es, by omega, hk, h1, by simp, h2, ?_⟩
    simp -implicitDefEqProofs only [roundsF, e_runD, startD]
    rw [z] at e1 sl h3 ⊢
    simp at e1 sl
    simp [-e_runD] at h3
    simp -implicitDefEqProofs [-e_runD, sl, e1, h3]
  · obtain ⟨es, h1, h2, h3⟩ := rounds_lc (S1 := S ++ [.lst ((ns.take k).map D.int), .lst []]) (q := S.length) (cs0 := ns.take k) (o0 := some d) (o1 := some (.int (k : Int))) (o2 := some (.obj S.length)) (o3 := none) (by simp) (ns.take k) [] [] (by have := List.length_take_le k ns; simp; omega)
    refine ⟨S.length + 2, (ns.take k).length, S ++ [.lst ((ns.take k).map D.int), .lst []], es, ?_, List.length_take_le k ns, h1, by simp, h2, ?_⟩
    · have := List.length_pos_iff.mpr z
      omega
    · simp -implicitDefEqProofs only [roundsF, e_runD, startD]
      generalize ns.take k = cs at *
      simp [z] at e1
      simp [-e_runD] at h3
      simp -implicitDefEqProofs [-e_runD, sl, e1, h3, z]
end DL
set_option Elab.async false
set_option linter.all false
set_option maxRecDepth 100000
set_option maxHeartbeats 1000000
namespace DL
open PySem PySem.Spec PyProof.Rows L2
theorem rounds_loop {body : DS} {all : List D} {j i N : Nat} (hb : ∀ (ρ : DEnv) (S : Store) (k : Nat), ρ.length = N → DiceAt S k → ∃ ρ' S', ρ'.length = N ∧ body (ρ.set i (some (.obj k))) S = .nx ρ' S' ∧ Kp k S S' ∧ DiceAt S' k) :
    ∀ (m k : Nat) (ρ : DEnv) (S : Store), ρ.length = N → lstAt S j = some all → j < k → (∀ x, k ≤ x → x < k + m → DiceAt S x) → ∃ ρ' S', ρ'.length = N ∧ forD (grdL j all) (gN i) body (objsFrom k m) ρ S = .nx ρ' S' := by
  intro m
  induction m with
  | zero =>
    intro k ρ S hN hj hk hd
    exact ⟨ρ, S, hN, by simp [objsFrom, hj]⟩
  | succ m ih =>
    intro k ρ S hN hj hk hd
    obtain ⟨ρ', S', h1, h2, h3, h4⟩ := hb ρ S k hN (hd k (Nat.le_refl _) (by omega))
    obtain ⟨ρ2, S2, q1, q2⟩ := ih (k + 1) ρ' S' h1 (h3.lst (by omega) hj) (by omega) (fun x hx hx2 => (hd x (by omega) (by omega)).kp h3 (by omega))
    refine ⟨ρ2, S2, q1, ?_⟩
    rw [objs_succ, forD_cons, if_pos (grdL_iff.mpr hj)]
    simp -implicitDefEqProofs only [e_gN, asgS_nx, seqS_nx, h2, forK_nx]
    exact q2
theorem law_rounds {body : DS} {N : Nat} {k : Nat} (hN : 2 ≤ N) (hk : 1 ≤ k) (hk2 : k ≤ 1000) (hb : ∀ (ρ : DEnv) (S : Store) (n : Nat), ρ.length = N → DiceAt S n → ∃ ρ' S', ρ'.length = N ∧ body (ρ.set 1 (some (.obj n))) S = .nx ρ' S' ∧ Kp n S S' ∧ DiceAt S' n)
    {ns : List Int} {d : D} {S : Store} (hs : ScriptAt ns d S) :
    ∃ S2, runD N (dSeq (dFor (diSeq (dCall 2 (runD 4 (roundsF (runD 1 diceF))) (daCons (dVar 0) (daCons (dC (.int (k : Int))) daNil)))) (gN 1) body) (dRet (dC (.bl true)))) [d] S = .ok (.bl true) S2 := by
  obtain ⟨j, n, S1, es, h1, h2, h3, h4, h5, h6⟩ := rounds_ok hs k hk hk2
  have hl : lstAt (S1 ++ .lst (objsFrom (j + 1) n) :: es) j = some (objsFrom (j + 1) n) := by rw [← h4, lstAt_app0]; rfl
  obtain ⟨ρ', S', q1, q2⟩ := rounds_loop (all := objsFrom (j + 1) n) (j := j) hb n (j + 1) (startD N [d]) (S1 ++ .lst (objsFrom (j + 1) n) :: es) (by simp [startD]; omega) hl (by omega) (fun x hx hx2 => by
    have e : (S1 ++ .lst (objsFrom (j + 1) n) :: es)[x]? = es[x - (j + 1)]? := by
      rw [List.getElem?_append_right (by omega), h4]
      rw [show x - j = (x - (j + 1)) + 1 from by omega, List.getElem?_cons_succ]
    have hx3 : x - (j + 1) < es.length := by omega
    rw [List.getElem?_eq_getElem hx3] at e
    exact DiceO.at (h5 _ (List.getElem_mem hx3)) e)
  refine ⟨S', ?_⟩
  have e0 : (startD N [d])[0]? = some (some d) := by
    unfold startD
    simp
  rw [e_runD, e_dSeq, e_dFor, e_diSeq, e_dCall, e_daCons, e_dVar, e0]
  simp -implicitDefEqProofs only [optV_some, Out.bind_ok, e_daCons, e_dC, e_daNil, List.length_cons, List.length_nil, if_true, Nat.reduceAdd, h6, srcOf_obj, hl, Option.map_some, optO_some, liftS_ok, q2, seqS_nx, e_dRet, finS_rt]
end DL
set_option Elab.async false
set_option linter.all false
set_option maxRecDepth 100000
set_option maxHeartbeats 1000000
namespace DL
open PySem PySem.Spec PyProof.Rows L2
/-! ### comprehensions whose parts roll dice and make things -/
def All2 {α β : Type} (P : α → β → Prop) : List α → List β → Prop
  | [], [] => True
  | a :: as, b :: bs => P a b ∧ All2 P as bs
  | _, _ => False
theorem Kp.set_far {n q : Nat} {S0 S : Store} {o : DO} (k : Kp n S0 S) (hq : S0.length ≤ q) : Kp n S0 (S.set q o) :=
  ⟨by simpa using k.len, fun i h1 h2 => by rw [List.getElem?_set_ne (by omega)]; exact k.at_ i h1 h2⟩
theorem DiceAt.set_far {n q : Nat} {S : Store} {o : DO} (h : DiceAt S n) (hq : n ≠ q) : DiceAt (S.set q o) n := by
  obtain ⟨a, b, f, h⟩ := h
  refine ⟨a, b, f, ?_⟩
  unfold lstAt at h ⊢
  rw [List.getElem?_set_ne (Ne.symm hq)]
  exact h
theorem lc_inv {n q : Nat} {S0 : Store} {grd : Store → Bool} {tg : DG} {fe : DE} {ρ : DEnv} {P : D → D → Prop} (hq : S0.length ≤ q) (hn : n < S0.length) (hg : ∀ S, Kp n S0 S → grd S = true) :
    ∀ (ds : List D) (acc : List D) (S : Store), (∀ d ∈ ds, ∀ S, Kp n S0 S → DiceAt S n → ∃ ρ1 y S', tg d ρ S = .nx ρ1 S ∧ fe ρ1 S = .ok y S' ∧ P d y ∧ Kp n S S' ∧ DiceAt S' n) → Kp n S0 S → DiceAt S n → lstAt S q = some acc → acc.length + ds.length < 1000000 →
    ∃ ys S', lcD grd tg dYes fe q ρ ds S = .ok () S' ∧ All2 P ds ys ∧ lstAt S' q = some (acc ++ ys) ∧ Kp n S0 S' ∧ DiceAt S' n := by
  intro ds
  induction ds with
  | nil =>
    intro acc S st k d l hl
    refine ⟨[], S, ?_, trivial, by simpa using l, k, d⟩
    rw [lcD_nil, if_pos (hg S k)]
  | cons x ds ih =>
    intro acc S st k d l hl
    rw [List.length_cons] at hl
    obtain ⟨ρ1, y, S1, e1, e2, p, k1, d1⟩ := st x List.mem_cons_self S k d
    have l1 : lstAt S1 q = some acc := k1.lst (by omega) l
    have k2 : Kp n S0 (S1.set q (.lst (acc ++ [y]))) := (k.trans k1).set_far hq
    have d2 : DiceAt (S1.set q (.lst (acc ++ [y]))) n := d1.set_far (by omega)
    obtain ⟨ys, S', q1, q2, q3, q4, q5⟩ := ih (acc ++ [y]) _ (fun z hz => st z (List.mem_cons_of_mem _ hz)) k2 d2 (lst_set l1) (by rw [List.length_append, List.length_singleton]; omega)
    refine ⟨y :: ys, S', ?_, ⟨p, q2⟩, by rw [q3, List.append_assoc, List.singleton_append], q4, q5⟩
    rw [lcD_cons, if_pos (hg S k)]
    simp -implicitDefEqProofs only [e1, lcG_nx, e_dYes, lcE_ok, if_true, e2]
    rw [outU_some l1 (by omega)]
    exact q1
theorem dLc_inv {n : Nat} {S S0 : Store} {grd : Store → Bool} {fi : DI} {tg : DG} {fe : DE} {vs : List Nat} {ρ : DEnv} {ds : List D} {P : D → D → Prop} (hi : fi ρ S = .ok ⟨ds, grd⟩ S0) (hg : ∀ S, Kp n S0 S → grd S = true) (hd : DiceAt S0 n) (hl : ds.length < 1000000)
    (st : ∀ d ∈ ds, ∀ S, Kp n S0 S → DiceAt S n → ∃ ρ1 y S', tg d (wipeD ρ vs) S = .nx ρ1 S ∧ fe ρ1 S = .ok y S' ∧ P d y ∧ Kp n S S' ∧ DiceAt S' n) :
    ∃ ys S', dLc fi tg dYes fe vs ρ S = .ok (.obj S0.length) S' ∧ All2 P ds ys ∧ lstAt S' S0.length = some ys ∧ Kp n S0 S' ∧ DiceAt S' n := by
  obtain ⟨a, b, f, hd'⟩ := hd
  obtain ⟨ys, S', q1, q2, q3, q4, q5⟩ := lc_inv (Nat.le_refl S0.length) (lt_of_lst hd') hg ds [] (S0 ++ [.lst []]) st Kp.app (DiceAt.app ⟨a, b, f, hd'⟩) (by simp) (by simpa using hl)
  refine ⟨ys, S', ?_, q2, by simpa using q3, q4, q5⟩
  rw [e_dLc, hi]
  simp only [Out.bind_ok]
  rw [q1]
  rfl
end DL
set_option Elab.async false
set_option linter.all false
set_option maxRecDepth 100000
set_option maxHeartbeats 1000000
namespace Pr
open PySem PySem.Spec PyProof.Rows L2 DL
def pt (q : Rat) : D := .tup [.int q.num, .int q.den]
/-! ### the loop of Euclid -/
theorem gcd_loop {e : Nat} : ∀ (n a b : Nat) (x y : Option D) (rest : List (Option D)) (S : Store), b ≤ a → a * b < 2 ^ n →
    ∃ z, whileD (dB (dOp neD (dVar 3) (dC (.int 0)))) (dPar2 2 3 (daCons (dVar 3) (daCons (dOp modD (dVar 2) (dVar 3)) daNil))) (n + 1 + e) (x :: y :: some (.int (a : Int)) :: some (.int (b : Int)) :: rest) S
      = .nx (x :: y :: some (.int (Nat.gcd a b : Int)) :: some (.int z) :: rest) S := by
  intro n
  induction n with
  | zero =>
    intro a b x y rest S h h2
    have : b = 0 := by
      cases b with
      | zero => rfl
      | succ b => exfalso; have : 1 * 1 ≤ a * (b + 1) := Nat.mul_le_mul (by omega) (by omega); omega
    subst this
    rw [show 0 + 1 + e = e + 1 from by omega]
    exact ⟨0, by simp [whileD]⟩
  | succ n ih =>
    intro a b x y rest S h h2
    rw [show n + 1 + 1 + e = (n + 1 + e) + 1 from by omega]
    by_cases hb : b = 0
    · subst hb
      exact ⟨0, by simp [whileD]⟩
    · have hr := Nat.mod_lt a (Nat.pos_of_ne_zero hb)
      have h3 : 2 * (a % b) ≤ a := by
        have h5 := Nat.div_add_mod a b
        have h6 : 1 ≤ a / b := Nat.div_pos h (Nat.pos_of_ne_zero hb)
        have h7 : b * 1 ≤ b * (a / b) := Nat.mul_le_mul_left b h6
        omega
      have h4 : b * (a % b) < 2 ^ n := by
        have h5 : b * (2 * (a % b)) ≤ b * a := Nat.mul_le_mul_left b h3
        rw [Nat.mul_comm b a] at h5
        rw [Nat.pow_succ] at h2
        have h6 : b * (2 * (a % b)) = 2 * (b * (a % b)) := by rw [← Nat.mul_assoc, Nat.mul_comm b 2, Nat.mul_assoc]
        omega
      obtain ⟨z, hz⟩ := ih b (a % b) x y rest S (Nat.le_of_lt hr) h4
      refine ⟨z, ?_⟩
      have e1 : Nat.gcd b (a % b) = Nat.gcd a b := by rw [Nat.gcd_comm b, Nat.gcd_comm a b]; exact (Nat.gcd_rec b a).symm
      rw [e1] at hz
      have p : 0 < b := by omega
      rw [whileD]
      simp [hb, modD, p]
      exact hz
theorem gcd_any {a b : Nat} {x y : Option D} {rest : List (Option D)} {S : Store} (h : a * b < 2 ^ 20000) :
    ∃ z, whileD (dB (dOp neD (dVar 3) (dC (.int 0)))) (dPar2 2 3 (daCons (dVar 3) (daCons (dOp modD (dVar 2) (dVar 3)) daNil))) fuel (x :: y :: some (.int (a : Int)) :: some (.int (b : Int)) :: rest) S
      = .nx (x :: y :: some (.int (Nat.gcd a b : Int)) :: some (.int z) :: rest) S := by
  by_cases hab : b ≤ a
  · rw [show fuel = 20000 + 1 + 979999 from rfl]
    exact gcd_loop 20000 a b x y rest S hab h
  · rw [show fuel = (20000 + 1 + 979998) + 1 from rfl]
    obtain ⟨z, hz⟩ := gcd_loop (e := 979998) 20000 b a x y rest S (by omega) (by rw [Nat.mul_comm]; exact h)
    refine ⟨z, ?_⟩
    rw [whileD]
    have p : 0 < b := by omega
    have p2 : b ≠ 0 := by omega
    have e2 : (a : Int) % (b : Int) = (a : Int) := Int.emod_eq_of_lt (by omega) (by omega)
    rw [Nat.gcd_comm] at hz
    simp [p2, modD, p, e2]
    exact hz
theorem M_part_ok {t b : Int} (hb : b ≠ 0) (h1 : t.natAbs < 2 ^ 9000) (h2 : b.natAbs < 2 ^ 9000) (S : Store) : M_part [.int t, .int b] S = .ok (pt (Rat.divInt t b)) S := by
  have hm : t.natAbs * b.natAbs < 2 ^ 20000 := by
    have := Nat.mul_le_mul (Nat.le_of_lt h1) (Nat.le_of_lt h2)
    rw [← Nat.pow_add] at this
    exact Nat.lt_of_le_of_lt this (Nat.pow_lt_pow_right (by decide) (by decide))
  obtain ⟨z, hz⟩ := gcd_any (x := some (.int t)) (y := some (.int b)) (rest := [none]) (S := S) hm
  have hg : 0 < Nat.gcd t.natAbs b.natAbs := Nat.gcd_pos_of_pos_right _ (by omega)
  have hg2 : Nat.gcd t.natAbs b.natAbs < 2 ^ 9000 := Nat.lt_of_le_of_lt (Nat.gcd_le_right _ (by omega)) h2
  have hmax : (if (1 : Int) > (Nat.gcd t.natAbs b.natAbs : Int) then (1 : Int) else (Nat.gcd t.natAbs b.natAbs : Int)) = (Nat.gcd t.natAbs b.natAbs : Int) := by
    rw [if_neg (by omega)]
  have q1 : (Rat.divInt t b).num = (b.sign * t) / (Nat.gcd t.natAbs b.natAbs : Int) := by
    rw [Rat.num_divInt]; congr 2; rw [Int.gcd, Nat.gcd_comm]
  have q2 : ((Rat.divInt t b).den : Int) = (b.natAbs : Int) / (Nat.gcd t.natAbs b.natAbs : Int) := by
    rw [Rat.den_divInt, if_neg hb, Int.gcd, Nat.gcd_comm]; simp
  have sg : (if 0 < b then (1 : Int) else -1) = b.sign := by
    by_cases p : 0 < b
    · rw [if_pos p, Int.sign_eq_one_of_pos p]
    · rw [if_neg p, Int.sign_eq_neg_one_of_neg (by omega)]
  have t1 : (b.sign).natAbs < 2 ^ 9000 := by
    have h1 := Int.natAbs_sign_of_ne_zero hb
    rw [h1]
    exact Nat.one_lt_two_pow (by decide)
  have hg3 : ((Nat.gcd t.natAbs b.natAbs : Int)).natAbs < 2 ^ 9000 := hg2
  have hmx : max (Nat.gcd t.natAbs b.natAbs : Int) 1 = (Nat.gcd t.natAbs b.natAbs : Int) := by omega
  simp only [M_part, e_runD, f_part]
  simp [startD, hb, hz, hmx]
  have e9 : (if 0 < b then Out.ok (D.int 1) S else Out.ok (D.int (-1)) S) = Out.ok (D.int b.sign) S := by
    rw [← sg]; split <;> rfl
  have hg4 : (0 : Int) < (Nat.gcd t.natAbs b.natAbs : Int) := by omega
  rw [e9]
  simp [hmx, mulD_int t1 h1, fdivD_int hg4 hg3, pt, q1, q2]
/-! ### sizes -/
def Sz (n : Nat) (q : Rat) : Prop := q.num.natAbs < 2 ^ n ∧ q.den < 2 ^ n
theorem Sz.up {n m : Nat} {q : Rat} (h : Sz n q) (k : n ≤ m) : Sz m q := ⟨Nat.lt_of_lt_of_le h.1 (Nat.pow_le_pow_right (by decide) k), Nat.lt_of_lt_of_le h.2 (Nat.pow_le_pow_right (by decide) k)⟩
theorem mul_lt_pow {a b m n : Nat} (h1 : a < 2 ^ m) (h2 : b < 2 ^ n) : a * b < 2 ^ (m + n) := by
  rw [Nat.pow_add]
  by_cases h : a = 0
  · subst h; rw [Nat.zero_mul]; exact Nat.mul_pos (Nat.two_pow_pos m) (Nat.two_pow_pos n)
  · exact Nat.mul_lt_mul_of_lt_of_le h1 (Nat.le_of_lt h2) (Nat.two_pow_pos n)
theorem divInt_sz {t b : Int} {n : Nat} (hb : b ≠ 0) (h1 : t.natAbs < 2 ^ n) (h2 : b.natAbs < 2 ^ n) : Sz n (Rat.divInt t b) := by
  refine ⟨?_, ?_⟩
  · rw [Rat.num_divInt]
    have h3 : (b.sign * t / (b.gcd t : Int)).natAbs ≤ (b.sign * t).natAbs := by
      rw [Int.natAbs_ediv_of_dvd]
      · exact Nat.div_le_self _ _
      · exact Int.dvd_trans (Int.gcd_dvd_right b t) (Int.dvd_mul_left _ _)
    rw [Int.natAbs_mul, Int.natAbs_sign_of_ne_zero hb, Nat.one_mul] at h3
    omega
  · rw [Rat.den_divInt, if_neg hb]
    exact Nat.lt_of_le_of_lt (Nat.div_le_self _ _) h2
theorem lt_up {a m n : Nat} (h : a < 2 ^ m) (k : m ≤ n) : a < 2 ^ n := Nat.lt_of_lt_of_le h (Nat.pow_le_pow_right (by decide) k)
section
variable {q r : Rat} {m n : Nat}
theorem mulA (h1 : q.num.natAbs < 2 ^ m) (h2 : r.den < 2 ^ n) : (q.num * (r.den : Int)).natAbs < 2 ^ (m + n) := by
  rw [Int.natAbs_mul]; exact mul_lt_pow h1 h2
theorem add_b (h1 : Sz m q) (h2 : Sz n r) : (q.num * (r.den : Int) + r.num * (q.den : Int)).natAbs < 2 ^ (m + n + 1) := by
  have a := mulA (q := q) (r := r) h1.1 h2.2
  have b := mulA (q := r) (r := q) h2.1 h1.2
  rw [Nat.add_comm n m] at b
  rw [Nat.pow_succ]
  omega
theorem sub_b (h1 : Sz m q) (h2 : Sz n r) : (q.num * (r.den : Int) - r.num * (q.den : Int)).natAbs < 2 ^ (m + n + 1) := by
  have a := mulA (q := q) (r := r) h1.1 h2.2
  have b := mulA (q := r) (r := q) h2.1 h1.2
  rw [Nat.add_comm n m] at b
  rw [Nat.pow_succ]
  omega
theorem den_b (h1 : Sz m q) (h2 : Sz n r) : ((q.den : Int) * (r.den : Int)).natAbs < 2 ^ (m + n) := by
  rw [Int.natAbs_mul]; exact mul_lt_pow h1.2 h2.2
theorem num_b (h1 : Sz m q) (h2 : Sz n r) : (q.num * r.num).natAbs < 2 ^ (m + n) := by
  rw [Int.natAbs_mul]; exact mul_lt_pow h1.1 h2.1
theorem den_ne : (q.den : Int) * (r.den : Int) ≠ 0 := Int.mul_ne_zero (by have := q.den_nz; omega) (by have := r.den_nz; omega)
theorem add_di : q + r = Rat.divInt (q.num * (r.den : Int) + r.num * (q.den : Int)) ((q.den : Int) * (r.den : Int)) := by
  rw [Rat.add_def', ← Int.natCast_mul, Rat.divInt_ofNat]
theorem sub_di : q - r = Rat.divInt (q.num * (r.den : Int) - r.num * (q.den : Int)) ((q.den : Int) * (r.den : Int)) := by
  rw [Rat.sub_def', ← Int.natCast_mul, Rat.divInt_ofNat]
theorem mul_di : q * r = Rat.divInt (q.num * r.num) ((q.den : Int) * (r.den : Int)) := by
  rw [Rat.mul_def', ← Int.natCast_mul, Rat.divInt_ofNat]
theorem div_di : q / r = Rat.divInt (q.num * (r.den : Int)) ((q.den : Int) * r.num) := by
  rw [Rat.div_def, Rat.inv_def]
  conv => lhs; rw [← Rat.num_divInt_den q]
  rw [Rat.divInt_mul_divInt]
theorem Sz.add (h1 : Sz m q) (h2 : Sz n r) : Sz (m + n + 1) (q + r) := by
  rw [add_di]; exact divInt_sz den_ne (add_b h1 h2) (lt_up (den_b h1 h2) (by omega))
theorem Sz.sub (h1 : Sz m q) (h2 : Sz n r) : Sz (m + n + 1) (q - r) := by
  rw [sub_di]; exact divInt_sz den_ne (sub_b h1 h2) (lt_up (den_b h1 h2) (by omega))
theorem Sz.mul (h1 : Sz m q) (h2 : Sz n r) : Sz (m + n) (q * r) := by
  rw [mul_di]; exact divInt_sz den_ne (num_b h1 h2) (den_b h1 h2)
theorem Sz.div (h1 : Sz m q) (h2 : Sz n r) (h : r ≠ 0) : Sz (m + n) (q / r) := by
  rw [div_di]
  have hr : r.num ≠ 0 := fun z => h (Rat.num_eq_zero.mp z)
  refine divInt_sz (Int.mul_ne_zero (by have := q.den_nz; omega) hr) (mulA h1.1 h2.2) ?_
  rw [Int.mul_comm, Nat.add_comm]
  exact mulA h2.1 h1.2
theorem M_add_ok (h1 : Sz 4000 q) (h2 : Sz 4000 r) (S : Store) : M_add [pt q, pt r] S = .ok (pt (q + r)) S := by
  have a1 := lt_up (n := 9000) h1.1 (by decide)
  have a2 : ((q.den : Int)).natAbs < 2 ^ 9000 := lt_up (n := 9000) h1.2 (by decide)
  have a3 := lt_up (n := 9000) h2.1 (by decide)
  have a4 : ((r.den : Int)).natAbs < 2 ^ 9000 := lt_up (n := 9000) h2.2 (by decide)
  have b1 := M_part_ok (t := q.num * (r.den : Int) + r.num * (q.den : Int)) den_ne (lt_up (add_b h1 h2) (by decide)) (lt_up (den_b h1 h2) (by decide)) S
  rw [← add_di] at b1
  simp [M_add, f_add, startD, pt, mulD_int a1 a4, mulD_int a3 a2, mulD_int a2 a4]
  rw [b1]; rfl
theorem M_times_ok (h1 : Sz 4000 q) (h2 : Sz 4000 r) (S : Store) : M_times [pt q, pt r] S = .ok (pt (q * r)) S := by
  have a1 := lt_up (n := 9000) h1.1 (by decide)
  have a2 : ((q.den : Int)).natAbs < 2 ^ 9000 := lt_up (n := 9000) h1.2 (by decide)
  have a3 := lt_up (n := 9000) h2.1 (by decide)
  have a4 : ((r.den : Int)).natAbs < 2 ^ 9000 := lt_up (n := 9000) h2.2 (by decide)
  have b1 := M_part_ok (t := q.num * r.num) den_ne (lt_up (num_b h1 h2) (by decide)) (lt_up (den_b h1 h2) (by decide)) S
  rw [← mul_di] at b1
  simp [M_times, f_times, startD, pt, mulD_int a1 a3, mulD_int a2 a4]
  rw [b1]; rfl
theorem M_over_ok (h1 : Sz 4000 q) (h2 : Sz 4000 r) (h : r ≠ 0) (S : Store) : M_over [pt q, pt r] S = .ok (pt (q / r)) S := by
  have a1 := lt_up (n := 9000) h1.1 (by decide)
  have a2 : ((q.den : Int)).natAbs < 2 ^ 9000 := lt_up (n := 9000) h1.2 (by decide)
  have a3 := lt_up (n := 9000) h2.1 (by decide)
  have a4 : ((r.den : Int)).natAbs < 2 ^ 9000 := lt_up (n := 9000) h2.2 (by decide)
  have hr : r.num ≠ 0 := fun z => h (Rat.num_eq_zero.mp z)
  have c1 : ((q.den : Int) * r.num).natAbs < 2 ^ (4000 + 4000) := by rw [Int.mul_comm]; exact mulA h2.1 h1.2
  have b1 := M_part_ok (t := q.num * (r.den : Int)) (b := (q.den : Int) * r.num) (Int.mul_ne_zero (by have := q.den_nz; omega) hr) (lt_up (mulA h1.1 h2.2) (by decide)) (lt_up c1 (by decide)) S
  rw [← div_di] at b1
  simp [M_over, f_over, startD, pt, mulD_int a1 a4, mulD_int a2 a3]
  rw [b1]; rfl
def cmpQ (q r : Rat) : Int := if q < r then -1 else if q = r then 0 else 1
theorem M_order_ok (h1 : Sz 4000 q) (h2 : Sz 4000 r) (S : Store) : M_order [pt q, pt r] S = .ok (.int (cmpQ q r)) S := by
  have a1 := lt_up (n := 9000) h1.1 (by decide)
  have a2 : ((q.den : Int)).natAbs < 2 ^ 9000 := lt_up (n := 9000) h1.2 (by decide)
  have a3 := lt_up (n := 9000) h2.1 (by decide)
  have a4 : ((r.den : Int)).natAbs < 2 ^ 9000 := lt_up (n := 9000) h2.2 (by decide)
  simp [M_order, f_order, startD, pt, mulD_int a1 a4, mulD_int a3 a2, b2, cmpQ]
  have e1 := Rat.lt_iff q r
  have e2 := @Rat.eq_iff_mul_eq_mul q r
  by_cases p : q < r
  · have p1 := e1.mp p
    rw [if_pos p, if_neg (by omega), if_pos (by omega)]; rfl
  · have p1 : ¬ q.num * (r.den : Int) < r.num * (q.den : Int) := fun z => p (e1.mpr z)
    rw [if_neg p]
    by_cases p2 : q = r
    · have p3 := e2.mp p2
      rw [if_pos p2, if_neg (by omega), if_neg (by omega)]; rfl
    · have p3 : ¬ q.num * (r.den : Int) = r.num * (q.den : Int) := fun z => p2 (e2.mpr z)
      rw [if_neg p2, if_pos (by omega), if_neg (by omega)]; rfl
theorem pt_inj : pt q = pt r ↔ q = r := by
  constructor
  · intro h
    simp only [pt, D.tup.injEq, List.cons.injEq, D.int.injEq, and_true] at h
    exact Rat.ext h.1 (by omega)
  · rintro rfl; rfl
theorem eqv_pt : PyData.eqv (.tuple [.int q.num, .int q.den]) (.tuple [.int r.num, .int r.den]) = decide (q = r) := by
  have e : PyData.eqv (.tuple [.int q.num, .int q.den]) (.tuple [.int r.num, .int r.den]) = (decide (q.num = r.num) && decide ((q.den : Int) = (r.den : Int))) := by
    simp [PyData.eqv, PyData.eqvAll, Bool.beq_eq_decide_eq]
  rw [e]
  by_cases h : q = r
  · subst h; simp
  · rw [decide_eq_false h]
    cases z : (decide (q.num = r.num) && decide ((q.den : Int) = (r.den : Int))) with
    | false => rfl
    | true =>
      simp at z
      exact absurd (Rat.ext z.1 (by omega)) h
@[simp] theorem eqD_pt (S : Store) : eqD (pt q) (pt r) S = some (.bl (decide (q = r)), S) := by
  unfold eqD
  simp only [pt, D.toPS, D.toP, D.toPs, Option.map_some]
  rw [if_pos ⟨rfl, rfl⟩, eqv_pt]
@[simp] theorem neD_pt (S : Store) : neD (pt q) (pt r) S = some (.bl (!decide (q = r)), S) := by
  unfold neD
  simp only [pt, D.toPS, D.toP, D.toPs, Option.map_some]
  rw [if_pos ⟨rfl, rfl⟩, eqv_pt]
end
end Pr
set_option Elab.async false
set_option linter.all false
set_option maxRecDepth 100000
set_option maxHeartbeats 1000000
namespace Pr
open PySem PySem.Spec PyProof.Rows L2 DL
theorem tup_int (k : Int) : D.tup [.int k, .int 1] = pt (k : Rat) := rfl
@[simp] theorem ix0_pt (q : Rat) (S : Store) : ixD (pt q) (.int 0) S = some (.int q.num, S) := by simp [pt]
@[simp] theorem ix1_pt (q : Rat) (S : Store) : ixD (pt q) (.int 1) S = some (.int q.den, S) := by simp [pt]
theorem sz_int {k : Int} {n : Nat} (h : k.natAbs < 2 ^ (n + 1)) : Sz (n + 1) (k : Rat) := ⟨h, by
  show 1 < 2 ^ (n + 1)
  exact Nat.one_lt_two_pow (by omega)⟩
/-- the size of a part -/
def bits (q : Rat) : Nat := max (q.num.natAbs.log2 + 1) (q.den.log2 + 1)
theorem lt_log2 (a : Nat) : a < 2 ^ (a.log2 + 1) := Nat.lt_log2_self
theorem sz_bits {q : Rat} {n : Nat} (h : bits q ≤ n) : Sz n q := by
  have := Nat.le_max_left (q.num.natAbs.log2 + 1) (q.den.log2 + 1)
  have := Nat.le_max_right (q.num.natAbs.log2 + 1) (q.den.log2 + 1)
  unfold bits at h
  exact ⟨lt_up (lt_log2 _) (by omega), lt_up (lt_log2 _) (by omega)⟩
theorem bits_sz {q : Rat} {n : Nat} (h : Sz (n + 1) q) : bits q ≤ n + 1 := by
  have a := log2_lt' h.1 (by omega)
  have b := log2_lt' h.2 (by omega)
  unfold bits
  omega
theorem bits_pos (q : Rat) : 1 ≤ bits q := by unfold bits; omega
theorem bits_add (q r : Rat) : bits (q + r) ≤ bits q + bits r + 1 := bits_sz (Sz.add (sz_bits (Nat.le_refl _)) (sz_bits (Nat.le_refl _)))
theorem bits_sub (q r : Rat) : bits (q - r) ≤ bits q + bits r + 1 := bits_sz (Sz.sub (sz_bits (Nat.le_refl _)) (sz_bits (Nat.le_refl _)))
theorem bits_mul (q r : Rat) : bits (q * r) ≤ bits q + bits r := by
  have h := bits_pos q
  obtain ⟨k, e⟩ : ∃ k, bits q + bits r = k + 1 := ⟨bits q + bits r - 1, by omega⟩
  have z := Sz.mul (sz_bits (Nat.le_refl (bits q))) (sz_bits (Nat.le_refl (bits r)))
  rw [e] at z ⊢
  exact bits_sz z
theorem bits_div (q r : Rat) : bits (q / r) ≤ bits q + bits r := by
  by_cases h0 : r = 0
  · subst h0
    have : q / 0 = 0 := by rw [Rat.div_def]; simp
    rw [this]
    have h := bits_pos q
    have h2 : bits 0 = 1 := by decide
    omega
  · have h := bits_pos q
    obtain ⟨k, e⟩ : ∃ k, bits q + bits r = k + 1 := ⟨bits q + bits r - 1, by omega⟩
    have z := Sz.div (sz_bits (Nat.le_refl (bits q))) (sz_bits (Nat.le_refl (bits r))) h0
    rw [e] at z ⊢
    exact bits_sz z
theorem bits_ite (c : Prop) [Decidable c] (q r : Rat) : bits (if c then q else r) ≤ bits q + bits r := by
  split <;> omega
theorem bits_int {k : Int} {n : Nat} (h : k.natAbs < 2 ^ (n + 1)) : bits (k : Rat) ≤ n + 1 := bits_sz (sz_int h)
theorem bits_one : bits 1 = 1 := by decide
theorem bits_zero : bits 0 = 1 := by decide
section
variable {q r : Rat} {S : Store}
theorem B_add (h1 : bits q ≤ 4000) (h2 : bits r ≤ 4000) : M_add [pt q, pt r] S = .ok (pt (q + r)) S := M_add_ok (sz_bits h1) (sz_bits h2) S
theorem B_times (h1 : bits q ≤ 4000) (h2 : bits r ≤ 4000) : M_times [pt q, pt r] S = .ok (pt (q * r)) S := M_times_ok (sz_bits h1) (sz_bits h2) S
theorem B_over (h1 : bits q ≤ 4000) (h2 : bits r ≤ 4000) (h : r ≠ 0) : M_over [pt q, pt r] S = .ok (pt (q / r)) S := M_over_ok (sz_bits h1) (sz_bits h2) h S
theorem B_order (h1 : bits q ≤ 4000) (h2 : bits r ≤ 4000) : M_order [pt q, pt r] S = .ok (.int (cmpQ q r)) S := M_order_ok (sz_bits h1) (sz_bits h2) S
end
theorem ite_ok {α : Type} (c : Prop) [Decidable c] (a b : α) (S : Store) : (if c then Out.ok a S else Out.ok b S) = Out.ok (if c then a else b) S := by split <;> rfl
theorem ite_pt (c : Prop) [Decidable c] (q r : Rat) : (if c then pt q else pt r) = pt (if c then q else r) := by split <;> rfl

structure BLe (q : Rat) (n : Nat) : Prop where
  le : bits q ≤ n
section
variable {q r : Rat} {m n k : Nat} {S : Store}
theorem BLe.fin (h : BLe q n) (e : Nat.ble n k = true) : BLe q k := ⟨Nat.le_trans h.le (Nat.le_of_ble_eq_true e)⟩
theorem BLe.mul (h1 : BLe q m) (h2 : BLe r n) : BLe (q * r) (m + n) := ⟨by have := bits_mul q r; have := h1.le; have := h2.le; omega⟩
theorem BLe.div (h1 : BLe q m) (h2 : BLe r n) : BLe (q / r) (m + n) := ⟨by have := bits_div q r; have := h1.le; have := h2.le; omega⟩
theorem BLe.add (h1 : BLe q m) (h2 : BLe r n) : BLe (q + r) (m + n + 1) := ⟨by have := bits_add q r; have := h1.le; have := h2.le; omega⟩
theorem BLe.sub (h1 : BLe q m) (h2 : BLe r n) : BLe (q - r) (m + n + 1) := ⟨by have := bits_sub q r; have := h1.le; have := h2.le; omega⟩
theorem BLe.ite {c : Prop} [Decidable c] (h1 : BLe q m) (h2 : BLe r n) : BLe (if c then q else r) (m + n) := ⟨by have := bits_ite c q r; have := h1.le; have := h2.le; omega⟩
theorem BLe.one : BLe 1 1 := ⟨by decide⟩
theorem BLe.zero : BLe 0 1 := ⟨by decide⟩
theorem C_add (h1 : BLe q 4000) (h2 : BLe r 4000) : M_add [pt q, pt r] S = .ok (pt (q + r)) S := B_add h1.le h2.le
theorem C_times (h1 : BLe q 4000) (h2 : BLe r 4000) : M_times [pt q, pt r] S = .ok (pt (q * r)) S := B_times h1.le h2.le
theorem C_over (h1 : BLe q 4000) (h2 : BLe r 4000) (h : r ≠ 0) : M_over [pt q, pt r] S = .ok (pt (q / r)) S := B_over h1.le h2.le h
theorem C_order (h1 : BLe q 4000) (h2 : BLe r 4000) : M_order [pt q, pt r] S = .ok (.int (cmpQ q r)) S := B_order h1.le h2.le
end
theorem divInt_div (a b : Int) : Rat.divInt a b = (a : Rat) / b := Rat.divInt_eq_div a b
theorem M_least_ok {t b : Int} (hb : 0 < b) (h1 : t.natAbs < 2 ^ 9000) (h2 : b.natAbs < 2 ^ 9000) (S : Store) : M__law_least [.int t, .int b] S = .ok (pt ((t : Rat) / b)) S := by
  have hm : t.natAbs * b.natAbs < 2 ^ 20000 := by
    have := Nat.mul_le_mul (Nat.le_of_lt h1) (Nat.le_of_lt h2)
    rw [← Nat.pow_add] at this
    exact Nat.lt_of_le_of_lt this (Nat.pow_lt_pow_right (by decide) (by decide))
  obtain ⟨z, hz⟩ := gcd_any (x := some (.int t)) (y := some (.int b)) (rest := []) (S := S) hm
  have hbn : (b.natAbs : Int) = b := by omega
  rw [hbn] at hz
  have hb0 : b ≠ 0 := by omega
  have hg : 0 < Nat.gcd t.natAbs b.natAbs := Nat.gcd_pos_of_pos_right _ (by omega)
  have hg2 : Nat.gcd t.natAbs b.natAbs < 2 ^ 9000 := Nat.lt_of_le_of_lt (Nat.gcd_le_right _ (by omega)) h2
  have q1 : (Rat.divInt t b).num = t / (Nat.gcd t.natAbs b.natAbs : Int) := by
    rw [Rat.num_divInt, Int.sign_eq_one_of_pos hb, Int.one_mul]; congr 2; rw [Int.gcd, Nat.gcd_comm]
  have q2 : ((Rat.divInt t b).den : Int) = b / (Nat.gcd t.natAbs b.natAbs : Int) := by
    rw [Rat.den_divInt, if_neg hb0, Int.gcd, Nat.gcd_comm, Int.natCast_ediv, hbn]
  have hg3 : ((Nat.gcd t.natAbs b.natAbs : Int)).natAbs < 2 ^ 9000 := hg2
  have hmx : max (Nat.gcd t.natAbs b.natAbs : Int) 1 = (Nat.gcd t.natAbs b.natAbs : Int) := by omega
  have hg4 : (0 : Int) < (Nat.gcd t.natAbs b.natAbs : Int) := by omega
  rw [← divInt_div]
  simp -implicitDefEqProofs only [M__law_least, e_runD, f__law_least]
  simp -implicitDefEqProofs [startD, hz, hmx, fdivD_int hg4 hg3, pt, q1, q2]
theorem mulD_l {i j : Int} {S : Store} (h : i.natAbs < 18446744073709551616) : mulD (.int i) (.int j) S = some (.int (i * j), S) := if_pos (.inl (.inl h))
theorem mulD_r {i j : Int} {S : Store} (h : j.natAbs < 18446744073709551616) : mulD (.int i) (.int j) S = some (.int (i * j), S) := if_pos (.inl (.inr h))

end Pr
set_option Elab.async false
set_option linter.all false
set_option maxRecDepth 100000
set_option maxHeartbeats 1000000
namespace Pr
open PySem PySem.Spec PyProof.Rows L2 DL
theorem eqD_str {a b : Str} (h1 : SeqAt.shaped (.str a) = true) (h2 : SeqAt.shaped (.str b) = true) (S : Store) : eqD (.str a) (.str b) S = some (.bl (decide (a = b)), S) := by
  unfold eqD
  simp only [D.toPS, D.toP]
  rw [if_pos ⟨h1, h2⟩]
  simp only [PyData.eqv]
  cases h : (a == b) <;> simp_all
theorem neD_str {a b : Str} (h1 : SeqAt.shaped (.str a) = true) (h2 : SeqAt.shaped (.str b) = true) (S : Store) : neD (.str a) (.str b) S = some (.bl (!decide (a = b)), S) := by
  unfold neD
  simp only [D.toPS, D.toP]
  rw [if_pos ⟨h1, h2⟩]
  simp only [PyData.eqv]
  cases h : (a == b) <;> simp_all
theorem notIn_half (S : Store) : notInD (.str "half up") (.tup [.str "down", .str "up", .str "half up", .str "half even", .str "half down"]) S = some (.bl false, S) := rfl
theorem eq_half1 (S : Store) : eqD (.str "half up") (.str "up") S = some (.bl false, S) := by rw [eqD_str (by decide +kernel) (by decide +kernel)]; rfl
theorem eq_half2 (S : Store) : eqD (.str "half up") (.str "half up") S = some (.bl true, S) := by rw [eqD_str (by decide +kernel) (by decide +kernel)]; rfl
theorem eq_half3 (S : Store) : eqD (.str "half") (.str "half") S = some (.bl true, S) := by rw [eqD_str (by decide +kernel) (by decide +kernel)]; rfl
theorem sl_half (S : Store) : sliceD (.str "half up") none (some 4) S = some (.str "half", S) := rfl
def andV (x : D) (S : Store) (k : Store → Out D) : Out D := match x with
  | .bl true => k S
  | .bl false => .ok (.bl false) S
  | _ => .bad
def orV (x : D) (S : Store) (k : Store → Out D) : Out D := match x with
  | .bl true => .ok (.bl true) S
  | .bl false => k S
  | _ => .bad
@[simp] theorem andV_bl (b : Bool) (S : Store) (k : Store → Out D) : andV (.bl b) S k = if b = true then k S else .ok (.bl false) S := by cases b <;> rfl
@[simp] theorem orV_bl (b : Bool) (S : Store) (k : Store → Out D) : orV (.bl b) S k = if b = true then .ok (.bl true) S else k S := by cases b <;> rfl
@[simp] theorem e_dAndV (fa fb : DE) (ρ : DEnv) (S : Store) : dAndV fa fb ρ S = (fa ρ S).bind fun x S1 => andV x S1 (fb ρ) := rfl
@[simp] theorem e_dOrV (fa fb : DE) (ρ : DEnv) (S : Store) : dOrV fa fb ρ S = (fa ρ S).bind fun x S1 => orV x S1 (fb ρ) := rfl
theorem half_up {n d : Int} (hd : 0 < d) : (2 * n + d) / (2 * d) = n / d + if d ≤ 2 * (n % d) then 1 else 0 := by
  have e := Int.mul_ediv_add_emod n d
  have r0 := Int.emod_nonneg n (show d ≠ 0 by omega)
  have r1 := Int.emod_lt_of_pos n hd
  generalize n / d = k at *
  generalize n % d = r at *
  subst e
  have e2 : 2 * (d * k + r) + d = (2 * r + d) + 2 * d * k := by rw [Int.mul_assoc]; omega
  rw [e2, Int.add_mul_ediv_left _ _ (by omega), Int.add_comm]
  congr 1
  split
  · rename_i h
    rw [show 2 * r + d = (2 * r - d) + 2 * d * 1 by omega, Int.add_mul_ediv_left _ _ (by omega), Int.ediv_eq_zero_of_lt (by omega) (by omega)]; rfl
  · rename_i h
    exact Int.ediv_eq_zero_of_lt (by omega) (by omega)
theorem rounded_half {q : Rat} (hq : 0 ≤ q.num) (hs : Sz 4000 q) (S : Store) : M_rounded [pt q, .str "half up"] S = .ok (.int ((2 * q.num + q.den) / (2 * q.den))) S := by
  have hd : (0 : Int) < (q.den : Int) := by have := q.den_nz; omega
  have hd2 : ((q.den : Int)).natAbs < 2 ^ 9000 := lt_up hs.2 (by decide)
  have hn : ((q.num.natAbs : Nat) : Int) = q.num := by omega
  have s2 : (2 : Int).natAbs < 18446744073709551616 := by decide
  have s1 : (1 : Int).natAbs < 18446744073709551616 := by decide
  rw [half_up hd]
  simp -implicitDefEqProofs only [M_rounded, e_runD, f_rounded]
  rcases Int.lt_trichotomy (2 * (q.num % (q.den : Int))) (q.den : Int) with c | c | c
  · have c1 : ¬ (q.den : Int) < 2 * (q.num % (q.den : Int)) := by omega
    have c2 : ¬ 2 * (q.num % (q.den : Int)) = (q.den : Int) := by omega
    have c3 : ¬ (q.den : Int) ≤ 2 * (q.num % (q.den : Int)) := by omega
    simp -implicitDefEqProofs [startD, notIn_half, eq_half1, eq_half2, sl_half, eq_half3, hn, fdivD_int hd hd2, modD_int hd, mulD_l s2, mulD_l s1, Int.not_lt.mpr hq, c1, c2, c3]
  · have c1 : ¬ (q.den : Int) < 2 * (q.num % (q.den : Int)) := by omega
    have c3 : (q.den : Int) ≤ 2 * (q.num % (q.den : Int)) := by omega
    simp -implicitDefEqProofs [startD, notIn_half, eq_half1, eq_half2, sl_half, eq_half3, hn, fdivD_int hd hd2, modD_int hd, mulD_l s2, mulD_l s1, Int.not_lt.mpr hq, c1, c, c3]
  · have c2 : ¬ 2 * (q.num % (q.den : Int)) = (q.den : Int) := by omega
    have c3 : (q.den : Int) ≤ 2 * (q.num % (q.den : Int)) := by omega
    simp -implicitDefEqProofs [startD, notIn_half, eq_half1, eq_half2, sl_half, eq_half3, hn, fdivD_int hd hd2, modD_int hd, mulD_l s2, mulD_l s1, Int.not_lt.mpr hq, c, c2, c3]
/-- the interest -/
def inI (h l : Int) : Int := (2 * l * h + 100) / 200
def rateQ (h : Int) : Rat := (h : Rat) / 100
theorem half_same {n d m : Int} (hd : 0 < d) (e : n * 100 = m * d) : (2 * n + d) / (2 * d) = (2 * m + 100) / 200 := by
  have e1 : (2 * n + d) / (2 * d) = ((2 * n + d) * 100) / (2 * d * 100) := (Int.mul_ediv_mul_of_pos_left _ _ (by omega)).symm
  have e2 : (2 * n + d) * 100 = (2 * m + 100) * d := by rw [Int.add_mul, Int.add_mul, Int.mul_assoc 2 n, e, Int.mul_assoc]; omega
  have e3 : 2 * d * 100 = 200 * d := by omega
  rw [e1, e2, e3, Int.mul_ediv_mul_of_pos_left _ _ hd]
end Pr
set_option Elab.async false
set_option linter.all false
set_option maxRecDepth 100000
set_option maxHeartbeats 1000000
namespace Pr
open PySem PySem.Spec PyProof.Rows L2 DL
theorem BLe.int {k : Int} (n : Nat) (h : k.natAbs < 2 ^ (n + 1)) : BLe (k : Rat) (n + 1) := ⟨bits_int h⟩
theorem BLe.hundred : BLe 100 7 := ⟨by decide⟩
theorem BLe.rate {h : Int} (hh : 0 ≤ h) (hh2 : h ≤ 9) : BLe (rateQ h) 11 := (BLe.int 3 (show h.natAbs < 2 ^ (3 + 1) by omega)).div BLe.hundred
theorem rate_nn {h : Int} (hh : 0 ≤ h) : 0 ≤ rateQ h := by
  unfold rateQ
  rw [Rat.div_def]
  exact Rat.mul_nonneg (Rat.intCast_nonneg.mpr hh) (by decide +kernel)
theorem cross {q : Rat} {a b : Int} (hb : b ≠ 0) (e : q = Rat.divInt a b) : q.num * b = a * q.den := by
  have e1 : Rat.divInt q.num q.den = Rat.divInt a b := by rw [Rat.num_divInt_den]; exact e
  exact (Rat.divInt_eq_divInt_iff (by have := q.den_nz; omega) hb).mp e1
theorem interest_ok {h l : Int} (hh : 0 ≤ h) (hh2 : h ≤ 9) (hl : 0 ≤ l) (hl2 : l < 2 ^ 50) (S : Store) : M_interest [.int l, pt (rateQ h)] S = .ok (.int (inI h l)) S := by
  have b1 : BLe (l : Rat) 50 := BLe.int 49 (by omega)
  have b2 := BLe.rate hh hh2
  have b3 : BLe ((l : Rat) * rateQ h) 61 := b1.mul b2
  have q0 : 0 ≤ (l : Rat) * rateQ h := Rat.mul_nonneg (Rat.intCast_nonneg.mpr hl) (rate_nn hh)
  have t := C_times (S := S) (b1.fin (k := 4000) rfl) (b2.fin (k := 4000) rfl)
  have r := rounded_half (Rat.num_nonneg.mpr q0) (sz_bits (b3.fin (k := 4000) rfl).le) S
  have e : (l : Rat) * rateQ h = Rat.divInt (l * h) 100 := by
    rw [divInt_div]; unfold rateQ; rw [Rat.intCast_mul, Rat.div_def, Rat.div_def, Rat.mul_assoc]; rfl
  have c := cross (by decide) e
  have p : (0 : Int) < ((((l : Rat) * rateQ h).den : Nat) : Int) := by have := ((l : Rat) * rateQ h).den_nz; omega
  rw [half_same p c, ← Int.mul_assoc] at r
  simp -implicitDefEqProofs only [M_interest, e_runD, f_interest]
  simp -implicitDefEqProofs [startD, tup_int, t, r, inI]
/-! ### plain facts of the interest -/
section
variable {h a b : Int}
theorem inI_nn (hh : 0 ≤ h) (ha : 0 ≤ a) : 0 ≤ inI h a := by
  unfold inI
  have : 0 ≤ 2 * a * h := Int.mul_nonneg (by omega) hh
  omega
theorem inI_mono (hh : 0 ≤ h) (ab : a ≤ b) : inI h a ≤ inI h b := by
  unfold inI
  have : 2 * a * h ≤ 2 * b * h := Int.mul_le_mul_of_nonneg_right (by omega) hh
  exact Int.ediv_le_ediv (by omega) (by omega)
theorem inI_zero : inI h 0 = 0 := by unfold inI; simp
theorem inI_le (hh : 0 ≤ h) (hh2 : h ≤ 9) (ha : 0 ≤ a) : inI h a ≤ a := by
  unfold inI
  have : 2 * a * h ≤ 2 * a * 9 := Int.mul_le_mul_of_nonneg_left hh2 (by omega)
  omega
end
/-! ### what is left behind -/
def LB (h pay : Int) : Nat → Int → Int
  | 0, l => l
  | n + 1, l => if l ≤ 0 then l else LB h pay n (l + (inI h l - pay))
end Pr
set_option Elab.async false
set_option linter.all false
set_option maxRecDepth 100000
set_option maxHeartbeats 1000000
namespace Pr
open PySem PySem.Spec PyProof.Rows L2 DL
@[simp] theorem iaddD_int (i j : Int) (S : Store) : iaddD (.int i) (.int j) S = some (.int (i + j), S) := rfl
@[simp] theorem isubD_int (i j : Int) (S : Store) : isubD (.int i) (.int j) S = some (.int (i - j), S) := rfl
@[simp] theorem e_dBrk (ρ : DEnv) (S : Store) : dBrk ρ S = .bk ρ S := rfl
theorem LB_pos {h pay l : Int} {n : Nat} (hl : 0 < l) : LB h pay (n + 1) l = LB h pay n (l + (inI h l - pay)) := by
  rw [LB, if_neg (by omega)]
theorem LB_done {h pay l : Int} (hl : l ≤ 0) : ∀ n : Nat, LB h pay n l = l
  | 0 => rfl
  | n + 1 => by rw [LB, if_pos hl]
theorem pow_step {l l2 : Int} {n : Nat} (hl : 0 ≤ l) (h2 : l2 ≤ 2 * l) (hb : l * 2 ^ (n + 1) < 2 ^ 50) : l2 * 2 ^ n < 2 ^ 50 := by
  have p : (0 : Int) < 2 ^ n := Int.pow_pos (by decide)
  have : l2 * 2 ^ n ≤ 2 * l * 2 ^ n := Int.mul_le_mul_of_nonneg_right h2 (by omega)
  have e : l * 2 ^ (n + 1) = 2 * l * 2 ^ n := by rw [Int.pow_succ, Int.mul_comm (2 ^ n) 2, ← Int.mul_assoc, Int.mul_comm l 2]
  omega
theorem pow_lt {l : Int} {n : Nat} (hl : 0 ≤ l) (hb : l * 2 ^ n < 2 ^ 50) : l < 2 ^ 50 := by
  have p : (0 : Int) < 2 ^ n := Int.pow_pos (by decide)
  have : l * 1 ≤ l * 2 ^ n := Int.mul_le_mul_of_nonneg_left (by omega) hl
  omega
def lbBody : DS :=
  (dSeq (dAug 4 iaddD (dOp subD (dCall 2 M_interest (daCons (dVar 4) (daCons (dVar 1) daNil))) (dVar 2)))
  (dIfS (dB (dOp leD (dVar 4) (dC (.int 0))))
  dBrk
  dNext))
theorem lb_loop {h pay : Int} {w m : Option D} {S : Store} (hh : 0 ≤ h) (hh2 : h ≤ 9) (hp : 0 ≤ pay) : ∀ (n : Nat) (k l : Int) (o : Option D), 0 < l → l * 2 ^ n < 2 ^ 50 →
    ∃ o2, forD grdT (gN 5) lbBody (rngD k 1 n) [w, some (pt (rateQ h)), some (.int pay), m, some (.int l), o] S = .nx [w, some (pt (rateQ h)), some (.int pay), m, some (.int (LB h pay n l)), o2] S := by
  intro n
  induction n with
  | zero => intro k l o hl hb; exact ⟨o, by simp [LB]⟩
  | succ n ih =>
    intro k l o hl hb
    have t := interest_ok hh hh2 (Int.le_of_lt hl) (pow_lt (Int.le_of_lt hl) hb) S
    have i2 := inI_le hh hh2 (Int.le_of_lt hl)
    rw [LB_pos hl, rngD_succ]
    by_cases c : l + (inI h l - pay) ≤ 0
    · refine ⟨some (.int k), ?_⟩
      rw [LB_done c]
      simp -implicitDefEqProofs [lbBody, t, c]
    · obtain ⟨o2, e⟩ := ih (k + 1) (l + (inI h l - pay)) (some (.int k)) (by omega) (pow_step (Int.le_of_lt hl) (by omega) hb)
      refine ⟨o2, ?_⟩
      rw [← e]
      simp -implicitDefEqProofs [lbBody, t, c]
/-- what the laws ask of the numbers -/
structure Loan (h : Int) (w : Int) (m : Nat) : Prop where
  h0 : 0 ≤ h
  h9 : h ≤ 9
  w0 : 0 < w
  w1 : w ≤ 501
  m0 : 1 ≤ m
  m6 : m ≤ 6
theorem Loan.big {h w : Int} {m : Nat} (L : Loan h w m) : w * 2 ^ m < 2 ^ 50 := by
  have h1 := L.m0
  have h2 := L.m6
  have h3 := L.w0
  have h4 := L.w1
  rcases (show m = 1 ∨ m = 2 ∨ m = 3 ∨ m = 4 ∨ m = 5 ∨ m = 6 by omega) with rfl | rfl | rfl | rfl | rfl | rfl <;> omega
theorem left_behind_ok {h w pay : Int} {m : Nat} (L : Loan h w m) (hp : 0 ≤ pay) (S : Store) : M_left_behind [.int w, pt (rateQ h), .int pay, .int (m : Int)] S = .ok (.int (LB h pay m w)) S := by
  obtain ⟨o2, e⟩ := lb_loop (w := some (.int w)) (m := some (.int (m : Int))) (S := S) L.h0 L.h9 hp m 0 w none L.w0 L.big
  have c : -1000000000000 ≤ (m : Int) ∧ (m : Int) ≤ 1000000000000 := by have := L.m6; omega
  unfold lbBody at e
  simp -implicitDefEqProofs only [M_left_behind, e_runD, f_left_behind]
  simp -implicitDefEqProofs [startD, c, e]
def llBody : DS :=
  (dIfS (dB (dOp gtD (dVar 4) (dC (.int 0))))
  (dAsg (dOp subD (dOp addD (dVar 4) (dOp fdivD (dOp addD (dOp mulD (dOp mulD (dC (.int 2)) (dVar 4)) (dVar 1)) (dC (.int 100))) (dC (.int 200)))) (dVar 2)) (gN 4))
  dNext)
theorem ll_loop {h pay : Int} {w m : Option D} {S : Store} (hh : 0 ≤ h) (hh2 : h ≤ 9) : ∀ (n : Nat) (k l : Int) (o : Option D),
    ∃ o2, forD grdT (gN 5) llBody (rngD k 1 n) [w, some (.int h), some (.int pay), m, some (.int l), o] S = .nx [w, some (.int h), some (.int pay), m, some (.int (LB h pay n l)), o2] S := by
  have s2 : (2 : Int).natAbs < 18446744073709551616 := by decide
  have s200 : (200 : Int).natAbs < 18446744073709551616 := by decide
  have sh : h.natAbs < 18446744073709551616 := by omega
  intro n
  induction n with
  | zero => intro k l o; exact ⟨o, by simp [LB]⟩
  | succ n ih =>
    intro k l o
    rw [rngD_succ]
    by_cases c : l ≤ 0
    · have c2 : ¬ 0 < l := by omega
      obtain ⟨o2, e⟩ := ih (k + 1) l (some (.int k))
      refine ⟨o2, ?_⟩
      rw [LB_done c] at e
      rw [LB_done c, ← e]
      simp -implicitDefEqProofs [llBody, c2]
    · have c2 : 0 < l := by omega
      obtain ⟨o2, e⟩ := ih (k + 1) (l + (inI h l - pay)) (some (.int k))
      refine ⟨o2, ?_⟩
      rw [LB_pos c2, ← e]
      have ee : l + (2 * l * h + 100) / 200 - pay = l + (inI h l - pay) := by unfold inI; omega
      simp -implicitDefEqProofs [llBody, c2, mulD_l s2, mulD_r sh, fdiv_small (show (0 : Int) < 200 by decide) s200, ee]
theorem law_left_ok {h w pay : Int} {m : Nat} (L : Loan h w m) (S : Store) : M__law_left [.int w, .int h, .int pay, .int (m : Int)] S = .ok (.int (LB h pay m w)) S := by
  obtain ⟨o2, e⟩ := ll_loop (w := some (.int w)) (m := some (.int (m : Int))) (S := S) (pay := pay) L.h0 L.h9 m 0 w none
  have c : -1000000000000 ≤ (m : Int) ∧ (m : Int) ≤ 1000000000000 := by have := L.m6; omega
  unfold llBody at e
  simp -implicitDefEqProofs only [M__law_left, e_runD, f__law_left]
  simp -implicitDefEqProofs [startD, c, e]
end Pr
set_option Elab.async false
set_option linter.all false
set_option maxRecDepth 100000
set_option maxHeartbeats 1000000
namespace Pr
open PySem PySem.Spec PyProof.Rows L2 DL
/-- one turn of a while loop -/
def whK (o : OutS) (k : DS) : OutS := match o with
  | .nx ρ S => k ρ S
  | .ct ρ S => k ρ S
  | .bk ρ S => .nx ρ S
  | o => o
@[simp] theorem whK_nx (ρ : DEnv) (S : Store) (k : DS) : whK (.nx ρ S) k = k ρ S := rfl
@[simp] theorem whK_exn (e : Exc) (ρ : DEnv) (S : Store) (k : DS) : whK (.exn e ρ S) k = .exn e ρ S := rfl
theorem whileD_go (c : DT) (f : DS) (n : Nat) (ρ : DEnv) (S : Store) : whileD c f (n + 1) ρ S = liftS (c ρ S) ρ fun b S1 => if b = true then whK (f ρ S1) (whileD c f n) else .nx ρ S1 := by
  rw [whileD]
  congr 1
def epC : DT := (dB (dOp gtD (dOp subD (dVar 4) (dVar 3)) (dC (.int 1))))
def epB : DS := (dSeq (dAsg (dOp fdivD (dOp addD (dVar 3) (dVar 4)) (dC (.int 2))) (gN 5))
  (dIfS (dB (dOp leD (dCall 4 M_left_behind (daCons (dVar 0) (daCons (dVar 1) (daCons (dVar 5) (daCons (dVar 2) daNil))))) (dC (.int 0))))
  (dAsg (dVar 5) (gN 4))
  (dAsg (dVar 5) (gN 3))))
/-- the even pay -/
structure EP (h w : Int) (m : Nat) (P : Int) : Prop where
  p0 : 0 ≤ P
  le : LB h P m w ≤ 0
  gt : P - 1 = -1 ∨ 0 < LB h (P - 1) m w
theorem ep_loop {h w : Int} {m : Nat} (L : Loan h w m) : ∀ (N : Nat) (e : Nat) (lo hi : Int), -1 ≤ lo → lo < hi → (hi - lo).toNat ≤ N + 1 → LB h hi m w ≤ 0 → (lo = -1 ∨ 0 < LB h lo m w) →
    ∃ P, EP h w m P ∧ ∀ (S : Store) (o : Option D), ∃ o3 o5, whileD epC epB (N + 1 + e) [some (.int w), some (pt (rateQ h)), some (.int (m : Int)), some (.int lo), some (.int hi), o] S = .nx [some (.int w), some (pt (rateQ h)), some (.int (m : Int)), o3, some (.int P), o5] S := by
  have s2 : (2 : Int).natAbs < 18446744073709551616 := by decide
  intro N
  induction N with
  | zero =>
    intro e lo hi h1 h2 h3 h4 h5
    have e1 : lo = hi - 1 := by omega
    have c : ¬ 1 < hi - lo := by omega
    refine ⟨hi, ⟨by omega, h4, e1 ▸ h5⟩, fun S o => ⟨some (.int lo), o, ?_⟩⟩
    rw [show 0 + 1 + e = e + 1 by omega, whileD_go]
    simp -implicitDefEqProofs [epC, c]
  | succ N ih =>
    intro e lo hi h1 h2 h3 h4 h5
    rw [show N + 1 + 1 + e = (N + 1 + e) + 1 by omega]
    by_cases c : 1 < hi - lo
    · by_cases d : LB h ((lo + hi) / 2) m w ≤ 0
      · obtain ⟨P, q, z⟩ := ih e lo ((lo + hi) / 2) h1 (by omega) (by omega) d h5
        refine ⟨P, q, fun S o => ?_⟩
        have t := left_behind_ok L (show 0 ≤ (lo + hi) / 2 by omega) S
        obtain ⟨o3, o5, z⟩ := z S (some (.int ((lo + hi) / 2)))
        refine ⟨o3, o5, ?_⟩
        rw [← z, whileD_go]
        simp -implicitDefEqProofs [epC, epB, c, fdiv_small (show (0 : Int) < 2 by decide) s2, t, d]
      · obtain ⟨P, q, z⟩ := ih e ((lo + hi) / 2) hi (by omega) (by omega) (by omega) h4 (.inr (by omega))
        refine ⟨P, q, fun S o => ?_⟩
        have t := left_behind_ok L (show 0 ≤ (lo + hi) / 2 by omega) S
        obtain ⟨o3, o5, z⟩ := z S (some (.int ((lo + hi) / 2)))
        refine ⟨o3, o5, ?_⟩
        rw [← z, whileD_go]
        simp -implicitDefEqProofs [epC, epB, c, fdiv_small (show (0 : Int) < 2 by decide) s2, t, d]
    · have e1 : lo = hi - 1 := by omega
      refine ⟨hi, ⟨by omega, h4, e1 ▸ h5⟩, fun S o => ⟨some (.int lo), o, ?_⟩⟩
      rw [whileD_go]
      simp -implicitDefEqProofs [epC, c]
theorem LB_first {h w : Int} {m : Nat} (L : Loan h w m) : LB h (w + inI h w + 1) m w ≤ 0 := by
  obtain ⟨n, rfl⟩ : ∃ n, m = n + 1 := ⟨m - 1, by have := L.m0; omega⟩
  rw [LB_pos L.w0, LB_done (by omega)]
  omega
theorem even_ok {h w : Int} {m : Nat} (L : Loan h w m) : ∃ P, EP h w m P ∧ ∀ S : Store, M_even_pay [.int w, pt (rateQ h), .int (m : Int)] S = .ok (.int P) S := by
  have i0 := inI_nn L.h0 (Int.le_of_lt L.w0)
  have i1 := inI_le L.h0 L.h9 (Int.le_of_lt L.w0)
  have w1 := L.w1
  have w0 := L.w0
  have n1 : ¬ w < 0 := by omega
  have n2 : ¬ (rateQ h).num < 0 := Int.not_lt.mpr (Rat.num_nonneg.mpr (rate_nn L.h0))
  have n3 : ¬ (m : Int) < 1 := by have := L.m0; omega
  obtain ⟨P, q, z⟩ := ep_loop L 1100 998899 (-1) (w + inI h w + 1) (by omega) (by omega) (by omega) (LB_first L) (.inl rfl)
  refine ⟨P, q, fun S => ?_⟩
  obtain ⟨o3, o5, z⟩ := z S none
  have t := interest_ok L.h0 L.h9 (Int.le_of_lt L.w0) (by omega) S
  rw [show 1100 + 1 + 998899 = fuel from rfl] at z
  unfold epC epB at z
  simp -implicitDefEqProofs only [M_even_pay, e_runD, f_even_pay]
  simp -implicitDefEqProofs [startD, M_check_loan, f_check_loan, n1, n2, n3, t, z]
end Pr
set_option Elab.async false
set_option linter.all false
set_option maxRecDepth 100000
set_option maxHeartbeats 1000000
namespace Pr
open PySem PySem.Spec PyProof.Rows L2 DL
/-! ### rows told by what they pay off -/
def rowD (h l o : Int) : D := .tup [.int (inI h l), .int o, .int (o + inI h l), .int (l - o)]
def rowsOf (h : Int) : Int → List Int → List D
  | _, [] => []
  | l, o :: os => rowD h l o :: rowsOf h (l - o) os
def col0 (h : Int) : Int → List Int → List Int
  | _, [] => []
  | l, o :: os => inI h l :: col0 h (l - o) os
def col2 (h : Int) : Int → List Int → List Int
  | _, [] => []
  | l, o :: os => (o + inI h l) :: col2 h (l - o) os
/-- never below nought, never too great -/
def Nn : Int → List Int → Prop
  | l, [] => 0 ≤ l ∧ l < 2 ^ 50
  | l, o :: os => (0 ≤ l ∧ l < 2 ^ 50) ∧ Nn (l - o) os
theorem rows_len (h : Int) : ∀ (l : Int) (os : List Int), (rowsOf h l os).length = os.length
  | _, [] => rfl
  | l, o :: os => by rw [rowsOf, List.length_cons, rows_len h _ os, List.length_cons]
theorem col2_sum (h : Int) : ∀ (l : Int) (os : List Int), (col2 h l os).sum = os.sum + (col0 h l os).sum
  | _, [] => rfl
  | l, o :: os => by rw [col2, col0, List.sum_cons, List.sum_cons, List.sum_cons, col2_sum h _ os]; omega
/-! ### the plan's own -/
def offP (h P l : Int) : Int := min P (l + inI h l) - inI h l
def offs (h P : Int) : Nat → Int → List Int
  | 0, _ => []
  | n + 1, l => offP h P l :: offs h P n (l - offP h P l)
theorem offs_len (h P : Int) : ∀ (n : Nat) (l : Int), (offs h P n l).length = n
  | 0, _ => rfl
  | n + 1, l => by rw [offs, List.length_cons, offs_len h P n]
theorem fin_step {h P l : Int} {n : Nat} (hh : 0 ≤ h) (hP : 0 ≤ P) (hl : 0 ≤ l) (e : LB h P (n + 1) l ≤ 0) : 0 ≤ l - offP h P l ∧ l - offP h P l ≤ l + inI h l ∧ LB h P n (l - offP h P l) ≤ 0 := by
  have i0 := inI_nn hh hl
  unfold offP
  by_cases z : l = 0
  · subst z
    rw [inI_zero]
    have : (0 : Int) - (min P (0 + 0) - 0) = 0 := by omega
    rw [this]
    exact ⟨by omega, by omega, by rw [LB_done (by omega)]; omega⟩
  · rw [LB_pos (by omega)] at e
    refine ⟨by omega, by omega, ?_⟩
    by_cases c : l + (inI h l - P) ≤ 0
    · have : l - (min P (l + inI h l) - inI h l) = 0 := by omega
      rw [this, LB_done (by omega)]; omega
    · have : l - (min P (l + inI h l) - inI h l) = l + (inI h l - P) := by omega
      rw [this]; exact e
theorem fin_last {h P l : Int} (hh : 0 ≤ h) (hP : 0 ≤ P) (hl : 0 ≤ l) (e : LB h P 1 l ≤ 0) : l + inI h l ≤ P := by
  by_cases z : l = 0
  · subst z; rw [inI_zero]; omega
  · rw [LB_pos (by omega), LB] at e; omega
theorem fin_sum {h P : Int} (hh : 0 ≤ h) (hP : 0 ≤ P) : ∀ (n : Nat) (l : Int), 0 ≤ l → LB h P n l ≤ 0 → (offs h P n l).sum = l
  | 0, l, hl, e => by rw [LB] at e; simp [offs]; omega
  | n + 1, l, hl, e => by
    obtain ⟨a, _, b⟩ := fin_step hh hP hl e
    rw [offs, List.sum_cons, fin_sum hh hP n _ a b]; omega
theorem fin_nn {h P : Int} (hh : 0 ≤ h) (hh2 : h ≤ 9) (hP : 0 ≤ P) : ∀ (n : Nat) (l : Int), 0 ≤ l → l * 2 ^ n < 2 ^ 50 → LB h P n l ≤ 0 → Nn l (offs h P n l)
  | 0, l, hl, hb, e => ⟨hl, by simpa using hb⟩
  | n + 1, l, hl, hb, e => by
    obtain ⟨a, a2, b⟩ := fin_step hh hP hl e
    have := inI_le hh hh2 hl
    exact ⟨⟨hl, pow_lt hl hb⟩, fin_nn hh hh2 hP n _ a (pow_step hl (by omega) hb) b⟩
def plBody : DS :=
  (dSeq (dAsg (dCall 2 M_interest (daCons (dVar 4) (daCons (dVar 1) daNil))) (gN 7))
  (dSeq (dAsg (dIf (dB (dOp ltD (dVar 6) (dOp subD (dVar 2) (dC (.int 1))))) (dBlt minD (daCons (dVar 3) (daCons (dOp addD (dVar 4) (dVar 7)) daNil))) (dOp addD (dVar 4) (dVar 7))) (gN 8))
  (dSeq (dDrop (dApp (dVar 5) (dTup (daCons (dVar 7) (daCons (dOp subD (dVar 8) (dVar 7)) (daCons (dVar 8) (daCons (dOp subD (dOp addD (dVar 4) (dVar 7)) (dVar 8)) daNil)))))))
  (dAug 4 iaddD (dOp subD (dVar 7) (dVar 8))))))
theorem pl_loop {h P : Int} {w : Option D} {m : Nat} {S : Store} (hh : 0 ≤ h) (hh2 : h ≤ 9) (hP : 0 ≤ P) (hm : m ≤ 6) : ∀ (n k : Nat) (l : Int) (acc : List D) (u6 u7 u8 : Option D), k + n = m → acc.length = k → 0 ≤ l → l * 2 ^ n < 2 ^ 50 → LB h P n l ≤ 0 →
    ∃ o4 o6 o7 o8, forD grdT (gN 6) plBody (rngD (k : Int) 1 n) [w, some (pt (rateQ h)), some (.int (m : Int)), some (.int P), some (.int l), some (.obj S.length), u6, u7, u8] (S ++ [.lst acc]) = .nx [w, some (pt (rateQ h)), some (.int (m : Int)), some (.int P), o4, some (.obj S.length), o6, o7, o8] (S ++ [.lst (acc ++ rowsOf h l (offs h P n l))]) := by
  intro n
  induction n with
  | zero => intro k l acc u6 u7 u8 hk ha hl hb e; exact ⟨some (.int l), u6, u7, u8, by simp [offs, rowsOf]⟩
  | succ n ih =>
    intro k l acc u6 u7 u8 hk ha hl hb e
    have t := interest_ok hh hh2 hl (pow_lt hl hb) (S ++ [.lst acc])
    have i2 := inI_le hh hh2 hl
    obtain ⟨a, a2, b⟩ := fin_step hh hP hl e
    have hr : (min P (l + inI h l)) - inI h l + inI h l = min P (l + inI h l) := by omega
    have hr2 : l - (min P (l + inI h l) - inI h l) = l + inI h l - min P (l + inI h l) := by omega
    have hr3 : l + (inI h l - min P (l + inI h l)) = l + inI h l - min P (l + inI h l) := by omega
    have eR : rowD h l (offP h P l) = .tup [.int (inI h l), .int (min P (l + inI h l) - inI h l), .int (min P (l + inI h l)), .int (l + inI h l - min P (l + inI h l))] := by
      unfold rowD offP; rw [hr, hr2]
    obtain ⟨o4, q6, q7, q8, z⟩ := ih (k + 1) (l - offP h P l) (acc ++ [rowD h l (offP h P l)]) (some (.int (k : Int))) (some (.int (inI h l))) (some (.int (min P (l + inI h l)))) (by omega) (by simp [ha]) a (pow_step hl (by omega) hb) b
    refine ⟨o4, q6, q7, q8, ?_⟩
    have ek : ((k + 1 : Nat) : Int) = (k : Int) + 1 := by omega
    have eo : l - offP h P l = l + inI h l - min P (l + inI h l) := by unfold offP; omega
    have eL : acc ++ rowsOf h l (offs h P (n + 1) l) = (acc ++ [rowD h l (offP h P l)]) ++ rowsOf h (l - offP h P l) (offs h P n (l - offP h P l)) := by rw [offs, rowsOf, List.append_assoc, List.singleton_append]
    rw [rngD_succ, eL, ← z, ek, eo, eR]
    have hacc : acc.length < 1000000 := by omega
    by_cases c : (k : Int) < (m : Int) - 1
    · simp -implicitDefEqProofs [plBody, t, c, hacc, hr3]
    · have n0 : n = 0 := by omega
      subst n0
      have f := fin_last hh hP hl e
      have mm : min P (l + inI h l) = l + inI h l := by omega
      simp -implicitDefEqProofs [plBody, t, c, hacc, mm]
      omega
def planR (h P w : Int) (m : Nat) : List D := rowsOf h w (offs h P m w)
theorem plan_ok {h w P : Int} {m : Nat} (L : Loan h w m) (E : EP h w m P) (hE : ∀ S : Store, M_even_pay [.int w, pt (rateQ h), .int (m : Int)] S = .ok (.int P) S) (S : Store) :
    M_plan [.int w, pt (rateQ h), .int (m : Int)] S = .ok (.tup (planR h P w m)) (S ++ [.lst (planR h P w m)]) := by
  obtain ⟨o4, o6, o7, o8, z⟩ := pl_loop (w := some (.int w)) (S := S) L.h0 L.h9 E.p0 L.m6 m 0 w [] none none none (by omega) rfl (Int.le_of_lt L.w0) L.big E.le
  have c : -1000000000000 ≤ (m : Int) ∧ (m : Int) ≤ 1000000000000 := by have := L.m6; omega
  unfold plBody at z
  simp -implicitDefEqProofs only [M_plan, e_runD, f_plan]
  simp -implicitDefEqProofs [startD, c, hE, planR]
  erw [z]
  simp -implicitDefEqProofs
end Pr
set_option Elab.async false
set_option linter.all false
set_option maxRecDepth 100000
set_option maxHeartbeats 1000000
namespace Pr
open PySem PySem.Spec PyProof.Rows L2 DL
/-! ### a plan looked at -/
def enumF : Int → List D → List D
  | _, [] => []
  | k, x :: xs => .tup [.int k, x] :: enumF (k + 1) xs
theorem enum_from : ∀ (xs : List D) (k : Int), (List.range xs.length).map (fun (i : Nat) => D.tup [.int (k + (i : Int)), xs.getD i .non]) = enumF k xs
  | [], k => rfl
  | x :: xs, k => by
    rw [List.length_cons, List.range_succ_eq_map, List.map_cons, List.map_map, enumF, ← enum_from xs (k + 1)]
    congr 1
    · simp
    · refine List.map_congr_left fun i _ => ?_
      simp only [Function.comp]
      rw [show k + ((i.succ : Nat) : Int) = k + 1 + (i : Int) by omega]
      rfl
theorem enumL_from (xs : List D) : enumL xs = enumF 0 xs := by
  rw [← enum_from xs 0]
  unfold enumL
  refine List.map_congr_left fun i _ => ?_
  rw [Int.zero_add]
def lpT : DG := (gT 2 (gsCons (gN 4) (gsCons (gT 4 (gsCons (gN 5) (gsCons (gN 6) (gsCons (gN 7) (gsCons (gN 8) gsNil))))) gsNil)))
def lpB : DS :=
  (dSeq (dIfS (dOrT (dB (dOp neD (dVar 5) (dCall 2 M_interest (daCons (dVar 3) (daCons (dVar 1) daNil))))) (dOrT (dB (dOp neD (dOp addD (dVar 6) (dVar 5)) (dVar 7))) (dB (dOp neD (dVar 8) (dOp subD (dVar 3) (dVar 6))))))
  (dRet (dVar 4))
  dNext)
  (dAsg (dVar 8) (gN 3)))
theorem lp_loop {h : Int} {w r : Option D} {S : Store} (hh : 0 ≤ h) (hh2 : h ≤ 9) : ∀ (os : List Int) (l k : Int) (u4 u5 u6 u7 u8 : Option D), Nn l os →
    ∃ v4 v5 v6 v7 v8, forD grdT lpT lpB (enumF k (rowsOf h l os)) [w, some (pt (rateQ h)), r, some (.int l), u4, u5, u6, u7, u8] S = .nx [w, some (pt (rateQ h)), r, some (.int (l - os.sum)), v4, v5, v6, v7, v8] S := by
  intro os
  induction os with
  | nil => intro l k u4 u5 u6 u7 u8 hn; exact ⟨u4, u5, u6, u7, u8, by simp [rowsOf, enumF]⟩
  | cons o os ih =>
    intro l k u4 u5 u6 u7 u8 hn
    have t := interest_ok hh hh2 hn.1.1 hn.1.2 S
    obtain ⟨v4, v5, v6, v7, v8, z⟩ := ih (l - o) (k + 1) (some (.int k)) (some (.int (inI h l))) (some (.int o)) (some (.int (o + inI h l))) (some (.int (l - o))) hn.2
    refine ⟨v4, v5, v6, v7, v8, ?_⟩
    have e : l - (o :: os).sum = l - o - os.sum := by rw [List.sum_cons]; omega
    rw [e, ← z]
    simp -implicitDefEqProofs [rowsOf, enumF, rowD, lpT, lpB, t]
theorem look_ok {h l : Int} {os : List Int} (hh : 0 ≤ h) (hh2 : h ≤ 9) (hn : Nn l os) (hs : os.sum = l) (S : Store) : M_look_plan [.int l, pt (rateQ h), .tup (rowsOf h l os)] S = .ok .non S := by
  obtain ⟨v4, v5, v6, v7, v8, z⟩ := lp_loop (w := some (.int l)) (r := some (.tup (rowsOf h l os))) (S := S) hh hh2 os l 0 none none none none none hn
  have e : l - os.sum = 0 := by omega
  rw [e] at z
  unfold lpT lpB at z
  simp -implicitDefEqProofs only [M_look_plan, e_runD, f_look_plan]
  simp -implicitDefEqProofs [startD, enumL_from, z]
theorem look_bad {h l o : Int} {os : List Int} (hh : 0 ≤ h) (hh2 : h ≤ 9) (hl : 0 ≤ l) (hl2 : l < 1000000) (S : Store) : M_look_plan [.int (l + 1), pt (rateQ h), .tup (rowsOf h l (o :: os))] S = .ok (.int 0) S := by
  have t := interest_ok hh hh2 (show 0 ≤ l + 1 by omega) (by omega) S
  have c : ¬ (l - o = l + 1 - o) := by omega
  simp -implicitDefEqProofs only [M_look_plan, e_runD, f_look_plan]
  by_cases d : inI h l = inI h (l + 1)
  · simp -implicitDefEqProofs [startD, enumL_from, enumF, rowsOf, rowD, t, d, c]
  · simp -implicitDefEqProofs [startD, enumL_from, enumF, rowsOf, rowD, t, d, c]
/-! ### nought or more -/
theorem nn_of {os : List Int} : ∀ {l : Int}, (∀ o ∈ os, 0 ≤ o) → os.sum ≤ l → l < 2 ^ 50 → Nn l os := by
  induction os with
  | nil => intro l h1 h2 h3; exact ⟨by simpa using h2, h3⟩
  | cons o os ih =>
    intro l h1 h2 h3
    rw [List.sum_cons] at h2
    have o0 := h1 o List.mem_cons_self
    have h4 : ∀ x ∈ os, 0 ≤ x := fun x hx => h1 x (List.mem_cons_of_mem _ hx)
    have s0 : 0 ≤ os.sum := by
      clear ih h1 h2
      induction os with
      | nil => simp
      | cons a as ih => rw [List.sum_cons]; have := h4 a List.mem_cons_self; have := ih (fun x hx => h4 x (List.mem_cons_of_mem _ hx)); omega
    exact ⟨⟨by omega, h3⟩, ih h4 (by omega) (by omega)⟩
/-! ### in parts -/
def partsO (w : Int) (m : Nat) : Nat → Nat → List Int
  | _, 0 => []
  | k, n + 1 => (w / (m : Int) + if (k : Int) < w % (m : Int) then 1 else 0) :: partsO w m (k + 1) n
theorem parts_sum {w : Int} {m : Nat} : ∀ (n k : Nat), (partsO w m k n).sum = (n : Int) * (w / (m : Int)) + (min ((k : Int) + n) (w % (m : Int)) - min (k : Int) (w % (m : Int)))
  | 0, k => by simp [partsO]
  | n + 1, k => by
    rw [partsO, List.sum_cons, parts_sum n (k + 1)]
    generalize w / (m : Int) = q
    generalize w % (m : Int) = r
    have e : ((n + 1 : Nat) : Int) * q = (n : Int) * q + q := by rw [Int.natCast_add, Int.add_mul]; simp
    rw [e]
    generalize (n : Int) * q = nq
    split <;> omega
theorem parts_len {w : Int} {m : Nat} : ∀ (n k : Nat), (partsO w m k n).length = n
  | 0, k => rfl
  | n + 1, k => by rw [partsO, List.length_cons, parts_len n]
theorem parts_nn {w : Int} {m : Nat} (hw : 0 ≤ w) : ∀ (n k : Nat), ∀ o ∈ partsO w m k n, 0 ≤ o
  | 0, k => fun o ho => nomatch ho
  | n + 1, k => fun o ho => by
    rcases List.mem_cons.mp ho with rfl | ho
    · have : 0 ≤ w / (m : Int) := Int.ediv_nonneg hw (by omega)
      split <;> omega
    · exact parts_nn hw n (k + 1) o ho
def ipBody : DS :=
  (dSeq (dAsg (dOp addD (dOp fdivD (dVar 0) (dVar 2)) (dBlt intD (daCons (dOp ltD (dVar 5) (dOp modD (dVar 0) (dVar 2))) daNil))) (gN 6))
  (dSeq (dAsg (dCall 2 M_interest (daCons (dVar 3) (daCons (dVar 1) daNil))) (gN 7))
  (dSeq (dAug 3 isubD (dVar 6))
  (dDrop (dApp (dVar 4) (dTup (daCons (dVar 7) (daCons (dVar 6) (daCons (dOp addD (dVar 6) (dVar 7)) (daCons (dVar 3) daNil))))))))))
theorem ip_loop {h w : Int} {m : Nat} {S : Store} (hh : 0 ≤ h) (hh2 : h ≤ 9) (hm : 0 < m) (hm6 : m ≤ 6) : ∀ (n k : Nat) (l : Int) (acc : List D) (u5 u6 u7 : Option D), k + n = m → acc.length = k → Nn l (partsO w m k n) →
    ∃ v3 v5 v6 v7, forD grdT (gN 5) ipBody (rngD (k : Int) 1 n) [some (.int w), some (pt (rateQ h)), some (.int (m : Int)), some (.int l), some (.obj S.length), u5, u6, u7] (S ++ [.lst acc]) = .nx [some (.int w), some (pt (rateQ h)), some (.int (m : Int)), v3, some (.obj S.length), v5, v6, v7] (S ++ [.lst (acc ++ rowsOf h l (partsO w m k n))]) := by
  have m1 : (0 : Int) < (m : Int) := by omega
  have m2 : ((m : Int)).natAbs < 18446744073709551616 := by omega
  intro n
  induction n with
  | zero => intro k l acc u5 u6 u7 hk ha hn; exact ⟨some (.int l), u5, u6, u7, by simp [partsO, rowsOf]⟩
  | succ n ih =>
    intro k l acc u5 u6 u7 hk ha hn
    have t := interest_ok hh hh2 hn.1.1 hn.1.2 (S ++ [.lst acc])
    have ek : ((k + 1 : Nat) : Int) = (k : Int) + 1 := by omega
    have hacc : acc.length < 1000000 := by omega
    have eL : acc ++ rowsOf h l (partsO w m k (n + 1)) = (acc ++ [rowD h l (w / (m : Int) + if (k : Int) < w % (m : Int) then 1 else 0)]) ++ rowsOf h (l - (w / (m : Int) + if (k : Int) < w % (m : Int) then 1 else 0)) (partsO w m (k + 1) n) := by rw [partsO, rowsOf, List.append_assoc, List.singleton_append]
    obtain ⟨v3, v5, v6, v7, z⟩ := ih (k + 1) (l - (w / (m : Int) + if (k : Int) < w % (m : Int) then 1 else 0)) (acc ++ [rowD h l (w / (m : Int) + if (k : Int) < w % (m : Int) then 1 else 0)]) (some (.int (k : Int))) (some (.int (w / (m : Int) + if (k : Int) < w % (m : Int) then 1 else 0))) (some (.int (inI h l))) (by omega) (by simp [ha]) hn.2
    refine ⟨v3, v5, v6, v7, ?_⟩
    rw [rngD_succ, eL, ← z, ek]
    by_cases c : (k : Int) < w % (m : Int)
    · simp -implicitDefEqProofs [ipBody, rowD, t, c, hacc, fdiv_small m1 m2, modD_int m1]
    · simp -implicitDefEqProofs [ipBody, rowD, t, c, hacc, fdiv_small m1 m2, modD_int m1]
theorem parts_all {w : Int} {m : Nat} (hm : 0 < m) : (partsO w m 0 m).sum = w := by
  rw [parts_sum]
  have e := Int.mul_ediv_add_emod w (m : Int)
  have r0 := Int.emod_nonneg w (show (m : Int) ≠ 0 by omega)
  have r1 := Int.emod_lt_of_pos w (show (0 : Int) < (m : Int) by omega)
  omega
theorem in_parts_ok {h w : Int} {m : Nat} (L : Loan h w m) (S : Store) : M_in_parts [.int w, pt (rateQ h), .int (m : Int)] S = .ok (.tup (rowsOf h w (partsO w m 0 m))) (S ++ [.lst (rowsOf h w (partsO w m 0 m))]) := by
  have w0 := L.w0
  have w1 := L.w1
  have m0 := L.m0
  have m6 := L.m6
  have n1 : ¬ w < 0 := by omega
  have n2 : ¬ (rateQ h).num < 0 := Int.not_lt.mpr (Rat.num_nonneg.mpr (rate_nn L.h0))
  have n3 : ¬ (m : Int) < 1 := by omega
  have c : -1000000000000 ≤ (m : Int) ∧ (m : Int) ≤ 1000000000000 := by omega
  obtain ⟨v3, v5, v6, v7, z⟩ := ip_loop (S := S) L.h0 L.h9 m0 m6 m 0 w [] none none none (by omega) rfl (nn_of (l := w) (parts_nn (Int.le_of_lt w0) m 0) (by rw [parts_all m0]; exact Int.le_refl _) (by omega))
  unfold ipBody at z
  simp -implicitDefEqProofs only [M_in_parts, e_runD, f_in_parts]
  simp -implicitDefEqProofs [startD, M_check_loan, f_check_loan, n1, n2, n3, c]
  erw [z]
  simp -implicitDefEqProofs
/-! ### all at the end -/
def endO (w : Int) : Nat → List Int
  | 0 => [w]
  | n + 1 => 0 :: endO w n
theorem end_sum (w : Int) : ∀ n, (endO w n).sum = w
  | 0 => by simp [endO]
  | n + 1 => by rw [endO, List.sum_cons, end_sum w n]; omega
theorem end_len (w : Int) : ∀ n, (endO w n).length = n + 1
  | 0 => rfl
  | n + 1 => by rw [endO, List.length_cons, end_len w n]
theorem end_nn {w : Int} (hw : 0 ≤ w) : ∀ n, ∀ o ∈ endO w n, 0 ≤ o
  | 0 => fun o ho => by rw [List.mem_singleton.mp ho]; exact hw
  | n + 1 => fun o ho => by
    rcases List.mem_cons.mp ho with rfl | ho
    · omega
    · exact end_nn hw n o ho
theorem end_rows (h w : Int) : ∀ n, rowsOf h w (endO w n) = List.replicate n (.tup [.int (inI h w), .int 0, .int (inI h w), .int w]) ++ [.tup [.int (inI h w), .int w, .int (w + inI h w), .int 0]]
  | 0 => by simp [endO, rowsOf, rowD]
  | n + 1 => by
    rw [endO, rowsOf, Int.sub_zero, end_rows h w n, List.replicate_succ, List.cons_append]
    simp [rowD]
@[simp] theorem mulD2_obj (n : Nat) (k : Int) (S : Store) : mulD2 (.obj n) (.int k) S = ((lstAt S n).bind fun xs => if -1000 ≤ k ∧ k ≤ 1000 ∧ xs.length ≤ 1000 then some (newO (.lst (List.replicate k.toNat xs).flatten) S) else none) := by
  unfold mulD2
  dsimp only
  cases h : lstAt S n <;> simp [h]
theorem all_end_ok {h w : Int} {m : Nat} (L : Loan h w m) (S : Store) : ∃ T, M_all_at_end [.int w, pt (rateQ h), .int (m : Int)] S = .ok (.tup (rowsOf h w (endO w (m - 1)))) (S ++ T) := by
  have w0 := L.w0
  have w1 := L.w1
  have m0 := L.m0
  have m6 := L.m6
  have n1 : ¬ w < 0 := by omega
  have n2 : ¬ (rateQ h).num < 0 := Int.not_lt.mpr (Rat.num_nonneg.mpr (rate_nn L.h0))
  have n3 : ¬ (m : Int) < 1 := by omega
  have t := interest_ok L.h0 L.h9 (Int.le_of_lt w0) (by omega) S
  have k1 : ((m : Int) - 1).toNat = m - 1 := by omega
  have k2 : -1000 ≤ (m : Int) - 1 := by omega
  have k3 : (m : Int) - 1 ≤ 1000 := by omega
  have k4 : m - 1 + 1 ≤ 1000000 := by omega
  rw [end_rows]
  refine ⟨[.lst [.tup [.int (inI h w), .int 0, .int (inI h w), .int w]], .lst (List.replicate (m - 1) (.tup [.int (inI h w), .int 0, .int (inI h w), .int w]))], ?_⟩
  simp -implicitDefEqProofs only [M_all_at_end, e_runD, f_all_at_end]
  simp -implicitDefEqProofs [startD, M_check_loan, f_check_loan, n1, n2, n3, t, k1, k2, k3, k4]
end Pr
set_option Elab.async false
set_option linter.all false
set_option maxRecDepth 100000
set_option maxHeartbeats 1000000
namespace Pr
open PySem PySem.Spec PyProof.Rows L2 DL
/-! ### plain facts -/
section
variable {h w P : Int} {m : Nat}
theorem EP.up (L : Loan h w m) (E : EP h w m P) : P ≤ w + inI h w := by
  rcases Int.lt_or_le (w + inI h w) P with c | c
  · exfalso
    have i0 := inI_nn L.h0 (Int.le_of_lt L.w0)
    have w0 := L.w0
    obtain ⟨n, rfl⟩ : ∃ n, m = n + 1 := ⟨m - 1, by have := L.m0; omega⟩
    rcases E.gt with g | g
    · omega
    · rw [LB_pos L.w0, LB_done (by omega)] at g; omega
  · omega
theorem LB_up (hh : 0 ≤ h) (hw : 0 < w) (hp : P ≤ inI h w) : ∀ (n : Nat) (l : Int), w ≤ l → w ≤ LB h P n l
  | 0, l, hl => hl
  | n + 1, l, hl => by
    rw [LB_pos (by omega)]
    have := inI_mono hh hl
    exact LB_up hh hw hp n _ (by omega)
theorem EP.low (L : Loan h w m) (E : EP h w m P) : inI h w < P := by
  rcases Int.lt_or_le (inI h w) P with c | c
  · exact c
  · have := LB_up L.h0 L.w0 c m w (Int.le_refl _)
    have := E.le
    have := L.w0
    omega
theorem off_nn {l : Int} (hh : 0 ≤ h) (hl : 0 ≤ l) (hlw : l ≤ w) (hp : inI h w < P) : 0 ≤ offP h P l ∧ offP h P l ≤ l ∧ l - offP h P l = max 0 (l + inI h l - P) := by
  have := inI_mono hh hlw
  have := inI_nn hh hl
  unfold offP
  omega
theorem offs_nn (hh : 0 ≤ h) (hp : inI h w < P) : ∀ (n : Nat) (l : Int), 0 ≤ l → l ≤ w → ∀ o ∈ offs h P n l, 0 ≤ o
  | 0, l, hl, hlw => fun o ho => nomatch ho
  | n + 1, l, hl, hlw => fun o ho => by
    obtain ⟨a, b, c⟩ := off_nn hh hl hlw hp
    rcases List.mem_cons.mp ho with rfl | ho
    · exact a
    · exact offs_nn hh hp n _ (by omega) (by omega) o ho
/-- the interest of n rows from l on -/
def sumI (h P : Int) (n : Nat) (l : Int) : Int := (col0 h l (offs h P n l)).sum
theorem sumI_succ (n : Nat) (l : Int) : sumI h P (n + 1) l = inI h l + sumI h P n (l - offP h P l) := by
  unfold sumI
  rw [offs, col0, List.sum_cons]
theorem sumI_nn (hh : 0 ≤ h) (hp : inI h w < P) : ∀ (n : Nat) (l : Int), 0 ≤ l → l ≤ w → 0 ≤ sumI h P n l
  | 0, l, hl, hlw => by simp [sumI, offs, col0]
  | n + 1, l, hl, hlw => by
    obtain ⟨a, b, c⟩ := off_nn hh hl hlw hp
    have := inI_nn hh hl
    rw [sumI_succ]
    have := sumI_nn hh hp n (l - offP h P l) (by omega) (by omega)
    omega
theorem sumI_mono (hh : 0 ≤ h) (hp : inI h w < P) : ∀ (n : Nat) (a b : Int), 0 ≤ a → a ≤ b → b ≤ w → sumI h P n a ≤ sumI h P n b
  | 0, a, b, h1, h2, h3 => by simp [sumI, offs, col0]
  | n + 1, a, b, h1, h2, h3 => by
    obtain ⟨x1, x2, x3⟩ := off_nn hh h1 (by omega) hp
    obtain ⟨y1, y2, y3⟩ := off_nn (l := b) hh (by omega) h3 hp
    have i := inI_mono hh h2
    rw [sumI_succ, sumI_succ]
    have := sumI_mono hh hp n (a - offP h P a) (b - offP h P b) (by omega) (by omega) (by omega)
    omega
theorem LB_mono {n : Nat} (hh : 0 ≤ h) : ∀ (n : Nat) (a b : Int), 0 ≤ a → a ≤ b → 0 ≤ P → LB h P n b ≤ 0 → LB h P n a ≤ 0
  | 0, a, b, h1, h2, h3, e => by rw [LB] at *; omega
  | n + 1, a, b, h1, h2, h3, e => by
    rw [LB]
    split
    · assumption
    · rename_i c
      rw [LB_pos (by omega)] at e
      have i := inI_mono hh h2
      by_cases d : a + (inI h a - P) ≤ 0
      · rw [LB_done d]; exact d
      · exact LB_mono (n := n) hh n _ _ (by omega) (by omega) h3 e
end
theorem rows_app (h : Int) : ∀ (a b : List Int) (l : Int), rowsOf h l (a ++ b) = rowsOf h l a ++ rowsOf h (l - a.sum) b
  | [], b, l => by simp [rowsOf]
  | x :: a, b, l => by rw [List.cons_append, rowsOf, rowsOf, rows_app h a b, List.sum_cons, List.cons_append, show l - x - a.sum = l - (x + a.sum) by omega]
theorem col0_app (h : Int) : ∀ (a b : List Int) (l : Int), col0 h l (a ++ b) = col0 h l a ++ col0 h (l - a.sum) b
  | [], b, l => by simp [col0]
  | x :: a, b, l => by rw [List.cons_append, col0, col0, col0_app h a b, List.sum_cons, List.cons_append, show l - x - a.sum = l - (x + a.sum) by omega]
/-- the plan cut at its row k -/
theorem offs_cut {h P : Int} (hh : 0 ≤ h) (hP : 0 ≤ P) : ∀ (k n : Nat) (l : Int), 0 ≤ l → LB h P (k + n) l ≤ 0 → offs h P (k + n) l = offs h P k l ++ offs h P n (l - (offs h P k l).sum) ∧ 0 ≤ l - (offs h P k l).sum ∧ LB h P n (l - (offs h P k l).sum) ≤ 0
  | 0, n, l, hl, e => by rw [Nat.zero_add] at e; simp [offs]; exact ⟨hl, e⟩
  | k + 1, n, l, hl, e => by
    rw [show k + 1 + n = k + n + 1 by omega] at e ⊢
    obtain ⟨a, _, b⟩ := fin_step hh hP hl e
    obtain ⟨x, y, z⟩ := offs_cut hh hP k n _ a b
    have e2 : l - (offs h P (k + 1) l).sum = l - offP h P l - (offs h P k (l - offP h P l)).sum := by rw [offs, List.sum_cons]; omega
    rw [e2]
    refine ⟨?_, y, z⟩
    rw [offs, x, offs, List.cons_append]
end Pr
set_option Elab.async false
set_option linter.all false
set_option maxRecDepth 100000
set_option maxHeartbeats 1000000
namespace Pr
open PySem PySem.Spec PyProof.Rows L2 DL
/-! ### columns -/
def lo : Int → List Int → List (Int × Int)
  | _, [] => []
  | l, o :: os => (l, o) :: lo (l - o) os
theorem lo_len : ∀ (os : List Int) (l : Int), (lo l os).length = os.length
  | [], l => rfl
  | o :: os, l => by rw [lo, List.length_cons, lo_len os, List.length_cons]
theorem lo_rows (h : Int) : ∀ (os : List Int) (l : Int), rowsOf h l os = (lo l os).map fun p => rowD h p.1 p.2
  | [], l => rfl
  | o :: os, l => by rw [lo, List.map_cons, rowsOf, lo_rows h os]
theorem lo_0 (h : Int) : ∀ (os : List Int) (l : Int), col0 h l os = (lo l os).map fun p => inI h p.1
  | [], l => rfl
  | o :: os, l => by rw [lo, List.map_cons, col0, lo_0 h os]
theorem lo_1 : ∀ (os : List Int) (l : Int), os = (lo l os).map fun p => p.2
  | [], l => rfl
  | o :: os, l => by rw [lo, List.map_cons, ← lo_1 os]
theorem lo_2 (h : Int) : ∀ (os : List Int) (l : Int), col2 h l os = (lo l os).map fun p => p.2 + inI h p.1
  | [], l => rfl
  | o :: os, l => by rw [lo, List.map_cons, col2, lo_2 h os]
def colE (i j : Nat) (c : Int) : DE := dLc (diSeq (dVar i)) (gN j) dYes (dOp ixD (dVar j) (dC (.int c))) [j]
theorem colLc {h l : Int} {os : List Int} {i j : Nat} {c : Int} {f : Int × Int → Int} (hf : ∀ p S, ixD (rowD h p.1 p.2) (.int c) S = some (.int (f p), S)) {ρ : DEnv} (hi : ρ[i]? = some (some (.tup (rowsOf h l os)))) (hj : j < ρ.length) (hlen : os.length < 1000000) (S : Store) :
    colE i j c ρ S = .ok (.obj S.length) (S ++ [.lst (((lo l os).map f).map D.int)]) := by
  unfold colE
  rw [List.map_map]
  refine dLc_map (lo l os) (fun p => rowD h p.1 p.2) (D.int ∘ f) (grd := grdT) ?_ (fun _ => rfl) (fun p hp X => ?_) (by rw [lo_len]; exact hlen)
  · rw [e_diSeq, e_dVar, hi, lo_rows]; rfl
  · refine ⟨((ρ.set j none).set j (some (rowD h p.1 p.2))), rfl, ?_⟩
    have e : ((ρ.set j none).set j (some (rowD h p.1 p.2)))[j]? = some (some (rowD h p.1 p.2)) := by
      rw [List.getElem?_set_self (by simpa using hj)]
    simp only [e_dOp, e_dVar, e, optV_some, Out.bind_ok, e_dC, hf]
    rfl
section
variable {h l : Int} {os : List Int} {i j : Nat} {ρ : DEnv} (hi : ρ[i]? = some (some (.tup (rowsOf h l os)))) (hj : j < ρ.length) (hlen : os.length < 1000000) (S : Store)
include hi hj hlen
theorem col_0 : colE i j 0 ρ S = .ok (.obj S.length) (S ++ [.lst ((col0 h l os).map D.int)]) := by
  rw [lo_0]; exact colLc (fun p S => by simp [rowD]) hi hj hlen S
theorem col_1 : colE i j 1 ρ S = .ok (.obj S.length) (S ++ [.lst (os.map D.int)]) := by
  conv => rhs; rw [lo_1 os l]
  exact colLc (fun p S => by simp [rowD]) hi hj hlen S
theorem col_2 : colE i j 2 ρ S = .ok (.obj S.length) (S ++ [.lst ((col2 h l os).map D.int)]) := by
  rw [lo_2]; exact colLc (fun p S => by simp [rowD]) hi hj hlen S
end
@[simp] theorem intsOf_map : ∀ (is : List Int), intsOf (is.map D.int) = some is
  | [] => rfl
  | i :: is => by rw [List.map_cons, intsOf, intsOf_map is]; rfl
@[simp] theorem lstOf_obj (S : Store) (n : Nat) : lstOf S (.obj n) = lstAt S n := rfl
@[simp] theorem e_sumLD (d : D) (S : Store) : sumLD [d] S = ((lstOf S d).bind intsOf).map fun ns => (.int ns.sum, S) := rfl
@[simp] theorem e_maxD2 (d : D) (S : Store) : maxD2 [d] S = (((lstOf S d).bind intsOf).bind maxI).map fun i => (.int i, S) := rfl
theorem max_first {P : Int} : ∀ (is : List Int), (∀ i ∈ is, i ≤ P) → is.foldl max P = P
  | [], _ => rfl
  | i :: is, hi => by
    rw [List.foldl_cons, show max P i = P by have := hi i List.mem_cons_self; omega]
    exact max_first is fun j hj => hi j (List.mem_cons_of_mem _ hj)
theorem col2_le {h P : Int} : ∀ (n : Nat) (l : Int), ∀ i ∈ col2 h l (offs h P n l), i ≤ P
  | 0, l => fun i hi => nomatch hi
  | n + 1, l => fun i hi => by
    rcases List.mem_cons.mp hi with rfl | hi
    · unfold offP; omega
    · exact col2_le n _ i hi
theorem usual_ok {h w P : Int} {m : Nat} (L : Loan h w m) (E : EP h w m P) : maxI (col2 h w (offs h P m w)) = some P := by
  have u := E.up L
  obtain ⟨n, rfl⟩ : ∃ n, m = n + 1 := ⟨m - 1, by have := L.m0; omega⟩
  rw [offs, col2]
  have e : offP h P w + inI h w = P := by unfold offP; omega
  rw [maxI, e, max_first _ (col2_le n _)]
/-! ### paid ahead -/
def paC : DT := (dB (dOp gtD (dVar 8) (dC (.int 0))))
def paB : DS := (dSeq (dAsg (dCall 2 M_interest (daCons (dVar 8) (daCons (dVar 2) daNil))) (gN 11))
  (dSeq (dIfS (dB (dOp geD (dVar 11) (dVar 10)))
  (dRaise "NoAnswer")
  dNext)
  (dSeq (dAsg (dBlt minD (daCons (dVar 10) (daCons (dOp addD (dVar 8) (dVar 11)) daNil))) (gN 12))
  (dSeq (dDrop (dApp (dVar 9) (dTup (daCons (dVar 11) (daCons (dOp subD (dVar 12) (dVar 11)) (daCons (dVar 12) (daCons (dOp subD (dOp addD (dVar 8) (dVar 11)) (dVar 12)) daNil)))))))
  (dAug 8 iaddD (dOp subD (dVar 11) (dVar 12)))))))
theorem pa_loop {h w P : Int} {x0 x1 x3 x4 x5 x6 x7 x13 : Option D} {S T : Store} (hh : 0 ≤ h) (hh2 : h ≤ 9) (hP : 0 ≤ P) (hp : inI h w < P) (hw : w < 2 ^ 40) (e : Nat) : ∀ (n : Nat) (l : Int) (acc : List D) (u11 u12 : Option D), acc.length + n < 1000 → 0 ≤ l → l ≤ w → LB h P n l ≤ 0 →
    ∃ c v8 v11 v12, c.length ≤ n ∧ c.sum = l ∧ (∀ x ∈ c, 0 ≤ x) ∧ (col0 h l c).sum ≤ sumI h P n l ∧
      whileD paC paB (n + 1 + e) [x0, x1, some (pt (rateQ h)), x3, x4, x5, x6, x7, some (.int l), some (.obj S.length), some (.int P), u11, u12, x13] (S ++ .lst acc :: T) =
        .nx [x0, x1, some (pt (rateQ h)), x3, x4, x5, x6, x7, v8, some (.obj S.length), some (.int P), v11, v12, x13] (S ++ .lst (acc ++ rowsOf h l c) :: T) := by
  intro n
  induction n with
  | zero =>
    intro l acc u11 u12 ha hl hlw hb
    rw [LB] at hb
    have l0 : l = 0 := by omega
    subst l0
    refine ⟨[], some (.int 0), u11, u12, Nat.le_refl _, rfl, (fun x hx => nomatch hx), by simp [sumI, offs, col0], ?_⟩
    rw [show 0 + 1 + e = e + 1 by omega, whileD_go]
    simp -implicitDefEqProofs [paC, rowsOf]
  | succ n ih =>
    intro l acc u11 u12 ha hl hlw hb
    rw [show n + 1 + 1 + e = (n + 1 + e) + 1 by omega, whileD_go]
    by_cases l0 : l = 0
    · subst l0
      refine ⟨[], some (.int 0), u11, u12, Nat.zero_le _, rfl, (fun x hx => nomatch hx), sumI_nn hh hp _ _ hl hlw, ?_⟩
      simp -implicitDefEqProofs [paC, rowsOf]
    · have t := interest_ok hh hh2 hl (by omega) (S ++ .lst acc :: T)
      obtain ⟨a, a2, b⟩ := fin_step hh hP hl hb
      obtain ⟨o1, o2, o3⟩ := off_nn hh hl hlw hp
      have im := inI_mono hh hlw
      have eR : rowD h l (offP h P l) = .tup [.int (inI h l), .int (min P (l + inI h l) - inI h l), .int (min P (l + inI h l)), .int (l + inI h l - min P (l + inI h l))] := by
        unfold rowD offP
        rw [show (min P (l + inI h l)) - inI h l + inI h l = min P (l + inI h l) by omega, show l - (min P (l + inI h l) - inI h l) = l + inI h l - min P (l + inI h l) by omega]
      obtain ⟨c, v8, v11, v12, q1, q2, q3, q4, z⟩ := ih (l - offP h P l) (acc ++ [rowD h l (offP h P l)]) (some (.int (inI h l))) (some (.int (min P (l + inI h l)))) (by simp; omega) a (by omega) b
      refine ⟨offP h P l :: c, v8, v11, v12, by simp; omega, by rw [List.sum_cons, q2]; omega, fun x hx => ?_, by rw [sumI_succ, col0, List.sum_cons]; omega, ?_⟩
      · rcases List.mem_cons.mp hx with rfl | hx
        · exact o1
        · exact q3 x hx
      · have eL : acc ++ rowsOf h l (offP h P l :: c) = (acc ++ [rowD h l (offP h P l)]) ++ rowsOf h (l - offP h P l) c := by rw [rowsOf, List.append_assoc, List.singleton_append]
        have eo : l - offP h P l = l + inI h l - min P (l + inI h l) := by unfold offP; omega
        have c1 : 0 < l := by omega
        have c2 : ¬ P ≤ inI h l := by omega
        have hacc : acc.length < 1000000 := by omega
        have hr3 : l + (inI h l - min P (l + inI h l)) = l + inI h l - min P (l + inI h l) := by omega
        rw [eL, ← z, eo, eR]
        simp -implicitDefEqProofs [paC, paB, t, c1, c2, hacc, hr3]
end Pr
set_option Elab.async false
set_option linter.all false
set_option maxRecDepth 100000
set_option maxHeartbeats 1000000
namespace Pr
open PySem PySem.Spec PyProof.Rows L2 DL
theorem cut_take (xs : List D) (k : Nat) : DL.cutD xs none (some (k : Int)) = xs.take k := by
  unfold DL.cutD
  rw [HT.sIx_nat, HT.sIx_none]
  simp
theorem addD_obj {n k : Nat} {xs ys : List D} {S : Store} (h1 : lstAt S n = some xs) (h2 : lstAt S k = some ys) (h3 : xs.length + ys.length ≤ 1000000) : addD (.obj n) (.obj k) S = some (.obj S.length, S ++ [.lst (xs ++ ys)]) := by
  unfold addD
  dsimp only
  rw [h1, h2]
  exact if_pos h3
theorem e_chain (g g' : D2) (fa fb fc : DE) (ρ : DEnv) (S : Store) : dChain g g' fa fb fc ρ S = (fa ρ S).bind fun x S1 => (fb ρ S1).bind fun y S2 => (optO (g x y S2)).bind fun r S3 => andV r S3 fun S3 => (fc ρ S3).bind fun z S4 => optO (g' y z S4) := by
  unfold dChain andV
  congr 1
/-- the plan's rows, cut at row k -/
structure Cut (h w P : Int) (m k : Nat) (a b : List Int) (l o : Int) (n : Nat) : Prop where
  os : offs h P m w = a ++ o :: b
  al : a.length = k
  l_ : l = w - a.sum
  o_ : o = offP h P l
  b_ : b = offs h P n (l - o)
  n_ : k + 1 + n = m
  l0 : 0 ≤ l
  lw : l ≤ w
  fin : LB h P n (l - o) ≤ 0
  ann : ∀ x ∈ a, 0 ≤ x
theorem sum_nn {a : List Int} (h : ∀ x ∈ a, 0 ≤ x) : 0 ≤ a.sum := by
  induction a with
  | nil => simp
  | cons x a ih =>
    rw [List.sum_cons]
    have := h x List.mem_cons_self
    have := ih fun y hy => h y (List.mem_cons_of_mem _ hy)
    omega
theorem cut_at {h w P : Int} {m k : Nat} (L : Loan h w m) (E : EP h w m P) (hk : k < m) : ∃ a b l o n, Cut h w P m k a b l o n := by
  obtain ⟨n, rfl⟩ : ∃ n, m = k + (n + 1) := ⟨m - k - 1, by omega⟩
  obtain ⟨x, y, z⟩ := offs_cut L.h0 E.p0 k (n + 1) w (Int.le_of_lt L.w0) E.le
  have nn := offs_nn (w := w) L.h0 (E.low L) k w (Int.le_of_lt L.w0) (Int.le_refl _)
  have s0 := sum_nn nn
  obtain ⟨f1, f2, f3⟩ := fin_step L.h0 E.p0 y z
  exact ⟨offs h P k w, _, w - (offs h P k w).sum, _, n, x, offs_len _ _ _ _, rfl, rfl, rfl, by omega, y, by omega, f3, nn⟩
theorem rows_cut {h w P l o : Int} {m k n : Nat} {a b : List Int} (C : Cut h w P m k a b l o n) : planR h P w m = rowsOf h w a ++ rowD h l o :: rowsOf h (l - o) b := by
  unfold planR
  rw [C.os, rows_app, ← C.l_, rowsOf]
/-- what paid_ahead gives -/
structure Ahead (h w P l o e : Int) (a : List Int) (n : Nat) (c : List Int) : Prop where
  len : c.length ≤ n
  sum : c.sum = l - o - e
  nn : ∀ x ∈ c, 0 ≤ x
  int : (col0 h (l - o - e) c).sum ≤ sumI h P n (l - o - e)
theorem paid_ahead_ok {h w P l o e : Int} {m k n : Nat} {a b : List Int} (L : Loan h w m) (E : EP h w m P) (C : Cut h w P m k a b l o n) (he : 0 ≤ e) (he2 : e ≤ l - o) (S : Store) :
    ∃ c T, Ahead h w P l o e a n c ∧ M_paid_ahead [.tup (planR h P w m), .int w, pt (rateQ h), .int (k : Int), .int e] S = .ok (.tup (rowsOf h w (a ++ (o + e) :: c))) (S ++ T) := by
  have m6 := L.m6
  have w1 := L.w1
  have kn := C.n_
  have ra := rows_len h w a
  have al := C.al
  have lw := C.lw
  have l0 := C.l0
  have rl : (planR h P w m).length = m := by unfold planR; rw [rows_len, offs_len]
  have hx : atI (planR h P w m) (k : Int) = some (rowD h l o) := by
    rw [DL.atI_nat, rows_cut C, List.getElem?_append_right (by omega), ra, al, Nat.sub_self]
    rfl
  have hs : sliceD (.tup (planR h P w m)) none (some (k : Int)) S = some (.tup (rowsOf h w a), S) := by
    have e0 : (planR h P w m).take k = rowsOf h w a := by rw [rows_cut C, List.take_append_of_le_length (by omega), List.take_of_length_le (by omega)]
    show some (D.tup (DL.cutD (planR h P w m) none (some (k : Int))), S) = _
    rw [cut_take, e0]
  have oo := off_nn L.h0 C.l0 C.lw (E.low L)
  rw [← C.o_] at oo
  have us := usual_ok L E
  obtain ⟨c, v8, v11, v12, q1, q2, q3, q4, z⟩ := pa_loop (x0 := some (.tup (planR h P w m))) (x1 := some (.int w)) (x3 := some (.int (k : Int))) (x4 := some (.int e)) (x5 := some (.int (inI h l))) (x6 := some (.int o)) (x7 := some (.int (o + inI h l))) (x13 := none)
    (S := S ++ [.lst (rowsOf h w a), .lst [.tup [.int (inI h l), .int (o + e), .int (o + inI h l + e), .int (l - o - e)]]]) (T := [.lst ((col2 h w (offs h P m w)).map D.int)]) L.h0 L.h9 E.p0 (E.low L) (by omega) (1000000 - (n + 1)) n (l - o - e) (rowsOf h w a ++ [.tup [.int (inI h l), .int (o + e), .int (o + inI h l + e), .int (l - o - e)]]) none none (by simp [ra]; omega) (by omega) (by omega) (LB_mono (n := n) L.h0 n _ _ (by omega) (by omega) E.p0 C.fin)
  rw [show n + 1 + (1000000 - (n + 1)) = fuel by unfold fuel; omega] at z
  have er : rowD h l (o + e) = .tup [.int (inI h l), .int (o + e), .int (o + inI h l + e), .int (l - o - e)] := by
    unfold rowD; rw [show o + e + inI h l = o + inI h l + e by omega, show l - (o + e) = l - o - e by omega]
  have eF : rowsOf h w (a ++ (o + e) :: c) = (rowsOf h w a ++ [.tup [.int (inI h l), .int (o + e), .int (o + inI h l + e), .int (l - o - e)]]) ++ rowsOf h (l - o - e) c := by
    rw [rows_app, ← C.l_, rowsOf, er, show l - (o + e) = l - o - e by omega, List.append_assoc, List.singleton_append]
  have col : ∀ T : Store, colE 0 13 2 [some (.tup (planR h P w m)), some (.int w), some (pt (rateQ h)), some (.int (k : Int)), some (.int e), some (.int (inI h l)), some (.int o), some (.int (o + inI h l)), some (.int (l - o - e)), some (.obj (S.length + 2)), none, none, none, none] T = .ok (.obj T.length) (T ++ [.lst ((col2 h w (offs h P m w)).map D.int)]) := fun T => col_2 rfl (by simp) (by rw [offs_len]; omega) T
  unfold colE at col
  have ad := addD_obj (S := S ++ [.lst (rowsOf h w a), .lst [.tup [.int (inI h l), .int (o + e), .int (o + inI h l + e), .int (l - o - e)]]]) (n := S.length) (k := S.length + 1) (xs := rowsOf h w a) (ys := [.tup [.int (inI h l), .int (o + e), .int (o + inI h l + e), .int (l - o - e)]]) (by simp) (by simp) (by simp [ra]; omega)
  refine ⟨c, [.lst (rowsOf h w a), .lst [.tup [.int (inI h l), .int (o + e), .int (o + inI h l + e), .int (l - o - e)]], .lst (rowsOf h w (a ++ (o + e) :: c)), .lst ((col2 h w (offs h P m w)).map D.int)], ⟨q1, q2, q3, q4⟩, ?_⟩
  have k1 : (k : Int) < (m : Int) := by omega
  have k2 : (0 : Int) ≤ (k : Int) := by omega
  have e1 : ¬ e < 0 := by omega
  have e2 : ¬ l - o < e := by omega
  unfold paC paB at z
  simp -implicitDefEqProofs only [List.append_assoc, List.cons_append, List.nil_append, List.length_append, List.length_cons, List.length_nil, Nat.zero_add, Nat.reduceAdd] at z
  simp -implicitDefEqProofs only [M_paid_ahead, e_runD, f_paid_ahead]
  simp -implicitDefEqProofs [-e_dLc, e_chain, startD, rl, hx, hs, k1, k2, e1, e2, rowD, ad, col, us, z]
  rw [eF, List.append_assoc, List.singleton_append]
end Pr
set_option Elab.async false
set_option linter.all false
set_option maxRecDepth 100000
set_option maxHeartbeats 1000000
namespace Pr
open PySem PySem.Spec PyProof.Rows L2 DL
@[simp] theorem notND_non (S : Store) : notND .non .non S = some (.bl false, S) := rfl
@[simp] theorem isND_non (S : Store) : isND .non .non S = some (.bl true, S) := rfl
@[simp] theorem notND_int (i : Int) (S : Store) : notND (.int i) .non S = some (.bl true, S) := rfl
@[simp] theorem isND_int (i : Int) (S : Store) : isND (.int i) .non S = some (.bl false, S) := rfl
theorem roll {S : Store} {n : Nat} (hd : DiceAt S n) {k : Int} (hk : 0 < k) (hk2 : k < 100000) : ∃ (v : Nat) (S' : Store), (v : Int) < k ∧ M__law_roll [.obj n, .int k] S = .ok (.int (v : Int)) S' ∧ Kp n S S' ∧ DiceAt S' n :=
  roll_ok hd hk (by omega)
theorem nn_rows {w : Int} {os : List Int} (h1 : ∀ x ∈ os, 0 ≤ x) (h2 : os.sum = w) (hw : w < 1000000) : Nn w os := nn_of h1 (by omega) (by omega)
theorem law_ahead_ok {h w P : Int} {m n : Nat} (L : Loan h w m) (E : EP h w m P) {S : Store} (hd : DiceAt S n) :
    ∃ S', M__law_ahead [.obj n, .int w, pt (rateQ h), .tup (planR h P w m), .int (m : Int)] S = .ok (.bl true) S' ∧ Kp n S S' ∧ DiceAt S' n := by
  have m0 := L.m0
  have m6 := L.m6
  have w1 := L.w1
  obtain ⟨k, S1, k1, e1, kp1, d1⟩ := roll hd (show (0 : Int) < (m : Int) by omega) (by omega)
  have km : k < m := by omega
  obtain ⟨a, b, l, o, j, C⟩ := cut_at L E km
  have l0 := C.l0
  have lw := C.lw
  have oo := off_nn L.h0 C.l0 C.lw (E.low L)
  rw [← C.o_] at oo
  obtain ⟨v, S2, v1, e2, kp2, d2⟩ := roll d1 (show 0 < l - o + 1 by omega) (by omega)
  obtain ⟨c, T, A, e3⟩ := paid_ahead_ok (e := (v : Int)) L E C (by omega) (by omega) S2
  have rl : (planR h P w m).length = m := by unfold planR; rw [rows_len, offs_len]
  have ra := rows_len h w a
  have al := C.al
  have hx : atI (planR h P w m) (k : Int) = some (rowD h l o) := by
    rw [DL.atI_nat, rows_cut C, List.getElem?_append_right (by omega), ra, al, Nat.sub_self]
    rfl
  have s1 : (a ++ (o + (v : Int)) :: c).sum = w := by
    have := C.l_
    have := A.sum
    rw [List.sum_append, List.sum_cons]; omega
  have nn1 : ∀ x ∈ a ++ (o + (v : Int)) :: c, 0 ≤ x := by
    intro x hx
    rcases List.mem_append.mp hx with hx | hx
    · exact C.ann x hx
    · rcases List.mem_cons.mp hx with rfl | hx
      · omega
      · exact A.nn x hx
  have e4 := look_ok L.h0 L.h9 (nn_rows nn1 s1 (by omega)) s1 (S2 ++ T)
  have alen := A.len
  have kn := C.n_
  have lenA : (rowsOf h w (a ++ (o + (v : Int)) :: c)).length ≤ m := by rw [rows_len, List.length_append, List.length_cons]; omega
  have ci : (col0 h w (a ++ (o + (v : Int)) :: c)).sum ≤ (col0 h w (offs h P m w)).sum := by
    rw [C.os, col0_app, col0_app, List.sum_append, List.sum_append, ← C.l_, col0, col0, List.sum_cons, List.sum_cons, show l - (o + (v : Int)) = l - o - (v : Int) by omega]
    have x1 := A.int
    have x2 := sumI_mono L.h0 (E.low L) j (l - o - (v : Int)) (l - o) (by omega) (by omega) (by omega)
    have x3 : (col0 h (l - o) b).sum = sumI h P j (l - o) := by rw [C.b_]; rfl
    omega
  have len2 : (a ++ (o + (v : Int)) :: c).length < 1000000 := by rw [List.length_append, List.length_cons]; omega
  have c7 : ∀ U : Store, colE 7 8 0 [some (.obj n), some (.int w), some (pt (rateQ h)), some (.tup (planR h P w m)), some (.int (m : Int)), some (.int (k : Int)), some (.int (v : Int)), some (.tup (rowsOf h w (a ++ (o + (v : Int)) :: c))), none] U = .ok (.obj U.length) (U ++ [.lst ((col0 h w (a ++ (o + (v : Int)) :: c)).map D.int)]) := fun U => col_0 rfl (by simp) len2 U
  have c3 : ∀ U : Store, colE 3 8 0 [some (.obj n), some (.int w), some (pt (rateQ h)), some (.tup (planR h P w m)), some (.int (m : Int)), some (.int (k : Int)), some (.int (v : Int)), some (.tup (rowsOf h w (a ++ (o + (v : Int)) :: c))), none] U = .ok (.obj U.length) (U ++ [.lst ((col0 h w (offs h P m w)).map D.int)]) := fun U => col_0 rfl (by simp) (by rw [offs_len]; omega) U
  unfold colE at c7 c3
  have n1 : ¬ (col0 h w (offs h P m w)).sum < (col0 h w (a ++ (o + (v : Int)) :: c)).sum := by omega
  have n2 : ¬ (m : Int) < ((rowsOf h w (a ++ (o + (v : Int)) :: c)).length : Int) := by omega
  refine ⟨S2 ++ T ++ [.lst ((col0 h w (a ++ (o + (v : Int)) :: c)).map D.int)] ++ [.lst ((col0 h w (offs h P m w)).map D.int)], ?_, ((kp1.trans kp2).trans (Kp.app (T := T))).trans (Kp.app.trans Kp.app), ((d2.app).app).app⟩
  simp -implicitDefEqProofs only [M__law_ahead, e_runD, f__law_ahead]
  simp -implicitDefEqProofs [-e_dLc, startD, e1, hx, rowD, e2, e3, e4, c7, c3, rl, n1, n2]
end Pr
set_option Elab.async false
set_option linter.all false
set_option maxRecDepth 100000
set_option maxHeartbeats 1000000
namespace Pr
open PySem PySem.Spec PyProof.Rows L2 DL
def WQ (x : Rat) : List Int → Rat
  | [] => 0
  | p :: ps => ((p : Rat) + WQ x ps) / x
theorem BLe.up {q : Rat} {n k : Nat} (h : BLe q n) (e : n ≤ k) : BLe q k := ⟨Nat.le_trans h.le e⟩
def wnB : DS :=
  (dSeq (dAsg (dCall 2 M_over (daCons (dVar 3) (daCons (dVar 4) daNil))) (gN 3))
  (dAsg (dCall 2 M_add (daCons (dVar 2) (daCons (dCall 2 M_times (daCons (dTup (daCons (dVar 5) (daCons (dC (.int 1)) daNil))) (daCons (dVar 3) daNil))) daNil))) (gN 2)))
theorem wn_loop {x : Rat} {d0 d1 : Option D} {S : Store} {grd : Store → Bool} (hg : grd S = true) (hx : x ≠ 0) (bx : BLe x 20) : ∀ (ps : List Int) (f o : Rat) (A B : Nat) (u : Option D), (∀ p ∈ ps, p.natAbs < 2 ^ 30) → BLe o A → BLe f B → A + ps.length * 20 ≤ 400 → B + ps.length * 600 ≤ 3900 →
    ∃ v3 v5, forD grd (gN 5) wnB (ps.map D.int) [d0, d1, some (pt f), some (pt o), some (pt x), u] S = .nx [d0, d1, some (pt (f + o * WQ x ps)), v3, some (pt x), v5] S := by
  intro ps
  induction ps with
  | nil => intro f o A B u hp ho hf h1 h2; exact ⟨some (pt o), u, by simp [WQ, hg, Rat.add_zero]⟩
  | cons p ps ih =>
    intro f o A B u hp ho hf h1 h2
    rw [List.length_cons] at h1 h2
    have bp : BLe (p : Rat) 30 := BLe.int 29 (hp p List.mem_cons_self)
    have b1 : BLe (o / x) (A + 20) := ho.div bx
    have b2 : BLe ((p : Rat) * (o / x)) (30 + (A + 20)) := bp.mul b1
    have b3 := hf.add b2
    obtain ⟨v3, v5, z⟩ := ih (f + (p : Rat) * (o / x)) (o / x) (A + 20) (B + (30 + (A + 20)) + 1) (some (.int p)) (fun q hq => hp q (List.mem_cons_of_mem _ hq)) b1 b3 (by omega) (by omega)
    refine ⟨v3, v5, ?_⟩
    have e : f + o * WQ x (p :: ps) = f + (p : Rat) * (o / x) + o / x * WQ x ps := by
      rw [WQ]
      simp only [Rat.div_def]
      grind
    have c1 := C_over (S := S) (ho.up (k := 4000) (by omega)) (bx.up (k := 4000) (by omega)) hx
    have c2 := C_times (S := S) (bp.up (k := 4000) (by omega)) (b1.up (k := 4000) (by omega))
    have c3 := C_add (S := S) (hf.up (k := 4000) (by omega)) (b2.up (k := 4000) (by omega))
    rw [e, ← z]
    simp -implicitDefEqProofs [hg, wnB, c1, tup_int, c2, c3]
theorem one_ne {r : Rat} (hr : 0 ≤ r) : (1 : Rat) + r ≠ 0 := by grind
theorem tup_01 : D.tup [.int 0, .int 1] = pt 0 := rfl
theorem tup_11 : D.tup [.int 1, .int 1] = pt 1 := rfl
theorem worth_ok {r : Rat} {ps : List Int} {n : Nat} {S : Store} (hr : 0 ≤ r) (br : BLe r 18) (hl : ps.length ≤ 6) (hp : ∀ p ∈ ps, p.natAbs < 2 ^ 30) (hn : lstAt S n = some (ps.map D.int)) : M_worth_now [.obj n, pt r] S = .ok (pt (WQ (1 + r) ps)) S := by
  have bx : BLe (1 + r) 20 := BLe.one.add br
  have hg : grdL n (ps.map D.int) S = true := grdL_iff.mpr hn
  obtain ⟨v3, v5, z⟩ := wn_loop (d0 := some (.obj n)) (d1 := some (pt r)) hg (one_ne hr) bx ps 0 1 1 1 none hp BLe.one BLe.zero (by omega) (by omega)
  have e : (0 : Rat) + 1 * WQ (1 + r) ps = WQ (1 + r) ps := by grind
  rw [e] at z
  have c := C_add (S := S) (BLe.one.up (k := 4000) (by omega)) (br.up (k := 4000) (by omega))
  unfold wnB at z
  simp -implicitDefEqProofs only [M_worth_now, e_runD, f_worth_now]
  simp -implicitDefEqProofs [startD, tup_01, tup_11, c, hn, z]
/-! ### the law's own worth -/
def lwB : DS := (dPar2 2 3 (daCons (dOp mulD (dOp addD (dVar 2) (dOp mulD (dVar 4) (dVar 3))) (dC (.int 100))) (daCons (dOp mulD (dVar 3) (dOp addD (dC (.int 100)) (dVar 1))) daNil)))
theorem lw_loop {h : Int} {d0 : Option D} {S : Store} {grd : Store → Bool} (hh : 0 ≤ h) (hh2 : h ≤ 9) (hg : grd S = true) : ∀ (ps : List Int) (t b : Int) (A : Nat) (u : Option D), (∀ p ∈ ps, p.natAbs < 2 ^ 30) → 0 < b → b * 110 ^ ps.length < 2 ^ 60 → t.natAbs < 2 ^ A → 91 ≤ A → A + 100 * ps.length ≤ 8000 →
    ∃ (t2 b2 : Int) (v : Option D), 0 < b2 ∧ b2 < 2 ^ 60 ∧ t2.natAbs < 2 ^ 8000 ∧ (t2 : Rat) / b2 = ps.foldl (fun (w : Rat) (p : Int) => ((p : Rat) + w) / (1 + rateQ h)) ((t : Rat) / b) ∧ forD grd (gN 4) lwB (ps.map D.int) [d0, some (.int h), some (.int t), some (.int b), u] S = .nx [d0, some (.int h), some (.int t2), some (.int b2), v] S := by
  intro ps
  induction ps with
  | nil =>
    intro t b A u hp hb hb2 ht hA hA2
    exact ⟨t, b, u, hb, by simpa using hb2, lt_up ht (by simp at hA2; exact hA2), rfl, by simp [hg]⟩
  | cons p ps ih =>
    intro t b A u hp hb hb2 ht hA hA2
    rw [List.length_cons] at hA2 hb2
    have p110 : (1 : Int) ≤ 110 ^ ps.length := Int.pow_pos (by decide)
    have q1 : b * 110 ^ (ps.length + 1) = b * 110 * 110 ^ ps.length := by rw [Int.pow_succ, Int.mul_comm (110 ^ ps.length) 110, Int.mul_assoc]
    rw [q1] at hb2
    have q2 : b * (100 + h) ≤ b * 110 := Int.mul_le_mul_of_nonneg_left (by omega) (by omega)
    have q3 : b * (100 + h) * 110 ^ ps.length ≤ b * 110 * 110 ^ ps.length := Int.mul_le_mul_of_nonneg_right q2 (by omega)
    have q4 : b * 110 * 1 ≤ b * 110 * 110 ^ ps.length := Int.mul_le_mul_of_nonneg_left p110 (by omega)
    have q5 : 0 < b * (100 + h) := Int.mul_pos hb (by omega)
    have bs : b.natAbs < 2 ^ 60 := by omega
    have s1 : b.natAbs < 18446744073709551616 := by omega
    have s2 : (100 : Int).natAbs < 18446744073709551616 := by decide
    have s3 : (100 + h).natAbs < 18446744073709551616 := by omega
    have pb : (p * b).natAbs < 2 ^ A := by
      rw [Int.natAbs_mul]
      exact lt_up (mul_lt_pow (hp p List.mem_cons_self) bs) (by omega)
    have tb : ((t + p * b) * 100).natAbs < 2 ^ (A + 100) := by
      rw [Int.natAbs_mul, Nat.pow_add]
      have : (2 : Nat) ^ 8 ≤ 2 ^ 100 := Nat.pow_le_pow_right (by decide) (by decide)
      have x1 : (t + p * b).natAbs * 100 < 2 ^ A * 2 ^ 8 := by
        have : (100 : Int).natAbs = 100 := rfl
        omega
      exact Nat.lt_of_lt_of_le x1 (Nat.mul_le_mul_left _ this)
    obtain ⟨t2, b2, v, r1, r2, r3, r4, z⟩ := ih ((t + p * b) * 100) (b * (100 + h)) (A + 100) (some (.int p)) (fun q hq => hp q (List.mem_cons_of_mem _ hq)) q5 (by omega) tb (by omega) (by omega)
    refine ⟨t2, b2, v, r1, r2, r3, ?_, ?_⟩
    · rw [r4, List.foldl_cons]
      congr 1
      have hb0 : (b : Rat) ≠ 0 := fun e => by have := Rat.intCast_eq_zero_iff.mp e; omega
      have hh0 : ((100 : Rat) + h) ≠ 0 := fun e => by
        have : ((100 + h : Int) : Rat) = 0 := by rw [Rat.intCast_add]; exact e
        have := Rat.intCast_eq_zero_iff.mp this; omega
      have hr0 := one_ne (rate_nn hh)
      rw [Rat.intCast_mul, Rat.intCast_mul, Rat.intCast_add, Rat.intCast_mul, Rat.intCast_add]
      unfold rateQ at *
      have h100 : ((100 : Int) : Rat) = 100 := rfl
      rw [h100]
      grind
    · rw [← z]
      simp -implicitDefEqProofs [hg, lwB, mulD_r s1, mulD_r s2, mulD_r s3]
end Pr
set_option Elab.async false
set_option linter.all false
set_option maxRecDepth 100000
set_option maxHeartbeats 1000000
namespace Pr
open PySem PySem.Spec PyProof.Rows L2 DL
theorem wq_fold (x : Rat) : ∀ (ps : List Int), ps.foldr (fun (p : Int) (w : Rat) => ((p : Rat) + w) / x) 0 = WQ x ps
  | [] => rfl
  | p :: ps => by rw [List.foldr_cons, wq_fold x ps, WQ]
theorem diRev_obj {fe : DE} {ρ : DEnv} {S : Store} {n : Nat} {xs : List D} (h1 : fe ρ S = .ok (.obj n) S) (h2 : lstAt S n = some xs) : diRevS fe ρ S = .ok ⟨xs.reverse, grdL n xs⟩ S := by
  unfold diRevS
  rw [h1]
  simp only [Out.bind_ok]
  rw [h2]
theorem law_worth_ok {h : Int} {ps : List Int} {n : Nat} {S : Store} (hh : 0 ≤ h) (hh2 : h ≤ 9) (hl : ps.length ≤ 6) (hp : ∀ p ∈ ps, p.natAbs < 2 ^ 30) (hn : lstAt S n = some (ps.map D.int)) : M__law_worth [.obj n, .int h] S = .ok (pt (WQ (1 + rateQ h) ps)) S := by
  have hg : grdL n (ps.map D.int) S = true := grdL_iff.mpr hn
  have hb : (1 : Int) * 110 ^ ps.reverse.length < 2 ^ 60 := by
    rw [List.length_reverse]
    rcases (show ps.length = 0 ∨ ps.length = 1 ∨ ps.length = 2 ∨ ps.length = 3 ∨ ps.length = 4 ∨ ps.length = 5 ∨ ps.length = 6 by omega) with e | e | e | e | e | e | e <;> rw [e] <;> decide
  obtain ⟨t2, b2, v, r1, r2, r3, r4, z⟩ := lw_loop (d0 := some (.obj n)) hh hh2 hg ps.reverse 0 1 91 none (fun p hp2 => hp p (List.mem_reverse.mp hp2)) (by decide) hb (Nat.two_pow_pos _) (by decide) (by rw [List.length_reverse]; omega)
  have e0 : ((0 : Int) : Rat) / ((1 : Int) : Rat) = 0 := by decide +kernel
  rw [e0, List.foldl_reverse] at r4
  have e1 := wq_fold (1 + rateQ h) ps
  have e2 : (t2 : Rat) / b2 = WQ (1 + rateQ h) ps := r4.trans e1
  have ml := M_least_ok r1 (lt_up r3 (by decide)) (lt_up (m := 60) (by omega) (by decide)) S
  rw [e2] at ml
  rw [List.map_reverse] at z
  have rv := diRev_obj (fe := dVar 0) (ρ := [some (.obj n), some (.int h), some (.int 0), some (.int 1), none]) (S := S) (n := n) (xs := ps.map D.int) (by simp) hn
  unfold lwB at z
  simp -implicitDefEqProofs only [M__law_worth, e_runD, f__law_worth]
  simp -implicitDefEqProofs [startD, rv, z, ml]
theorem BLe.wq {x : Rat} (bx : BLe x 20) : ∀ (ps : List Int), (∀ p ∈ ps, p.natAbs < 2 ^ 30) → BLe (WQ x ps) (1 + 60 * ps.length)
  | [], hp => BLe.zero
  | p :: ps, hp => by
    have h1 := BLe.wq bx ps fun q hq => hp q (List.mem_cons_of_mem _ hq)
    have h2 : BLe (p : Rat) 30 := BLe.int 29 (hp p List.mem_cons_self)
    exact ((h2.add h1).div bx).up (by rw [List.length_cons]; omega)
theorem wq_one : ∀ (ps : List Int), WQ 1 ps = ((ps.sum : Int) : Rat)
  | [] => rfl
  | p :: ps => by rw [WQ, wq_one ps, List.sum_cons, Rat.intCast_add]; grind
/-- the rate j in two hundredths -/
def rq (j : Int) : Rat := Rat.divInt j 200
theorem rq_ble {j : Int} (h0 : 0 ≤ j) (h1 : j ≤ 200) : BLe (rq j) 18 := (BLe.mk (bits_sz (n := 7) (divInt_sz (by decide) (by omega) (by decide)))).up (by decide)
theorem rq_nn {j : Int} (h0 : 0 ≤ j) : 0 ≤ rq j := by
  unfold rq
  rw [divInt_div, Rat.div_def]
  exact Rat.mul_nonneg (Rat.intCast_nonneg.mpr h0) (by decide +kernel)
theorem rq_part {j : Int} (h0 : 0 ≤ j) (h1 : j ≤ 200) (S : Store) : M_part [.int j, .int 200] S = .ok (pt (rq j)) S := M_part_ok (by decide) (lt_up (m := 8) (by omega) (by decide)) (lt_up (m := 8) (by decide) (by decide)) S
theorem any_neg {n : Nat} {ps : List Int} {S : Store} (hn : lstAt S n = some (ps.map D.int)) (hp : ∀ p ∈ ps, 0 ≤ p) {ρ : DEnv} (h1 : ρ[1]? = some (some (.obj n))) : dAnyG (dVar 1) (g2 (cmpG fun i j => decide (i < j)) (fun d _ => some d) (fun _ _ => some (.int 0))) ρ S = .ok (.bl false) S := by
  have hb : ∀ qs : List Int, (∀ p ∈ qs, 0 ≤ p) → boolsG (g2 (cmpG fun i j => decide (i < j)) (fun d _ => some d) (fun _ _ => some (.int 0))) S (qs.map D.int) = some (qs.map fun _ => false) := by
    intro qs hq
    induction qs with
    | nil => rfl
    | cons q qs ih =>
      have := hq q List.mem_cons_self
      have e := ih fun y hy => hq y (List.mem_cons_of_mem _ hy)
      simp only [List.map_cons, boolsG, e, g2, cmpG]
      simp; omega
  unfold dAnyG
  rw [e_dVar, h1]
  simp only [optV_some, Out.bind_ok, seqAt_obj, hn, hb ps hp]
  simp
def roC2 : DT := (dB (dOp gtD (dOp subD (dVar 4) (dVar 3)) (dC (.int 1))))
def roB2 : DS := (dSeq (dAsg (dOp fdivD (dOp addD (dVar 3) (dVar 4)) (dC (.int 2))) (gN 5))
  (dIfS (dB (dOp geD (dCall 2 M_order (daCons (dCall 2 M_worth_now (daCons (dVar 1) (daCons (dCall 2 M_part (daCons (dVar 5) (daCons (dVar 2) daNil))) daNil))) (daCons (dTup (daCons (dVar 0) (daCons (dC (.int 1)) daNil))) daNil))) (dC (.int 0))))
  (dAsg (dVar 5) (gN 3))
  (dAsg (dVar 5) (gN 4))))
theorem cmp_ge {q r : Rat} : 0 ≤ cmpQ q r ↔ r ≤ q := by
  unfold cmpQ
  split
  · rename_i h; constructor
    · intro z; omega
    · intro z; exact absurd h (by grind)
  · rename_i h
    constructor
    · intro _; grind
    · intro _; split <;> omega
theorem cmp_gt {q r : Rat} : 0 < cmpQ q r ↔ r < q := by
  unfold cmpQ
  split
  · rename_i h; constructor
    · intro z; omega
    · intro z; exact absurd h (by grind)
  · rename_i h
    split
    · rename_i e; subst e; constructor
      · intro z; omega
      · intro z; exact absurd z h
    · rename_i e; constructor
      · intro _; grind
      · intro _; omega
section
variable {w : Int} {ps : List Int} {n : Nat} {S : Store} (hw0 : 0 < w) (hw1 : w < 2 ^ 30) (hl : ps.length ≤ 6) (hp : ∀ p ∈ ps, p.natAbs < 2 ^ 30) (hn : lstAt S n = some (ps.map D.int))
include hw0 hw1 hl hp hn
theorem ord_at {j : Int} (h0 : 0 ≤ j) (h1 : j ≤ 200) : M_order [pt (WQ (1 + rq j) ps), pt (w : Rat)] S = .ok (.int (cmpQ (WQ (1 + rq j) ps) (w : Rat))) S :=
  C_order (((BLe.one.add (rq_ble h0 h1)).wq ps hp).up (by omega)) ((BLe.int 29 (by omega)).up (by decide))
theorem ro_loop {u6 : Option D} : ∀ (N e : Nat) (lo hi : Int) (u : Option D), 0 ≤ lo → lo < hi → hi ≤ 200 → (hi - lo).toNat ≤ N + 1 → (w : Rat) ≤ WQ (1 + rq lo) ps → WQ (1 + rq hi) ps ≤ (w : Rat) →
    ∃ lo2 hi2 v5, 0 ≤ lo2 ∧ lo2 < hi2 ∧ hi2 ≤ 200 ∧ (w : Rat) ≤ WQ (1 + rq lo2) ps ∧ WQ (1 + rq hi2) ps ≤ (w : Rat) ∧
      whileD roC2 roB2 (N + 1 + e) [some (.int w), some (.obj n), some (.int 200), some (.int lo), some (.int hi), u, u6] S = .nx [some (.int w), some (.obj n), some (.int 200), some (.int lo2), some (.int hi2), v5, u6] S := by
  have s2 : (2 : Int).natAbs < 18446744073709551616 := by decide
  intro N
  induction N with
  | zero =>
    intro e lo hi u h0 h1 h2 h3 h4 h5
    have c : ¬ 1 < hi - lo := by omega
    refine ⟨lo, hi, u, h0, h1, h2, h4, h5, ?_⟩
    rw [show 0 + 1 + e = e + 1 by omega, whileD_go]
    simp -implicitDefEqProofs [roC2, c]
  | succ N ih =>
    intro e lo hi u h0 h1 h2 h3 h4 h5
    rw [show N + 1 + 1 + e = (N + 1 + e) + 1 by omega, whileD_go]
    by_cases c : 1 < hi - lo
    · have a1 : 0 ≤ (lo + hi) / 2 := by omega
      have a2 : (lo + hi) / 2 ≤ 200 := by omega
      have t1 := rq_part a1 a2 S
      have t2 := worth_ok (rq_nn a1) (rq_ble a1 a2) hl hp hn
      have t3 := ord_at hw0 hw1 hl hp hn a1 a2
      by_cases d : (w : Rat) ≤ WQ (1 + rq ((lo + hi) / 2)) ps
      · have d2 := cmp_ge.mpr d
        obtain ⟨lo2, hi2, v5, r1, r2, r3, r4, r5, z⟩ := ih e ((lo + hi) / 2) hi (some (.int ((lo + hi) / 2))) a1 (by omega) h2 (by omega) d h5
        refine ⟨lo2, hi2, v5, r1, r2, r3, r4, r5, ?_⟩
        rw [← z]
        simp -implicitDefEqProofs [roC2, roB2, c, fdiv_small (show (0 : Int) < 2 by decide) s2, t1, t2, tup_int, t3, d2]
      · have d2 : ¬ 0 ≤ cmpQ (WQ (1 + rq ((lo + hi) / 2)) ps) (w : Rat) := fun z => d (cmp_ge.mp z)
        obtain ⟨lo2, hi2, v5, r1, r2, r3, r4, r5, z⟩ := ih e lo ((lo + hi) / 2) (some (.int ((lo + hi) / 2))) h0 (by omega) a2 (by omega) h4 (by grind)
        refine ⟨lo2, hi2, v5, r1, r2, r3, r4, r5, ?_⟩
        rw [← z]
        simp -implicitDefEqProofs [roC2, roB2, c, fdiv_small (show (0 : Int) < 2 by decide) s2, t1, t2, tup_int, t3, d2]
    · refine ⟨lo, hi, u, h0, h1, h2, h4, h5, ?_⟩
      simp -implicitDefEqProofs [roC2, c]
theorem rate_of_ok (hp0 : ∀ p ∈ ps, 0 ≤ p) (hs : w ≤ ps.sum) (h1 : WQ 2 ps ≤ (w : Rat)) :
    ∃ lo hi : Int, 0 ≤ lo ∧ lo < hi ∧ hi ≤ 200 ∧ (w : Rat) ≤ WQ (1 + rq lo) ps ∧ WQ (1 + rq hi) ps ≤ (w : Rat) ∧ M_rate_of [.int w, .obj n, .int 200] S = .ok (.tup [pt (rq lo), pt (rq hi)]) S := by
  have e1 : (1 : Rat) + rq 200 = 2 := by decide +kernel
  have e0 : (1 : Rat) + rq 0 = 1 := by decide +kernel
  have i0 : (w : Rat) ≤ WQ (1 + rq 0) ps := by rw [e0, wq_one]; exact Rat.intCast_le_intCast.mpr hs
  have i1 : WQ (1 + rq 200) ps ≤ (w : Rat) := by rw [e1]; exact h1
  obtain ⟨lo, hi, v5, r1, r2, r3, r4, r5, z⟩ := ro_loop hw0 hw1 hl hp hn (u6 := none) 300 999699 0 200 none (by decide) (by decide) (by decide) (by decide) i0 i1
  refine ⟨lo, hi, r1, r2, r3, r4, r5, ?_⟩
  rw [show 300 + 1 + 999699 = fuel from rfl] at z
  have t1 := rq_part (j := 200) (by decide) (by decide) S
  have t2 := worth_ok (rq_nn (j := 200) (by decide)) (rq_ble (j := 200) (by decide) (by decide)) hl hp hn
  have t3 := ord_at hw0 hw1 hl hp hn (j := 200) (by decide) (by decide)
  have d2 : ¬ 0 < cmpQ (WQ (1 + rq 200) ps) (w : Rat) := fun z => absurd (cmp_gt.mp z) (by grind)
  have p1 := rq_part r1 (by omega) S
  have p2 := rq_part (j := hi) (by omega) r3 S
  have n1 : ¬ w < 1 := by omega
  have n2 : ¬ ps.sum < w := by omega
  have an := any_neg hn hp0 (ρ := [some (.int w), some (.obj n), some (.int 200), none, none, none, none]) rfl
  have wh : ∀ f : DS, whileD (dB (dOp gtD (dCall 2 M_order (daCons (dCall 2 M_worth_now (daCons (dVar 1) (daCons (dCall 2 M_part (daCons (dVar 4) (daCons (dVar 2) daNil))) daNil))) (daCons (dTup (daCons (dVar 0) (daCons (dC (.int 1)) daNil))) daNil))) (dC (.int 0)))) f fuel [some (.int w), some (.obj n), some (.int 200), some (.int 0), some (.int 200), none, none] S = .nx [some (.int w), some (.obj n), some (.int 200), some (.int 0), some (.int 200), none, none] S := by
    intro f
    rw [show fuel = 999999 + 1 from rfl, whileD_go]
    simp -implicitDefEqProofs [t1, t2, tup_int, t3, d2]
  unfold roC2 roB2 at z
  simp -implicitDefEqProofs only [M_rate_of, e_runD, f_rate_of]
  simp -implicitDefEqProofs [startD, n1, n2, an, hn, wh, z, p1, p2]
end
end Pr
set_option Elab.async false
set_option linter.all false
set_option maxRecDepth 100000
set_option maxHeartbeats 1000000
namespace Pr
open PySem PySem.Spec PyProof.Rows L2 DL
theorem i100 : ((100 : Int) : Rat) = 100 := rfl
theorem grown_ok {h w : Int} (hh : 0 ≤ h) (hh2 : h ≤ 9) (hw : 0 < w) (hw2 : w < 2 ^ 30) (S : Store) : M_grown [.int w, pt (rateQ h), .int 3] S = .ok (pt (((w * (100 + h) * (100 + h) * (100 + h) : Int) : Rat) / ((1000000 : Int) : Rat))) S := by
  have br := BLe.rate hh hh2
  have b1 : BLe (1 + rateQ h) 13 := BLe.one.add br
  have bw : BLe (w : Rat) 30 := BLe.int 29 (by omega)
  have a1 := C_add (S := S) (BLe.one.up (k := 4000) (by decide)) (br.up (k := 4000) (by decide))
  have b2 := bw.mul b1
  have b3 := b2.mul b1
  have t1 := C_times (S := S) (bw.up (k := 4000) (by decide)) (b1.up (k := 4000) (by decide))
  have t2 := C_times (S := S) (b2.up (k := 4000) (by decide)) (b1.up (k := 4000) (by decide))
  have t3 := C_times (S := S) (b3.up (k := 4000) (by decide)) (b1.up (k := 4000) (by decide))
  have e : (w : Rat) * (1 + rateQ h) * (1 + rateQ h) * (1 + rateQ h) = ((w * (100 + h) * (100 + h) * (100 + h) : Int) : Rat) / ((1000000 : Int) : Rat) := by
    rw [Rat.intCast_mul, Rat.intCast_mul, Rat.intCast_mul, Rat.intCast_add, i100, show ((1000000 : Int) : Rat) = 1000000 from rfl]
    unfold rateQ
    grind
  rw [← e]
  simp -implicitDefEqProofs only [M_grown, e_runD, f_grown]
  simp -implicitDefEqProofs [startD, tup_11, tup_int, a1, t1, t2, t3]
theorem year_ok {h : Int} (hh : 0 ≤ h) (hh2 : h ≤ 9) (S : Store) : M_year_rate [pt (rateQ h), .int 2] S = .ok (pt (((2 * h * 100 + h * h : Int) : Rat) / ((10000 : Int) : Rat))) S := by
  have br := BLe.rate hh hh2
  have b1 : BLe (1 + rateQ h) 13 := BLe.one.add br
  have a1 := C_add (S := S) (BLe.one.up (k := 4000) (by decide)) (br.up (k := 4000) (by decide))
  have b3 := b1.mul b1
  have bm : BLe (-1 : Rat) 1 := ⟨by decide⟩
  have t1 := C_times (S := S) (BLe.one.up (k := 4000) (by decide)) (b1.up (k := 4000) (by decide))
  rw [Rat.one_mul] at t1
  have t2 := C_times (S := S) (b1.up (k := 4000) (by decide)) (b1.up (k := 4000) (by decide))
  have t3 := C_add (S := S) (b3.up (k := 4000) (by decide)) (bm.up (k := 4000) (by decide))
  have e : (1 + rateQ h) * (1 + rateQ h) + (-1 : Rat) = ((2 * h * 100 + h * h : Int) : Rat) / ((10000 : Int) : Rat) := by
    rw [Rat.intCast_add, Rat.intCast_mul, Rat.intCast_mul, Rat.intCast_mul, i100, show ((10000 : Int) : Rat) = 10000 from rfl, show ((2 : Int) : Rat) = 2 from rfl]
    unfold rateQ
    grind
  rw [← e]
  have hm : D.tup [.int (-1), .int 1] = pt (-1 : Rat) := rfl
  simp -implicitDefEqProofs only [M_year_rate, e_runD, f_year_rate]
  simp -implicitDefEqProofs [startD, tup_11, hm, a1, t1, t2, t3]
theorem day_ok {h w : Int} (hh : 0 ≤ h) (hh2 : h ≤ 9) (hw : 0 < w) (hw2 : w < 2 ^ 30) (S : Store) : M_day_interest [.int w, pt (rateQ h), .int 0, .int 360] S = .ok (.int 0) S := by
  have br := BLe.rate hh hh2
  have bw : BLe (w : Rat) 30 := BLe.int 29 (by omega)
  have t1 := C_times (S := S) (bw.up (k := 4000) (by decide)) (br.up (k := 4000) (by decide))
  have p := M_part_ok (t := 0) (b := 360) (by decide) (Nat.two_pow_pos _) (lt_up (m := 9) (by decide) (by decide)) S
  have e0 : Rat.divInt 0 360 = 0 := by decide +kernel
  rw [e0] at p
  have t2 := C_times (S := S) ((bw.mul br).up (k := 4000) (by decide)) (BLe.zero.up (k := 4000) (by decide))
  have e1 : (w : Rat) * rateQ h * 0 = 0 := by grind
  rw [e1] at t2
  have r := rounded_half (q := 0) (by decide) (sz_bits (BLe.zero.up (k := 4000) (by decide)).le) S
  have e2 : (2 * (0 : Rat).num + ((0 : Rat).den : Int)) / (2 * ((0 : Rat).den : Int)) = 0 := by decide +kernel
  rw [e2] at r
  simp -implicitDefEqProofs only [M_day_interest, e_runD, f_day_interest]
  simp -implicitDefEqProofs [startD, tup_int, t1, p, t2, r]
/-! ### what the plan pays -/
theorem wq2_le {h P : Int} (hh : 0 ≤ h) (hh2 : h ≤ 9) (hP : 0 ≤ P) : ∀ (n : Nat) (l : Int), 0 ≤ l → LB h P n l ≤ 0 → WQ 2 (col2 h l (offs h P n l)) ≤ (l : Rat)
  | 0, l, hl, e => by rw [offs, col2, WQ]; exact Rat.intCast_nonneg.mpr hl
  | n + 1, l, hl, e => by
    obtain ⟨a, _, b⟩ := fin_step hh hP hl e
    have ih := wq2_le hh hh2 hP n _ a b
    have il : ((inI h l : Int) : Rat) ≤ (l : Rat) := Rat.intCast_le_intCast.mpr (inI_le hh hh2 hl)
    rw [offs, col2, WQ, Rat.intCast_add]
    rw [Rat.intCast_sub] at ih
    generalize WQ 2 (col2 h (l - offP h P l) (offs h P n (l - offP h P l))) = W at *
    generalize ((offP h P l : Int) : Rat) = o at *
    generalize ((inI h l : Int) : Rat) = i at *
    generalize (l : Rat) = L at *
    grind
theorem col0_nn {h : Int} (hh : 0 ≤ h) : ∀ (os : List Int) (l : Int), Nn l os → 0 ≤ (col0 h l os).sum
  | [], l, hn => by simp [col0]
  | o :: os, l, hn => by
    rw [col0, List.sum_cons]
    have := inI_nn hh hn.1.1
    have := col0_nn hh os _ hn.2
    omega
theorem col2_nn {h w P : Int} (hh : 0 ≤ h) (hp : inI h w < P) : ∀ (n : Nat) (l : Int), 0 ≤ l → l ≤ w → ∀ p ∈ col2 h l (offs h P n l), 0 ≤ p
  | 0, l, hl, hlw => fun p hp2 => nomatch hp2
  | n + 1, l, hl, hlw => fun p hp2 => by
    obtain ⟨a, b, c⟩ := off_nn hh hl hlw hp
    have := inI_nn hh hl
    rcases List.mem_cons.mp hp2 with rfl | hp2
    · omega
    · exact col2_nn hh hp n _ (by omega) (by omega) p hp2
theorem col2_len (h : Int) : ∀ (os : List Int) (l : Int), (col2 h l os).length = os.length
  | [], l => rfl
  | o :: os, l => by rw [col2, List.length_cons, col2_len h os, List.length_cons]
theorem worths_ok {h w P : Int} {m : Nat} (L : Loan h w m) (E : EP h w m P) (S : Store) : ∃ T, M__law_worths [.int w, .int h, pt (rateQ h), .tup (planR h P w m)] S = .ok (.bl true) (S ++ T) := by
  have w0 := L.w0
  have w1 := L.w1
  have m6 := L.m6
  have h0 := L.h0
  have h9 := L.h9
  have up := E.up L
  have i1 := inI_le L.h0 L.h9 (Int.le_of_lt L.w0)
  have nnp := col2_nn (w := w) L.h0 (E.low L) m w (Int.le_of_lt w0) (Int.le_refl _)
  have lep := col2_le (h := h) (P := P) m w
  have ll : (col2 h w (offs h P m w)).length ≤ 6 := by rw [col2_len, offs_len]; exact m6
  have ss : w ≤ (col2 h w (offs h P m w)).sum := by
    rw [col2_sum, fin_sum L.h0 E.p0 m w (Int.le_of_lt w0) E.le]
    have := col0_nn L.h0 _ _ (fin_nn L.h0 L.h9 E.p0 m w (Int.le_of_lt w0) L.big E.le)
    omega
  have wq := wq2_le L.h0 L.h9 E.p0 m w (Int.le_of_lt w0) E.le
  have col : colE 3 10 2 [some (.int w), some (.int h), some (pt (rateQ h)), some (.tup (planR h P w m)), none, none, none, none, none, none, none] S = .ok (.obj S.length) (S ++ [.lst ((col2 h w (offs h P m w)).map D.int)]) := col_2 rfl (by simp) (by rw [offs_len]; omega) S
  unfold colE at col
  generalize col2 h w (offs h P m w) = ps at *
  have hp : ∀ p ∈ ps, p.natAbs < 2 ^ 30 := fun p hx => by have := nnp p hx; have := lep p hx; omega
  have hn : lstAt (S ++ [.lst (ps.map D.int)]) S.length = some (ps.map D.int) := by simp
  generalize hS1 : S ++ [.lst (ps.map D.int)] = S1 at *
  have t1 := worth_ok (rate_nn L.h0) ((BLe.rate L.h0 L.h9).up (by decide)) ll hp hn
  have t2 := law_worth_ok L.h0 L.h9 ll hp hn
  obtain ⟨lo, hi, r1, r2, r3, r4, r5, t3⟩ := rate_of_ok w0 (by omega) ll hp hn nnp ss wq
  have t4 := worth_ok (rq_nn r1) (rq_ble r1 (by omega)) ll hp hn
  have t5 := worth_ok (rq_nn (j := hi) (by omega)) (rq_ble (by omega) r3) ll hp hn
  have t6 := ord_at w0 (by omega) ll hp hn r1 (by omega)
  have t7 := ord_at w0 (by omega) ll hp hn (j := hi) (by omega) r3
  have c1 : ¬ cmpQ (WQ (1 + rq lo) ps) (w : Rat) < 0 := Int.not_lt.mpr (cmp_ge.mpr r4)
  have c2 : ¬ 0 < cmpQ (WQ (1 + rq hi) ps) (w : Rat) := fun z => absurd (cmp_gt.mp z) (by grind)
  have ql : rq lo < rq hi := by
    unfold rq
    rw [divInt_div, divInt_div]
    have : (lo : Rat) < (hi : Rat) := Rat.intCast_lt_intCast.mpr r2
    rw [show ((200 : Int) : Rat) = 200 from rfl]
    grind
  have ql2 := (Rat.lt_iff _ _).mp ql
  have c3 : ¬ (rq hi).num * ((rq lo).den : Int) - (rq lo).num * ((rq hi).den : Int) ≤ 0 := by omega
  have z1 := sz_bits (rq_ble r1 (show lo ≤ 200 by omega)).le
  have z2 := sz_bits (rq_ble (show 0 ≤ hi by omega) r3).le
  have d1 : (((rq lo).den : Int)).natAbs < 18446744073709551616 := by have := z1.2; omega
  have d2 : (((rq hi).den : Int)).natAbs < 18446744073709551616 := by have := z2.2; omega
  have s100 : (100 : Int).natAbs < 18446744073709551616 := by decide
  have sh : h.natAbs < 18446744073709551616 := by omega
  have sh2 : (100 + h).natAbs < 18446744073709551616 := by omega
  have g1 := grown_ok h0 h9 w0 (by omega) S1
  have g2 := year_ok h0 h9 S1
  have g3 := day_ok h0 h9 w0 (by omega) S1
  have b1 : w * (100 + h) * (100 + h) * (100 + h) ≤ 501 * 109 * 109 * 109 := by
    have x1 : w * (100 + h) ≤ 501 * 109 := Int.mul_le_mul w1 (by omega) (by omega) (by omega)
    have x2 : w * (100 + h) * (100 + h) ≤ 501 * 109 * 109 := Int.mul_le_mul x1 (by omega) (by omega) (by omega)
    exact Int.mul_le_mul x2 (by omega) (by omega) (by omega)
  have b2 : 0 ≤ w * (100 + h) * (100 + h) * (100 + h) := Int.mul_nonneg (Int.mul_nonneg (Int.mul_nonneg (by omega) (by omega)) (by omega)) (by omega)
  have b3 : h * h ≤ 9 * 9 := Int.mul_le_mul h9 h9 h0 (by omega)
  have b4 : 0 ≤ h * h := Int.mul_nonneg h0 h0
  have l1 := M_least_ok (t := w * (100 + h) * (100 + h) * (100 + h)) (b := 1000000) (by decide) (lt_up (m := 60) (by omega) (by decide)) (lt_up (m := 60) (by decide) (by decide)) S1
  have l2 := M_least_ok (t := 2 * h * 100 + h * h) (b := 10000) (by decide) (lt_up (m := 60) (by omega) (by decide)) (lt_up (m := 60) (by decide) (by decide)) S1
  refine ⟨[.lst (ps.map D.int)], ?_⟩
  rw [hS1]
  simp -implicitDefEqProofs only [M__law_worths, e_runD, f__law_worths]
  simp -implicitDefEqProofs [-e_dLc, startD, col, t1, t2, t3, t4, t5, tup_int, t6, t7, c1, c2, mulD_r d1, mulD_r d2, c3, mulD_r s100, mulD_r sh, mulD_r sh2, g1, g2, g3, l1, l2]
end Pr
set_option Elab.async false
set_option linter.all false
set_option maxRecDepth 100000
set_option maxHeartbeats 1000000
namespace Pr
open PySem PySem.Spec PyProof.Rows L2 DL
/-- what is laid by -/
def laidA (h y : Int) : Nat → Int
  | 0 => 0
  | k + 1 => laidA h y k + (inI h (laidA h y k) + y)
theorem laid_ge {h y : Int} (hh : 0 ≤ h) (hy : 5 ≤ y) : ∀ k : Nat, 5 * (k : Int) ≤ laidA h y k
  | 0 => by rw [laidA]; omega
  | k + 1 => by
    have ih := laid_ge hh hy k
    have := inI_nn hh (show 0 ≤ laidA h y k by omega)
    rw [laidA]; omega
def ttB : DS :=
  (dSeq (dIfS (dB (dOp geD (dVar 5) (dVar 0)))
  (dRet (dVar 6))
  dNext)
  (dAug 5 iaddD (dOp addD (dCall 2 M_interest (daCons (dVar 5) (daCons (dVar 3) daNil))) (dVar 2))))
theorem tt_loop {h y g : Int} {d1 d4 : Option D} {S : Store} (hh : 0 ≤ h) (hh2 : h ≤ 9) (hy : 5 ≤ y) (hg : g < 100000) : ∀ (n k : Nat) (u : Option D), (∀ j : Nat, j < k → laidA h y j < g) → g ≤ laidA h y (k + n) →
    ∃ c : Nat, c ≤ k + n ∧ g ≤ laidA h y c ∧ (∀ j : Nat, j < c → laidA h y j < g) ∧ forD grdT (gN 6) ttB (rngD (k : Int) 1 (n + 1)) [some (.int g), d1, some (.int y), some (pt (rateQ h)), d4, some (.int (laidA h y k)), u] S = .rt (.int (c : Int)) S := by
  intro n
  induction n with
  | zero =>
    intro k u h1 h2
    refine ⟨k, by omega, h2, h1, ?_⟩
    have h2 : g ≤ laidA h y k := h2
    rw [rngD_succ]
    simp -implicitDefEqProofs [ttB, h2]
  | succ n ih =>
    intro k u h1 h2
    rw [rngD_succ]
    by_cases c : g ≤ laidA h y k
    · refine ⟨k, by omega, c, h1, ?_⟩
      simp -implicitDefEqProofs [ttB, c]
    · have l0 := laid_ge hh hy k
      have t := interest_ok hh hh2 (show 0 ≤ laidA h y k by omega) (by omega) S
      obtain ⟨q, q1, q2, q3, z⟩ := ih (k + 1) (some (.int (k : Int))) (fun j hj => by
        by_cases e : j = k
        · rw [e]; omega
        · exact h1 j (by omega)) (by rw [show k + 1 + n = k + (n + 1) by omega]; exact h2)
      refine ⟨q, by omega, q2, q3, ?_⟩
      have ek : ((k + 1 : Nat) : Int) = (k : Int) + 1 := by omega
      rw [← z, ek, laidA]
      simp -implicitDefEqProofs [ttB, c, t]
theorem till_ok {h y g : Int} (hh : 0 ≤ h) (hh2 : h ≤ 9) (hy : 5 ≤ y) (hg : g ≤ 200) : ∃ c : Nat, c ≤ 99 ∧ g ≤ laidA h y c ∧ (∀ j : Nat, j < c → laidA h y j < g) ∧ ∀ S : Store, M_times_till [.int g, .int 0, .int y, pt (rateQ h), .int 99] S = .ok (.int (c : Int)) S := by
  have top : g ≤ laidA h y (0 + 99) := by
    have := laid_ge hh hy 99
    rw [Nat.zero_add]; omega
  have key : ∀ S : Store, ∃ c : Nat, c ≤ 99 ∧ g ≤ laidA h y c ∧ (∀ j : Nat, j < c → laidA h y j < g) ∧ M_times_till [.int g, .int 0, .int y, pt (rateQ h), .int 99] S = .ok (.int (c : Int)) S := by
    intro S
    obtain ⟨c, q1, q2, q3, z⟩ := tt_loop (d1 := some (.int 0)) (d4 := some (.int 99)) (S := S) hh hh2 hy (show g < 100000 by omega) 99 0 none (fun j hj => absurd hj (by omega)) top
    refine ⟨c, by omega, q2, q3, ?_⟩
    rw [laidA] at z
    unfold ttB at z
    simp -implicitDefEqProofs only [M_times_till, e_runD, f_times_till]
    simp -implicitDefEqProofs [startD]
    erw [z]
    simp -implicitDefEqProofs
  obtain ⟨c, q1, q2, q3, _⟩ := key []
  refine ⟨c, q1, q2, q3, fun S => ?_⟩
  obtain ⟨c', p1, p2, p3, z⟩ := key S
  have : c' = c := by
    rcases Nat.lt_trichotomy c' c with e | e | e
    · have := q3 c' e; omega
    · exact e
    · have := p3 c e; omega
  rw [this] at z
  exact z
def ldB : DS := (dDrop (dApp (dVar 6) (dOp addD (dOp addD (dOp ixD (dVar 6) (dVar 7)) (dOp fdivD (dOp addD (dOp mulD (dOp mulD (dC (.int 2)) (dOp ixD (dVar 6) (dVar 7))) (dVar 1)) (dC (.int 100))) (dC (.int 200)))) (dVar 4))))
def accA (h y : Int) (k : Nat) : List D := (List.range (k + 1)).map fun j => D.int (laidA h y j)
theorem acc_at {h y : Int} {k j : Nat} (hj : j ≤ k) : atI (accA h y k) (j : Int) = some (.int (laidA h y j)) := by
  rw [DL.atI_nat]
  unfold accA
  rw [List.getElem?_map, List.getElem?_range (by omega)]
  rfl
theorem acc_len {h y : Int} {k : Nat} : (accA h y k).length = k + 1 := by simp [accA]
theorem acc_succ {h y : Int} {k : Nat} : accA h y (k + 1) = accA h y k ++ [.int (laidA h y (k + 1))] := by
  unfold accA
  rw [List.range_succ, List.map_append]
  rfl
theorem ld_loop {h y : Int} {d0 d2 d3 d5 : Option D} {S : Store} (hh : 0 ≤ h) (hh2 : h ≤ 9) : ∀ (n k : Nat) (u : Option D), k + n < 1000 →
    ∃ v, forD grdT (gN 7) ldB (rngD (k : Int) 1 n) [d0, some (.int h), d2, d3, some (.int y), d5, some (.obj S.length), u] (S ++ [.lst (accA h y k)]) = .nx [d0, some (.int h), d2, d3, some (.int y), d5, some (.obj S.length), v] (S ++ [.lst (accA h y (k + n))]) := by
  have s2 : (2 : Int).natAbs < 18446744073709551616 := by decide
  have s200 : (200 : Int).natAbs < 18446744073709551616 := by decide
  have sh : h.natAbs < 18446744073709551616 := by omega
  intro n
  induction n with
  | zero => intro k u hk; exact ⟨u, by simp⟩
  | succ n ih =>
    intro k u hk
    obtain ⟨v, z⟩ := ih (k + 1) (some (.int (k : Int))) (by omega)
    refine ⟨v, ?_⟩
    have ek : ((k + 1 : Nat) : Int) = (k : Int) + 1 := by omega
    have a := acc_at (h := h) (y := y) (Nat.le_refl k)
    have al : (accA h y k).length < 1000000 := by rw [acc_len]; omega
    have e1 : laidA h y k + (2 * laidA h y k * h + 100) / 200 + y = laidA h y (k + 1) := by rw [laidA]; unfold inI; omega
    rw [rngD_succ, show k + (n + 1) = k + 1 + n by omega, ← z, ek, acc_succ]
    simp -implicitDefEqProofs [ldB, a, mulD_l s2, mulD_r sh, fdiv_small (show (0 : Int) < 200 by decide) s200, al, e1]
theorem laid_ok {h : Int} {n : Nat} (hh : 0 ≤ h) (hh2 : h ≤ 9) {S : Store} (hd : DiceAt S n) : ∃ S', M__law_laid [.obj n, .int h, pt (rateQ h)] S = .ok (.bl true) S' ∧ Kp n S S' ∧ DiceAt S' n := by
  obtain ⟨g, S1, g1, e1, kp1, d1⟩ := roll hd (show (0 : Int) < 100 by decide) (by decide)
  obtain ⟨y, S2, y1, e2, kp2, d2⟩ := roll d1 (show (0 : Int) < 9 by decide) (by decide)
  obtain ⟨c, q1, q2, q3, t⟩ := till_ok (y := 5 + (y : Int)) (g := 100 + (g : Int)) hh hh2 (by omega) (by omega)
  obtain ⟨v, z⟩ := ld_loop (h := h) (y := 5 + (y : Int)) (d0 := some (.obj n)) (d2 := some (pt (rateQ h))) (d3 := some (.int (100 + (g : Int)))) (d5 := some (.int (c : Int))) (S := S2) hh hh2 c 0 none (by omega)
  rw [show accA h (5 + (y : Int)) 0 = [.int 0] from rfl, Nat.zero_add] at z
  have rg : -1000000000000 ≤ (c : Int) ∧ (c : Int) ≤ 1000000000000 := by omega
  have ac := acc_at (h := h) (y := 5 + (y : Int)) (Nat.le_refl c)
  have n1 : ¬ laidA h (5 + (y : Int)) c < 100 + (g : Int) := by omega
  refine ⟨S2 ++ [.lst (accA h (5 + (y : Int)) c)], ?_, (kp1.trans kp2).trans Kp.app, d2.app⟩
  unfold ldB at z
  simp -implicitDefEqProofs only [M__law_laid, e_runD, f__law_laid]
  by_cases c0 : c = 0
  · subst c0
    have := q2
    rw [laidA] at this
    omega
  · have c1 : (0 : Int) < (c : Int) := by omega
    have ec : (c : Int) - 1 = ((c - 1 : Nat) : Int) := by omega
    have ac2 := acc_at (h := h) (y := 5 + (y : Int)) (show c - 1 ≤ c by omega)
    have n2 : ¬ 100 + (g : Int) ≤ laidA h (5 + (y : Int)) (c - 1) := by have := q3 (c - 1) (by omega); omega
    simp -implicitDefEqProofs [startD, e1, e2, t, rg]
    erw [z]
    simp -implicitDefEqProofs [ac, n1, c0, ec, ac2, n2]
end Pr
set_option Elab.async false
set_option linter.all false
set_option maxRecDepth 100000
set_option maxHeartbeats 1000000
namespace Pr
open PySem PySem.Spec PyProof.Rows L2 DL
theorem part_rate {h : Int} (hh : 0 ≤ h) (hh2 : h ≤ 9) (S : Store) : M_part [.int h, .int 100] S = .ok (pt (rateQ h)) S := by
  have p := M_part_ok (t := h) (b := 100) (by decide) (lt_up (m := 9) (by omega) (by decide)) (lt_up (m := 9) (by decide) (by decide)) S
  rw [p, divInt_div]
  rfl
/-! ### offers -/
def offD (h t p : Int) : D := .tup [pt (rateQ h), .int t, .int p]
def offE : DE := (dTup (daCons (dCall 2 M_part (daCons (dCall 2 M__law_roll (daCons (dVar 0) (daCons (dC (.int 10)) daNil))) (daCons (dC (.int 100)) daNil))) (daCons (dOp addD (dC (.int 1)) (dCall 2 M__law_roll (daCons (dVar 0) (daCons (dC (.int 4)) daNil)))) (daCons (dCall 2 M__law_roll (daCons (dVar 0) (daCons (dC (.int 20)) daNil))) daNil))))
def OffP (y : D) : Prop := ∃ (h : Int) (m : Nat) (p : Int), (0 ≤ h ∧ h ≤ 9) ∧ (1 ≤ m ∧ m ≤ 6) ∧ y = offD h (m : Int) p
theorem offer_step {n : Nat} {S : Store} (hd : DiceAt S n) (x1 x2 x3 x4 x5 x6 x7 x8 : Option D) : ∃ y S', offE [some (.obj n), x1, x2, x3, x4, x5, x6, x7, x8] S = .ok y S' ∧ OffP y ∧ Kp n S S' ∧ DiceAt S' n := by
  obtain ⟨a, S1, a1, e1, k1, d1⟩ := roll hd (show (0 : Int) < 10 by decide) (by decide)
  obtain ⟨b, S2, b1, e2, k2, d2⟩ := roll d1 (show (0 : Int) < 4 by decide) (by decide)
  obtain ⟨c, S3, c1, e3, k3, d3⟩ := roll d2 (show (0 : Int) < 20 by decide) (by decide)
  have p := part_rate (h := (a : Int)) (by omega) (by omega) S1
  refine ⟨offD (a : Int) ((1 + b : Nat) : Int) (c : Int), S3, ?_, ⟨a, 1 + b, c, by omega, by omega, rfl⟩, (k1.trans k2).trans k3, d3⟩
  simp -implicitDefEqProofs [offE, e1, p, e2, e3, offD]
theorem offers_ok {n : Nat} {w : Int} {S : Store} (hd : DiceAt S n) : ∃ y0 y1 y2 S', dLc (diRange1 (dC (.int 3))) (gN 4) dYes offE [4] [some (.obj n), some (.int w), none, none, none, none, none, none, none] S = .ok (.obj S.length) S' ∧ OffP y0 ∧ OffP y1 ∧ OffP y2 ∧ lstAt S' S.length = some [y0, y1, y2] ∧ Kp n S S' ∧ DiceAt S' n := by
  obtain ⟨ys, S', q1, q2, q3, q4, q5⟩ := dLc_inv (n := n) (S := S) (S0 := S) (grd := grdT) (fi := diRange1 (dC (.int 3))) (tg := gN 4) (fe := offE) (vs := [4]) (ρ := [some (.obj n), some (.int w), none, none, none, none, none, none, none]) (ds := [.int 0, .int 1, .int 2]) (P := fun _ y => OffP y) (by simp) (fun _ _ => rfl) hd (by simp) (fun d hx S k hd => by
    obtain ⟨y, S', e, p, k', d'⟩ := offer_step hd (some (.int w)) none none (some d) none none none none
    exact ⟨_, y, S', rfl, e, p, k', d'⟩)
  match ys, q2 with
  | [y0, y1, y2], ⟨p0, p1, p2, _⟩ => exact ⟨y0, y1, y2, S', q1, p0, p1, p2, q3, q4, q5⟩
/-! ### what an offer costs -/
structure Cost (w : Int) (y : D) (c p : Int) (R : List D) (cs : List Int) : Prop where
  ex : ∃ (h : Int) (m : Nat), y = .tup [pt (rateQ h), .int (m : Int), .int p] ∧ (∀ S : Store, M_plan [.int w, pt (rateQ h), .int (m : Int)] S = .ok (.tup R) (S ++ [.lst R])) ∧ ∃ l os, R = rowsOf h l os ∧ cs = col2 h l os ∧ os.length < 1000
  c_ : c = p + cs.sum
theorem cost_of {w : Int} (w0 : 0 < w) (w1 : w ≤ 501) {y : D} (h : OffP y) : ∃ c p R cs, Cost w y c p R cs := by
  obtain ⟨h, m, p, hh, mm, rfl⟩ := h
  have L : Loan h w m := ⟨hh.1, hh.2, w0, w1, mm.1, mm.2⟩
  obtain ⟨P, E, hE⟩ := even_ok L
  exact ⟨_, p, planR h P w m, col2 h w (offs h P m w), ⟨h, m, rfl, plan_ok L E hE, w, _, rfl, rfl, by rw [offs_len]; omega⟩, rfl⟩
def costE : DE := (dOp addD (dVar 7) (dBlt sumLD (daCons (dLc (diSeq (dCall 3 M_plan (daCons (dVar 1) (daCons (dVar 5) (daCons (dVar 6) daNil))))) (gN 8) dYes (dOp ixD (dVar 8) (dC (.int 2))) [8]) daNil)))
def costT : DG := (gT 3 (gsCons (gN 5) (gsCons (gN 6) (gsCons (gN 7) gsNil))))
theorem cost_step {w c p : Int} {y : D} {R : List D} {cs : List Int} (C : Cost w y c p R cs) (x0 x2 x3 x4 x5 x6 x7 : Option D) (S : Store) : ∃ ρ, costT y [x0, some (.int w), x2, x3, x4, x5, x6, x7, none] S = .nx ρ S ∧ ∀ S, costE ρ S = .ok (.int c) (S ++ [.lst R, .lst (cs.map D.int)]) := by
  obtain ⟨⟨h, m, rfl, pl, l, os, rfl, rfl, ol⟩, rfl⟩ := C
  refine ⟨[x0, some (.int w), x2, x3, x4, some (pt (rateQ h)), some (.int (m : Int)), some (.int p), none], by simp -implicitDefEqProofs [costT], fun S => ?_⟩
  have col : dLc (diSeq (dCall 3 M_plan (daCons (dVar 1) (daCons (dVar 5) (daCons (dVar 6) daNil))))) (gN 8) dYes (dOp ixD (dVar 8) (dC (.int 2))) [8] [x0, some (.int w), x2, x3, x4, some (pt (rateQ h)), some (.int (m : Int)), some (.int p), none] S = .ok (.obj (S.length + 1)) (S ++ [.lst (rowsOf h l os), .lst ((col2 h l os).map D.int)]) := by
    have := dLc_map (fi := diSeq (dCall 3 M_plan (daCons (dVar 1) (daCons (dVar 5) (daCons (dVar 6) daNil))))) (tg := gN 8) (fe := dOp ixD (dVar 8) (dC (.int 2))) (vs := [8]) (ρ := [x0, some (.int w), x2, x3, x4, some (pt (rateQ h)), some (.int (m : Int)), some (.int p), none]) (S := S) (S1 := S ++ [.lst (rowsOf h l os)]) (grd := grdT) (lo l os) (fun p => rowD h p.1 p.2) (fun p => D.int (p.2 + inI h p.1)) (by rw [← lo_rows]; simp -implicitDefEqProofs [pl]) (fun _ => rfl) (fun q hq X => ⟨_, rfl, by simp -implicitDefEqProofs [rowD]⟩) (by rw [lo_len]; omega)
    rw [this, lo_2, List.map_map]
    simp [Function.comp]
  simp -implicitDefEqProofs [-e_dLc, costE, col, sumLD, lstOf, intsOf_map]
end Pr
set_option Elab.async false
set_option linter.all false
set_option maxRecDepth 100000
set_option maxHeartbeats 1000000
namespace Pr
open PySem PySem.Spec PyProof.Rows L2 DL
theorem costs_ok {w c0 c1 c2 p0 p1 p2 : Int} {y0 y1 y2 : D} {R0 R1 R2 : List D} {s0 s1 s2 : List Int} {n q : Nat} {S : Store} (C0 : Cost w y0 c0 p0 R0 s0) (C1 : Cost w y1 c1 p1 R1 s1) (C2 : Cost w y2 c2 p2 R2 s2) (hq : lstAt S q = some [y0, y1, y2]) :
    ∃ T, dLc (diSeq (dVar 2)) costT dYes costE [5, 6, 7] [some (.obj n), some (.int w), some (.obj q), none, none, none, none, none, none] S = .ok (.obj S.length) (S ++ .lst [.int c0, .int c1, .int c2] :: T) := by
  have hk : ∀ T : Store, lstAt (S ++ T) q = some [y0, y1, y2] := fun T => lstAt_keep _ _ hq
  obtain ⟨r0, t0, u0⟩ := cost_step C0 (some (.obj n)) (some (.obj q)) none none none none none (S ++ [.lst []])
  have t0 : ∀ S, costT y0 [some (.obj n), some (.int w), some (.obj q), none, none, none, none, none, none] S = .nx r0 S := by
    intro S; obtain ⟨⟨h, m, rfl, _⟩, _⟩ := C0
    simp -implicitDefEqProofs [costT] at t0 ⊢; exact t0
  obtain ⟨r1, t1, u1⟩ := cost_step C1 (some (.obj n)) (some (.obj q)) none none none none none (S ++ [.lst []])
  have t1 : ∀ S, costT y1 [some (.obj n), some (.int w), some (.obj q), none, none, none, none, none, none] S = .nx r1 S := by
    intro S; obtain ⟨⟨h, m, rfl, _⟩, _⟩ := C1
    simp -implicitDefEqProofs [costT] at t1 ⊢; exact t1
  obtain ⟨r2, t2, u2⟩ := cost_step C2 (some (.obj n)) (some (.obj q)) none none none none none (S ++ [.lst []])
  have t2 : ∀ S, costT y2 [some (.obj n), some (.int w), some (.obj q), none, none, none, none, none, none] S = .nx r2 S := by
    intro S; obtain ⟨⟨h, m, rfl, _⟩, _⟩ := C2
    simp -implicitDefEqProofs [costT] at t2 ⊢; exact t2
  refine ⟨[.lst R0, .lst (s0.map D.int), .lst R1, .lst (s1.map D.int), .lst R2, .lst (s2.map D.int)], ?_⟩
  simp -implicitDefEqProofs [hq, hk, t0, t1, t2, u0, u1, u2]
/-! ### the cheapest -/
def chE : DE := (dOp addD (dVar 6) (dSumG (dCall 3 M_plan (daCons (dVar 1) (daCons (dVar 4) (daCons (dVar 5) daNil)))) (g2 ixG (fun d _ => some d) (fun _ _ => some (.int 2)))))
def chT : DG := (gT 2 (gsCons (gN 3) (gsCons (gT 3 (gsCons (gN 4) (gsCons (gN 5) (gsCons (gN 6) gsNil)))) gsNil)))
theorem ints_rows (h : Int) (S : Store) : ∀ (os : List Int) (l : Int), intsG (g2 ixG (fun d _ => some d) (fun _ _ => some (.int 2))) S (rowsOf h l os) = some (col2 h l os)
  | [], l => rfl
  | o :: os, l => by
    have e : (g2 ixG (fun d _ => some d) (fun _ _ => some (.int 2))) (rowD h l o) S = some (.int (o + inI h l)) := by simp [g2, ixG, rowD]
    rw [rowsOf, intsG, e, ints_rows h S os, col2]
theorem ch_step {w c p : Int} {y : D} {R : List D} {cs : List Int} (C : Cost w y c p R cs) (k : Int) (x0 x2 x3 x4 x5 x6 x7 : Option D) (S : Store) : ∃ h : Int, ∃ m : Nat, chT (.tup [.int k, y]) [x0, some (.int w), x2, x3, x4, x5, x6, x7] S = .nx [x0, some (.int w), x2, some (.int k), some (pt (rateQ h)), some (.int (m : Int)), some (.int p), x7] S ∧ ∀ S, chE [x0, some (.int w), x2, some (.int k), some (pt (rateQ h)), some (.int (m : Int)), some (.int p), x7] S = .ok (.int c) (S ++ [.lst R]) := by
  obtain ⟨⟨h, m, rfl, pl, l, os, rfl, rfl, ol⟩, rfl⟩ := C
  refine ⟨h, m, by simp -implicitDefEqProofs [chT], fun S => ?_⟩
  simp -implicitDefEqProofs [chE, dSumG, pl, ints_rows]
def idx3 (a b c : Int) : Int := if a ≤ b ∧ a ≤ c then 0 else if b ≤ c then 1 else 2
theorem minD3_of {d : D} {S : Store} {p : PyData} {ps : List PyData} (h1 : (lstOf S d).bind intsOf = none) (h2 : (lstOf S d).bind D.toPs = some (p :: ps)) (h3 : likeB (p :: ps) = true) (h4 : PyData.depthAll (p :: ps) ≤ 60) : minD3 [d] S = some (D.ofP (PySem.W.minD p ps), S) := by
  unfold minD3 minD2 minP
  simp only [h1, Option.bind_none, Option.map_none, h2, h3, h4, and_self, if_true]
open PySem.W in
theorem min_rows {a b c : Int} {k : Nat} {S : Store} (h : lstAt S k = some [.tup [.int a, .int 0], .tup [.int b, .int 1], .tup [.int c, .int 2]]) : ∃ z, minD3 [.obj k] S = some (.tup [.int z, .int (idx3 a b c)], S) := by
  have lt : ∀ x i y j : Int, i < j → dataLt (.tuple [.int y, .int j]) (.tuple [.int x, .int i]) = decide (y < x) := by
    intro x i y j hij
    rw [dataLt_ii]
    congr 1
    apply propext
    omega
  have m := minD3_of (d := .obj k) (S := S) (p := .tuple [.int a, .int 0]) (ps := [.tuple [.int b, .int 1], .tuple [.int c, .int 2]]) (by simp [lstOf, h, intsOf]) (by simp [lstOf, h, D.toPs, D.toP]) rfl (by simp [PyData.depthAll, PyData.depth])
  rw [m]
  unfold PySem.W.minD
  simp only [List.foldl_cons, List.foldl_nil, lt a 0 b 1 (by decide)]
  by_cases q : b < a
  · simp only [q, decide_true, if_true, lt b 1 c 2 (by decide)]
    by_cases r : c < b
    · refine ⟨c, ?_⟩
      simp only [r, decide_true, if_true]
      rw [show idx3 a b c = 2 by unfold idx3; rw [if_neg (by omega), if_neg (by omega)]]; rfl
    · refine ⟨b, ?_⟩
      simp only [r, decide_false, Bool.false_eq_true, if_false]
      rw [show idx3 a b c = 1 by unfold idx3; rw [if_neg (by omega), if_pos (by omega)]]; rfl
  · simp only [q, decide_false, Bool.false_eq_true, if_false, lt a 0 c 2 (by decide)]
    by_cases r : c < a
    · refine ⟨c, ?_⟩
      simp only [r, decide_true, if_true]
      rw [show idx3 a b c = 2 by unfold idx3; rw [if_neg (by omega), if_neg (by omega)]]; rfl
    · refine ⟨a, ?_⟩
      simp only [r, decide_false, Bool.false_eq_true, if_false]
      rw [show idx3 a b c = 0 by unfold idx3; rw [if_pos (by omega)]]; rfl
theorem cheap_ok {w c0 c1 c2 p0 p1 p2 : Int} {y0 y1 y2 : D} {R0 R1 R2 : List D} {s0 s1 s2 : List Int} {q : Nat} {S : Store} (C0 : Cost w y0 c0 p0 R0 s0) (C1 : Cost w y1 c1 p1 R1 s1) (C2 : Cost w y2 c2 p2 R2 s2) (hq : lstAt S q = some [y0, y1, y2]) :
    ∃ T, M_cheapest [.obj q, .int w] S = .ok (.int (idx3 c0 c1 c2)) (S ++ T) := by
  have hk : ∀ T : Store, lstAt (S ++ T) q = some [y0, y1, y2] := fun T => lstAt_keep _ _ hq
  obtain ⟨h0, m0, t0, u0⟩ := ch_step C0 0 (some (.obj q)) (some (.obj S.length)) none none none none none (S ++ [.lst []])
  obtain ⟨h1, m1, t1, u1⟩ := ch_step C1 1 (some (.obj q)) (some (.obj S.length)) (some (.int 0)) (some (pt (rateQ h0))) (some (.int (m0 : Int))) (some (.int p0)) none (S ++ [.lst [.tup [.int c0, .int 0]], .lst R0])
  obtain ⟨h2, m2, t2, u2⟩ := ch_step C2 2 (some (.obj q)) (some (.obj S.length)) (some (.int 1)) (some (pt (rateQ h1))) (some (.int (m1 : Int))) (some (.int p1)) none (S ++ [.lst [.tup [.int c0, .int 0], .tup [.int c1, .int 1]], .lst R0, .lst R1])
  obtain ⟨z, mn⟩ := min_rows (a := c0) (b := c1) (c := c2) (k := S.length) (S := S ++ [.lst [.tup [.int c0, .int 0], .tup [.int c1, .int 1], .tup [.int c2, .int 2]], .lst R0, .lst R1, .lst R2]) (by simp)
  refine ⟨[.lst [.tup [.int c0, .int 0], .tup [.int c1, .int 1], .tup [.int c2, .int 2]], .lst R0, .lst R1, .lst R2], ?_⟩
  have en : enumOf (.obj q) (S ++ [.lst []]) = some (⟨[.tup [.int 0, y0], .tup [.int 1, y1], .tup [.int 2, y2]], grdL q [y0, y1, y2]⟩, S ++ [.lst []]) := by
    unfold enumOf
    rw [srcOf_obj, hk]
    rfl
  have ef : f_cheapest M_plan = (dSeq (dAsg (dLst daNil) (gN 2)) (dSeq (dFor (diEnum (dVar 0)) chT (dDrop (dApp (dVar 2) (dTup (daCons chE (daCons (dVar 3) daNil)))))) (dRet (dOp ixD (dBlt minD3 (daCons (dVar 2) daNil)) (dC (.int 1)))))) := rfl
  simp -implicitDefEqProofs only [M_cheapest, e_runD, ef]
  simp -implicitDefEqProofs [startD, en, hk, t0, u0, t1, u1, t2, u2, mn]
theorem idx_ok {a b c : Int} {k : Nat} {S : Store} {ρ : DEnv} (hk : ρ[3]? = some (some (.obj k))) (h : lstAt S k = some [.int a, .int b, .int c]) : dIndex (dVar 3) (dBlt minD3 (daCons (dVar 3) daNil)) ρ S = .ok (.int (idx3 a b c)) S := by
  have m : minD3 [.obj k] S = some (.int (min (min a b) c), S) := by
    unfold minD3 minD2
    simp [lstOf, h, intsOf, minI]
  unfold dIndex
  simp -implicitDefEqProofs [hk, h, m, flatOf, flatsOf]
  have ev : ∀ x y : Int, L2.eqV (L2.V.int x) (L2.V.int y) = decide (x = y) := by
    intro x y
    show (x == y) = _
    cases h : (x == y) <;> simp_all
  simp only [List.findIdx?_cons, ev, List.findIdx?_nil]
  unfold idx3
  by_cases q : a ≤ b ∧ a ≤ c
  · rw [if_pos q, show min a (min b c) = a by omega]; simp
  · rw [if_neg q]
    have n1 : ¬ a = min a (min b c) := by omega
    by_cases r : b ≤ c
    · have n2 : b = min a (min b c) := by omega
      rw [if_pos r, if_neg (by simpa using n1)]
      rw [← n2]
      simp
    · have n2 : ¬ b = min a (min b c) := by omega
      have n3 : c = min a (min b c) := by omega
      rw [if_neg r, if_neg (by simpa using n1)]
      simp only [n2, decide_false, Bool.false_eq_true, if_false]
      rw [← n3]
      simp
theorem offers_law {n : Nat} {w : Int} {S : Store} (w0 : 0 < w) (w1 : w ≤ 501) (hd : DiceAt S n) : ∃ S', M__law_offers [.obj n, .int w] S = .ok (.bl true) S' ∧ Kp n S S' ∧ DiceAt S' n := by
  obtain ⟨y0, y1, y2, S1, e1, o0, o1, o2, l1, k1, d1⟩ := offers_ok (w := w) hd
  obtain ⟨c0, p0, R0, s0, C0⟩ := cost_of w0 w1 o0
  obtain ⟨c1, p1, R1, s1, C1⟩ := cost_of w0 w1 o1
  obtain ⟨c2, p2, R2, s2, C2⟩ := cost_of w0 w1 o2
  obtain ⟨T2, e2⟩ := costs_ok (n := n) C0 C1 C2 l1
  have l2 : lstAt (S1 ++ .lst [.int c0, .int c1, .int c2] :: T2) S1.length = some [.int c0, .int c1, .int c2] := by simp
  have l3 : lstAt (S1 ++ .lst [.int c0, .int c1, .int c2] :: T2) S.length = some [y0, y1, y2] := lstAt_keep _ _ l1
  have k2 : Kp n S (S1 ++ .lst [.int c0, .int c1, .int c2] :: T2) := k1.trans Kp.app
  have d2 : DiceAt (S1 ++ .lst [.int c0, .int c1, .int c2] :: T2) n := d1.app
  generalize hS2 : S1 ++ .lst [.int c0, .int c1, .int c2] :: T2 = S2 at *
  obtain ⟨T3, e3⟩ := cheap_ok C0 C1 C2 l3
  have l4 : lstAt (S2 ++ T3) S1.length = some [.int c0, .int c1, .int c2] := lstAt_keep _ _ l2
  have e4 := idx_ok (ρ := [some (.obj n), some (.int w), some (.obj S.length), some (.obj S1.length), none, none, none, none, none]) rfl l4
  refine ⟨S2 ++ T3, ?_, k2.trans Kp.app, d2.app⟩
  unfold offE at e1
  unfold costE costT at e2
  simp -implicitDefEqProofs only [M__law_offers, e_runD, f__law_offers]
  simp -implicitDefEqProofs [-e_dLc, startD, e1, e2, e3, e4]
end Pr
set_option Elab.async false
set_option linter.all false
set_option maxRecDepth 100000
set_option maxHeartbeats 1000000
namespace Pr
open PySem PySem.Spec PyProof.Rows L2 DL
def toldO (rs : List String) (cs : List (String × Str)) (o : Out D) : Out D := match o with
  | .ok d S1 => .ok d S1
  | .exn e S1 => if e.c ∈ rs then (match pickD cs e.c with
    | some t => .ok (.str t) S1
    | none => .bad) else .bad
  | .bad => .bad
@[simp] theorem e_dTold (rs : List String) (cs : List (String × Str)) (f : DE) (ρ : DEnv) (S : Store) : dTold rs cs f ρ S = toldO rs cs (f ρ S) := by
  unfold dTold toldO
  rfl
theorem told_rule (S : Store) : toldO raisable tellers (.exn ⟨"BadRule"⟩ S) = .ok (.str "rule") S := rfl
theorem told_short (S : Store) : toldO raisable tellers (.exn ⟨"Short"⟩ S) = .ok (.str "short") S := rfl
theorem told_no (S : Store) : toldO raisable tellers (.exn ⟨"NoAnswer"⟩ S) = .ok (.str "no answer") S := rfl
theorem ne_rule (S : Store) : neD (.str "rule") (.str "rule") S = some (.bl false, S) := by rw [neD_str (by decide +kernel) (by decide +kernel)]; rfl
theorem ne_short (S : Store) : neD (.str "short") (.str "short") S = some (.bl false, S) := by rw [neD_str (by decide +kernel) (by decide +kernel)]; rfl
theorem ne_no (S : Store) : neD (.str "no answer") (.str "no answer") S = some (.bl false, S) := by rw [neD_str (by decide +kernel) (by decide +kernel)]; rfl
@[simp] theorem e_dRaiseI (c : String) (fe : DE) (ρ : DEnv) (S : Store) : dRaiseI c fe ρ S = liftS (fe ρ S) ρ fun _ S1 => .exn ⟨c⟩ ρ S1 := rfl
/-! ### a comprehension that takes nothing -/
theorem lc_none {grd : Store → Bool} {tg : DG} {tt : DT} {fe : DE} {ρ : DEnv} {n : Nat} {S : Store} (hg : grd S = true) : ∀ (ds : List D), (∀ d ∈ ds, ∃ ρ1, tg d ρ S = .nx ρ1 S ∧ tt ρ1 S = .ok false S) → lcD grd tg tt fe n ρ ds S = .ok () S
  | [], h => by rw [lcD_nil, if_pos hg]
  | d :: ds, h => by
    obtain ⟨ρ1, h1, h2⟩ := h d List.mem_cons_self
    rw [lcD_cons, if_pos hg, h1, lcG_nx, h2, lcE_ok]
    simp only [Bool.false_eq_true, if_false]
    exact lc_none hg ds fun x hx => h x (List.mem_cons_of_mem _ hx)
theorem neD_nil {S : Store} {n k : Nat} (h : lstAt S n = some []) (h2 : lstAt S k = some []) : neD (.obj n) (.obj k) S = some (.bl false, S) := by
  unfold neD D.toPS
  dsimp only
  rw [h, h2]
  rfl
/-! ### a plan's last row -/
theorem last_row (h : Int) : ∀ (os : List Int) (l : Int), os ≠ [] → ∃ a b c, (rowsOf h l os)[os.length - 1]? = some (.tup [.int a, .int b, .int c, .int (l - os.sum)])
  | [], l, e => absurd rfl e
  | [o], l, e => ⟨inI h l, o, o + inI h l, by simp [rowsOf, rowD]⟩
  | o :: o' :: os, l, e => by
    obtain ⟨a, b, c, z⟩ := last_row h (o' :: os) (l - o) (by simp)
    refine ⟨a, b, c, ?_⟩
    rw [rowsOf, show (o :: o' :: os).length - 1 = (o' :: os).length - 1 + 1 by simp, List.getElem?_cons_succ, z, show l - (o :: o' :: os).sum = l - o - (o' :: os).sum by rw [List.sum_cons]; omega]
/-! ### one plan looked at -/
def oneB : DS :=
  (dSeq (dIfS (dOrT (dB (dOp notND (dCall 3 M_look_plan (daCons (dVar 2) (daCons (dVar 5) (daCons (dVar 8) daNil)))) (dC .non))) (dB (dOp neD (dBlt sumLD (daCons (dLc (diSeq (dVar 8)) (gN 9) dYes (dOp ixD (dVar 9) (dC (.int 1))) [9]) daNil)) (dVar 2))))
  (dRet (dC (.bl false)))
  dNext)
  (dSeq (dIfS (dB (dOp neD (dBlt sumLD (daCons (dLc (diSeq (dVar 8)) (gN 9) dYes (dOp ixD (dVar 9) (dC (.int 2))) [9]) daNil)) (dOp addD (dVar 2) (dBlt sumLD (daCons (dLc (diSeq (dVar 8)) (gN 9) dYes (dOp ixD (dVar 9) (dC (.int 0))) [9]) daNil)))))
  (dRet (dC (.bl false)))
  dNext)
  (dIfS (dOrT (dB (dOp neD (dOp ixD (dOp ixD (dVar 8) (dOp subD (dBlt lenD (daCons (dVar 8) daNil)) (dC (.int 1)))) (dC (.int 3))) (dC (.int 0)))) (dB (dOp neD (dBlt lenD (daCons (dVar 8) daNil)) (dVar 4))))
  (dRet (dC (.bl false)))
  dNext)))
theorem one_ok {h w : Int} {m : Nat} {os : List Int} (L : Loan h w m) (h1 : ∀ o ∈ os, 0 ≤ o) (h2 : os.sum = w) (h3 : os.length = m) (x0 x1 x3 x6 x7 x9 : Option D) (S : Store) :
    oneB [x0, x1, some (.int w), x3, some (.int (m : Int)), some (pt (rateQ h)), x6, x7, some (.tup (rowsOf h w os)), x9] S = .nx [x0, x1, some (.int w), x3, some (.int (m : Int)), some (pt (rateQ h)), x6, x7, some (.tup (rowsOf h w os)), x9] (S ++ [.lst (os.map D.int), .lst ((col2 h w os).map D.int), .lst ((col0 h w os).map D.int)]) := by
  have w1 := L.w1
  have m0 := L.m0
  have m6 := L.m6
  have lk := fun S => look_ok L.h0 L.h9 (nn_rows h1 h2 (by omega)) h2 S
  have c1 : ∀ U : Store, colE 8 9 1 [x0, x1, some (.int w), x3, some (.int (m : Int)), some (pt (rateQ h)), x6, x7, some (.tup (rowsOf h w os)), x9] U = .ok (.obj U.length) (U ++ [.lst (os.map D.int)]) := fun U => col_1 rfl (by simp) (by omega) U
  have c2 : ∀ U : Store, colE 8 9 2 [x0, x1, some (.int w), x3, some (.int (m : Int)), some (pt (rateQ h)), x6, x7, some (.tup (rowsOf h w os)), x9] U = .ok (.obj U.length) (U ++ [.lst ((col2 h w os).map D.int)]) := fun U => col_2 rfl (by simp) (by omega) U
  have c0 : ∀ U : Store, colE 8 9 0 [x0, x1, some (.int w), x3, some (.int (m : Int)), some (pt (rateQ h)), x6, x7, some (.tup (rowsOf h w os)), x9] U = .ok (.obj U.length) (U ++ [.lst ((col0 h w os).map D.int)]) := fun U => col_0 rfl (by simp) (by omega) U
  unfold colE at c0 c1 c2
  have cs := col2_sum h w os
  rw [h2] at cs
  have rl : (rowsOf h w os).length = m := by rw [rows_len, h3]
  obtain ⟨a, b, c, lr⟩ := last_row h os w (by rintro rfl; simp at h3; omega)
  have la : atI (rowsOf h w os) ((m : Int) - 1) = some (.tup [.int a, .int b, .int c, .int 0]) := by
    rw [show (m : Int) - 1 = ((os.length - 1 : Nat) : Int) by omega, DL.atI_nat, lr, h2, Int.sub_self]
  simp -implicitDefEqProofs [-e_dLc, oneB, lk, c1, c2, c0, h2, cs, rl, la, lstOf]
end Pr
set_option Elab.async false
set_option linter.all false
set_option maxRecDepth 100000
set_option maxHeartbeats 2000000
namespace Pr
open PySem PySem.Spec PyProof.Rows L2 DL
def fltE : DE := (dLc (diSeq (dVar 7)) (gN 9) (dB (dOp gtD (dOp ixD (dVar 9) (dC (.int 2))) (dVar 6))) (dVar 9) [9])
theorem flt_ok {h w P : Int} {m : Nat} (L : Loan h w m) (x0 x1 x2 x3 x4 x5 x8 x9 : Option D) (S : Store) : fltE [x0, x1, x2, x3, x4, x5, some (.int P), some (.tup (planR h P w m)), x8, x9] S = .ok (.obj S.length) (S ++ [.lst []]) := by
  have m6 := L.m6
  have t : lcD grdT (gN 9) (dB (dOp gtD (dOp ixD (dVar 9) (dC (.int 2))) (dVar 6))) (dVar 9) S.length [x0, x1, x2, x3, x4, x5, some (.int P), some (.tup (planR h P w m)), x8, none] (planR h P w m) (S ++ [.lst []]) = .ok () (S ++ [.lst []]) := by
    refine lc_none rfl _ fun d hd => ?_
    unfold planR at hd
    rw [lo_rows] at hd
    obtain ⟨q, hq, rfl⟩ := List.mem_map.mp hd
    have le : q.2 + inI h q.1 ≤ P := by
      refine col2_le (h := h) m w _ ?_
      rw [lo_2]
      exact List.mem_map.mpr ⟨q, hq, rfl⟩
    have n1 : ¬ P < q.2 + inI h q.1 := by omega
    refine ⟨[x0, x1, x2, x3, x4, x5, some (.int P), some (.tup (planR h P w m)), x8, some (rowD h q.1 q.2)], rfl, ?_⟩
    simp -implicitDefEqProofs [rowD, n1]
  unfold fltE
  simp -implicitDefEqProofs [t]
def lawB : DS :=
  (dSeq (dAsg (dTup (daCons (dOp addD (dC (.int 1)) (dCall 2 M__law_roll (daCons (dVar 1) (daCons (dC (.int 500)) daNil)))) (daCons (dCall 2 M__law_roll (daCons (dVar 1) (daCons (dC (.int 10)) daNil))) (daCons (dOp addD (dC (.int 1)) (dCall 2 M__law_roll (daCons (dVar 1) (daCons (dC (.int 6)) daNil)))) daNil)))) (gT 3 (gsCons (gN 2) (gsCons (gN 3) (gsCons (gN 4) gsNil)))))
  (dSeq (dAsg (dCall 2 M_part (daCons (dVar 3) (daCons (dC (.int 100)) daNil))) (gN 5))
  (dSeq (dAsg (dCall 3 M_even_pay (daCons (dVar 2) (daCons (dVar 5) (daCons (dVar 4) daNil)))) (gN 6))
  (dSeq (dIfS (dB (dOp gtD (dCall 4 M__law_left (daCons (dVar 2) (daCons (dVar 3) (daCons (dVar 6) (daCons (dVar 4) daNil))))) (dC (.int 0))))
  (dRet (dC (.bl false)))
  dNext)
  (dSeq (dIfS (dAndT (dB (dOp gtD (dVar 6) (dC (.int 0)))) (dB (dOp leD (dCall 4 M__law_left (daCons (dVar 2) (daCons (dVar 3) (daCons (dOp subD (dVar 6) (dC (.int 1))) (daCons (dVar 4) daNil))))) (dC (.int 0)))))
  (dRet (dC (.bl false)))
  dNext)
  (dSeq (dIfS (dB (dOp neD (dCall 4 M_left_behind (daCons (dVar 2) (daCons (dVar 5) (daCons (dVar 6) (daCons (dVar 4) daNil))))) (dCall 4 M__law_left (daCons (dVar 2) (daCons (dVar 3) (daCons (dVar 6) (daCons (dVar 4) daNil)))))))
  (dRet (dC (.bl false)))
  dNext)
  (dSeq (dAsg (dCall 3 M_plan (daCons (dVar 2) (daCons (dVar 5) (daCons (dVar 4) daNil)))) (gN 7))
  (dSeq (dFor (diSeq (dLst (daCons (dVar 7) (daCons (dCall 3 M_in_parts (daCons (dVar 2) (daCons (dVar 5) (daCons (dVar 4) daNil)))) (daCons (dCall 3 M_all_at_end (daCons (dVar 2) (daCons (dVar 5) (daCons (dVar 4) daNil)))) daNil))))) (gN 8)
  oneB)
  (dSeq (dIfS (dOrT (dB (dOp neD fltE (dLst daNil))) (dB (dOp neD (dOp ixD (dOp ixD (dVar 7) (dC (.int 0))) (dC (.int 0))) (dCall 2 M_interest (daCons (dVar 2) (daCons (dVar 5) daNil))))))
  (dRet (dC (.bl false)))
  dNext)
  (dSeq (dIfS (dAndT (dB (dOp isND (dCall 3 M_look_plan (daCons (dOp addD (dVar 2) (dC (.int 1))) (daCons (dVar 5) (daCons (dVar 7) daNil)))) (dC .non))) (dB (dOp gtD (dVar 3) (dC (.int 0)))))
  (dRet (dC (.bl false)))
  dNext)
  (dSeq (dIfS (dNotT (dB (dCall 5 M__law_ahead (daCons (dVar 1) (daCons (dVar 2) (daCons (dVar 5) (daCons (dVar 7) (daCons (dVar 4) daNil))))))))
  (dRet (dC (.bl false)))
  dNext)
  (dSeq (dIfS (dNotT (dB (dCall 4 M__law_worths (daCons (dVar 2) (daCons (dVar 3) (daCons (dVar 5) (daCons (dVar 7) daNil)))))))
  (dRet (dC (.bl false)))
  dNext)
  (dSeq (dIfS (dNotT (dB (dCall 2 M__law_offers (daCons (dVar 1) (daCons (dVar 2) daNil)))))
  (dRet (dC (.bl false)))
  dNext)
  (dSeq (dIfS (dNotT (dB (dCall 3 M__law_laid (daCons (dVar 1) (daCons (dVar 3) (daCons (dVar 5) daNil))))))
  (dRet (dC (.bl false)))
  dNext)
  (dSeq (dIfS (dB (dOp neD (dTold raisable tellers (dCall 3 M_even_pay (daCons (dC (.int 5)) (daCons (dTup (daCons (dOp subD (dC (.int 0)) (dC (.int 1))) (daCons (dC (.int 2)) daNil))) (daCons (dC (.int 1)) daNil))))) (dC (.str "rule"))))
  (dRet (dC (.bl false)))
  dNext)
  (dSeq (dIfS (dB (dOp neD (dTold raisable tellers (dCall 5 M_paid_ahead (daCons (dVar 7) (daCons (dVar 2) (daCons (dVar 5) (daCons (dOp subD (dVar 4) (dC (.int 1))) (daCons (dC (.int 1)) daNil))))))) (dC (.str "short"))))
  (dRet (dC (.bl false)))
  dNext)
  (dSeq (dIfS (dB (dOp neD (dTold raisable tellers (dCall 3 M_rate_of (daCons (dC (.int 50)) (daCons (dLst (daCons (dC (.int 10)) daNil)) (daCons (dC (.int 100)) daNil))))) (dC (.str "no answer"))))
  (dRet (dC (.bl false)))
  dNext)
  (dIfS (dB (dOp neD (dTold raisable tellers (dCall 5 M_times_till (daCons (dC (.int 9)) (daCons (dC (.int 0)) (daCons (dC (.int 0)) (daCons (dVar 5) (daCons (dC (.int 5)) daNil))))))) (dC (.str "no answer"))))
  (dRet (dC (.bl false)))
  dNext))))))))))))))))))
theorem M_law_eq : M_law = runD 10 (dSeq (dFor (diSeq (dCall 2 (runD 4 (roundsF (runD 1 diceF))) (daCons (dVar 0) (daCons (dC (.int ((3 : Nat) : Int))) daNil)))) (gN 1) lawB) (dRet (dC (.bl true)))) := rfl
/-! ### what is told -/
theorem even_no (S : Store) : M_even_pay [.int 5, .tup [.int (-1), .int 2], .int 1] S = .exn ⟨"BadRule"⟩ S := by
  simp -implicitDefEqProofs [M_even_pay, f_even_pay, M_check_loan, f_check_loan, startD]
theorem rate_no (S : Store) : M_rate_of [.int 50, .obj S.length, .int 100] (S ++ [.lst [.int 10]]) = .exn ⟨"NoAnswer"⟩ (S ++ [.lst [.int 10]]) := by
  simp -implicitDefEqProofs [M_rate_of, f_rate_of, startD, dAnyG, boolsG, g2, cmpG, lstOf, intsOf]
theorem rng_6 : rngD 0 1 6 = [.int 0, .int 1, .int 2, .int 3, .int 4, .int 5] := rfl
theorem till_no {h : Int} (h0 : 0 ≤ h) (h9 : h ≤ 9) (S : Store) : M_times_till [.int 9, .int 0, .int 0, pt (rateQ h), .int 5] S = .exn ⟨"NoAnswer"⟩ S := by
  have t := interest_ok h0 h9 (Int.le_refl 0) (by decide) S
  rw [inI_zero] at t
  simp -implicitDefEqProofs [M_times_till, f_times_till, startD, rng_6, t]
theorem ahead_no {h w P : Int} {m : Nat} (L : Loan h w m) (E : EP h w m P) (S : Store) : M_paid_ahead [.tup (planR h P w m), .int w, pt (rateQ h), .int ((m : Int) - 1), .int 1] S = .exn ⟨"Short"⟩ S := by
  have m0 := L.m0
  have rl : (planR h P w m).length = m := by unfold planR; rw [rows_len, offs_len]
  have fs := fin_sum L.h0 E.p0 m w (Int.le_of_lt L.w0) E.le
  obtain ⟨a, b, c, lr⟩ := last_row h (offs h P m w) w (by intro e; have := offs_len h P m w; rw [e] at this; simp at this; omega)
  have la : atI (planR h P w m) ((m : Int) - 1) = some (.tup [.int a, .int b, .int c, .int 0]) := by
    rw [offs_len, fs, Int.sub_self] at lr
    rw [show (m : Int) - 1 = ((m - 1 : Nat) : Int) by omega, DL.atI_nat]
    exact lr
  have k1 : (m : Int) - 1 < (m : Int) := by omega
  have k2 : 0 ≤ (m : Int) - 1 := by omega
  have k3 : (1 : Int) ≤ (m : Int) := by omega
  simp -implicitDefEqProofs [M_paid_ahead, f_paid_ahead, startD, e_chain, rl, la, k1, k2, k3]
end Pr
set_option Elab.async false
set_option linter.all false
set_option maxRecDepth 100000
set_option maxHeartbeats 4000000
namespace Pr
open PySem PySem.Spec PyProof.Rows L2 DL
theorem body_ok {S : Store} {n : Nat} (hd : DiceAt S n) (o0 o2 o3 o4 o5 o6 o7 o8 o9 : Option D) : ∃ ρ' S', ρ'.length = 10 ∧ lawB [o0, some (.obj n), o2, o3, o4, o5, o6, o7, o8, o9] S = .nx ρ' S' ∧ Kp n S S' ∧ DiceAt S' n := by
  obtain ⟨v1, S1, b1, e1, k1, d1⟩ := roll hd (show (0 : Int) < 500 by decide) (by decide)
  obtain ⟨v2, S2, b2, e2, k2, d2⟩ := roll d1 (show (0 : Int) < 10 by decide) (by decide)
  obtain ⟨v3, S3, b3, e3, k3, d3⟩ := roll d2 (show (0 : Int) < 6 by decide) (by decide)
  have K3 : Kp n S S3 := (k1.trans k2).trans k3
  obtain ⟨w, hw⟩ : ∃ w : Int, 1 + (v1 : Int) = w := ⟨_, rfl⟩
  obtain ⟨h, hh⟩ : ∃ h : Int, (v2 : Int) = h := ⟨_, rfl⟩
  obtain ⟨m, hm⟩ : ∃ m : Nat, 1 + (v3 : Int) = (m : Int) := ⟨1 + v3, by omega⟩
  rw [hh] at e2
  have L : Loan h w m := ⟨by omega, by omega, by omega, by omega, by omega, by omega⟩
  obtain ⟨P, E, hE⟩ := even_ok L
  have h0 := L.h0
  have h9 := L.h9
  have w0 := L.w0
  have w1 := L.w1
  have m0 := L.m0
  have m6 := L.m6
  have i0 := inI_nn h0 (Int.le_of_lt w0)
  have plow := E.low L
  have P0 : 0 < P := by omega
  have A := part_rate h0 h9 S3
  have l1 := fun S => law_left_ok (pay := P) L S
  have l2 := fun S => law_left_ok (pay := P - 1) L S
  have l3 := fun S => left_behind_ok L E.p0 S
  have n1 : ¬ 0 < LB h P m w := by have := E.le; omega
  have n2 : ¬ LB h (P - 1) m w ≤ 0 := by rcases E.gt with g | g <;> omega
  have pl := plan_ok L E hE S3
  have ip := in_parts_ok L (S3 ++ [.lst (planR h P w m)])
  obtain ⟨T4, ae⟩ := all_end_ok L (S3 ++ [.lst (planR h P w m)] ++ [.lst (rowsOf h w (partsO w m 0 m))])
  obtain ⟨S4, hS4⟩ : ∃ S4, S3 ++ [.lst (planR h P w m)] ++ [.lst (rowsOf h w (partsO w m 0 m))] ++ T4 = S4 := ⟨_, rfl⟩
  have K4 : Kp n S S4 := hS4 ▸ ((K3.trans Kp.app).trans Kp.app).trans Kp.app
  have d4 : DiceAt S4 n := hS4 ▸ ((d3.app).app).app
  rw [hS4] at ae
  obtain ⟨S5, hS5⟩ : ∃ S5, S4 ++ [.lst [.tup (planR h P w m), .tup (rowsOf h w (partsO w m 0 m)), .tup (rowsOf h w (endO w (m - 1)))]] = S5 := ⟨_, rfl⟩
  have q5 : lstAt S5 S4.length = some [.tup (planR h P w m), .tup (rowsOf h w (partsO w m 0 m)), .tup (rowsOf h w (endO w (m - 1)))] := by rw [← hS5]; simp
  have Q1 := one_ok L (offs_nn (w := w) h0 plow m w (Int.le_of_lt w0) (Int.le_refl _)) (fin_sum h0 E.p0 m w (Int.le_of_lt w0) E.le) (offs_len h P m w) o0 (some (.obj n)) (some (.int h)) (some (.int P)) (some (.tup (planR h P w m))) o9 S5
  obtain ⟨T6, hT6⟩ : ∃ T : Store, [DO.lst ((offs h P m w).map D.int), .lst ((col2 h w (offs h P m w)).map D.int), .lst ((col0 h w (offs h P m w)).map D.int)] = T := ⟨_, rfl⟩
  rw [hT6, show rowsOf h w (offs h P m w) = planR h P w m from rfl] at Q1
  have Q2 := one_ok L (parts_nn (Int.le_of_lt w0) m 0) (parts_all m0) (parts_len m 0) o0 (some (.obj n)) (some (.int h)) (some (.int P)) (some (.tup (planR h P w m))) o9 (S5 ++ T6)
  obtain ⟨T7, hT7⟩ : ∃ T : Store, [DO.lst ((partsO w m 0 m).map D.int), .lst ((col2 h w (partsO w m 0 m)).map D.int), .lst ((col0 h w (partsO w m 0 m)).map D.int)] = T := ⟨_, rfl⟩
  rw [hT7] at Q2
  have Q3 := one_ok L (end_nn (Int.le_of_lt w0) (m - 1)) (end_sum w (m - 1)) (by rw [end_len]; omega) o0 (some (.obj n)) (some (.int h)) (some (.int P)) (some (.tup (planR h P w m))) o9 (S5 ++ T6 ++ T7)
  obtain ⟨T8, hT8⟩ : ∃ T : Store, [DO.lst ((endO w (m - 1)).map D.int), .lst ((col2 h w (endO w (m - 1))).map D.int), .lst ((col0 h w (endO w (m - 1))).map D.int)] = T := ⟨_, rfl⟩
  rw [hT8] at Q3
  have q6 : lstAt (S5 ++ T6) S4.length = some [.tup (planR h P w m), .tup (rowsOf h w (partsO w m 0 m)), .tup (rowsOf h w (endO w (m - 1)))] := lstAt_keep _ _ q5
  have q7 : lstAt (S5 ++ T6 ++ T7) S4.length = some [.tup (planR h P w m), .tup (rowsOf h w (partsO w m 0 m)), .tup (rowsOf h w (endO w (m - 1)))] := lstAt_keep _ _ q6
  have q8 : lstAt (S5 ++ T6 ++ T7 ++ T8) S4.length = some [.tup (planR h P w m), .tup (rowsOf h w (partsO w m 0 m)), .tup (rowsOf h w (endO w (m - 1)))] := lstAt_keep _ _ q7
  have K8 : Kp n S (S5 ++ T6 ++ T7 ++ T8) := (((hS5 ▸ K4.trans Kp.app : Kp n S S5).trans Kp.app).trans Kp.app).trans Kp.app
  have d8 : DiceAt (S5 ++ T6 ++ T7 ++ T8) n := (((hS5 ▸ d4.app : DiceAt S5 n).app).app).app
  obtain ⟨S6, hS6⟩ : ∃ S6, S5 ++ T6 = S6 := ⟨_, rfl⟩
  rw [hS6] at Q1 Q2 Q3 q6 q7 q8 K8 d8
  obtain ⟨S7, hS7⟩ : ∃ S7, S6 ++ T7 = S7 := ⟨_, rfl⟩
  rw [hS7] at Q2 Q3 q7 q8 K8 d8
  obtain ⟨S8, hS8⟩ : ∃ S8, S7 ++ T8 = S8 := ⟨_, rfl⟩
  rw [hS8] at Q3 q8 K8 d8
  have ff := flt_ok (P := P) L o0 (some (.obj n)) (some (.int w)) (some (.int h)) (some (.int (m : Int))) (some (pt (rateQ h))) (some (.tup (rowsOf h w (endO w (m - 1))))) o9 S8
  have nn := neD_nil (S := S8 ++ [.lst [], .lst []]) (n := S8.length) (k := S8.length + 1) (by simp) (by simp)
  obtain ⟨mm, hmm⟩ : ∃ mm, m = mm + 1 := ⟨m - 1, by omega⟩
  have p0 : (planR h P w m)[0]? = some (rowD h w (offP h P w)) := by rw [hmm]; unfold planR; rw [offs, rowsOf]; rfl
  have ii := interest_ok h0 h9 (Int.le_of_lt w0) (by omega) (S8 ++ [.lst [], .lst []])
  have lb : M_look_plan [.int (w + 1), pt (rateQ h), .tup (planR h P w m)] (S8 ++ [.lst [], .lst []]) = .ok (.int 0) (S8 ++ [.lst [], .lst []]) := by
    rw [hmm]; unfold planR; rw [offs]
    exact look_bad h0 h9 (Int.le_of_lt w0) (by omega) _
  have K9 : Kp n S (S8 ++ [.lst [], .lst []]) := K8.trans Kp.app
  have d9 : DiceAt (S8 ++ [.lst [], .lst []]) n := d8.app
  obtain ⟨S9, hS9⟩ : ∃ S9, S8 ++ [DO.lst [], DO.lst []] = S9 := ⟨_, rfl⟩
  rw [hS9] at nn ii lb K9 d9
  obtain ⟨S10, f10, k10, d10⟩ := law_ahead_ok L E d9
  obtain ⟨T11, f11⟩ := worths_ok L E S10
  have k11 : Kp n S10 (S10 ++ T11) := Kp.app
  have d11 : DiceAt (S10 ++ T11) n := d10.app
  generalize S10 ++ T11 = S11 at f11 k11 d11
  obtain ⟨S12, f12, k12, d12⟩ := offers_law w0 w1 d11
  obtain ⟨S13, f13, k13, d13⟩ := laid_ok h0 h9 d12
  have g1 := even_no S13
  have g2 := ahead_no L E S13
  have g3 := rate_no S13
  have g4 := till_no h0 h9 (S13 ++ [.lst [.int 10]])
  refine ⟨[o0, some (.obj n), some (.int w), some (.int h), some (.int (m : Int)), some (pt (rateQ h)), some (.int P), some (.tup (planR h P w m)), some (.tup (rowsOf h w (endO w (m - 1)))), o9], S13 ++ [.lst [.int 10]], rfl, ?_, ((((K9.trans k10).trans k11).trans k12).trans k13).trans Kp.app, d13.app⟩
  unfold lawB
  simp -implicitDefEqProofs [e1, e2, e3, hw, hm, A, hE, l1, n1, P0, l2, n2, l3, pl]
  simp only [List.append_assoc, List.cons_append, List.nil_append] at ip ae
  simp -implicitDefEqProofs [ip, ae, hS5, q5, Q1, q6, Q2, q7, Q3, q8]
  simp -implicitDefEqProofs [ff, hS9, nn, p0, rowD, ii, lb, f10, f11, f12, f13]
  simp -implicitDefEqProofs [g1, g2, g3, g4, told_rule, ne_rule, told_short, ne_short, told_no, ne_no]
theorem ok (ns : List Int) (d : D) (S : Store) (hs : ScriptAt ns d S) : ∃ S2, M_law [d] S = .ok (.bl true) S2 := by
  rw [M_law_eq]
  refine law_rounds (by decide) (by decide) (by decide) (fun ρ S n hN hd => ?_) hs
  match ρ, hN with
  | [o0, o1, o2, o3, o4, o5, o6, o7, o8, o9], _ => exact body_ok hd o0 o2 o3 o4 o5 o6 o7 o8 o9
end Pr
set_option maxRecDepth 100000 in
set_option maxHeartbeats 8000000 in
theorem PySem.Challenge.cw_wagehall_k13_loans_paid_off_holds : PySem.Challenge.rw_wagehall_k13_loans_paid_off.Holds := by
  exact holds_it fun ns d S _ _ hs => Pr.ok ns d S hs
