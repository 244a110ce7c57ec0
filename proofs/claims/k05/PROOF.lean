import PyProof.Rows.All
import Wide.All
import OpenK.AllK
import Wide.FinOn
import HandS.ForMost
import HandS.ForExc
import HandS.Wide
import HandS.WideMore
import HandS.Walk
import HandS.TryMany
import HandS.TupAny
import HandS.TupMul
import HandS.Flow
import HandS.RevRange
import HandS.Lambda
import HandS.Style
import HandS.Conv
import HandS.Defaults
import HandS.HeadHook4
import KE.GoesEnum
import HandS.AnyAll
import HandS.Rev
import KE.DataMinMax
import KE.KExcSuper
import HandS.ExcInit
import HandS.HeadHook2
import HandS.GenOver
import KE.GoesZip
import KE.GoesMore
import HandS.SortInts
import HandS.Head0
import HandS.Head1
import HandS.Head2
import HandS.HeadEnd
import HandS.HeadHook1
import HandS.HeadHook3
import HandS.HeadWalk
import KE.SortData
import PySem.Challenge.RW_wagehall_k05_withheld_and_paid
set_option Elab.async false
set_option linter.all false
set_option maxRecDepth 100000
set_option maxHeartbeats 2000000
/-! DL: deep data, a store, denotations (a layer over HandS). -/
namespace DL
open PySem PySem.Spec PyProof.Rows L2

/-! ### data -/
inductive D where
  | non | bl (b : Bool) | int (i : Int) | str (x : Str) | tup (xs : List D) | fl (xs : List D) | obj (n : Nat)
deriving Inhabited
inductive DO where
  | lst (xs : List D)
  | ins (c : String) (fs : List (Str × D))
abbrev Store := List DO
abbrev DEnv := List (Option D)
structure Exc where
  c : String
inductive Out (α : Type) where
  | ok (a : α) (S : Store) | exn (e : Exc) (S : Store) | bad
def Out.bind {α β : Type} (o : Out α) (k : α → Store → Out β) : Out β := match o with
  | .ok a S => k a S
  | .exn e S => .exn e S
  | .bad => .bad
@[simp] theorem Out.bind_ok {α β : Type} (a : α) (S : Store) (k : α → Store → Out β) : (Out.ok a S).bind k = k a S := rfl
@[simp] theorem Out.bind_exn {α β : Type} (e : Exc) (S : Store) (k : α → Store → Out β) : (Out.exn e S : Out α).bind k = .exn e S := rfl
@[simp] theorem Out.bind_bad {α β : Type} (k : α → Store → Out β) : (Out.bad : Out α).bind k = .bad := rfl
def optO {α : Type} : Option (α × Store) → Out α
  | some (a, S) => .ok a S
  | none => .bad
@[simp] theorem optO_some {α : Type} (a : α) (S : Store) : optO (some (a, S)) = .ok a S := rfl
@[simp] theorem optO_none {α : Type} : optO (none : Option (α × Store)) = .bad := rfl
/-- classes by names; tables of code objects -/
structure Gx where
  cA : String → Addr
  T : List (Addr × Str)

/-- a list that nothing changes -/
def SqF (K : PySem.W.Frag) (H : Hp) (a : Addr) (xs : List V) : Prop :=
  (∃ o, H a = some (.frz o (.lst xs))) ∨ ∃ (o : Obj) (its : Array Value) (n : Nat), K.lookup a = some o ∧ o.cls = .type "list" ∧ o.dict = none ∧ o.data = .seq its n ∧ its.size ≤ sizeLine ∧ Vals xs its.toList
theorem SqF.l {K : PySem.W.Frag} {H : Hp} {a : Addr} {xs : List V} (h : SqF K H a xs) : SqL K H a xs := by
  rcases h with ⟨o, h⟩ | h
  · exact .inl (.inr ⟨o, h⟩)
  · exact .inr h
mutual
def SV (K : PySem.W.Frag) (m : List Addr) (H : Hp) : D → V → Prop
  | .non, v => v = .non
  | .bl b, v => v = .bl b
  | .int i, v => v = .int i
  | .str x, v => v = .str x
  | .tup xs, v => ∃ p vs, v = .ref p ∧ SqT K H p vs ∧ SVs K m H xs vs
  | .fl xs, v => ∃ p vs, v = .ref p ∧ SqF K H p vs ∧ SVs K m H xs vs
  | .obj n, v => ∃ a, v = .ref a ∧ m[n]? = some a
def SVs (K : PySem.W.Frag) (m : List Addr) (H : Hp) : List D → List V → Prop
  | [], vs => vs = []
  | d :: ds, vs => ∃ v r, vs = v :: r ∧ SV K m H d v ∧ SVs K m H ds r
end
def SF (K : PySem.W.Frag) (m : List Addr) (H : Hp) : List (Str × D) → List (Str × V) → Prop
  | [], vs => vs = []
  | (f, d) :: ds, vs => ∃ v r, vs = (f, v) :: r ∧ SV K m H d v ∧ SF K m H ds r
/-- what stands at a for the store's object -/
def SO (K : PySem.W.Frag) (G : Gx) (m : List Addr) (H : Hp) : DO → Addr → Prop
  | .lst xs, a => ∃ vs, H a = some (.lst vs) ∧ SVs K m H xs vs
  | .ins c fs, a => ∃ dx vfs, H a = some (.ins (G.cA c) dx vfs) ∧ SF K m H fs vfs
structure Sim (K : PySem.W.Frag) (G : Gx) (m : List Addr) (S : Store) (H : Hp) : Prop where
  len : m.length = S.length
  nd : m.Nodup
  at_ : ∀ (n : Nat) (o : DO) (a : Addr), S[n]? = some o → m[n]? = some a → SO K G m H o a
  tabs : LamX.Tabs G.T H
structure Step (m : List Addr) (H : Hp) (m' : List Addr) (H' : Hp) : Prop where
  ext : ∃ l, m' = m ++ l ∧ ∀ a ∈ l, ∀ o, H a = some o → ∃ ps, o = .tbl ps
  nd : m'.Nodup
  frame : ∀ b o, H b = some o → (∀ ps, o ≠ .tbl ps) → b ∉ m → H' b = some o
/-- mutable things of the store -/
def MutO : HO → Prop
  | .lst _ => True
  | .ins _ _ _ => True
  | .dK _ => True
  | .dT _ => True
  | _ => False
section
variable {K : PySem.W.Frag} {G : Gx} {m m1 m2 : List Addr} {S S1 : Store} {H H1 H2 : Hp}
theorem Sim.mem (s : Sim K G m S H) {a : Addr} (h : a ∈ m) : ∃ o, H a = some o ∧ MutO o := by
  obtain ⟨n, hn, e⟩ := List.getElem_of_mem h
  have hn' : n < S.length := by rw [← s.len]; exact hn
  have q := s.at_ n S[n] a (by simp [hn']) (by simp [hn, e])
  cases e2 : S[n] with
  | lst xs => rw [e2] at q; obtain ⟨vs, q, _⟩ := q; exact ⟨_, q, trivial⟩
  | ins c fs => rw [e2] at q; obtain ⟨dx, vs, q, _⟩ := q; exact ⟨_, q, trivial⟩
theorem Sim.notMem (s : Sim K G m S H) {a : Addr} {o : HO} (h : H a = some o) (hm : ¬ MutO o) : a ∉ m := fun q => by
  obtain ⟨o', e, mu⟩ := s.mem q
  rw [h] at e; cases e; exact hm mu
theorem Sim.fresh (s : Sim K G m S H) {a : Addr} (h : H a = none) : a ∉ m := fun q => by
  obtain ⟨o', e, mu⟩ := s.mem q
  rw [h] at e; cases e
theorem Step.refl (nd : m.Nodup) : Step m H m H := ⟨⟨[], by simp⟩, nd, fun _ _ h _ _ => h⟩
theorem Sim.refl (s : Sim K G m S H) : Step m H m H := Step.refl s.nd
theorem Step.trans (a : Step m H m1 H1) (b : Step m1 H1 m2 H2) : Step m H m2 H2 := by
  obtain ⟨l1, e1, f1⟩ := a.ext
  obtain ⟨l2, e2, f2⟩ := b.ext
  refine ⟨⟨l1 ++ l2, by rw [e2, e1, List.append_assoc], fun x hx o hxo => ?_⟩, b.nd, fun x o hx ht hm => ?_⟩
  · rcases List.mem_append.mp hx with hx | hx
    · exact f1 x hx o hxo
    · by_cases ht : ∃ ps, o = .tbl ps
      · exact ht
      · have nm : x ∉ m := fun hm => by
          have nd := b.nd
          rw [e2, e1] at nd
          have := (List.nodup_append.mp nd).2.2
          exact this x (List.mem_append_left _ hm) x hx rfl
        exact f2 x hx o (a.frame x o hxo (fun ps e => ht ⟨ps, e⟩) nm)
  · have h1 := a.frame x o hx ht hm
    refine b.frame x o h1 ht ?_
    rw [e1]
    intro q
    rcases List.mem_append.mp q with q | q
    · exact hm q
    · obtain ⟨ps, e⟩ := f1 x q o hx
      exact ht ps e
theorem Step.get (a : Step m H m1 H1) {n : Nat} {x : Addr} (h : m[n]? = some x) : m1[n]? = some x := by
  obtain ⟨l, e, _⟩ := a.ext
  rw [e, List.getElem?_append_left (List.getElem?_eq_some_iff.mp h).1]
  exact h
theorem sqT_step (s : Sim K G m S H) (st : Step m H m1 H1) {p : Addr} {vs : List V} (h : SqT K H p vs) : SqT K H1 p vs := by
  rcases h with (h | ⟨o, h⟩) | h
  · exact .inl (.inl (st.frame _ _ h (fun _ z => by cases z) (s.notMem h (fun z => z))))
  · exact .inl (.inr ⟨o, st.frame _ _ h (fun _ z => by cases z) (s.notMem h (fun z => z))⟩)
  · exact .inr h
theorem sqF_step (s : Sim K G m S H) (st : Step m H m1 H1) {p : Addr} {vs : List V} (h : SqF K H p vs) : SqF K H1 p vs := by
  rcases h with ⟨o, h⟩ | h
  · exact .inl ⟨o, st.frame _ _ h (fun _ z => by cases z) (s.notMem h (fun z => z))⟩
  · exact .inr h
end
mutual
theorem SV.mono {K : PySem.W.Frag} {G : Gx} {m m1 : List Addr} {S : Store} {H H1 : Hp} (s : Sim K G m S H) (st : Step m H m1 H1) : ∀ {d : D} {v : V}, SV K m H d v → SV K m1 H1 d v
  | .non, v, h => h
  | .bl b, v, h => h
  | .int i, v, h => h
  | .str x, v, h => h
  | .tup xs, v, h => by
    obtain ⟨p, vs, e, q, r⟩ := (show ∃ p vs, v = .ref p ∧ SqT K H p vs ∧ SVs K m H xs vs from h)
    exact ⟨p, vs, e, sqT_step s st q, SVs.mono s st r⟩
  | .fl xs, v, h => by
    obtain ⟨p, vs, e, q, r⟩ := (show ∃ p vs, v = .ref p ∧ SqF K H p vs ∧ SVs K m H xs vs from h)
    exact ⟨p, vs, e, sqF_step s st q, SVs.mono s st r⟩
  | .obj n, v, h => by
    obtain ⟨a, e, q⟩ := (show ∃ a, v = .ref a ∧ m[n]? = some a from h)
    exact ⟨a, e, st.get q⟩
theorem SVs.mono {K : PySem.W.Frag} {G : Gx} {m m1 : List Addr} {S : Store} {H H1 : Hp} (s : Sim K G m S H) (st : Step m H m1 H1) : ∀ {ds : List D} {vs : List V}, SVs K m H ds vs → SVs K m1 H1 ds vs
  | [], vs, h => h
  | d :: ds, vs, h => by
    obtain ⟨v, r, e, a, b⟩ := (show ∃ v r, vs = v :: r ∧ SV K m H d v ∧ SVs K m H ds r from h)
    exact ⟨v, r, e, SV.mono s st a, SVs.mono s st b⟩
end
section
variable {K : PySem.W.Frag} {G : Gx} {m m1 m2 : List Addr} {S S1 : Store} {H H1 H2 : Hp}
theorem SF.mono (s : Sim K G m S H) (st : Step m H m1 H1) : ∀ {ds : List (Str × D)} {vs : List (Str × V)}, SF K m H ds vs → SF K m1 H1 ds vs
  | [], vs, h => h
  | (f, d) :: ds, vs, h => by
    obtain ⟨v, r, e, a, b⟩ := (show ∃ v r, vs = (f, v) :: r ∧ SV K m H d v ∧ SF K m H ds r from h)
    exact ⟨v, r, e, SV.mono s st a, SF.mono s st b⟩
theorem SVs.len : ∀ {ds : List D} {vs : List V}, SVs K m H ds vs → ds.length = vs.length
  | [], vs, h => by rw [show vs = [] from h]; rfl
  | d :: ds, vs, h => by
    obtain ⟨v, r, e, a, b⟩ := (show ∃ v r, vs = v :: r ∧ SV K m H d v ∧ SVs K m H ds r from h)
    rw [e, List.length_cons, List.length_cons, SVs.len b]
theorem SVs.get : ∀ {ds : List D} {vs : List V} {i : Nat} {d : D}, SVs K m H ds vs → ds[i]? = some d → ∃ v, vs[i]? = some v ∧ SV K m H d v
  | [], vs, i, d, h, e => by simp at e
  | d' :: ds, vs, i, d, h, e => by
    obtain ⟨v, r, rfl, a, b⟩ := (show ∃ v r, vs = v :: r ∧ SV K m H d' v ∧ SVs K m H ds r from h)
    cases i with
    | zero => simp at e; subst e; exact ⟨v, by simp, a⟩
    | succ i =>
      obtain ⟨u, h1, h2⟩ := SVs.get (i := i) b (by simpa using e)
      exact ⟨u, by simpa using h1, h2⟩
theorem SVs.append : ∀ {ds es : List D} {vs us : List V}, SVs K m H ds vs → SVs K m H es us → SVs K m H (ds ++ es) (vs ++ us)
  | [], es, vs, us, h, q => by rw [show vs = [] from h]; exact q
  | d :: ds, es, vs, us, h, q => by
    obtain ⟨v, r, rfl, a, b⟩ := (show ∃ v r, vs = v :: r ∧ SV K m H d v ∧ SVs K m H ds r from h)
    exact ⟨v, r ++ us, rfl, a, SVs.append b q⟩
theorem SVs.one {d : D} {v : V} (h : SV K m H d v) : SVs K m H [d] [v] := ⟨v, [], rfl, h, rfl⟩
theorem SVs.take : ∀ {ds : List D} {vs : List V} (n : Nat), SVs K m H ds vs → SVs K m H (ds.take n) (vs.take n)
  | [], vs, n, h => by rw [show vs = [] from h]; simp; rfl
  | d :: ds, vs, 0, h => by simp; rfl
  | d :: ds, vs, n + 1, h => by
    obtain ⟨v, r, rfl, a, b⟩ := (show ∃ v r, vs = v :: r ∧ SV K m H d v ∧ SVs K m H ds r from h)
    exact ⟨v, r.take n, rfl, a, SVs.take n b⟩
theorem SVs.drop : ∀ {ds : List D} {vs : List V} (n : Nat), SVs K m H ds vs → SVs K m H (ds.drop n) (vs.drop n)
  | [], vs, n, h => by rw [show vs = [] from h]; simp; rfl
  | d :: ds, vs, 0, h => h
  | d :: ds, vs, n + 1, h => by
    obtain ⟨v, r, rfl, a, b⟩ := (show ∃ v r, vs = v :: r ∧ SV K m H d v ∧ SVs K m H ds r from h)
    exact SVs.drop n b
theorem SVs.set {d : D} {v : V} (q : SV K m H d v) : ∀ {ds : List D} {vs : List V} (n : Nat), SVs K m H ds vs → SVs K m H (ds.set n d) (vs.set n v)
  | [], vs, n, h => by rw [show vs = [] from h]; simp; rfl
  | d' :: ds, vs, 0, h => by
    obtain ⟨u, r, rfl, a, b⟩ := (show ∃ v r, vs = v :: r ∧ SV K m H d' v ∧ SVs K m H ds r from h)
    exact ⟨v, r, rfl, q, b⟩
  | d' :: ds, vs, n + 1, h => by
    obtain ⟨u, r, rfl, a, b⟩ := (show ∃ v r, vs = v :: r ∧ SV K m H d' v ∧ SVs K m H ds r from h)
    exact ⟨u, r.set n v, rfl, a, SVs.set q n b⟩
theorem SF.len : ∀ {ds : List (Str × D)} {vs : List (Str × V)}, SF K m H ds vs → ds.length = vs.length
  | [], vs, h => by rw [show vs = [] from h]; rfl
  | (f, d) :: ds, vs, h => by
    obtain ⟨v, r, e, a, b⟩ := (show ∃ v r, vs = (f, v) :: r ∧ SV K m H d v ∧ SF K m H ds r from h)
    rw [e, List.length_cons, List.length_cons, SF.len b]
theorem SF.look : ∀ {ds : List (Str × D)} {vs : List (Str × V)} {f : Str} {d : D}, SF K m H ds vs → ds.lookup f = some d → ∃ v, vs.lookup f = some v ∧ SV K m H d v
  | [], vs, f, d, h, e => by cases e
  | (g, d') :: ds, vs, f, d, h, e => by
    obtain ⟨v, r, rfl, a, b⟩ := (show ∃ v r, vs = (g, v) :: r ∧ SV K m H d' v ∧ SF K m H ds r from h)
    rw [List.lookup_cons] at e ⊢
    cases q : f == g with
    | true => rw [q] at e; cases e; exact ⟨v, rfl, a⟩
    | false => rw [q] at e; exact SF.look b e
theorem SF.lookN : ∀ {ds : List (Str × D)} {vs : List (Str × V)} {f : Str}, SF K m H ds vs → ds.lookup f = none → vs.lookup f = none
  | [], vs, f, h, e => by rw [show vs = [] from h]; rfl
  | (g, d') :: ds, vs, f, h, e => by
    obtain ⟨v, r, rfl, a, b⟩ := (show ∃ v r, vs = (g, v) :: r ∧ SV K m H d' v ∧ SF K m H ds r from h)
    rw [List.lookup_cons] at e ⊢
    cases q : f == g with
    | true => rw [q] at e; cases e
    | false => rw [q] at e; exact SF.lookN b e
/-- a field put -/
def putD (f : Str) (d : D) : List (Str × D) → List (Str × D)
  | [] => [(f, d)]
  | (g, e) :: r => if g = f then (g, d) :: r else (g, e) :: putD f d r
theorem SF.put {f : Str} {d : D} {v : V} (q : SV K m H d v) : ∀ {ds : List (Str × D)} {vs : List (Str × V)}, SF K m H ds vs → SF K m H (putD f d ds) (putF f v vs)
  | [], vs, h => by rw [show vs = [] from h]; exact ⟨v, [], rfl, q, rfl⟩
  | (g, d') :: ds, vs, h => by
    obtain ⟨u, r, rfl, a, b⟩ := (show ∃ v r, vs = (g, v) :: r ∧ SV K m H d' v ∧ SF K m H ds r from h)
    unfold putD putF
    by_cases e : g = f
    · rw [if_pos e, if_pos e]
      exact ⟨v, r, rfl, q, b⟩
    · rw [if_neg e, if_neg e]
      exact ⟨u, _, rfl, a, SF.put q b⟩
theorem SO.mono (s : Sim K G m S H) (st : Step m H m1 H1) {o : DO} {a : Addr} (h : SO K G m H o a) (ha : H1 a = H a) : SO K G m1 H1 o a := by
  cases o with
  | lst xs =>
    obtain ⟨vs, e, r⟩ := h
    exact ⟨vs, ha.trans e, r.mono s st⟩
  | ins c fs =>
    obtain ⟨dx, vs, e, r⟩ := h
    exact ⟨dx, vs, ha.trans e, r.mono s st⟩
theorem tabs_step {T : List (Addr × Str)} (t : LamX.Tabs T H) (e : ∀ b o, H b = some o → ¬ MutO o → H1 b = some o) : LamX.Tabs T H1 := fun p hp => by
  obtain ⟨ps, h1, h2, h3⟩ := t p hp
  refine ⟨ps, e _ _ h1 (fun z => z), h2, fun pos cv hc => ?_⟩
  obtain ⟨c, e1, e2⟩ := h3 pos cv hc
  exact ⟨c, e1, e _ _ e2 (fun z => by unfold LamX.CodeO at z; exact z)⟩
/-- something new beside the store -/
theorem Step.beside (s : Sim K G m S H) {p : Addr} {o : HO} (hp : H p = none) : Step m H m (upd H p o) :=
  ⟨⟨[], by simp⟩, s.nd, fun b u e _ _ => by rw [upd_ne (ne_of_none e hp)]; exact e⟩
theorem Sim.beside (s : Sim K G m S H) {p : Addr} {o : HO} (hp : H p = none) : Sim K G m S (upd H p o) := by
  have st : Step m H m (upd H p o) := Step.beside s hp
  refine ⟨s.len, s.nd, fun n ob a h1 h2 => ?_, tabs_step s.tabs fun b u e _ => by rw [upd_ne (ne_of_none e hp)]; exact e⟩
  have hm : a ∈ m := List.mem_of_getElem? h2
  obtain ⟨u, e, _⟩ := s.mem hm
  exact (s.at_ n ob a h1 h2).mono s st (by rw [upd_ne (ne_of_none e hp)])
/-- a new object of the store -/
theorem Step.new (s : Sim K G m S H) {p : Addr} {o : HO} (hp : H p = none) : Step m H (m ++ [p]) (upd H p o) := by
  refine ⟨⟨[p], rfl, fun a ha o e => by rw [List.mem_singleton.mp ha, hp] at e; cases e⟩, ?_, fun b u e _ _ => by rw [upd_ne (ne_of_none e hp)]; exact e⟩
  rw [List.nodup_append]
  refine ⟨s.nd, by simp, fun a ha b hb e => ?_⟩
  rw [List.mem_singleton.mp hb] at e
  exact s.fresh hp (e ▸ ha)
theorem Sim.new (s : Sim K G m S H) {p : Addr} {o : HO} {ob : DO} (hp : H p = none) (h : SO K G (m ++ [p]) (upd H p o) ob p) : Sim K G (m ++ [p]) (S ++ [ob]) (upd H p o) := by
  have st : Step m H (m ++ [p]) (upd H p o) := Step.new s hp
  refine ⟨by simp [s.len], st.nd, fun n ob' a h1 h2 => ?_, tabs_step s.tabs fun b u e _ => by rw [upd_ne (ne_of_none e hp)]; exact e⟩
  by_cases hn : n < S.length
  · rw [List.getElem?_append_left hn] at h1
    rw [List.getElem?_append_left (by rw [s.len]; exact hn)] at h2
    have hm : a ∈ m := List.mem_of_getElem? h2
    obtain ⟨u, e, _⟩ := s.mem hm
    exact (s.at_ n ob' a h1 h2).mono s st (by rw [upd_ne (ne_of_none e hp)])
  · rw [List.getElem?_append_right (by omega)] at h1
    rw [List.getElem?_append_right (by rw [s.len]; omega), s.len] at h2
    have e : n - S.length = 0 := by
      cases q : n - S.length with
      | zero => rfl
      | succ k => rw [q] at h1; simp at h1
    rw [e] at h1 h2
    simp at h1 h2
    rw [← h1, ← h2]
    exact h
/-- an object of the store changed -/
theorem Step.put (s : Sim K G m S H) {n : Nat} {p : Addr} {o : HO} (hp : m[n]? = some p) : Step m H m (upd H p o) := by
  have hm : p ∈ m := List.mem_of_getElem? hp
  refine ⟨⟨[], by simp⟩, s.nd, fun b u e _ nb => ?_⟩
  have ne : b ≠ p := fun z => nb (by rw [z]; exact hm)
  rw [upd_ne ne]; exact e
theorem Sim.put (s : Sim K G m S H) {n : Nat} {p : Addr} {o : HO} {ob : DO} (hp : m[n]? = some p) (h : SO K G m (upd H p o) ob p) : Sim K G m (S.set n ob) (upd H p o) := by
  have st : Step m H m (upd H p o) := Step.put s hp
  have hm : p ∈ m := List.mem_of_getElem? hp
  obtain ⟨op, ep, mu⟩ := s.mem hm
  refine ⟨by simp [s.len], s.nd, fun k ob' a h1 h2 => ?_, tabs_step s.tabs fun b u e nm => ?_⟩
  · by_cases hk : n = k
    · subst hk
      have hlt : n < S.length := by rw [← s.len]; exact (List.getElem?_eq_some_iff.mp hp).1
      rw [List.getElem?_set_self hlt] at h1
      rw [hp] at h2
      cases h1; cases h2
      exact h
    · rw [List.getElem?_set_ne hk] at h1
      have ne : a ≠ p := fun e => by
        subst e
        exact hk ((List.getElem?_inj (List.getElem?_eq_some_iff.mp hp).1 s.nd).mp (hp.trans h2.symm))
      exact (s.at_ k ob' a h1 h2).mono s st (by rw [upd_ne ne])
  · have ne : b ≠ p := fun z => by
      subst z
      rw [ep] at e
      cases e
      exact nm mu
    rw [upd_ne ne]; exact e
end

/-! ### denotations and what they promise -/
abbrev DE := DEnv → Store → Out D
abbrev DA := DEnv → Store → Out (List D)
abbrev DT := DEnv → Store → Out Bool
/-- slots -/
def SR (K : PySem.W.Frag) (m : List Addr) (H : Hp) (ρ : DEnv) (σ : L2.St) : Prop := ρ.length = σ.length ∧ ∀ (i : Nat) (d : D), ρ[i]? = some (some d) → ∃ v, σ[i]? = some (some v) ∧ SV K m H d v
theorem SR.mono {K : PySem.W.Frag} {G : Gx} {m m1 : List Addr} {S : Store} {H H1 : Hp} {ρ : DEnv} {σ : L2.St} (h : SR K m H ρ σ) (s : Sim K G m S H) (st : Step m H m1 H1) : SR K m1 H1 ρ σ :=
  ⟨h.1, fun i d e => by
    obtain ⟨v, h1, h2⟩ := h.2 i d e
    exact ⟨v, h1, h2.mono s st⟩⟩
theorem SR.set {K : PySem.W.Frag} {m : List Addr} {H : Hp} {ρ : DEnv} {σ : L2.St} (h : SR K m H ρ σ) (i : Nat) {d : D} {v : V} (q : SV K m H d v) : SR K m H (ρ.set i (some d)) (σ.set i (some v)) := by
  refine ⟨by simp [h.1], fun j e hj => ?_⟩
  by_cases hij : i = j
  · subst hij
    have hlt : i < ρ.length := by
      have := (List.getElem?_eq_some_iff.mp hj).1
      simpa using this
    rw [List.getElem?_set_self hlt] at hj
    cases hj
    exact ⟨v, by rw [List.getElem?_set_self (by rw [← h.1]; exact hlt)], q⟩
  · rw [List.getElem?_set_ne hij] at hj
    obtain ⟨u, h1, h2⟩ := h.2 j e hj
    exact ⟨u, by rw [List.getElem?_set_ne hij]; exact h1, h2⟩
/-- what is told of an exception -/
def XO (G : Gx) (e : Exc) (cls : Value) (_ : Option Addr) : Prop := cls = .ref (G.cA e.c)
section
variable {α β γ δ : Type}
/-- what must hold of an outcome -/
def EO (K : PySem.W.Frag) (G : Gx) (rel : List Addr → Hp → α → β → Prop) (Q : β → Hp → Prop) (Wc : Value → Option Addr → Hp → Prop) (m : List Addr) (H : Hp) : Out α → Prop
  | .ok a S' => ∀ b H' m', Step m H m' H' → Sim K G m' S' H' → rel m' H' a b → Q b H'
  | .exn e S' => ∀ cls dx H' m', Step m H m' H' → Sim K G m' S' H' → XO G e cls dx → Wc cls dx H'
  | .bad => False
variable {K : PySem.W.Frag} {G : Gx} {rel : List Addr → Hp → α → β → Prop} {rel' : List Addr → Hp → γ → δ → Prop} {Q : β → Hp → Prop} {Q' : δ → Hp → Prop} {Wc : Value → Option Addr → Hp → Prop} {m m1 : List Addr} {H H1 : Hp}
theorem EO.step {o : Out α} (h : EO K G rel Q Wc m H o) (st : Step m H m1 H1) : EO K G rel Q Wc m1 H1 o := by
  cases o with
  | ok a S => exact fun b H' m' s1 s2 r => h b H' m' (st.trans s1) s2 r
  | exn e S => exact fun cls dx H' m' s1 s2 r => h cls dx H' m' (st.trans s1) s2 r
  | bad => exact h.elim
theorem EO.then {o : Out α} {k : α → Store → Out γ} (h : EO K G rel' Q' Wc m H (o.bind k))
    (f : ∀ a S1 b H1 m1, Step m H m1 H1 → Sim K G m1 S1 H1 → rel m1 H1 a b → EO K G rel' Q' Wc m1 H1 (k a S1) → Q b H1) : EO K G rel Q Wc m H o := by
  cases o with
  | ok a S => exact fun b H' m' s1 s2 r => f a S b H' m' s1 s2 r (EO.step h s1)
  | exn e S => exact h
  | bad => exact h.elim
theorem EO.imp {o : Out α} {Q2 : β → Hp → Prop} (h : EO K G rel Q Wc m H o) (f : ∀ b H, Q b H → Q2 b H) : EO K G rel Q2 Wc m H o := by
  cases o with
  | ok a S => exact fun b H' m' s1 s2 r => f _ _ (h b H' m' s1 s2 r)
  | exn e S => exact h
  | bad => exact h.elim
end
def eqR {α : Type} : List Addr → Hp → α → α → Prop := fun _ _ a b => a = b
section
variable (K : PySem.W.Frag) (G : Gx) (W : WX)
def tD (f : DE) : TE := fun σ H Q => ∃ m ρ S, SR K m H ρ σ ∧ Sim K G m S H ∧ EO K G (SV K) Q (fun c d H' => W c d σ H') m H (f ρ S)
def tDA (f : DA) : TA := fun σ H Q => ∃ m ρ S, SR K m H ρ σ ∧ Sim K G m S H ∧ EO K G (SVs K) Q (fun c d H' => W c d σ H') m H (f ρ S)
def tDT (f : DT) : TT := fun σ H Q => ∃ m ρ S, SR K m H ρ σ ∧ Sim K G m S H ∧ EO K G eqR Q (fun c d H' => W c d σ H') m H (f ρ S)
end
abbrev JE (X : Cx) (G : Gx) (W : WX) (e : Expr) (f : DE) : Prop := PE X e (tD X.K G W f)
abbrev JA (X : Cx) (G : Gx) (W : WX) (es : List Expr) (f : DA) : Prop := PA X es (tDA X.K G W f)
abbrev JT (X : Cx) (G : Gx) (W : WX) (e : Expr) (f : DT) : Prop := PT X e (tDT X.K G W f)
abbrev JW (X : Cx) (G : Gx) (W : WX) (e : Expr) (f : DT) : Prop := PW X e (tDT X.K G W f)
theorem PE.imp {X : Cx} {e : Expr} {t t' : TE} (h : PE X e t) (f : ∀ σ H Q, t' σ H Q → t σ H Q) : PE X e t' := ⟨fun pins s σ H Q I q => h.run pins s σ H Q I (f σ H Q q)⟩
theorem PT.imp {X : Cx} {e : Expr} {t t' : TT} (h : PT X e t) (f : ∀ σ H Q, t' σ H Q → t σ H Q) : PT X e t' := ⟨fun pins s σ H Q I q => h.run pins s σ H Q I (f σ H Q q)⟩
theorem PW.imp {X : Cx} {e : Expr} {t t' : TT} (h : PW X e t) (f : ∀ σ H Q, t' σ H Q → t σ H Q) : PW X e t' := ⟨fun wh pins s σ H Q I q => h.run wh pins s σ H Q I (f σ H Q q)⟩
theorem PA.imp {X : Cx} {e : List Expr} {t t' : TA} (h : PA X e t) (f : ∀ σ H Q, t' σ H Q → t σ H Q) : PA X e t' := ⟨fun pos pins s σ H Q I q => h.run pos pins s σ H Q I (f σ H Q q)⟩
theorem OpR.imp {X : Cx} {f : Value → Value → Sem Value} {r r' : R2} (h : OpR X f r) (g : ∀ x y H Q, r' x y H Q → r x y H Q) : OpR X f r' := fun pins s σ H x y v u Q I r1 r2 q => h pins s σ H x y v u Q I r1 r2 (g x y H Q q)
theorem UnR.imp {X : Cx} {f : Value → Sem Value} {r r' : V → Hp → VK → Prop} (h : UnR X f r) (g : ∀ x H Q, r' x H Q → r x H Q) : UnR X f r' := fun pins s σ H x v Q I r1 q => h pins s σ H x v Q I r1 (g x H Q q)
theorem CallR.imp {X : Cx} {f : Value} {r r' : List V → Hp → VK → Prop} (h : CallR X f r) (g : ∀ x H Q, r' x H Q → r x H Q) : CallR X f r' := fun pins s σ H x v Q I r1 q => h pins s σ H x v Q I r1 (g x H Q q)

/-! ### names, constants -/
def dVar (i : Nat) : DE := fun ρ S => match ρ[i]? with
  | some (some d) => .ok d S
  | _ => .bad
def dC (d : D) : DE := fun _ S => .ok d S
section
variable {X : Cx} {G : Gx} {W : WX}
theorem je_var (i : Nat) {x : Str} {pos : Pos} (hN : X.N[i]? = some x := by rfl) (hv : Vis X.env.scope x := by first | exact Or.inl rfl | exact Or.inr (Or.inl rfl) | exact Or.inr (Or.inr rfl)) (hd : (x == ("__debug__" : Str)) = false := by decide)
    (hcd : (x == ("__classdict__" : Str)) = false := by decide) : JE X G W (.Name x pos) (dVar i) :=
  PE.imp (pe_var hN hv hd hcd) fun σ H Q ⟨m, ρ, S, sr, sm, eo⟩ => by
    unfold dVar at eo
    split at eo
    · rename_i d e
      obtain ⟨v, h1, h2⟩ := sr.2 i d e
      exact ⟨v, h1, eo v H m sm.refl sm h2⟩
    · exact eo.elim
theorem je_int {i j pos} : JE X G W (.Constant (.int i) j pos) (dC (.int i)) := PE.imp pe_int fun σ H Q ⟨m, ρ, S, sr, sm, eo⟩ => eo _ H m sm.refl sm rfl
theorem je_bl {i j pos} : JE X G W (.Constant (.bool i) j pos) (dC (.bl i)) := PE.imp pe_bl fun σ H Q ⟨m, ρ, S, sr, sm, eo⟩ => eo _ H m sm.refl sm rfl
theorem je_str {i j pos} : JE X G W (.Constant (.str i) j pos) (dC (.str i)) := PE.imp pe_str fun σ H Q ⟨m, ρ, S, sr, sm, eo⟩ => eo _ H m sm.refl sm rfl
theorem je_non {j pos} : JE X G W (.Constant .none j pos) (dC .non) := PE.imp pe_non fun σ H Q ⟨m, ρ, S, sr, sm, eo⟩ => eo _ H m sm.refl sm rfl
end

/-! ### operators -/
abbrev D2 := D → D → Store → Option (D × Store)
def dOp (g : D2) (fa fb : DE) : DE := fun ρ S => (fa ρ S).bind fun x S1 => (fb ρ S1).bind fun y S2 => optO (g x y S2)
/-- what an operator promises -/
def OR (K : PySem.W.Frag) (G : Gx) (g : D2) : R2 := fun x y H Q => ∃ m S a b d S', Sim K G m S H ∧ SV K m H a x ∧ SV K m H b y ∧ g a b S = some (d, S') ∧ ∀ v H' m', Step m H m' H' → Sim K G m' S' H' → SV K m' H' d v → Q v H'
abbrev JOp (X : Cx) (G : Gx) (f : Value → Value → Sem Value) (g : D2) : Prop := OpR X f (OR X.K G g)
section
variable {X : Cx} {G : Gx} {W : WX}
theorem je_op {op : Operator} {g : D2} {a b : Expr} {fa fb : DE} {pos : Pos} (ho : JOp X G (binaryOp op) g) (ha : JE X G W a fa) (hb : JE X G W b fb) : JE X G W (.BinOp a op b pos) (dOp g fa fb) :=
  PE.imp (pe_op ho ha hb) fun σ H Q ⟨m, ρ, S, sr, sm, eo⟩ =>
    ⟨m, ρ, S, sr, sm, eo.then fun x S1 v H1 m1 st1 sm1 r1 eo1 => ⟨m1, ρ, S1, sr.mono sm st1, sm1, eo1.then fun y S2 u H2 m2 st2 sm2 r2 eo2 => by
      cases q : g x y S2 with
      | none => rw [q] at eo2; exact eo2.elim
      | some p =>
        obtain ⟨d, S3⟩ := p
        rw [q] at eo2
        exact ⟨m2, S2, x, y, d, S3, sm2, r1.mono sm1 st2, r2, q, eo2⟩⟩⟩
end
end DL
set_option Elab.async false
set_option linter.all false
set_option maxRecDepth 100000
set_option maxHeartbeats 2000000
namespace DL
open PySem PySem.Spec PyProof.Rows L2
/-! ### the store's own operations -/
def newO (ob : DO) (S : Store) : D × Store := (.obj S.length, S ++ [ob])
section
variable {K : PySem.W.Frag} {G : Gx} {m m1 : List Addr} {S S1 : Store} {H H1 : Hp}
theorem sv_tup {p : Addr} {ds : List D} {vs : List V} (h : SVs K m H ds vs) (s : Sim K G m S H) (hp : H p = none) : SV K m (upd H p (.tup vs)) (.tup ds) (.ref p) :=
  ⟨p, vs, rfl, SqT.of upd_same, h.mono s (Step.beside s hp)⟩
theorem sim_lst {p : Addr} {ds : List D} {vs : List V} (h : SVs K m H ds vs) (s : Sim K G m S H) (hp : H p = none) : Sim K G (m ++ [p]) (S ++ [.lst ds]) (upd H p (.lst vs)) :=
  s.new hp ⟨vs, upd_same, h.mono s (Step.new s hp)⟩
theorem sv_new (s : Sim K G m S H) {p : Addr} : SV K (m ++ [p]) H1 (.obj S.length) (.ref p) := ⟨p, rfl, by rw [← s.len]; simp⟩
/-- the store's list -/
def lstAt (S : Store) (n : Nat) : Option (List D) := match S[n]? with
  | some (.lst xs) => some xs
  | _ => none
theorem lstAt_ok (s : Sim K G m S H) {n : Nat} {xs : List D} (h : lstAt S n = some xs) : ∃ a vs, m[n]? = some a ∧ H a = some (.lst vs) ∧ SVs K m H xs vs := by
  unfold lstAt at h
  split at h
  · rename_i ys e
    cases h
    have hn : n < m.length := by rw [s.len]; exact (List.getElem?_eq_some_iff.mp e).1
    obtain ⟨vs, h1, h2⟩ := s.at_ n _ m[n] e (by simp [hn])
    exact ⟨m[n], vs, by simp [hn], h1, h2⟩
  · cases h
/-- a sequence that is read: a tuple, a fixed list, a list -/
def seqAt (S : Store) : D → Option (List D)
  | .tup xs => some xs
  | .fl xs => some xs
  | .obj n => lstAt S n
  | _ => none
theorem seqAt_ok (s : Sim K G m S H) {d : D} {v : V} {xs : List D} (h : seqAt S d = some xs) (r : SV K m H d v) : ∃ p vs, v = .ref p ∧ SVs K m H xs vs ∧ (SqL K H p vs ∨ SqT K H p vs) := by
  cases d with
  | tup ys => cases h; obtain ⟨p, vs, e, q, r⟩ := r; exact ⟨p, vs, e, r, .inr q⟩
  | fl ys => cases h; obtain ⟨p, vs, e, q, r⟩ := r; exact ⟨p, vs, e, r, .inl q.l⟩
  | obj n =>
    obtain ⟨a, e, hm⟩ := r
    obtain ⟨a', vs, h1, h2, h3⟩ := lstAt_ok s h
    rw [hm] at h1; cases h1
    exact ⟨a, vs, e, h3, .inl (SqL.of h2)⟩
  | _ => cases h
end
/-! ### arithmetic -/
def b2 (b : Bool) : Int := if b = true then 1 else 0
def addD : D2
  | .int i, .int j, S => some (.int (i + j), S)
  | .str x, .str y, S => if x.length + y.length ≤ 1000000 then some (.str (x ++ y), S) else none
  | .tup xs, .tup ys, S => if xs.length + ys.length ≤ 1000000 then some (.tup (xs ++ ys), S) else none
  | .obj n, .obj k, S => match lstAt S n, lstAt S k with
    | some xs, some ys => if xs.length + ys.length ≤ 1000000 then some (newO (.lst (xs ++ ys)) S) else none
    | _, _ => none
  | _, _, _ => none
def subD : D2
  | .int i, .int j, S => some (.int (i - j), S)
  | .bl i, .bl j, S => some (.int (b2 i - b2 j), S)
  | _, _, _ => none
def mulD : D2
  | .int i, .int j, S => if (i.natAbs < 18446744073709551616 ∨ j.natAbs < 18446744073709551616) ∨ i.natAbs.log2 + j.natAbs.log2 < 1000000 then some (.int (i * j), S) else none
  | .tup xs, .int k, S => if k ≤ 1000 ∧ xs.length ≤ 1000 ∧ xs ≠ [] ∧ -1000 ≤ k then some (.tup (List.replicate k.toNat xs).flatten, S) else none
  | _, _, _ => none
def fdivD : D2
  | .int i, .int j, S => if 0 < j ∧ j.natAbs.log2 < 9000 then some (.int (i / j), S) else none
  | _, _, _ => none
def modD : D2
  | .int i, .int j, S => if 0 < j then some (.int (i % j), S) else none
  | _, _, _ => none
def powD : D2
  | .int i, .int j, S => if 0 ≤ j ∧ j ≤ 1000000 ∧ i.natAbs < 2 ^ 64 then some (.int (i ^ j.toNat), S) else none
  | _, _, _ => none
theorem size6 {n : Nat} (h : n ≤ 1000000) : n ≤ sizeLine := Nat.le_trans h (by decide)
theorem int_sub_bb (a b : Bool) : Gives (Builtin.«int.__sub__» ⟨[.bool a, .bool b], []⟩) (.int ((if a = true then (1 : Int) else 0) - (if b = true then (1 : Int) else 0))) :=
  .of_wp fun M A E s Q h => by obtain ⟨hp, g, d, tk, os⟩ := s; wp_walk; exact ⟨_, rfl, h⟩
section
variable {X : Cx} {G : Gx} {W : WX}
theorem op_sub_bb : OpR X (binaryOp .Sub) (fun x y H Q => ∃ i j, x = .bl i ∧ y = .bl j ∧ Q (.int (b2 i - b2 j)) H) := by
  intro pins s σ H x y v u Q I rx ry h
  obtain ⟨i, j, rfl, rfl, q⟩ := h
  cases rx
  cases ry
  refine wpAny_binaryOp_same (op := .Sub) (T := "bool") rfl rfl F.fills_bool_sub F.slot_bool_sub ?_
  exact call_gives F.slot_bool_sub rfl F.entry_int_sub (F.args_int_sub_2 _ _) (int_sub_bb i j) ⟨(fun z => by cases z), ⟨.int _, H, I.tok _, ⟨_, rfl⟩, q⟩⟩
theorem jop_add : JOp X G (binaryOp .Add) addD := by
  refine OpR.imp (OpR.or op_add (OpR.or op_add_str (OpR.or op_catA op_cat))) fun x y H Q ⟨m, S, a, b, d, S', sm, ra, rb, e, k⟩ => ?_
  unfold addD at e
  split at e
  · rename_i S i j
    cases e; cases ra; cases rb
    exact .inl ⟨i, j, rfl, rfl, k _ H m sm.refl sm rfl⟩
  · rename_i S i j
    split at e
    · rename_i hz
      cases e; cases ra; cases rb
      exact .inr (.inl ⟨i, j, rfl, rfl, size6 hz, k _ H m sm.refl sm rfl⟩)
    · cases e
  · rename_i S xs ys
    split at e
    · rename_i hz
      cases e
      obtain ⟨p, vs, rfl, q, r⟩ := ra
      obtain ⟨p', vs', rfl, q', r'⟩ := rb
      have h1 := r.len
      have h2 := r'.len
      refine .inr (.inr (.inl ⟨p, p', vs, vs', rfl, rfl, q, q', by rw [← h1, ← h2]; exact size6 hz, fun e => ?_, fun _ e => ?_, fun _ _ p hp => ?_⟩))
      · subst e
        have : xs = [] := List.length_eq_zero_iff.mp h1
        subst this
        exact k _ H m sm.refl sm ⟨p', vs', rfl, q', r'⟩
      · subst e
        have : ys = [] := List.length_eq_zero_iff.mp h2
        subst this
        rw [List.append_nil] at k
        exact k _ H m sm.refl sm ⟨p, vs, rfl, q, r⟩
      · exact k _ _ m (Step.beside sm hp) (sm.beside hp) (sv_tup (r.append r') sm hp)
    · cases e
  · rename_i S n l
    split at e
    · rename_i xs ys e1 e2
      split at e
      · rename_i hz
        cases e
        obtain ⟨a, rfl, hm⟩ := ra
        obtain ⟨b, rfl, hm'⟩ := rb
        obtain ⟨a', vs, h1, h2, h3⟩ := lstAt_ok sm e1
        rw [hm] at h1; cases h1
        obtain ⟨b', vs', h1', h2', h3'⟩ := lstAt_ok sm e2
        rw [hm'] at h1'; cases h1'
        refine .inr (.inr (.inr ⟨a, b, vs, vs', rfl, rfl, h2, h2', by rw [← h3.len, ← h3'.len]; exact size6 hz, fun p hp => ?_⟩))
        exact k _ _ (m ++ [p]) (Step.new sm hp) (sim_lst (h3.append h3') sm hp) (sv_new sm)
      · cases e
    · cases e
  · cases e
theorem jop_sub : JOp X G (binaryOp .Sub) subD := by
  refine OpR.imp (OpR.or op_sub op_sub_bb) fun x y H Q ⟨m, S, a, b, d, S', sm, ra, rb, e, k⟩ => ?_
  unfold subD at e
  split at e
  · rename_i S i j
    cases e; cases ra; cases rb
    exact .inl ⟨i, j, rfl, rfl, k _ H m sm.refl sm rfl⟩
  · rename_i S i j
    cases e; cases ra; cases rb
    exact .inr ⟨i, j, rfl, rfl, k _ H m sm.refl sm rfl⟩
  · cases e
theorem jop_fdiv : JOp X G (binaryOp .FloorDiv) fdivD := by
  refine OpR.imp op_fdivW fun x y H Q ⟨m, S, a, b, d, S', sm, ra, rb, e, k⟩ => ?_
  unfold fdivD at e
  split at e
  · rename_i S i j
    split at e
    · rename_i hz
      cases e; cases ra; cases rb
      exact ⟨i, j, rfl, rfl, hz, k _ H m sm.refl sm rfl⟩
    · cases e
  · cases e
theorem jop_mod : JOp X G (binaryOp .Mod) modD := by
  refine OpR.imp op_mod fun x y H Q ⟨m, S, a, b, d, S', sm, ra, rb, e, k⟩ => ?_
  unfold modD at e
  split at e
  · rename_i S i j
    split at e
    · rename_i hz
      cases e; cases ra; cases rb
      exact ⟨i, j, rfl, rfl, hz, k _ H m sm.refl sm rfl⟩
    · cases e
  · cases e
theorem jop_pow : JOp X G (binaryOp .Pow) powD := by
  refine OpR.imp op_pow fun x y H Q ⟨m, S, a, b, d, S', sm, ra, rb, e, k⟩ => ?_
  unfold powD at e
  split at e
  · rename_i S i j
    split at e
    · rename_i hz
      cases e; cases ra; cases rb
      exact ⟨i, j, rfl, rfl, hz, k _ H m sm.refl sm rfl⟩
    · cases e
  · cases e
end
/-! ### one-place -/
abbrev D1 := D → Store → Option (D × Store)
def dUn (g : D1) (fa : DE) : DE := fun ρ S => (fa ρ S).bind fun x S1 => optO (g x S1)
def negD : D1
  | .int i, S => some (.int (-i), S)
  | _, _ => none
def notD : D1
  | .bl i, S => some (.bl (!i), S)
  | _, _ => none
section
variable {X : Cx} {G : Gx} {W : WX} {a b c : Expr} {fa fb fc : DE} {ga gb gc : DT} {pos : Pos} {rest : List Expr}
theorem je_neg (ha : JE X G W a fa) : JE X G W (.UnaryOp .USub a pos) (dUn negD fa) :=
  PE.imp (pe_un un_neg ha) fun σ H Q ⟨m, ρ, S, sr, sm, eo⟩ => ⟨m, ρ, S, sr, sm, eo.then fun x S1 v H1 m1 st1 sm1 r1 eo1 => by
    cases x with
    | int i => cases r1; exact ⟨i, rfl, eo1 _ H1 m1 sm1.refl sm1 rfl⟩
    | _ => exact eo1.elim⟩
theorem je_not (ha : JE X G W a fa) : JE X G W (.UnaryOp .Not a pos) (dUn notD fa) :=
  PE.imp (pe_not ha) fun σ H Q ⟨m, ρ, S, sr, sm, eo⟩ => ⟨m, ρ, S, sr, sm, eo.then fun x S1 v H1 m1 st1 sm1 r1 eo1 => by
    cases x with
    | bl i => cases r1; exact ⟨i, rfl, eo1 _ H1 m1 sm1.refl sm1 rfl⟩
    | _ => exact eo1.elim⟩
/-! ### comparisons -/
def cmpI (p : Int → Int → Bool) : D2
  | .int i, .int j, S => some (.bl (p i j), S)
  | _, _, _ => none
theorem jop_I {f : Value → Value → Sem Value} {p : Int → Int → Bool} (h : OpR X f (rI0 fun i j => .bl (p i j))) : JOp X G f (cmpI p) :=
  OpR.imp h fun x y H Q ⟨m, S, a, b, d, S', sm, ra, rb, e, k⟩ => by
    unfold cmpI at e
    split at e
    · rename_i S i j
      cases e; cases ra; cases rb
      exact ⟨i, j, rfl, rfl, k _ H m sm.refl sm rfl⟩
    · cases e
abbrev ltD : D2 := cmpI fun i j => decide (i < j)
abbrev leD : D2 := cmpI fun i j => decide (i ≤ j)
abbrev gtD : D2 := cmpI fun i j => decide (j < i)
abbrev geD : D2 := cmpI fun i j => decide (j ≤ i)
theorem jop_lt : JOp X G (compareOp .Lt) ltD := jop_I op_lt
theorem jop_le : JOp X G (compareOp .LtE) leD := jop_I op_le
theorem jop_gt : JOp X G (compareOp .Gt) gtD := jop_I op_gt
theorem jop_ge : JOp X G (compareOp .GtE) geD := jop_I op_ge
end
mutual
def D.toP : D → Option PyData
  | .non => some .none
  | .bl b => some (.bool b)
  | .int i => some (.int i)
  | .str x => some (.str x)
  | .tup xs => (D.toPs xs).map PyData.tuple
  | .fl xs => (D.toPs xs).map PyData.list
  | .obj _ => none
def D.toPs : List D → Option (List PyData)
  | [] => some []
  | d :: ds => match D.toP d, D.toPs ds with
    | some p, some ps => some (p :: ps)
    | _, _ => none
end
mutual
theorem toP_ok {K : PySem.W.Frag} {m : List Addr} {H : Hp} : ∀ {d : D} {v : V} {p : PyData}, D.toP d = some p → SV K m H d v → Dp K H v p
  | .non, v, p, e, h => by cases e; cases h; exact .non
  | .bl b, v, p, e, h => by cases e; cases h; exact .bl b
  | .int b, v, p, e, h => by cases e; cases h; exact .int b
  | .str b, v, p, e, h => by cases e; cases h; exact .str b
  | .tup xs, v, p, e, h => by
    obtain ⟨a, vs, rfl, q, r⟩ := (show ∃ p vs, v = .ref p ∧ SqT K H p vs ∧ SVs K m H xs vs from h)
    have e : (D.toPs xs).map PyData.tuple = some p := e
    cases z : D.toPs xs with
    | none => rw [z] at e; cases e
    | some ps => rw [z] at e; cases e; exact .tup q (toPs_ok z r)
  | .fl xs, v, p, e, h => by
    obtain ⟨a, vs, rfl, q, r⟩ := (show ∃ p vs, v = .ref p ∧ SqF K H p vs ∧ SVs K m H xs vs from h)
    have e : (D.toPs xs).map PyData.list = some p := e
    cases z : D.toPs xs with
    | none => rw [z] at e; cases e
    | some ps => rw [z] at e; cases e; exact .lst q.l (toPs_ok z r)
  | .obj n, v, p, e, h => by cases e
theorem toPs_ok {K : PySem.W.Frag} {m : List Addr} {H : Hp} : ∀ {ds : List D} {vs : List V} {ps : List PyData}, D.toPs ds = some ps → SVs K m H ds vs → DpAll K H vs ps
  | [], vs, ps, e, h => by cases e; rw [show vs = [] from h]; exact .nil
  | d :: ds, vs, ps, e, h => by
    obtain ⟨v, r, rfl, a, b⟩ := (show ∃ v r, vs = v :: r ∧ SV K m H d v ∧ SVs K m H ds r from h)
    have e : (match D.toP d, D.toPs ds with
      | some p, some ps => some (p :: ps)
      | _, _ => none) = some ps := e
    cases z1 : D.toP d with
    | none => rw [z1] at e; cases e
    | some p =>
      cases z2 : D.toPs ds with
      | none => rw [z1, z2] at e; cases e
      | some q => rw [z1, z2] at e; cases e; exact .cons (toP_ok z1 a) (toPs_ok z2 b)
end
def D.toPS (S : Store) : D → Option PyData
  | .obj n => match lstAt S n with
    | some xs => (D.toPs xs).map PyData.list
    | none => none
  | d => D.toP d
theorem toPS_ok {K : PySem.W.Frag} {G : Gx} {m : List Addr} {S : Store} {H : Hp} (sm : Sim K G m S H) {d : D} {v : V} {p : PyData} (e : D.toPS S d = some p) (h : SV K m H d v) : Dp K H v p := by
  cases d with
  | obj n =>
    obtain ⟨a, rfl, hm⟩ := h
    unfold D.toPS at e
    dsimp only at e
    cases z : lstAt S n with
    | none => rw [z] at e; cases e
    | some xs =>
      rw [z] at e
      dsimp only at e
      obtain ⟨a', vs, h1, h2, h3⟩ := lstAt_ok sm z
      rw [hm] at h1; cases h1
      cases z2 : D.toPs xs with
      | none => rw [z2] at e; cases e
      | some ps => rw [z2] at e; cases e; exact .lst (SqL.of h2) (toPs_ok z2 h3)
  | _ => exact toP_ok e h
def eqD : D2 := fun a b S => match D.toPS S a, D.toPS S b with
  | some p, some q => if SeqAt.shaped p = true ∧ SeqAt.shaped q = true then some (.bl (PyData.eqv p q), S) else none
  | _, _ => none
def neD : D2 := fun a b S => match D.toPS S a, D.toPS S b with
  | some p, some q => if SeqAt.shaped p = true ∧ SeqAt.shaped q = true then some (.bl (!PyData.eqv p q), S) else none
  | _, _ => none
section
variable {X : Cx} {G : Gx} {W : WX} {a b c : Expr} {fa fb fc : DE} {ga gb gc : DT} {pos : Pos} {rest : List Expr}
theorem jop_eq (hu : X.A.units + 64 < cLine) : JOp X G (compareOp .Eq) eqD :=
  OpR.imp (op_eqD hu) fun x y H Q ⟨m, S, a, b, d, S', sm, ra, rb, e, k⟩ => by
    unfold eqD at e
    split at e
    · rename_i p q e1 e2
      split at e
      · rename_i hs
        cases e
        exact ⟨p, q, toPS_ok sm e1 ra, toPS_ok sm e2 rb, hs.1, hs.2, k _ H m sm.refl sm rfl⟩
      · cases e
    · cases e
theorem jop_ne (hu : X.A.units + 64 < cLine) : JOp X G (compareOp .NotEq) neD :=
  OpR.imp (op_neD hu) fun x y H Q ⟨m, S, a, b, d, S', sm, ra, rb, e, k⟩ => by
    unfold neD at e
    split at e
    · rename_i p q e1 e2
      split at e
      · rename_i hs
        cases e
        exact ⟨p, q, toPS_ok sm e1 ra, toPS_ok sm e2 rb, hs.1, hs.2, k _ H m sm.refl sm rfl⟩
      · cases e
    · cases e
def isND : D2
  | .non, .non, S => some (.bl true, S)
  | .bl _, .non, S => some (.bl false, S)
  | .int _, .non, S => some (.bl false, S)
  | .str _, .non, S => some (.bl false, S)
  | .tup _, .non, S => some (.bl false, S)
  | .obj _, .non, S => some (.bl false, S)
  | _, _, _ => none
def notND : D2
  | .non, .non, S => some (.bl false, S)
  | .bl _, .non, S => some (.bl true, S)
  | .int _, .non, S => some (.bl true, S)
  | .str _, .non, S => some (.bl true, S)
  | .tup _, .non, S => some (.bl true, S)
  | .obj _, .non, S => some (.bl true, S)
  | _, _, _ => none
theorem jop_isN : JOp X G (compareOp .Is) isND :=
  OpR.imp op_isN fun x y H Q ⟨m, S, a, b, d, S', sm, ra, rb, e, k⟩ => by
    cases b with
    | non =>
      cases rb
      refine ⟨rfl, ?_⟩
      cases a with
      | non => cases e; cases ra; exact k _ H m sm.refl sm rfl
      | bl _ => cases e; cases ra; exact k _ H m sm.refl sm rfl
      | int _ => cases e; cases ra; exact k _ H m sm.refl sm rfl
      | str _ => cases e; cases ra; exact k _ H m sm.refl sm rfl
      | tup _ => cases e; obtain ⟨p, vs, rfl, _⟩ := ra; exact k _ H m sm.refl sm rfl
      | obj _ => cases e; obtain ⟨p, rfl, _⟩ := ra; exact k _ H m sm.refl sm rfl
      | fl _ => cases e
    | _ => cases a <;> cases e
theorem jop_notN : JOp X G (compareOp .IsNot) notND :=
  OpR.imp op_notN fun x y H Q ⟨m, S, a, b, d, S', sm, ra, rb, e, k⟩ => by
    cases b with
    | non =>
      cases rb
      refine ⟨rfl, ?_⟩
      cases a with
      | non => cases e; cases ra; exact k _ H m sm.refl sm rfl
      | bl _ => cases e; cases ra; exact k _ H m sm.refl sm rfl
      | int _ => cases e; cases ra; exact k _ H m sm.refl sm rfl
      | str _ => cases e; cases ra; exact k _ H m sm.refl sm rfl
      | tup _ => cases e; obtain ⟨p, vs, rfl, _⟩ := ra; exact k _ H m sm.refl sm rfl
      | obj _ => cases e; obtain ⟨p, rfl, _⟩ := ra; exact k _ H m sm.refl sm rfl
      | fl _ => cases e
    | _ => cases a <;> cases e
theorem je_cmp {op : CmpOp} {g : D2} (ho : JOp X G (compareOp op) g) (ha : JE X G W a fa) (hb : JE X G W b fb) (hm : behindInMarks op b = false := by first | exact nomark _ | rfl) : JE X G W (.Compare a [op] [b] pos) (dOp g fa fb) :=
  PE.imp (pe_cmpR ho ha hb hm) fun σ H Q ⟨m, ρ, S, sr, sm, eo⟩ =>
    ⟨m, ρ, S, sr, sm, eo.then fun x S1 v H1 m1 st1 sm1 r1 eo1 => ⟨m1, ρ, S1, sr.mono sm st1, sm1, eo1.then fun y S2 u H2 m2 st2 sm2 r2 eo2 => by
      cases q : g x y S2 with
      | none => rw [q] at eo2; exact eo2.elim
      | some p =>
        obtain ⟨d, S3⟩ := p
        rw [q] at eo2
        exact ⟨m2, S2, x, y, d, S3, sm2, r1.mono sm1 st2, r2, q, eo2⟩⟩⟩
/-- a truth value as a test -/
def dB (fa : DE) : DT := fun ρ S => (fa ρ S).bind fun x S1 => match x with
  | .bl b => .ok b S1
  | _ => .bad
theorem jt_cmp {op : CmpOp} {g : D2} (ho : JOp X G (compareOp op) g) (ha : JE X G W a fa) (hb : JE X G W b fb) (hm : behindInMarks op b = false := by first | exact nomark _ | rfl) : JT X G W (.Compare a [op] [b] pos) (dB (dOp g fa fb)) :=
  PT.imp (pt_cmpR ho ha hb hm) fun σ H Q ⟨m, ρ, S, sr, sm, eo⟩ => by
    unfold dB dOp at eo
    refine ⟨m, ρ, S, sr, sm, ?_⟩
    cases e1 : fa ρ S with
    | bad => rw [e1] at eo; exact eo.elim
    | exn e S1 => rw [e1] at eo; exact eo
    | ok x S1 =>
      rw [e1] at eo
      simp only [Out.bind_ok] at eo
      intro v H1 m1 st1 sm1 r1
      refine ⟨m1, ρ, S1, sr.mono sm st1, sm1, ?_⟩
      have eo1 := eo.step st1
      cases e2 : fb ρ S1 with
      | bad => rw [e2] at eo; exact eo.elim
      | exn e S2 => rw [e2] at eo1; exact eo1
      | ok y S2 =>
        rw [e2] at eo1
        simp only [Out.bind_ok] at eo1
        intro u H2 m2 st2 sm2 r2
        cases q : g x y S2 with
        | none => rw [q] at eo1; exact eo1.elim
        | some p =>
          obtain ⟨d, S3⟩ := p
          rw [q] at eo1
          refine ⟨m2, S2, x, y, d, S3, sm2, r1.mono sm1 st2, r2, q, fun v H' m' st3 sm3 r3 => ?_⟩
          cases d with
          | bl b => cases r3; exact ⟨b, rfl, eo1 b H' m' (st2.trans st3) sm3 rfl⟩
          | _ => exact eo1.elim
theorem jt_val (ha : JE X G W a fa) (he : ∀ whole, isTrue a X.env whole = (do let v ← whole; standAt a.pos; holding [v] (truthy v)) := by intro _; rfl) : JT X G W a (dB fa) :=
  PT.imp (pt_val ha he) fun σ H Q ⟨m, ρ, S, sr, sm, eo⟩ => ⟨m, ρ, S, sr, sm, EO.then (rel := SV X.K) eo fun x S1 v H1 m1 st1 sm1 r1 eo1 => by
    cases x with
    | bl b => cases r1; exact ⟨b, rfl, eo1 b H1 m1 sm1.refl sm1 rfl⟩
    | _ => exact eo1.elim⟩
end
end DL
set_option Elab.async false
set_option linter.all false
set_option maxRecDepth 100000
set_option maxHeartbeats 4000000
namespace DL
open PySem PySem.Spec PyProof.Rows L2
theorem tuple_mul1 (l : Addr) (items : Array Value) (n : Nat) (dd : Option Addr) (sl : Array (Option Value)) (x : Int) (u : Tok) (c0 : (decide (x < -(2 ^ 63)) || decide (x ≥ 2 ^ 63)) = false) (c1 : (items.isEmpty || x == 1) = true) :
    Meets (Builtin.«tuple.__mul__» ⟨[.ref l, .int x u], []⟩) (fun _ R s => s.heap.get? l = some { cls := .type "tuple", dict := dd, data := .seq items n, slots := sl } ∧
      R (.ok (.ret (Value.ref l))) s) :=
  .of_wp fun prog w A R s h => by
    obtain ⟨hp, g, d, tk, os⟩ := s
    obtain ⟨hl, h⟩ := h
    have f1 := AutoSeq1.idx_int
    wp_walk using wpAny_loadPart' hl
    repeat (first
      | (refine wpAny_ite_false (decide_eq_false (by rw [c0]; exact Bool.false_ne_true)) ?_; wp_walk using wpAny_loadPart' hl)
      | (refine wpAny_ite_true (decide_eq_true c1) ?_; wp_walk using wpAny_loadPart' hl))
    exact ⟨_, rfl, h⟩
theorem tuple_mul0 (l : Addr) (items : Array Value) (n : Nat) (dd : Option Addr) (sl : Array (Option Value)) (x : Int) (u : Tok) (c0 : (decide (x < -(2 ^ 63)) || decide (x ≥ 2 ^ 63)) = false) (c1 : (items.isEmpty || x == 1) = false) (c2 : (decide (x ≤ 0) || items.isEmpty) = true) :
    Meets (Builtin.«tuple.__mul__» ⟨[.ref l, .int x u], []⟩) (fun _ R s => s.heap.get? l = some { cls := .type "tuple", dict := dd, data := .seq items n, slots := sl } ∧
      R (.ok (.ret (Value.ref s.heap.objs.size))) { s with heap := s.heap.push { cls := Value.type "tuple", data := Data.seq #[] }, toks := s.toks }) :=
  .of_wp fun prog w A R s h => by
    obtain ⟨hp, g, d, tk, os⟩ := s
    obtain ⟨hl, h⟩ := h
    have f1 := AutoSeq1.idx_int
    wp_walk using wpAny_loadPart' hl
    repeat (first
      | (refine wpAny_ite_false (decide_eq_false (by rw [c0]; exact Bool.false_ne_true)) ?_; wp_walk using wpAny_loadPart' hl)
      | (refine wpAny_ite_false (decide_eq_false (by rw [c1]; exact Bool.false_ne_true)) ?_; wp_walk using wpAny_loadPart' hl)
      | (refine wpAny_ite_true (decide_eq_true c2) ?_; wp_walk using wpAny_loadPart' hl))
    exact ⟨_, rfl, h⟩

def rRepA (K : PySem.W.Frag) : R2 := fun x y H Q => ∃ l k xs, x = .ref l ∧ y = .int k ∧ SqT K H l xs ∧ xs ≠ [] ∧ -1000 ≤ k ∧ k ≤ 1 ∧ (k = 1 → Q (.ref l) H) ∧ (k ≤ 0 → ∀ p, H p = none → Q (.ref p) (upd H p (.tup [])))
section
variable {X : Cx} {G : Gx} {W : WX}
theorem op_repA : OpR X (binaryOp .Mult) (rRepA X.K) := by
  intro pins s σ H x y v u Q I rx ry h
  obtain ⟨l, k, xs, rfl, rfl, hT, hne, h1, h2, q1, q0⟩ := h
  cases rx
  obtain ⟨t, rfl⟩ := ry
  obtain ⟨its, r, ⟨⟨cls, dd, data, sl⟩, ho, hc, n, hd⟩, hs⟩ := I.tuple hT
  simp only at hc hd
  subst hc hd
  have hle : its.length = xs.length := r.length.symm
  have hn : its ≠ [] := fun e => hne (by
    rw [e] at hle
    exact List.eq_nil_of_length_eq_zero hle.symm)
  have hi : its.toArray.isEmpty = false := by
    cases its with
    | nil => exact absurd rfl hn
    | cons a b => rfl
  have c0 : (decide (k < -(2 ^ 63)) || decide (k ≥ 2 ^ 63)) = false := by
    rw [decide_eq_false (by omega), decide_eq_false (by omega)] <;> rfl
  by_cases e1 : k = 1
  · have c1 : (its.toArray.isEmpty || k == 1) = true := by rw [e1]; simp
    refine wpAny_binaryOp_repeat_ref (T := "tuple") (U := "int") (by decide) ⟨_, ho, rfl⟩ (fun s' => typeIs_int s' k t) noFill_tuple_mul F.fills_int_mul F.slot_int_rmul repeat_tuple F.slot_int_index.lookup
      (call_meets F.slot_int_rmul (typeIs_int s k t) F.entry_int_rmul (F.args_int_rmul_2 _ _) (int_rmul_tuple k t l its.toArray n dd sl)
        ⟨ho, rfl, ⟨_, ho, rfl⟩, call_meets F.slot_tuple_mul ⟨_, ho, rfl⟩ F.entry_tuple_mul (F.args_tuple_mul_2 _ _) (tuple_mul1 l its.toArray n dd sl k t c0 c1) ⟨ho, ?_⟩⟩)
    exact ⟨.ref l, H, I, rfl, q1 e1⟩
  · have c1 : (its.toArray.isEmpty || k == 1) = false := by
      rw [hi, Bool.false_or]
      exact beq_eq_false_iff_ne.mpr e1
    have c2 : (decide (k ≤ 0) || its.toArray.isEmpty) = true := by
      rw [decide_eq_true (by omega), Bool.true_or]
    refine wpAny_binaryOp_repeat_ref (T := "tuple") (U := "int") (by decide) ⟨_, ho, rfl⟩ (fun s' => typeIs_int s' k t) noFill_tuple_mul F.fills_int_mul F.slot_int_rmul repeat_tuple F.slot_int_index.lookup
      (call_meets F.slot_int_rmul (typeIs_int s k t) F.entry_int_rmul (F.args_int_rmul_2 _ _) (int_rmul_tuple k t l its.toArray n dd sl)
        ⟨ho, rfl, ⟨_, ho, rfl⟩, call_meets F.slot_tuple_mul ⟨_, ho, rfl⟩ F.entry_tuple_mul (F.args_tuple_mul_2 _ _) (tuple_mul0 l its.toArray n dd sl k t c0 c1 c2) ⟨ho, ?_⟩⟩)
    refine ⟨.ref s.heap.objs.size, _, I.laid (t' := s.toks) (o := .tup []) (fun b ob q => Heap.get?_push_of_some _ q) (Nat.le_refl _) ?_, rfl, q0 (by omega) _ (I.hok.fresh (Nat.le_refl _))⟩
    exact ⟨Nat.zero_le _, [], .nil, IsTup.new _ _⟩
theorem rep_svs {K : PySem.W.Frag} {m : List Addr} {H : Hp} {ds : List D} {vs : List V} (h : SVs K m H ds vs) : ∀ n : Nat, SVs K m H (List.replicate n ds).flatten (List.replicate n vs).flatten
  | 0 => rfl
  | n + 1 => by
    rw [List.replicate_succ, List.replicate_succ, List.flatten_cons, List.flatten_cons]
    exact h.append (rep_svs h n)
theorem jop_mul : JOp X G (binaryOp .Mult) mulD := by
  refine OpR.imp (OpR.or (OpR.or op_mul op_mulW) (OpR.or op_repT op_repA)) fun x y H Q ⟨m, S, a, b, d, S', sm, ra, rb, e, k⟩ => ?_
  unfold mulD at e
  split at e
  · rename_i S i j
    split at e
    · rename_i hz
      cases e; cases ra; cases rb
      rcases hz with hz | hz
      · refine .inl (.inl ⟨i, j, rfl, rfl, ?_, k _ H m sm.refl sm rfl⟩)
        unfold CMul
        omega
      · exact .inl (.inr ⟨i, j, rfl, rfl, hz, k _ H m sm.refl sm rfl⟩)
    · cases e
  · rename_i S xs n
    split at e
    · rename_i hz
      cases e; cases rb
      obtain ⟨p, vs, rfl, q, r⟩ := ra
      have h1 := r.len
      have hne : vs ≠ [] := fun z => by
        rw [z] at h1
        exact hz.2.2.1 (List.length_eq_zero_iff.mp h1)
      by_cases h2 : 2 ≤ n
      · exact .inr (.inl ⟨p, n, vs, rfl, rfl, q, hne, h2, hz.1, by rw [← h1]; exact hz.2.1, fun p hp => k _ _ m (Step.beside sm hp) (sm.beside hp) (sv_tup (rep_svs r n.toNat) sm hp)⟩)
      · refine .inr (.inr ⟨p, n, vs, rfl, rfl, q, hne, hz.2.2.2, by omega, fun e => ?_, fun e p hp => ?_⟩)
        · subst e
          have z : (List.replicate (1 : Int).toNat xs).flatten = xs := by show (List.replicate 1 xs).flatten = xs; simp
          rw [z] at k
          exact k _ H m sm.refl sm ⟨p, vs, rfl, q, r⟩
        · have z : n.toNat = 0 := by omega
          rw [z] at k
          exact k _ _ m (Step.beside sm hp) (sm.beside hp) (sv_tup (ds := []) (vs := []) rfl sm hp)
    · cases e
  · cases e
end
end DL
set_option Elab.async false
set_option linter.all false
set_option maxRecDepth 100000
set_option maxHeartbeats 2000000
namespace DL
open PySem PySem.Spec PyProof.Rows L2
section
variable {X : Cx} {G : Gx} {W : WX} {a b c : Expr} {fa fb fc : DE} {ga gb gc : DT} {pos : Pos} {rest : List Expr}
/-! ### and, or, not, if -/
def dAndT (ga gb : DT) : DT := fun ρ S => (ga ρ S).bind fun x S1 => if x = true then gb ρ S1 else .ok false S1
def dOrT (ga gb : DT) : DT := fun ρ S => (ga ρ S).bind fun x S1 => if x = true then .ok true S1 else gb ρ S1
def dNotT (ga : DT) : DT := fun ρ S => (ga ρ S).bind fun x S1 => .ok (!x) S1
def dAndV (fa fb : DE) : DE := fun ρ S => (fa ρ S).bind fun x S1 => match x with
  | .bl true => fb ρ S1
  | .bl false => .ok (.bl false) S1
  | _ => .bad
def dOrV (fa fb : DE) : DE := fun ρ S => (fa ρ S).bind fun x S1 => match x with
  | .bl true => .ok (.bl true) S1
  | .bl false => fb ρ S1
  | _ => .bad
def dIf (g : DT) (fa fb : DE) : DE := fun ρ S => (g ρ S).bind fun x S1 => if x = true then fa ρ S1 else fb ρ S1
theorem jw_and1 (ha : JT X G W a ga) : JW X G W (.BoolOp .And [a] pos) ga := pw_and1 ha
theorem jw_or1 (ha : JT X G W a ga) : JW X G W (.BoolOp .Or [a] pos) ga := pw_or1 ha
theorem jw_and (ha : JT X G W a ga) (hb : JW X G W (.BoolOp .And (b :: rest) pos) gb) : JW X G W (.BoolOp .And (a :: b :: rest) pos) (dAndT ga gb) :=
  PW.imp (pw_and ha hb) fun σ H Q ⟨m, ρ, S, sr, sm, eo⟩ => ⟨m, ρ, S, sr, sm, EO.then (rel := eqR) eo fun x S1 v H1 m1 st1 sm1 r1 eo1 => by
    cases r1
    cases x with
    | true => exact ⟨m1, ρ, S1, sr.mono sm st1, sm1, eo1⟩
    | false => exact eo1 false H1 m1 sm1.refl sm1 rfl⟩
theorem jw_or (ha : JT X G W a ga) (hb : JW X G W (.BoolOp .Or (b :: rest) pos) gb) : JW X G W (.BoolOp .Or (a :: b :: rest) pos) (dOrT ga gb) :=
  PW.imp (pw_or ha hb) fun σ H Q ⟨m, ρ, S, sr, sm, eo⟩ => ⟨m, ρ, S, sr, sm, EO.then (rel := eqR) eo fun x S1 v H1 m1 st1 sm1 r1 eo1 => by
    cases r1
    cases x with
    | false => exact ⟨m1, ρ, S1, sr.mono sm st1, sm1, eo1⟩
    | true => exact eo1 true H1 m1 sm1.refl sm1 rfl⟩
theorem jt_of {e : Expr} {g : DT} (h : JW X G W e g) : JT X G W e g := PW.pt h
theorem jt_not (ha : JT X G W a ga) : JT X G W (.UnaryOp .Not a pos) (dNotT ga) :=
  PT.imp (pt_not ha) fun σ H Q ⟨m, ρ, S, sr, sm, eo⟩ => ⟨m, ρ, S, sr, sm, EO.then (rel := eqR) eo fun x S1 v H1 m1 st1 sm1 r1 eo1 => by
    cases r1
    exact eo1 _ H1 m1 sm1.refl sm1 rfl⟩
theorem je_one {op} (h : JE X G W a fa) : JE X G W (.BoolOp op [a] pos) fa := pe_one h
theorem je_and (ha : JE X G W a fa) (hb : JE X G W (.BoolOp .And (b :: rest) pos) fb) : JE X G W (.BoolOp .And (a :: b :: rest) pos) (dAndV fa fb) :=
  PE.imp (pe_and ha hb) fun σ H Q ⟨m, ρ, S, sr, sm, eo⟩ => ⟨m, ρ, S, sr, sm, EO.then (rel := SV X.K) eo fun x S1 v H1 m1 st1 sm1 r1 eo1 => by
    cases x with
    | bl x =>
      cases r1
      cases x with
      | true => exact ⟨true, rfl, ⟨m1, ρ, S1, sr.mono sm st1, sm1, eo1⟩⟩
      | false => exact ⟨false, rfl, eo1 _ H1 m1 sm1.refl sm1 rfl⟩
    | _ => exact eo1.elim⟩
theorem je_or (ha : JE X G W a fa) (hb : JE X G W (.BoolOp .Or (b :: rest) pos) fb) : JE X G W (.BoolOp .Or (a :: b :: rest) pos) (dOrV fa fb) :=
  PE.imp (pe_or ha hb) fun σ H Q ⟨m, ρ, S, sr, sm, eo⟩ => ⟨m, ρ, S, sr, sm, EO.then (rel := SV X.K) eo fun x S1 v H1 m1 st1 sm1 r1 eo1 => by
    cases x with
    | bl x =>
      cases r1
      cases x with
      | false => exact ⟨false, rfl, ⟨m1, ρ, S1, sr.mono sm st1, sm1, eo1⟩⟩
      | true => exact ⟨true, rfl, eo1 _ H1 m1 sm1.refl sm1 rfl⟩
    | _ => exact eo1.elim⟩
theorem je_if {c : Expr} {g : DT} (hc : JT X G W c g) (ha : JE X G W a fa) (hb : JE X G W b fb) : JE X G W (.IfExp c a b pos) (dIf g fa fb) :=
  PE.imp (pe_ifExp hc ha hb) fun σ H Q ⟨m, ρ, S, sr, sm, eo⟩ => ⟨m, ρ, S, sr, sm, EO.then (rel := eqR) eo fun x S1 v H1 m1 st1 sm1 r1 eo1 => by
    cases r1
    cases x with
    | true => exact ⟨m1, ρ, S1, sr.mono sm st1, sm1, eo1⟩
    | false => exact ⟨m1, ρ, S1, sr.mono sm st1, sm1, eo1⟩⟩
/-! ### chains -/
def dChain (g g' : D2) (fa fb fc : DE) : DE := fun ρ S => (fa ρ S).bind fun x S1 => (fb ρ S1).bind fun y S2 => (optO (g x y S2)).bind fun r S3 => match r with
  | .bl true => (fc ρ S3).bind fun z S4 => optO (g' y z S4)
  | .bl false => .ok (.bl false) S3
  | _ => .bad
theorem chain_core {g g' : D2} {σ : L2.St} {H : Hp} {Q : VK} (h : tD X.K G W (dChain g g' fa fb fc) σ H Q) : tChain (OR X.K G g) (OR X.K G g') (tD X.K G W fa) (tD X.K G W fb) (tD X.K G W fc) σ H Q := by
  obtain ⟨m, ρ, S, sr, sm, eo⟩ := h
  refine ⟨m, ρ, S, sr, sm, EO.then (rel := SV X.K) eo fun x S1 v H1 m1 st1 sm1 r1 eo1 => ?_⟩
  refine ⟨m1, ρ, S1, sr.mono sm st1, sm1, EO.then (rel := SV X.K) eo1 fun y S2 u H2 m2 st2 sm2 r2 eo2 => ?_⟩
  cases q : g x y S2 with
  | none => rw [q] at eo2; exact eo2.elim
  | some p =>
    obtain ⟨d, S3⟩ := p
    rw [q] at eo2
    simp only [optO_some, Out.bind_ok] at eo2
    refine ⟨m2, S2, x, y, d, S3, sm2, r1.mono sm1 st2, r2, q, fun w H3 m3 st3 sm3 r3 => ?_⟩
    have eo3 := eo2.step st3
    cases d with
    | bl k =>
      cases r3
      refine ⟨k, rfl, ?_⟩
      cases k with
      | false => exact eo3 _ H3 m3 sm3.refl sm3 rfl
      | true =>
        refine ⟨m3, ρ, S3, (sr.mono sm (st1.trans (st2.trans st3))), sm3, EO.then (rel := SV X.K) eo3 fun z S4 w H4 m4 st4 sm4 r4 eo4 => ?_⟩
        cases q2 : g' y z S4 with
        | none => rw [q2] at eo4; exact eo4.elim
        | some p =>
          obtain ⟨d, S5⟩ := p
          rw [q2] at eo4
          exact ⟨m4, S4, y, z, d, S5, sm4, r2.mono sm2 (st3.trans st4), r4, q2, eo4⟩
    | _ => exact eo3.elim
theorem je_chain {op op' : CmpOp} {g g' : D2} (ho : JOp X G (compareOp op) g) (ho' : JOp X G (compareOp op') g') (ha : JE X G W a fa) (hb : JE X G W b fb) (hc : JE X G W c fc)
    (hm : lastMarks [op, op'] [b, c] = false := by with_unfolding_all rfl) : JE X G W (.Compare a [op, op'] [b, c] pos) (dChain g g' fa fb fc) :=
  PE.imp (pe_chain ho ho' ha hb hc hm) fun σ H Q h => chain_core h
theorem tD_test {f : DE} {σ : L2.St} {H : Hp} {Q : Bool → Hp → Prop} (h : tDT X.K G W (dB f) σ H Q) : tD X.K G W f σ H (fun x H' => ∃ k, x = .bl k ∧ Q k H') := by
  obtain ⟨m, ρ, S, sr, sm, eo⟩ := h
  refine ⟨m, ρ, S, sr, sm, EO.then (rel := SV X.K) eo fun x S1 v H1 m1 st1 sm1 r1 eo1 => ?_⟩
  cases x with
  | bl b => cases r1; exact ⟨b, rfl, eo1 b H1 m1 sm1.refl sm1 rfl⟩
  | _ => exact eo1.elim
theorem jt_chain {op op' : CmpOp} {g g' : D2} (ho : JOp X G (compareOp op) g) (ho' : JOp X G (compareOp op') g') (ha : JE X G W a fa) (hb : JE X G W b fb) (hc : JE X G W c fc)
    (hm : lastMarks [op, op'] [b, c] = false := by with_unfolding_all rfl) : JT X G W (.Compare a [op, op'] [b, c] pos) (dB (dChain g g' fa fb fc)) :=
  PT.imp (pt_chain ho ho' ha hb hc hm) fun σ H Q h => chain_core (tD_test h)
/-! ### arguments, displays -/
def daNil : DA := fun _ S => .ok [] S
def daCons (fa : DE) (fr : DA) : DA := fun ρ S => (fa ρ S).bind fun x S1 => (fr ρ S1).bind fun xs S2 => .ok (x :: xs) S2
variable {e : Expr} {es : List Expr} {fr : DA} {x1 : Nat}
theorem ja_nil : JA X G W [] daNil := PA.imp pa_nil fun σ H Q ⟨m, ρ, S, sr, sm, eo⟩ => eo [] H m sm.refl sm rfl
theorem ja_cons (ha : JE X G W e fa) (hr : JA X G W es fr) (hs : starEach (e :: es) X.env = (false, eval e X.env) :: starEach es X.env := by rfl) : JA X G W (e :: es) (daCons fa fr) :=
  PA.imp (pa_cons ha hr hs) fun σ H Q ⟨m, ρ, S, sr, sm, eo⟩ => ⟨m, ρ, S, sr, sm, EO.then (rel := SV X.K) eo fun x S1 v H1 m1 st1 sm1 r1 eo1 =>
    ⟨m1, ρ, S1, sr.mono sm st1, sm1, EO.then (rel := SVs X.K) eo1 fun y S2 u H2 m2 st2 sm2 r2 eo2 => eo2 (v :: u) H2 m2 sm2.refl sm2 ⟨v, u, rfl, r1.mono sm1 st2, r2⟩⟩⟩
def dTup (fr : DA) : DE := fun ρ S => (fr ρ S).bind fun xs S1 => if xs.length ≤ 1000000 then .ok (.tup xs) S1 else .bad
def dLst (fr : DA) : DE := fun ρ S => (fr ρ S).bind fun xs S1 => if xs.length ≤ 1000000 then .ok (.obj S1.length) (S1 ++ [.lst xs]) else .bad
theorem je_tup (h : JA X G W es fr) : JE X G W (.Tuple es x1 pos) (dTup fr) :=
  PE.imp (pe_tup h) fun σ H Q ⟨m, ρ, S, sr, sm, eo⟩ => ⟨m, ρ, S, sr, sm, EO.then (rel := SVs X.K) eo fun xs S1 vs H1 m1 st1 sm1 r1 eo1 => by
    split at eo1
    · rename_i hz
      exact ⟨by rw [← r1.len]; exact size6 hz, fun p hp => eo1 _ _ m1 (Step.beside sm1 hp) (sm1.beside hp) (sv_tup r1 sm1 hp)⟩
    · exact eo1.elim⟩
theorem je_lst (h : JA X G W es fr) : JE X G W (.List es pos) (dLst fr) :=
  PE.imp (pe_lst h) fun σ H Q ⟨m, ρ, S, sr, sm, eo⟩ => ⟨m, ρ, S, sr, sm, EO.then (rel := SVs X.K) eo fun xs S1 vs H1 m1 st1 sm1 r1 eo1 => by
    split at eo1
    · rename_i hz
      exact ⟨by rw [← r1.len]; exact size6 hz, fun p hp => eo1 _ _ (m1 ++ [p]) (Step.new sm1 hp) (sim_lst r1 sm1 hp) (sv_new sm1)⟩
    · exact eo1.elim⟩
/-! ### a[i] -/
def ixD : D2 := fun x i S => match seqAt S x, i with
  | some xs, .int k => (atI xs k).map fun d => (d, S)
  | _, _ => none
theorem atI_svs {K : PySem.W.Frag} {m : List Addr} {H : Hp} {xs : List D} {vs : List V} (h : SVs K m H xs vs) {k : Int} {d : D} (e : atI xs k = some d) : ∃ v, atI vs k = some v ∧ SV K m H d v := by
  unfold atI at e ⊢
  rw [← h.len]
  cases q : ixN xs.length k with
  | none => rw [q] at e; cases e
  | some j =>
    rw [q] at e
    exact h.get (show xs[j]? = some d from e)
theorem ix_any : IxR X (fun x y H Q => ∃ p xs i v, x = .ref p ∧ y = .int i ∧ (SqL X.K H p xs ∨ SqT X.K H p xs) ∧ atI xs i = some v ∧ Q v H) := by
  intro value slice pins s σ H x y v u Q I rx ry h hs
  obtain ⟨p, xs, i, z, e1, e2, hq, he, q⟩ := h
  rcases hq with hq | hq
  · exact ix_list value slice pins s σ H x y v u Q I rx ry ⟨p, xs, i, z, e1, e2, hq, he, q⟩ hs
  · exact ix_tup value slice pins s σ H x y v u Q I rx ry ⟨p, xs, i, z, e1, e2, hq, he, q⟩ hs
theorem je_ix (ha : JE X G W a fa) (hb : JE X G W b fb) (hs : PlainIx b := by exact (fun _ _ => rfl)) : JE X G W (.Subscript a b pos) (dOp ixD fa fb) :=
  PE.imp (pe_ix ix_any ha hb hs) fun σ H Q ⟨m, ρ, S, sr, sm, eo⟩ =>
    ⟨m, ρ, S, sr, sm, eo.then fun x S1 v H1 m1 st1 sm1 r1 eo1 => ⟨m1, ρ, S1, sr.mono sm st1, sm1, eo1.then fun y S2 u H2 m2 st2 sm2 r2 eo2 => by
      unfold ixD at eo2
      split at eo2
      · rename_i xs k e1
        obtain ⟨p, vs, rfl, sv, sq⟩ := seqAt_ok sm2 e1 (r1.mono sm1 st2)
        cases r2
        cases q : atI xs k with
        | none => rw [q] at eo2; exact eo2.elim
        | some d =>
          rw [q] at eo2
          obtain ⟨w, h1, h2⟩ := atI_svs sv q
          exact ⟨p, vs, k, w, rfl, rfl, sq, h1, eo2 _ H2 m2 sm2.refl sm2 h2⟩
      · exact eo2.elim⟩⟩
/-! ### a[lo:hi] -/
abbrev DP := DEnv → Store → Out (Option Int)
def dpNone : DP := fun _ S => .ok none S
def dpSome (f : DE) : DP := fun ρ S => (f ρ S).bind fun x S1 => match x with
  | .int i => .ok (some i) S1
  | _ => .bad
def tDP (K : PySem.W.Frag) (G : Gx) (W : WX) (f : DP) : TO := fun σ H Q => ∃ m ρ S, SR K m H ρ σ ∧ Sim K G m S H ∧ EO K G eqR Q (fun c d H' => W c d σ H') m H (f ρ S)
abbrev JP (X : Cx) (G : Gx) (W : WX) (e : Option Expr) (f : DP) : Prop := PO X e (tDP X.K G W f)
theorem PO.imp {e : Option Expr} {t t' : TO} (h : PO X e t) (f : ∀ σ H Q, t' σ H Q → t σ H Q) : PO X e t' := ⟨fun pins s σ H Q I q => h.run pins s σ H Q I (f σ H Q q)⟩
theorem jp_none : JP X G W none dpNone := PO.imp po_none fun σ H Q ⟨m, ρ, S, sr, sm, eo⟩ => eo none H m sm.refl sm rfl
theorem jp_some (h : JE X G W e fa) : JP X G W (some e) (dpSome fa) := PO.imp (po_some h) fun σ H Q ⟨m, ρ, S, sr, sm, eo⟩ => ⟨m, ρ, S, sr, sm, EO.then (rel := SV X.K) eo fun x S1 v H1 m1 st1 sm1 r1 eo1 => by
  cases x with
  | int i => cases r1; exact ⟨i, rfl, eo1 _ H1 m1 sm1.refl sm1 rfl⟩
  | _ => exact eo1.elim⟩
def cutD {α : Type} (xs : List α) (lo hi : Option Int) : List α := (xs.drop (HT.sIx xs.length 0 lo)).take (HT.sIx xs.length xs.length hi - HT.sIx xs.length 0 lo)
theorem cut_svs {K : PySem.W.Frag} {m : List Addr} {H : Hp} {xs : List D} {vs : List V} (h : SVs K m H xs vs) (lo hi : Option Int) : SVs K m H (cutD xs lo hi) (cutV vs lo hi) := by
  unfold cutD cutV
  rw [h.len]
  exact (h.drop _).take _
/-- a slice of a list (a new list), of a tuple, of a text -/
def sliceD (x : D) (lo hi : Option Int) (S : Store) : Option (D × Store) := match x with
  | .obj n => (lstAt S n).map fun xs => newO (.lst (cutD xs lo hi)) S
  | .fl xs => some (newO (.lst (cutD xs lo hi)) S)
  | .tup xs => some (.tup (cutD xs lo hi), S)
  | .str z => if z.length ≤ 1000000 then some (.str (cutS z lo hi), S) else none
  | _ => none
def dSl (fa : DE) (fl fh : DP) : DE := fun ρ S => (fa ρ S).bind fun x S1 => (fl ρ S1).bind fun l S2 => (fh ρ S2).bind fun h S3 => optO (sliceD x l h S3)
theorem sl_any : SlR X (fun x lo hi H Q => rSlL X.K x lo hi H Q ∨ rSlA X.K x lo hi H Q ∨ (∃ z, x = .str z ∧ z.length ≤ sizeLine ∧ Q (.str (cutS z lo hi)) H)) := by
  intro pins s σ H x v vl vu lo hi sl Q I rx hs pl pu h
  rcases h with h | h | h
  · exact sl_list pins s σ H x v vl vu lo hi sl Q I rx hs pl pu h
  · exact sl_tupA pins s σ H x v vl vu lo hi sl Q I rx hs pl pu h
  · exact sl_str pins s σ H x v vl vu lo hi sl Q I rx hs pl pu h
theorem je_slice {lo hi : Option Expr} {fl fh : DP} {p2 : Pos} (he : JE X G W e fa) (hl : JP X G W lo fl) (hu : JP X G W hi fh) : JE X G W (.Subscript e (.Slice lo hi none p2) pos) (dSl fa fl fh) :=
  PE.imp (pe_slice sl_any he hl hu) fun σ H Q ⟨m, ρ, S, sr, sm, eo⟩ => ⟨m, ρ, S, sr, sm, EO.then (rel := SV X.K) eo fun x S1 v H1 m1 st1 sm1 r1 eo1 =>
    ⟨m1, ρ, S1, sr.mono sm st1, sm1, EO.then (rel := eqR) eo1 fun l S2 l' H2 m2 st2 sm2 r2 eo2 => ⟨m2, ρ, S2, sr.mono sm (st1.trans st2), sm2, EO.then (rel := eqR) eo2 fun h S3 h' H3 m3 st3 sm3 r3 eo3 => by
      cases r2; cases r3
      have r1 := r1.mono sm1 (st2.trans st3)
      cases x with
      | obj n =>
        unfold sliceD at eo3
        dsimp only at eo3
        cases q : lstAt S3 n with
        | none => rw [q] at eo3; exact eo3.elim
        | some xs =>
          rw [q] at eo3
          obtain ⟨a, rfl, hm⟩ := r1
          obtain ⟨a', vs, h1, h2, h3⟩ := lstAt_ok sm3 q
          rw [hm] at h1; cases h1
          exact .inl ⟨a, vs, rfl, SqL.of h2, fun p hp => eo3 _ _ (m3 ++ [p]) (Step.new sm3 hp) (sim_lst (cut_svs h3 l h) sm3 hp) (sv_new sm3)⟩
      | fl xs =>
        obtain ⟨a, vs, rfl, hq, hs⟩ := r1
        exact .inl ⟨a, vs, rfl, hq.l, fun p hp => eo3 _ _ (m3 ++ [p]) (Step.new sm3 hp) (sim_lst (cut_svs hs l h) sm3 hp) (sv_new sm3)⟩
      | tup xs =>
        obtain ⟨a, vs, rfl, hq, hs⟩ := r1
        refine .inr (.inl ⟨a, vs, rfl, hq, fun hh => ?_, fun _ p hp => eo3 _ _ m3 (Step.beside sm3 hp) (sm3.beside hp) (sv_tup (cut_svs hs l h) sm3 hp)⟩)
        have e : cutD xs l h = xs := by
          unfold cutD
          rw [hs.len, hh.1, hh.2, List.drop_zero, Nat.sub_zero, ← hs.len, List.take_length]
        have eo4 : EO X.K G (SV X.K) Q (fun c d H' => W c d σ H') m3 H3 (.ok (.tup (cutD xs l h)) S3) := eo3
        rw [e] at eo4
        exact eo4 _ H3 m3 sm3.refl sm3 ⟨a, vs, rfl, hq, hs⟩
      | str z =>
        cases r1
        unfold sliceD at eo3
        dsimp only at eo3
        split at eo3
        · rename_i hz
          exact .inr (.inr ⟨z, rfl, size6 hz, eo3 _ H3 m3 sm3.refl sm3 rfl⟩)
        · exact eo3.elim
      | _ => exact eo3.elim⟩⟩⟩
/-! ### o.f -/
def insAt (S : Store) : D → Option (String × List (Str × D))
  | .obj n => match S[n]? with
    | some (.ins c fs) => some (c, fs)
    | _ => none
  | _ => none
theorem insAt_ok {K : PySem.W.Frag} {m : List Addr} {S : Store} {H : Hp} (s : Sim K G m S H) {d : D} {v : V} {c : String} {fs : List (Str × D)} (h : insAt S d = some (c, fs)) (r : SV K m H d v) :
    ∃ n p dx vfs, d = .obj n ∧ v = .ref p ∧ m[n]? = some p ∧ H p = some (.ins (G.cA c) dx vfs) ∧ SF K m H fs vfs := by
  cases d with
  | obj n =>
    unfold insAt at h
    dsimp only at h
    split at h
    · rename_i c' fs' e
      cases h
      obtain ⟨a, e1, hm⟩ := r
      obtain ⟨dx, vfs, h1, h2⟩ := s.at_ n _ a e hm
      exact ⟨n, a, dx, vfs, rfl, e1, hm, h1, h2⟩
    · cases h
  | _ => cases h
def dFld (cs : List String) (f : Str) (fa : DE) : DE := fun ρ S => (fa ρ S).bind fun x S1 => match insAt S1 x with
  | some (c, fs) => if c ∈ cs then (match fs.lookup f with
    | some d => .ok d S1
    | none => .bad) else .bad
  | none => .bad
theorem je_fld {cs : List String} {f : Str} (hC : ∀ c ∈ cs, Cls X.K (G.cA c) ∧ NoAttr X.K (G.cA c) f) (he : JE X G W e fa) (hb : attributeBase e f X.env (eval e X.env) = eval e X.env := by rfl) : JE X G W (.Attribute e f pos) (dFld cs f fa) :=
  PE.imp (pe_fld he hb) fun σ H Q ⟨m, ρ, S, sr, sm, eo⟩ => ⟨m, ρ, S, sr, sm, EO.then (rel := SV X.K) eo fun x S1 v H1 m1 st1 sm1 r1 eo1 => by
    split at eo1
    · rename_i c fs e1
      split at eo1
      · rename_i hc
        split at eo1
        · rename_i d e2
          obtain ⟨n, p, dx, vfs, rfl, rfl, hm, ho, hf⟩ := insAt_ok sm1 e1 r1
          obtain ⟨w, h1, h2⟩ := hf.look e2
          exact ⟨p, G.cA c, dx, vfs, w, rfl, ho, (hC c hc).1, (hC c hc).2, h1, eo1 _ H1 m1 sm1.refl sm1 h2⟩
        · exact eo1.elim
      · exact eo1.elim
    · exact eo1.elim⟩
end
end DL
set_option Elab.async false
set_option linter.all false
set_option maxRecDepth 100000
set_option maxHeartbeats 2000000
namespace DL
open PySem PySem.Spec PyProof.Rows L2
/-! ### calls where what is raised is wished for at the caller's slots -/
section
variable {X : Cx} {CX : CXT} {k : Nat} {f C : Addr} {fd : FuncData} {ps : List Str} {sp : Sp} {E : L2.St → XK} {x m : Str} {p pos apos : Pos} {e o : Expr} {es : List Expr} {ta : TE} {t : TA}
theorem pe_callS0 (F : FnOk X.prog X.w X.K X.mg X.base CX k f fd ps sp) (hr : Room k X.A) (hg : Gl X x) (hm : X.mg x = some (.ref f)) (hk : PySem.W.keepIn X.K (.ref f) = true) (hb : Binds X.K fd ps []) (hx : ∀ σ, PassesAt CX X σ (E σ))
    (hdb : (x == ("__debug__" : Str)) = false := by decide) : PE X (.Call (.Name x p) [] [] pos) (fun σ H Q => sp [] H Q (E σ)) := by
  refine ⟨fun pins s σ H Q I h => ?_⟩
  refine wpAny_Call_Name_kw (ld_glob I hg hm ?_ hdb)
  exact PySem.W.callWith_K0 I.kIn hk (run_fnS (us := []) F hr hb (hx σ) I .nil h)
def tMethS (C : Addr) (m : Str) (sp : Sp) (E : L2.St → XK) (ta : TE) (t : TA) : TE := fun σ H Q => ta σ H fun x H1 => ∃ a dx fs, x = .ref a ∧ H1 a = some (.ins C dx fs) ∧ fs.lookup m = none ∧
  t σ H1 fun vs H2 => sp (x :: vs) H2 Q (E σ)
theorem pe_methS {pl : Sem Bool} (he : PE X o ta) (c : Cls X.K C) (hm : Meth X.K C m f) (F : FnOk X.prog X.w X.K X.mg X.base CX k f fd ps sp) (hr : Room k X.A) (hb : Binds X.K fd ps []) (hx : ∀ σ, PassesAt CX X σ (E σ)) (ha : PA X (e :: es) t)
    (hst : starEach (e :: es) X.env = (false, eval e X.env) :: starEach es X.env := by rfl) (hpl : (backTo pos (starEach es X.env)).any (·.1) = false := by rfl)
    (ht : eval (.Call (.Attribute o m apos) (e :: es) [] pos) X.env = (do
      let ov ← eval o X.env
      standAt apos.atName
      let (f, first) ← holding [ov] (getMethod ov m pl)
      callWith pos f first (backTo pos (starEach (e :: es) X.env)) (backToKw pos (keywordEach [] X.env))) := by rfl) :
    PE X (.Call (.Attribute o m apos) (e :: es) [] pos) (tMethS C m sp E ta t) := by
  refine ⟨fun pins s σ H Q I h => ?_⟩
  refine PySem.W.methodCall_KW (pl := pl) (thn (he.run pins s σ H _ I h) fun u s1 ⟨x, H1, I1, rx, a, dx, fs, ex, ea, l, q⟩ => ?_) ht
  subst ex
  obtain rfl : u = Value.ref a := rx
  refine getmeth_ok I1 ea c hm l ?_
  refine PySem.W.callWith_K (first := [.ref a]) (h₀ := X.base) I.ok.mod.kin hm.kp (thn (ha.run pos pins s1 σ H1 _ I1 q) fun us s2 ⟨vs, H2, I2, r, q2⟩ => ⟨I2.kIn, ?_⟩) hst hpl
  exact run_fnS (us := .ref a :: us) (vs := .ref a :: vs) F hr hb (hx σ) I2 (.cons rfl r) q2
theorem pe_methS0 {pl : Sem Bool} (he : PE X o ta) (c : Cls X.K C) (hm : Meth X.K C m f) (F : FnOk X.prog X.w X.K X.mg X.base CX k f fd ps sp) (hr : Room k X.A) (hb : Binds X.K fd ps []) (hx : ∀ σ, PassesAt CX X σ (E σ))
    (ht : eval (.Call (.Attribute o m apos) [] [] pos) X.env = (do
      let ov ← eval o X.env
      standAt apos.atName
      let (f, first) ← holding [ov] (getMethod ov m pl)
      callWith pos f first (backTo pos (starEach [] X.env)) (backToKw pos (keywordEach [] X.env))) := by rfl) :
    PE X (.Call (.Attribute o m apos) [] [] pos) (tMethS C m sp E ta tNil) := by
  refine ⟨fun pins s σ H Q I h => ?_⟩
  refine PySem.W.methodCall_KW (pl := pl) (thn (he.run pins s σ H _ I h) fun u s1 ⟨x, H1, I1, rx, a, dx, fs, ex, ea, l, q⟩ => ?_) ht
  subst ex
  obtain rfl : u = Value.ref a := rx
  refine getmeth_ok I1 ea c hm l ?_
  exact PySem.W.callWith_K0 (first := [.ref a]) I1.kIn hm.kp (run_fnS (us := [.ref a]) (vs := [.ref a]) F hr hb (hx σ) I1 (.cons rfl .nil) q)
theorem run_makeS {pins : List (Addr × Obj)} {σ : L2.St} {H : Hp} {s : Shared} {Q : VK} {us : List Value} {vs : List V} (M : Mk X.K C f) (F : FnOk X.prog X.w X.K X.mg X.base CX k f fd ps sp) (hr : Room (k + 1) X.A) (hb : Binds X.K fd ps [])
    (hx : PassesAt CX X σ (E σ)) (I : Inv X pins σ H s) (r : Vals vs us)
    (h : ∀ x dx, H x = none → H dx = none → dx ≠ x → sp (.ref x :: vs) (upd (upd H dx (.own x)) x (.ins C dx [])) (fun v H2 => v = .non ∧ Q (.ref x) H2) (E σ)) :
    wpAny (model X.prog X.w) X.A (call (.ref C) us) (EP X pins σ Q) X.xe s := by
  have hq := h (s.heap.objs.size + 1) s.heap.objs.size (I.hok.fresh (Nat.le_succ _)) (I.hok.fresh (Nat.le_refl _)) (Nat.ne_of_lt (Nat.lt_succ_self _))
  have I2 := Inv.made (C := C) I
  have r2 : Vals (V.ref (s.heap.objs.size + 1) :: vs) (Value.ref (s.heap.objs.size + 1) :: us) := .cons rfl r
  have hl : (Value.ref (s.heap.objs.size + 1) :: us ++ []).length = ps.length := by
    have e := r2.length
    rw [F.len _ _ _ _ hq] at e
    rw [List.append_nil]
    exact e.symm
  have b := hb ⟨_, _, _, _, _⟩ (Value.ref (s.heap.objs.size + 1) :: us) I2.kIn hl
  rw [List.append_nil] at b
  refine wpAny_call (make_map (f := f) I.kIn M.makes M.init (beq_iff_eq.mp M.fn) (codeAny_mono (F.run _ X.stack _ _ ⟨Value.ref (s.heap.objs.size + 1) :: us, []⟩ (Value.ref (s.heap.objs.size + 1) :: us) _ _ (E σ) (hr.make C us [])
    (I2.env0.make C us []) b r2 hq) fun r s' hq' => ?_))
  cases r with
  | error e => exact hx pins _ _ e s' I2 hq'
  | ok fl =>
    cases fl with
    | ret u =>
      obtain ⟨v, H', I3, rv, ev, q3⟩ := I2.after hq'
      subst ev
      exact ⟨rv, ⟨V.ref (s.heap.objs.size + 1), H', I3, rfl, q3⟩⟩
    | next => exact False.elim hq'
    | brk => exact False.elim hq'
    | cont => exact False.elim hq'
def tMakeS (C : Addr) (sp : Sp) (E : L2.St → XK) (t : TA) : TE := fun σ H Q => t σ H fun vs H1 => ∀ x dx, H1 x = none → H1 dx = none → dx ≠ x →
  sp (.ref x :: vs) (upd (upd H1 dx (.own x)) x (.ins C dx [])) (fun v H2 => v = .non ∧ Q (.ref x) H2) (E σ)
theorem pe_makeS (M : Mk X.K C f) (F : FnOk X.prog X.w X.K X.mg X.base CX k f fd ps sp) (hr : Room (k + 1) X.A) (hg : Gl X x) (hm : X.mg x = some (.ref C)) (hb : Binds X.K fd ps []) (hx : ∀ σ, PassesAt CX X σ (E σ))
    (ha : PA X (e :: es) t) (hdb : (x == ("__debug__" : Str)) = false := by decide) (he : starEach (e :: es) X.env = (false, eval e X.env) :: starEach es X.env := by rfl) (hpl : (backTo pos (starEach es X.env)).any (·.1) = false := by rfl) :
    PE X (.Call (.Name x p) (e :: es) [] pos) (tMakeS C sp E t) := by
  refine ⟨fun pins s σ H Q I h => ?_⟩
  refine wpAny_Call_Name_kw (ld_glob I hg hm ?_ hdb)
  refine PySem.W.callWith_K (h₀ := X.base) I.ok.mod.kin M.kp (thn (ha.run pos pins s σ H _ I h) fun us s1 ⟨vs, H1, I1, r, q⟩ => ⟨I1.kIn, ?_⟩) he hpl
  exact run_makeS M F hr hb (hx σ) I1 r q
theorem pe_makeS0 (M : Mk X.K C f) (F : FnOk X.prog X.w X.K X.mg X.base CX k f fd ps sp) (hr : Room (k + 1) X.A) (hg : Gl X x) (hm : X.mg x = some (.ref C)) (hb : Binds X.K fd ps []) (hx : ∀ σ, PassesAt CX X σ (E σ))
    (hdb : (x == ("__debug__" : Str)) = false := by decide) : PE X (.Call (.Name x p) [] [] pos) (tMakeS C sp E tNil) := by
  refine ⟨fun pins s σ H Q I h => ?_⟩
  refine wpAny_Call_Name_kw (ld_glob I hg hm ?_ hdb)
  exact PySem.W.callWith_K0 I.kIn M.kp (run_makeS (us := []) M F hr hb (hx σ) I .nil h)
end
/-! ### a def that denotes a function -/
abbrev DF := List D → Store → Out D
def spD (K : PySem.W.Frag) (G : Gx) (n : Nat) (F : DF) : Sp := fun vs H Q E => ∃ m ds S, ds.length = n ∧ SVs K m H ds vs ∧ Sim K G m S H ∧ EO K G (SV K) Q E m H (F ds S)
/-- the def at f, of n parameters, denotes F (level k) -/
structure FnD (P : Program) (w : World) (K : PySem.W.Frag) (mg : Str → Option Value) (base : Heap) (G : Gx) (k : Nat) (f : Addr) (n : Nat) (F : DF) : Prop where
  ex : ∃ fd ps, FnOk P w K mg base (L2.CX P w) k f fd ps (spD K G n F) ∧ Binds K fd ps []
  kp : PySem.W.keepIn K (.ref f) = true
/-- F refines F' : where F is not bad they agree -/
def Refines (F F' : DF) : Prop := ∀ ds S, F ds S = .bad ∨ F ds S = F' ds S
theorem FnD.refine {P : Program} {w : World} {K : PySem.W.Frag} {mg : Str → Option Value} {base : Heap} {G : Gx} {k : Nat} {f : Addr} {n : Nat} {F F' : DF} (h : FnD P w K mg base G k f n F') (r : ∀ ds S, ds.length = n → F ds S = .bad ∨ F' ds S = F ds S) : FnD P w K mg base G k f n F := by
  obtain ⟨⟨fd, ps, ok, b⟩, kp⟩ := h
  refine ⟨⟨fd, ps, ok.imp fun vs H Q E ⟨m, ds, S, hl, sv, sm, eo⟩ => ⟨m, ds, S, hl, sv, sm, ?_⟩, b⟩, kp⟩
  rcases r ds S hl with e | e
  · rw [e] at eo; exact eo.elim
  · rw [e]; exact eo
theorem FnD.mono {P : Program} {w : World} {K : PySem.W.Frag} {mg : Str → Option Value} {base : Heap} {G : Gx} {j k : Nat} {f : Addr} {n : Nat} {F : DF} (h : FnD P w K mg base G j f n F) (hk : j ≤ k) : FnD P w K mg base G k f n F := by
  obtain ⟨⟨fd, ps, ok, b⟩, kp⟩ := h
  exact ⟨⟨fd, ps, ok.mono hk, b⟩, kp⟩
def dCall (n : Nat) (F : DF) (fr : DA) : DE := fun ρ S => (fr ρ S).bind fun ds S1 => if ds.length = n then F ds S1 else .bad
def dMeth (c : String) (mt : Str) (n : Nat) (F : DF) (fo : DE) (fr : DA) : DE := fun ρ S => (fo ρ S).bind fun x S1 => match insAt S1 x with
  | some (c', fs) => if c' = c ∧ fs.lookup mt = none then (fr ρ S1).bind fun ds S2 => if ds.length + 1 = n then F (x :: ds) S2 else .bad else .bad
  | none => .bad
def dMake (c : String) (n : Nat) (F : DF) (fr : DA) : DE := fun ρ S => (fr ρ S).bind fun ds S1 => if ds.length + 1 = n then (F (.obj S1.length :: ds) (S1 ++ [.ins c []])).bind fun r S2 => (match r with
  | .non => .ok (.obj S1.length) S2
  | _ => .bad) else .bad
section
variable {X : Cx} {G : Gx} {W : WX} {k n : Nat} {f : Addr} {F : DF} {x mt : Str} {c : String} {p pos apos : Pos} {e o : Expr} {es : List Expr} {fo : DE} {fr : DA}
theorem je_call (h : FnD X.prog X.w X.K X.mg X.base G k f n F) (tk : Takes X W) (hr : Room k X.A) (hm : X.mg x = some (.ref f)) (ha : JA X G W (e :: es) fr) (hg : Gl X x := by rfl) (hdb : (x == ("__debug__" : Str)) = false := by decide)
    (he : starEach (e :: es) X.env = (false, eval e X.env) :: starEach es X.env := by rfl) (hpl : (backTo pos (starEach es X.env)).any (·.1) = false := by rfl) : JE X G W (.Call (.Name x p) (e :: es) [] pos) (dCall n F fr) := by
  obtain ⟨⟨fd, ps, ok, b⟩, kp⟩ := h
  refine PE.imp (pe_callS ok hr hg hm kp b (fun σ => passAt tk σ) ha hdb he hpl) fun σ H Q ⟨m, ρ, S, sr, sm, eo⟩ => ⟨m, ρ, S, sr, sm, EO.then (rel := SVs X.K) eo fun ds S1 vs H1 m1 st1 sm1 r1 eo1 => ?_⟩
  split at eo1
  · rename_i hl
    exact ⟨m1, ds, S1, hl, r1, sm1, eo1⟩
  · exact eo1.elim
theorem je_call0 (h : FnD X.prog X.w X.K X.mg X.base G k f n F) (tk : Takes X W) (hr : Room k X.A) (hm : X.mg x = some (.ref f)) (hg : Gl X x := by rfl) (hdb : (x == ("__debug__" : Str)) = false := by decide) : JE X G W (.Call (.Name x p) [] [] pos) (dCall n F daNil) := by
  obtain ⟨⟨fd, ps, ok, b⟩, kp⟩ := h
  refine PE.imp (pe_callS0 ok hr hg hm kp b (fun σ => passAt tk σ) hdb) fun σ H Q ⟨m, ρ, S, sr, sm, eo⟩ => ?_
  have eo1 : EO X.K G (SV X.K) Q (fun c d H' => W c d σ H') m H (if ([] : List D).length = n then F [] S else .bad) := eo
  split at eo1
  · rename_i hl
    exact ⟨m, [], S, hl, rfl, sm, eo1⟩
  · exact eo1.elim
theorem je_meth {pl : Sem Bool} (h : FnD X.prog X.w X.K X.mg X.base G k f n F) (tk : Takes X W) (hr : Room k X.A) (hc : Cls X.K (G.cA c)) (hm : Meth X.K (G.cA c) mt f) (ho : JE X G W o fo) (ha : JA X G W (e :: es) fr)
    (hst : starEach (e :: es) X.env = (false, eval e X.env) :: starEach es X.env := by rfl) (hpl : (backTo pos (starEach es X.env)).any (·.1) = false := by rfl)
    (ht : eval (.Call (.Attribute o mt apos) (e :: es) [] pos) X.env = (do
      let ov ← eval o X.env
      standAt apos.atName
      let (f, first) ← holding [ov] (getMethod ov mt pl)
      callWith pos f first (backTo pos (starEach (e :: es) X.env)) (backToKw pos (keywordEach [] X.env))) := by rfl) : JE X G W (.Call (.Attribute o mt apos) (e :: es) [] pos) (dMeth c mt n F fo fr) := by
  obtain ⟨⟨fd, ps, ok, b⟩, kp⟩ := h
  refine PE.imp (pe_methS ho hc hm ok hr b (fun σ => passAt tk σ) ha hst hpl ht) fun σ H Q ⟨m, ρ, S, sr, sm, eo⟩ => ⟨m, ρ, S, sr, sm, EO.then (rel := SV X.K) eo fun x S1 v H1 m1 st1 sm1 r1 eo1 => ?_⟩
  split at eo1
  · rename_i c' fs e1
    split at eo1
    · rename_i hcc
      obtain ⟨rfl, hl⟩ := hcc
      obtain ⟨j, q, dx, vfs, rfl, rfl, hmm, hoo, hf⟩ := insAt_ok sm1 e1 r1
      refine ⟨q, dx, vfs, rfl, hoo, hf.lookN hl, m1, ρ, S1, sr.mono sm st1, sm1, EO.then (rel := SVs X.K) eo1 fun ds S2 vs H2 m2 st2 sm2 r2 eo2 => ?_⟩
      split at eo2
      · rename_i hl2
        exact ⟨m2, .obj j :: ds, S2, by simpa using hl2, ⟨_, _, rfl, r1.mono sm1 st2, r2⟩, sm2, eo2⟩
      · exact eo2.elim
    · exact eo1.elim
  · exact eo1.elim
theorem je_meth0 {pl : Sem Bool} (h : FnD X.prog X.w X.K X.mg X.base G k f n F) (tk : Takes X W) (hr : Room k X.A) (hc : Cls X.K (G.cA c)) (hm : Meth X.K (G.cA c) mt f) (ho : JE X G W o fo)
    (ht : eval (.Call (.Attribute o mt apos) [] [] pos) X.env = (do
      let ov ← eval o X.env
      standAt apos.atName
      let (f, first) ← holding [ov] (getMethod ov mt pl)
      callWith pos f first (backTo pos (starEach [] X.env)) (backToKw pos (keywordEach [] X.env))) := by rfl) : JE X G W (.Call (.Attribute o mt apos) [] [] pos) (dMeth c mt n F fo daNil) := by
  obtain ⟨⟨fd, ps, ok, b⟩, kp⟩ := h
  refine PE.imp (pe_methS0 ho hc hm ok hr b (fun σ => passAt tk σ) ht) fun σ H Q ⟨m, ρ, S, sr, sm, eo⟩ => ⟨m, ρ, S, sr, sm, EO.then (rel := SV X.K) eo fun x S1 v H1 m1 st1 sm1 r1 eo1 => ?_⟩
  split at eo1
  · rename_i c' fs e1
    split at eo1
    · rename_i hcc
      obtain ⟨rfl, hl⟩ := hcc
      obtain ⟨j, q, dx, vfs, rfl, rfl, hmm, hoo, hf⟩ := insAt_ok sm1 e1 r1
      refine ⟨q, dx, vfs, rfl, hoo, hf.lookN hl, ?_⟩
      have eo2 : EO X.K G (SV X.K) Q (fun c d H' => W c d σ H') m1 H1 (if ([] : List D).length + 1 = n then F (.obj j :: []) S1 else .bad) := eo1
      split at eo2
      · rename_i hl2
        exact ⟨m1, [.obj j], S1, by simpa using hl2, ⟨_, _, rfl, r1, rfl⟩, sm1, eo2⟩
      · exact eo2.elim
    · exact eo1.elim
  · exact eo1.elim
/-- a new instance stands in the store -/
theorem made_step {K : PySem.W.Frag} {m : List Addr} {S : Store} {H : Hp} (sm : Sim K G m S H) {y dx : Addr} (hy : H y = none) (hd : H dx = none) (ne : dx ≠ y) :
    Step m H (m ++ [y]) (upd (upd H dx (.own y)) y (.ins (G.cA c) dx [])) ∧ Sim K G (m ++ [y]) (S ++ [.ins c []]) (upd (upd H dx (.own y)) y (.ins (G.cA c) dx [])) := by
  have st1 : Step m H m (upd H dx (.own y)) := Step.beside sm hd
  have sm1 : Sim K G m S (upd H dx (.own y)) := sm.beside hd
  have hy1 : upd H dx (.own y) y = none := by rw [upd_ne (Ne.symm ne)]; exact hy
  exact ⟨st1.trans (Step.new sm1 hy1), sm1.new hy1 ⟨dx, [], upd_same, rfl⟩⟩
theorem make_core {σ : L2.St} {Q : VK} {m : List Addr} {S : Store} {H : Hp} {ds : List D} {vs : List V} (sm : Sim X.K G m S H) (r : SVs X.K m H ds vs)
    (eo : EO X.K G (SV X.K) Q (fun c d H' => W c d σ H') m H (if ds.length + 1 = n then (F (.obj S.length :: ds) (S ++ [.ins c []])).bind fun r S2 => (match r with
      | .non => .ok (.obj S.length) S2
      | _ => .bad) else .bad)) : ∀ y dx, H y = none → H dx = none → dx ≠ y → spD X.K G n F (.ref y :: vs) (upd (upd H dx (.own y)) y (.ins (G.cA c) dx [])) (fun v H2 => v = .non ∧ Q (.ref y) H2) (WE W σ) := by
  intro y dx hy hd ne
  split at eo
  · rename_i hl
    obtain ⟨st1, sm1⟩ := made_step (c := c) sm hy hd ne
    refine ⟨m ++ [y], .obj S.length :: ds, S ++ [.ins c []], by simpa using hl, ⟨_, _, rfl, sv_new sm, r.mono sm st1⟩, sm1, EO.then (rel := SV X.K) (eo.step st1) fun d S2 v H2 m2 st2 sm2 r2 eo2 => ?_⟩
    cases d with
    | non =>
      cases r2
      refine ⟨rfl, eo2 _ H2 m2 sm2.refl sm2 ⟨y, rfl, st2.get ?_⟩⟩
      rw [← sm.len]; simp
    | _ => exact eo2.elim
  · exact eo.elim
theorem je_make (h : FnD X.prog X.w X.K X.mg X.base G k f n F) (M : Mk X.K (G.cA c) f) (tk : Takes X W) (hr : Room (k + 1) X.A) (hm : X.mg x = some (.ref (G.cA c))) (ha : JA X G W (e :: es) fr) (hg : Gl X x := by rfl) (hdb : (x == ("__debug__" : Str)) = false := by decide)
    (he : starEach (e :: es) X.env = (false, eval e X.env) :: starEach es X.env := by rfl) (hpl : (backTo pos (starEach es X.env)).any (·.1) = false := by rfl) : JE X G W (.Call (.Name x p) (e :: es) [] pos) (dMake c n F fr) := by
  obtain ⟨⟨fd, ps, ok, b⟩, kp⟩ := h
  exact PE.imp (pe_makeS M ok hr hg hm b (fun σ => passAt tk σ) ha hdb he hpl) fun σ H Q ⟨m, ρ, S, sr, sm, eo⟩ => ⟨m, ρ, S, sr, sm, EO.then (rel := SVs X.K) eo fun ds S1 vs H1 m1 st1 sm1 r1 eo1 => make_core sm1 r1 eo1⟩
theorem je_make0 (h : FnD X.prog X.w X.K X.mg X.base G k f n F) (M : Mk X.K (G.cA c) f) (tk : Takes X W) (hr : Room (k + 1) X.A) (hm : X.mg x = some (.ref (G.cA c))) (hg : Gl X x := by rfl) (hdb : (x == ("__debug__" : Str)) = false := by decide) : JE X G W (.Call (.Name x p) [] [] pos) (dMake c n F daNil) := by
  obtain ⟨⟨fd, ps, ok, b⟩, kp⟩ := h
  exact PE.imp (pe_makeS0 M ok hr hg hm b (fun σ => passAt tk σ) hdb) fun σ H Q ⟨m, ρ, S, sr, sm, eo⟩ => make_core (ds := []) (vs := []) sm rfl eo
end
/-! ### built-ins -/
abbrev DB := List D → Store → Option (D × Store)
def dBlt (g : DB) (fr : DA) : DE := fun ρ S => (fr ρ S).bind fun ds S1 => optO (g ds S1)
def BR (K : PySem.W.Frag) (G : Gx) (g : DB) : List V → Hp → VK → Prop := fun vs H Q => ∃ m S ds d S', Sim K G m S H ∧ SVs K m H ds vs ∧ g ds S = some (d, S') ∧ ∀ v H' m', Step m H m' H' → Sim K G m' S' H' → SV K m' H' d v → Q v H'
section
variable {X : Cx} {G : Gx} {W : WX} {g : DB} {x : Str} {id T : String} {p pos : Pos} {e : Expr} {es : List Expr} {fr : DA}
theorem blt_core {σ : L2.St} {H : Hp} {Q : VK} (h : tD X.K G W (dBlt g fr) σ H Q) : tDA X.K G W fr σ H (fun vs H1 => BR X.K G g vs H1 Q) := by
  obtain ⟨m, ρ, S, sr, sm, eo⟩ := h
  refine ⟨m, ρ, S, sr, sm, EO.then (rel := SVs X.K) eo fun ds S1 vs H1 m1 st1 sm1 r1 eo1 => ?_⟩
  cases q : g ds S1 with
  | none => rw [q] at eo1; exact eo1.elim
  | some z =>
    obtain ⟨d, S2⟩ := z
    rw [q] at eo1
    exact ⟨m1, S1, ds, d, S2, sm1, r1, q, eo1⟩
theorem je_blt (hc : CallR X (.builtin id) (BR X.K G g)) (hm : X.mg x = none) (hv : bootBuiltins x = some (.builtin id)) (ha : JA X G W (e :: es) fr) (hg : Gl X x := by rfl) (hn : x ≠ "__name__" := by decide) (hdb : (x == ("__debug__" : Str)) = false := by decide)
    (he : starEach (e :: es) X.env = (false, eval e X.env) :: starEach es X.env := by rfl) (hpl : (backTo pos (starEach es X.env)).any (·.1) = false := by rfl) : JE X G W (.Call (.Name x p) (e :: es) [] pos) (dBlt g fr) :=
  PE.imp (pe_callB hc hg hm hv ha hn hdb he hpl) fun σ H Q h => blt_core h
theorem je_bty (hc : CallR X (.type T) (BR X.K G g)) (hm : X.mg x = none) (hv : bootBuiltins x = some (.type T)) (ha : JA X G W (e :: es) fr) (hg : Gl X x := by rfl) (hn : x ≠ "__name__" := by decide) (hdb : (x == ("__debug__" : Str)) = false := by decide)
    (he : starEach (e :: es) X.env = (false, eval e X.env) :: starEach es X.env := by rfl) (hpl : (backTo pos (starEach es X.env)).any (·.1) = false := by rfl) : JE X G W (.Call (.Name x p) (e :: es) [] pos) (dBlt g fr) :=
  PE.imp (pe_callTy hc hg hm hv ha hn hdb he hpl) fun σ H Q h => blt_core h
def absD : DB
  | [.int i], S => some (.int (if i < 0 then -i else i), S)
  | _, _ => none
def maxD : DB
  | [.int i, .int j], S => some (.int (if j > i then j else i), S)
  | _, _ => none
def minD : DB
  | [.int i, .int j], S => some (.int (if j < i then j else i), S)
  | _, _ => none
def intD : DB
  | [.int i], S => some (.int i, S)
  | [.bl b], S => some (.int (if b = true then 1 else 0), S)
  | _, _ => none
def lenD : DB := fun ds S => match ds with
  | [.str z] => if z.length ≤ 1000000 then some (.int z.length, S) else none
  | [d] => (seqAt S d).map fun xs => (.int xs.length, S)
  | _ => none
def tupleD : DB := fun ds S => match ds with
  | [d] => (seqAt S d).map fun xs => (.tup xs, S)
  | _ => none
def listD : DB := fun ds S => match ds with
  | [d] => (seqAt S d).map fun xs => newO (.lst xs) S
  | _ => none
theorem svs1 {K : PySem.W.Frag} {m : List Addr} {H : Hp} {d : D} {vs : List V} (h : SVs K m H [d] vs) : ∃ v, vs = [v] ∧ SV K m H d v := by
  obtain ⟨v, r, rfl, a, b⟩ := h
  rw [show r = [] from b]
  exact ⟨v, rfl, a⟩
theorem svs2 {K : PySem.W.Frag} {m : List Addr} {H : Hp} {d e : D} {vs : List V} (h : SVs K m H [d, e] vs) : ∃ v u, vs = [v, u] ∧ SV K m H d v ∧ SV K m H e u := by
  obtain ⟨v, r, rfl, a, b⟩ := h
  obtain ⟨u, rfl, q⟩ := svs1 b
  exact ⟨v, u, rfl, a, q⟩
theorem jb_abs : CallR X (.builtin "abs") (BR X.K G absD) := CallR.imp call_abs fun vs H Q ⟨m, S, ds, d, S', sm, r, e, k⟩ => by
  unfold absD at e
  split at e
  · cases e
    obtain ⟨v, rfl, q⟩ := svs1 r
    cases q
    exact ⟨_, rfl, k _ H m sm.refl sm rfl⟩
  · cases e
theorem jb_max (hc : X.calm = true) : CallR X (.builtin "max") (BR X.K G maxD) := CallR.imp (call_max2 hc) fun vs H Q ⟨m, S, ds, d, S', sm, r, e, k⟩ => by
  unfold maxD at e
  split at e
  · cases e
    obtain ⟨v, u, rfl, q, q'⟩ := svs2 r
    cases q; cases q'
    exact ⟨_, _, rfl, k _ H m sm.refl sm rfl⟩
  · cases e
theorem jb_min (hc : X.calm = true) : CallR X (.builtin "min") (BR X.K G minD) := CallR.imp (call_min2 hc) fun vs H Q ⟨m, S, ds, d, S', sm, r, e, k⟩ => by
  unfold minD at e
  split at e
  · cases e
    obtain ⟨v, u, rfl, q, q'⟩ := svs2 r
    cases q; cases q'
    exact ⟨_, _, rfl, k _ H m sm.refl sm rfl⟩
  · cases e
theorem jb_int : CallR X (.type "int") (BR X.K G intD) := CallR.imp call_int1 fun vs H Q ⟨m, S, ds, d, S', sm, r, e, k⟩ => by
  unfold intD at e
  split at e
  · cases e
    obtain ⟨v, rfl, q⟩ := svs1 r
    cases q
    exact .inl ⟨_, rfl, k _ H m sm.refl sm rfl⟩
  · cases e
    obtain ⟨v, rfl, q⟩ := svs1 r
    cases q
    exact .inr ⟨_, rfl, k _ H m sm.refl sm rfl⟩
  · cases e
theorem jb_len : CallR X (.builtin "len") (BR X.K G lenD) := CallR.imp call_len fun vs H Q ⟨m, S, ds, d, S', sm, r, e, k⟩ => by
  unfold lenD at e
  split at e
  · rename_i z
    split at e
    · rename_i hz
      cases e
      obtain ⟨v, rfl, q⟩ := svs1 r
      cases q
      exact ⟨_, _, rfl, ⟨size6 hz, rfl⟩, k _ H m sm.refl sm rfl⟩
    · cases e
  · rename_i d' _
    obtain ⟨v, rfl, q⟩ := svs1 r
    cases z : seqAt S d' with
    | none => rw [z] at e; cases e
    | some xs =>
      rw [z] at e
      cases e
      obtain ⟨p, ws, rfl, sv, sq⟩ := seqAt_ok sm z q
      refine ⟨_, ws.length, rfl, ?_, ?_⟩
      · rcases sq with sq | sq
        · exact .inl ⟨ws, sq, rfl⟩
        · exact .inr ⟨ws, sq, rfl⟩
      · rw [← sv.len]
        exact k _ H m sm.refl sm rfl
  · cases e
theorem jb_tuple : CallR X (.type "tuple") (BR X.K G tupleD) := CallR.imp call_tuple_of fun vs H Q ⟨m, S, ds, d, S', sm, r, e, k⟩ => by
  unfold tupleD at e
  split at e
  · rename_i d'
    obtain ⟨v, rfl, q⟩ := svs1 r
    cases z : seqAt S d' with
    | none => rw [z] at e; cases e
    | some xs =>
      rw [z] at e
      cases e
      obtain ⟨p, ws, rfl, sv, sq⟩ := seqAt_ok sm z q
      refine ⟨p, ws, rfl, ?_⟩
      rcases sq with sq | sq
      · exact .inl ⟨sq, fun l hl => k _ _ m (Step.beside sm hl) (sm.beside hl) (sv_tup sv sm hl)⟩
      · exact .inr ⟨sq, k _ H m sm.refl sm ⟨p, ws, rfl, sq, sv⟩⟩
  · cases e
theorem jb_list : CallR X (.type "list") (BR X.K G listD) := CallR.imp call_list_of fun vs H Q ⟨m, S, ds, d, S', sm, r, e, k⟩ => by
  unfold listD at e
  split at e
  · rename_i d'
    obtain ⟨v, rfl, q⟩ := svs1 r
    cases z : seqAt S d' with
    | none => rw [z] at e; cases e
    | some xs =>
      rw [z] at e
      cases e
      obtain ⟨p, ws, rfl, sv, sq⟩ := seqAt_ok sm z q
      exact ⟨p, ws, rfl, sq, fun l hl => k _ _ (m ++ [l]) (Step.new sm hl) (sim_lst sv sm hl) (sv_new sm)⟩
  · cases e
end
end DL
set_option Elab.async false
set_option linter.all false
set_option maxRecDepth 100000
set_option maxHeartbeats 2000000
namespace DL
open PySem PySem.Spec PyProof.Rows L2
/-! ### statements -/
inductive OutS where
  | nx (ρ : DEnv) (S : Store) | rt (d : D) (S : Store) | bk (ρ : DEnv) (S : Store) | ct (ρ : DEnv) (S : Store) | exn (e : Exc) (ρ : DEnv) (S : Store) | bad
abbrev DS := DEnv → Store → OutS
def SQ (K : PySem.W.Frag) (G : Gx) (W : WX) (E : Ends) (m : List Addr) (H : Hp) : OutS → Prop
  | .nx ρ S => ∀ σ H' m', Step m H m' H' → Sim K G m' S H' → SR K m' H' ρ σ → E.nx σ H'
  | .rt d S => ∀ v H' m', Step m H m' H' → Sim K G m' S H' → SV K m' H' d v → E.rt v H'
  | .bk ρ S => ∀ σ H' m', Step m H m' H' → Sim K G m' S H' → SR K m' H' ρ σ → E.bk σ H'
  | .ct ρ S => ∀ σ H' m', Step m H m' H' → Sim K G m' S H' → SR K m' H' ρ σ → E.ct σ H'
  | .exn e ρ S => ∀ cls dx σ H' m', Step m H m' H' → Sim K G m' S H' → SR K m' H' ρ σ → XO G e cls dx → W cls dx σ H'
  | .bad => False
def tDS (K : PySem.W.Frag) (G : Gx) (W : WX) (f : DS) : TS := fun E σ H => ∃ m ρ S, SR K m H ρ σ ∧ Sim K G m S H ∧ SQ K G W E m H (f ρ S)
abbrev JS (X : Cx) (G : Gx) (W : WX) (st : Stmt) (f : DS) : Prop := PS X st (tDS X.K G W f)
abbrev JSs (X : Cx) (G : Gx) (W : WX) (st : List Stmt) (f : DS) : Prop := PSs X st (tDS X.K G W f)
theorem PS.imp {X : Cx} {st : Stmt} {t t' : TS} (h : PS X st t) (f : ∀ E σ H, t' E σ H → t E σ H) : PS X st t' := ⟨fun pins s σ H E I q => h.run pins s σ H E I (f E σ H q)⟩
theorem PSs.imp {X : Cx} {st : List Stmt} {t t' : TS} (h : PSs X st t) (f : ∀ E σ H, t' E σ H → t E σ H) : PSs X st t' := ⟨fun pins s σ H E I q => h.run pins s σ H E I (f E σ H q)⟩
section
variable {K : PySem.W.Frag} {G : Gx} {W : WX} {E E' : Ends} {m m1 : List Addr} {H H1 : Hp}
theorem SQ.step {o : OutS} (h : SQ K G W E m H o) (st : Step m H m1 H1) : SQ K G W E m1 H1 o := by
  cases o with
  | nx ρ S => exact fun σ H' m' a b c => h σ H' m' (st.trans a) b c
  | rt d S => exact fun σ H' m' a b c => h σ H' m' (st.trans a) b c
  | bk ρ S => exact fun σ H' m' a b c => h σ H' m' (st.trans a) b c
  | ct ρ S => exact fun σ H' m' a b c => h σ H' m' (st.trans a) b c
  | exn e ρ S => exact fun cls dx σ H' m' a b c d => h cls dx σ H' m' (st.trans a) b c d
  | bad => exact h.elim
def liftS {α : Type} (o : Out α) (ρ : DEnv) (k : α → Store → OutS) : OutS := match o with
  | .ok a S => k a S
  | .exn e S => .exn e ρ S
  | .bad => .bad
@[simp] theorem liftS_ok {α : Type} (a : α) (S : Store) (ρ : DEnv) (k : α → Store → OutS) : liftS (.ok a S) ρ k = k a S := rfl
@[simp] theorem liftS_exn {α : Type} (e : Exc) (S : Store) (ρ : DEnv) (k : α → Store → OutS) : liftS (.exn e S) ρ k = .exn e ρ S := rfl
@[simp] theorem liftS_bad {α : Type} (ρ : DEnv) (k : α → Store → OutS) : liftS .bad ρ k = .bad := rfl
theorem SQ.then {α β : Type} {rel : List Addr → Hp → α → β → Prop} {Q : β → Hp → Prop} {o : Out α} {ρ : DEnv} {σ : L2.St} {S : Store} {k : α → Store → OutS} (h : SQ K G W E m H (liftS o ρ k)) (sr : SR K m H ρ σ) (sm : Sim K G m S H)
    (f : ∀ a S1 b H1 m1, Step m H m1 H1 → Sim K G m1 S1 H1 → rel m1 H1 a b → SQ K G W E m1 H1 (k a S1) → Q b H1) : EO K G rel Q (fun c d H' => W c d σ H') m H o := by
  cases o with
  | ok a S => exact fun b H' m' s1 s2 r => f a S b H' m' s1 s2 r (SQ.step h s1)
  | exn e S1 => exact fun cls dx H' m' s1 s2 x => h cls dx σ H' m' s1 s2 (sr.mono sm s1) x
  | bad => exact h.elim
end
section
variable {X : Cx} {G : Gx} {W : WX} {st : Stmt} {rest : List Stmt} {f g : DS} {e : Expr} {fe : DE} {pos : Pos}
def dNext : DS := fun ρ S => .nx ρ S
def dSeq (f g : DS) : DS := fun ρ S => match f ρ S with
  | .nx ρ1 S1 => g ρ1 S1
  | o => o
theorem jss_nil : JSs X G W [] dNext := PSs.imp pss_nil fun E σ H ⟨m, ρ, S, sr, sm, q⟩ => q σ H m sm.refl sm sr
theorem jss_one (h : JS X G W st f) : JSs X G W [st] f := pss_one h
theorem jss_cons (h1 : JS X G W st f) (h2 : JSs X G W rest g) : JSs X G W (st :: rest) (dSeq f g) :=
  PSs.imp (pss_cons h1 h2) fun E σ H ⟨m, ρ, S, sr, sm, q⟩ => ⟨m, ρ, S, sr, sm, by
    unfold dSeq at q
    cases e : f ρ S with
    | nx ρ1 S1 => rw [e] at q; exact fun σ' H' m' a b c => ⟨m', ρ1, S1, c, b, SQ.step q a⟩
    | rt d S1 => rw [e] at q; exact q
    | bk ρ1 S1 => rw [e] at q; exact q
    | ct ρ1 S1 => rw [e] at q; exact q
    | exn x ρ1 S1 => rw [e] at q; exact q
    | bad => rw [e] at q; exact q⟩
theorem js_pass : JS X G W (.Pass pos) dNext := PS.imp ps_pass fun E σ H ⟨m, ρ, S, sr, sm, q⟩ => q σ H m sm.refl sm sr
def dBrk : DS := fun ρ S => .bk ρ S
def dCnt : DS := fun ρ S => .ct ρ S
theorem js_break : JS X G W (.Break pos) dBrk := PS.imp ps_break fun E σ H ⟨m, ρ, S, sr, sm, q⟩ => q σ H m sm.refl sm sr
theorem js_continue : JS X G W (.Continue pos) dCnt := PS.imp ps_continue fun E σ H ⟨m, ρ, S, sr, sm, q⟩ => q σ H m sm.refl sm sr
def dDrop (fe : DE) : DS := fun ρ S => liftS (fe ρ S) ρ fun _ S1 => .nx ρ S1
theorem js_expr (he : JE X G W e fe) (hs : swapsWith e none pos.line X.env = pure false := by rfl) : JS X G W (.Expr e pos) (dDrop fe) :=
  PS.imp (ps_expr he hs) fun E σ H ⟨m, ρ, S, sr, sm, q⟩ => ⟨m, ρ, S, sr, sm, SQ.then (rel := SV X.K) q sr sm fun a S1 b H1 m1 st1 sm1 r1 q1 => q1 σ H1 m1 sm1.refl sm1 (sr.mono sm st1)⟩
def dRet (fe : DE) : DS := fun ρ S => liftS (fe ρ S) ρ fun d S1 => .rt d S1
theorem js_ret (he : JE X G W e fe) : JS X G W (.Return (some e) pos) (dRet fe) :=
  PS.imp (ps_ret he) fun E σ H ⟨m, ρ, S, sr, sm, q⟩ => ⟨m, ρ, S, sr, sm, SQ.then (rel := SV X.K) q sr sm fun a S1 b H1 m1 st1 sm1 r1 q1 => q1 b H1 m1 sm1.refl sm1 r1⟩
theorem js_retN : JS X G W (.Return none pos) (fun _ S => .rt .non S) := PS.imp ps_retN fun E σ H ⟨m, ρ, S, sr, sm, q⟩ => q .non H m sm.refl sm rfl
def dIfS (c : DT) (f g : DS) : DS := fun ρ S => liftS (c ρ S) ρ fun b S1 => if b = true then f ρ S1 else g ρ S1
theorem js_if {c : Expr} {a b : List Stmt} {dc : DT} (hc : JT X G W c dc) (ha : JSs X G W a f) (hb : JSs X G W b g) : JS X G W (.If c a b pos) (dIfS dc f g) :=
  PS.imp (ps_if hc ha hb) fun E σ H ⟨m, ρ, S, sr, sm, q⟩ => ⟨m, ρ, S, sr, sm, SQ.then (rel := eqR) q sr sm fun a S1 b H1 m1 st1 sm1 r1 q1 => by
    cases r1
    cases a with
    | true => exact ⟨m1, ρ, S1, sr.mono sm st1, sm1, q1⟩
    | false => exact ⟨m1, ρ, S1, sr.mono sm st1, sm1, q1⟩⟩
/-! ### targets -/
abbrev DG := D → DEnv → Store → OutS
abbrev DGs := List D → DEnv → Store → OutS
def noEnds (Q : L2.St → Hp → Prop) : Ends := { nx := Q, rt := fun _ _ => False }
def tDG (K : PySem.W.Frag) (G : Gx) (W : WX) (f : DG) : TG := fun v σ H Q => ∃ m ρ S d, SR K m H ρ σ ∧ Sim K G m S H ∧ SV K m H d v ∧ SQ K G W (noEnds Q) m H (f d ρ S)
def tDGs (K : PySem.W.Frag) (G : Gx) (W : WX) (f : DGs) : TGs := fun vs σ H Q => ∃ m ρ S ds, SR K m H ρ σ ∧ Sim K G m S H ∧ SVs K m H ds vs ∧ SQ K G W (noEnds Q) m H (f ds ρ S)
abbrev JG (X : Cx) (G : Gx) (W : WX) (tg : Expr) (f : DG) : Prop := PG X tg (tDG X.K G W f)
abbrev JGs (X : Cx) (G : Gx) (W : WX) (tg : List Expr) (f : DGs) : Prop := PGs X tg (tDGs X.K G W f)
theorem PG.imp {tg : Expr} {t t' : TG} (h : PG X tg t) (f : ∀ v σ H Q, t' v σ H Q → t v σ H Q) : PG X tg t' := ⟨fun pins s σ H v u Q I r q => h.run pins s σ H v u Q I r (f v σ H Q q)⟩
theorem PG.or {tg : Expr} {t t' : TG} (h : PG X tg t) (h' : PG X tg t') : PG X tg (fun v σ H Q => t v σ H Q ∨ t' v σ H Q) := ⟨fun pins s σ H v u Q I r q => q.elim (h.run pins s σ H v u Q I r) (h'.run pins s σ H v u Q I r)⟩
theorem PGs.imp {tg : List Expr} {t t' : TGs} (h : PGs X tg t) (f : ∀ v σ H Q, t' v σ H Q → t v σ H Q) : PGs X tg t' := ⟨fun pins s σ H v u Q I r q => h.run pins s σ H v u Q I r (f v σ H Q q)⟩
def gN (i : Nat) : DG := fun d ρ S => .nx (ρ.set i (some d)) S
theorem jg_name (i : Nat) {x : Str} (hN : X.N.Nodup) (hi : X.N[i]? = some x := by rfl) (hx : Loc X.env.scope x := by first | exact Or.inl rfl | exact Or.inr rfl) (hf : X.fn x = true ∨ X.env.scope.names.lookup x = some .local := by first | exact .inl rfl | exact .inr rfl) : JG X G W (.Name x pos) (gN i) :=
  PG.imp (pg_name hN hi hx hf) fun v σ H Q ⟨m, ρ, S, d, sr, sm, r, q⟩ => q _ H m sm.refl sm (sr.set i r)
def gsNil : DGs
  | [], ρ, S => .nx ρ S
  | _, _, _ => .bad
def gsCons (g : DG) (gs : DGs) : DGs
  | d :: ds, ρ, S => (match g d ρ S with
    | .nx ρ1 S1 => gs ds ρ1 S1
    | .exn e ρ1 S1 => .exn e ρ1 S1
    | _ => .bad)
  | _, _, _ => .bad
theorem jgs_nil : JGs X G W [] gsNil := PGs.imp pgs_nil fun vs σ H Q ⟨m, ρ, S, ds, sr, sm, r, q⟩ => by
  cases ds with
  | nil => exact ⟨r, q σ H m sm.refl sm sr⟩
  | cons d ds => exact q.elim
theorem jgs_cons {es : List Expr} {g : DG} {gs : DGs} (h1 : JG X G W e g) (h2 : JGs X G W es gs) (hs : (assignEach (e :: es) X.env).map (·.2) = assign e X.env :: (assignEach es X.env).map (·.2) := by rfl) : JGs X G W (e :: es) (gsCons g gs) :=
  PGs.imp (pgs_cons h1 h2 hs) fun vs σ H Q ⟨m, ρ, S, ds, sr, sm, r, q⟩ => by
    cases ds with
    | nil => exact q.elim
    | cons d ds =>
      obtain ⟨v, vr, rfl, a, b⟩ := (show ∃ v r, vs = v :: r ∧ SV X.K m H d v ∧ SVs X.K m H ds r from r)
      refine ⟨v, vr, rfl, m, ρ, S, d, sr, sm, a, ?_⟩
      unfold gsCons at q
      dsimp only at q
      cases e1 : g d ρ S with
      | nx ρ1 S1 => rw [e1] at q; exact fun σ' H' m' s1 s2 s3 => ⟨m', ρ1, S1, ds, s3, s2, b.mono sm s1, SQ.step q s1⟩
      | exn x ρ1 S1 => rw [e1] at q; exact q
      | rt d S1 => rw [e1] at q; exact q.elim
      | bk ρ1 S1 => rw [e1] at q; exact q.elim
      | ct ρ1 S1 => rw [e1] at q; exact q.elim
      | bad => rw [e1] at q; exact q.elim
def gT (n : Nat) (gs : DGs) : DG := fun d ρ S => match seqAt S d with
  | some xs => if xs.length = n then gs xs ρ S else .bad
  | none => .bad
theorem jg_tup {es : List Expr} {k n : Nat} {gs : DGs} (hc : X.calm = true) (h : JGs X G W es gs) (hn : (assignEach es X.env).length = n := by rfl) (hst : (assignEach es X.env).findIdx? (·.1) = none := by rfl) : JG X G W (.Tuple es k pos) (gT n gs) :=
  PG.imp (PG.or (pg_tup hc h hn hst) (pg_lst hc h hn hst)) fun v σ H Q ⟨m, ρ, S, d, sr, sm, r, q⟩ => by
    unfold gT at q
    split at q
    · rename_i xs e1
      split at q
      · rename_i hl
        obtain ⟨p, vs, rfl, sv, sq⟩ := seqAt_ok sm e1 r
        rcases sq with sq | sq
        · exact .inr ⟨p, vs, rfl, sq, by rw [← sv.len]; exact hl, m, ρ, S, xs, sr, sm, sv, q⟩
        · exact .inl ⟨p, vs, rfl, sq, by rw [← sv.len]; exact hl, m, ρ, S, xs, sr, sm, sv, q⟩
      · exact q.elim
    · exact q.elim
/-- o[i] = v for a list -/
def gIx (fo fi : DE) : DG := fun d ρ S => liftS (fo ρ S) ρ fun o S1 => liftS (fi ρ S1) ρ fun i S2 => match o, i with
  | .obj n, .int k => (match lstAt S2 n with
    | some xs => (match ixN xs.length k with
      | some j => .nx ρ (S2.set n (.lst (xs.set j d)))
      | none => .bad)
    | none => .bad)
  | _, _ => .bad
theorem jg_ix {o i : Expr} {fo fi : DE} (ho : JE X G W o fo) (hi : JE X G W i fi)
    (ha : ∀ v, assign (.Subscript o i pos) X.env v = (do
      let ov ← holding [v] (eval o X.env)
      let iv ← holding [v, ov] (eval i X.env)
      standAt pos
      holding [v, ov, iv] (setItem ov iv v)
      release [v, ov, iv] []) := by intro _; rfl) : JG X G W (.Subscript o i pos) (gIx fo fi) :=
  PG.imp (pg_sub ho hi set_list ha) fun v σ H Q ⟨m, ρ, S, d, sr, sm, r, q⟩ => ⟨m, ρ, S, sr, sm, SQ.then (rel := SV X.K) q sr sm fun x S1 u H1 m1 st1 sm1 r1 q1 => ⟨m1, ρ, S1, sr.mono sm st1, sm1, SQ.then (rel := SV X.K) q1 (sr.mono sm st1) sm1 fun y S2 w H2 m2 st2 sm2 r2 q2 => by
    split at q2
    · rename_i n k
      split at q2
      · rename_i xs e1
        split at q2
        · rename_i j e2
          have r1 := r1.mono sm1 st2
          obtain ⟨a, rfl, hm⟩ := r1
          cases r2
          obtain ⟨a', vs, h1, h2, h3⟩ := lstAt_ok sm2 e1
          rw [hm] at h1; cases h1
          refine ⟨a, vs, k, j, rfl, rfl, h2, by rw [← h3.len]; exact e2, ?_⟩
          have st3 : Step m2 H2 m2 (upd H2 a (.lst (vs.set j v))) := Step.put sm2 hm
          have rd := (r.mono sm st1).mono sm1 st2
          exact q2 σ _ m2 st3 (sm2.put hm ⟨vs.set j v, upd_same, (h3.set rd j).mono sm2 st3⟩) ((sr.mono sm (st1.trans st2)).mono sm2 st3)
        · exact q2.elim
      · exact q2.elim
    · exact q2.elim⟩⟩
def dAsg (fe : DE) (g : DG) : DS := fun ρ S => liftS (fe ρ S) ρ fun d S1 => match g d ρ S1 with
  | .nx ρ1 S2 => .nx ρ1 S2
  | .exn e ρ1 S2 => .exn e ρ1 S2
  | _ => .bad
theorem js_asg {tg : Expr} {g : DG} (he : JE X G W e fe) (hg : JG X G W tg g) (hs : swapsWithSole [tg] e pos.line X.env = pure false := by rfl) (hw : swappedStores [tg] e X.env = pure none := by rfl)
    (h1 : (assignEach [tg] X.env).map (·.2) = [assign tg X.env] := by rfl) : JS X G W (.Assign [tg] e pos) (dAsg fe g) :=
  PS.imp (ps_asg he hg hs hw h1) fun E σ H ⟨m, ρ, S, sr, sm, q⟩ => ⟨m, ρ, S, sr, sm, SQ.then (rel := SV X.K) q sr sm fun d S1 v H1 m1 st1 sm1 r1 q1 => ⟨m1, ρ, S1, d, sr.mono sm st1, sm1, r1, by
    cases e1 : g d ρ S1 with
    | nx ρ1 S2 => rw [e1] at q1; exact q1
    | exn x ρ1 S2 => rw [e1] at q1; exact q1
    | rt d S2 => rw [e1] at q1; exact q1.elim
    | bk ρ1 S2 => rw [e1] at q1; exact q1.elim
    | ct ρ1 S2 => rw [e1] at q1; exact q1.elim
    | bad => rw [e1] at q1; exact q1.elim⟩⟩
/-- name = e -/
theorem js_set (i : Nat) {x : Str} {pos' : Pos} (hN : X.N.Nodup) (he : JE X G W e fe) (hi : X.N[i]? = some x := by rfl) (hx : Loc X.env.scope x := by first | exact Or.inl rfl | exact Or.inr rfl) (hs : swapsWith e (some (.Name x pos')) pos.line X.env = pure false := by rfl)
    (hf : X.fn x = true ∨ X.env.scope.names.lookup x = some .local := by first | exact .inl rfl | exact .inr rfl) : JS X G W (.Assign [.Name x pos'] e pos) (dAsg fe (gN i)) :=
  PS.imp (ps_set hN hi hx he hs hf) fun E σ H ⟨m, ρ, S, sr, sm, q⟩ => ⟨m, ρ, S, sr, sm, SQ.then (rel := SV X.K) q sr sm fun d S1 v H1 m1 st1 sm1 r1 q1 => q1 _ H1 m1 sm1.refl sm1 ((sr.mono sm st1).set i r1)⟩
/-- a, b = x, y of plain locals -/
def dPar2 (i j : Nat) (fr : DA) : DS := fun ρ S => liftS (fr ρ S) ρ fun ds S1 => match ds with
  | [d, e] => .nx ((ρ.set i (some d)).set j (some e)) S1
  | _ => .bad
def dPar3 (i j l : Nat) (fr : DA) : DS := fun ρ S => liftS (fr ρ S) ρ fun ds S1 => match ds with
  | [d, e, g] => .nx (((ρ.set i (some d)).set j (some e)).set l (some g)) S1
  | _ => .bad
theorem js_par2 (i j : Nat) {x y : Str} {a b : Expr} {fr : DA} {px py pt : Pos} {kt k2 pt2} (hc : X.calm = true) (hN : X.N.Nodup) (ha : JA X G W [a, b] fr) (hi : X.N[i]? = some x := by rfl) (hj : X.N[j]? = some y := by rfl) (hij : i ≠ j := by decide)
    (hx : X.env.scope.names.lookup x = some .local := by rfl) (hy : X.env.scope.names.lookup y = some .local := by rfl)
    (hw : swappedStores [.Tuple [.Name x px, .Name y py] kt pt] (.Tuple [a, b] k2 pt2) X.env = pure (some [x, y]) := by rfl)
    (hs : swapsWithSole [.Tuple [.Name x px, .Name y py] kt pt] (.Tuple [a, b] k2 pt2) pos.line X.env = pure false := by rfl) : JS X G W (.Assign [.Tuple [.Name x px, .Name y py] kt pt] (.Tuple [a, b] k2 pt2) pos) (dPar2 i j fr) :=
  PS.imp (ps_par hc hN hi hj hij hx hy ha hw hs) fun E σ H ⟨m, ρ, S, sr, sm, q⟩ => ⟨m, ρ, S, sr, sm, SQ.then (rel := SVs X.K) q sr sm fun ds S1 vs H1 m1 st1 sm1 r1 q1 => by
    split at q1
    · rename_i d e
      obtain ⟨v, u, rfl, rv, ru⟩ := svs2 r1
      exact ⟨v, u, rfl, q1 _ H1 m1 sm1.refl sm1 (((sr.mono sm st1).set i rv).set j ru)⟩
    · exact q1.elim⟩
theorem js_par3 (i j l : Nat) {x y z : Str} {a b c : Expr} {fr : DA} {px py pz pt : Pos} {kt k2 pt2} (hc : X.calm = true) (hN : X.N.Nodup) (ha : JA X G W [a, b, c] fr) (hi : X.N[i]? = some x := by rfl) (hj : X.N[j]? = some y := by rfl) (hl : X.N[l]? = some z := by rfl)
    (hij : i ≠ j := by decide) (hil : i ≠ l := by decide) (hjl : j ≠ l := by decide)
    (hx : X.env.scope.names.lookup x = some .local := by rfl) (hy : X.env.scope.names.lookup y = some .local := by rfl) (hz : X.env.scope.names.lookup z = some .local := by rfl)
    (hw : swappedStores [.Tuple [.Name x px, .Name y py, .Name z pz] kt pt] (.Tuple [a, b, c] k2 pt2) X.env = pure (some [x, y, z]) := by rfl)
    (hs : swapsWithSole [.Tuple [.Name x px, .Name y py, .Name z pz] kt pt] (.Tuple [a, b, c] k2 pt2) pos.line X.env = pure false := by rfl) : JS X G W (.Assign [.Tuple [.Name x px, .Name y py, .Name z pz] kt pt] (.Tuple [a, b, c] k2 pt2) pos) (dPar3 i j l fr) :=
  PS.imp (ps_par3 hc hN hi hj hl hij hil hjl hx hy hz ha hw hs) fun E σ H ⟨m, ρ, S, sr, sm, q⟩ => ⟨m, ρ, S, sr, sm, SQ.then (rel := SVs X.K) q sr sm fun ds S1 vs H1 m1 st1 sm1 r1 q1 => by
    split at q1
    · rename_i d e g
      obtain ⟨v, r, rfl, rv, r1⟩ := r1
      obtain ⟨u, w, rfl, ru, rw'⟩ := svs2 r1
      exact ⟨v, u, w, rfl, q1 _ H1 m1 sm1.refl sm1 ((((sr.mono sm st1).set i rv).set j ru).set l rw')⟩
    · exact q1.elim⟩
/-- o.f = e -/
def dPutF (cs : List String) (f : Str) (fo fe : DE) : DS := fun ρ S => liftS (fe ρ S) ρ fun d S1 => liftS (fo ρ S1) ρ fun o S2 => match o, insAt S2 o with
  | .obj n, some (c, fs) => if c ∈ cs ∧ fs.length < 1000 then .nx ρ (S2.set n (.ins c (putD f d fs))) else .bad
  | _, _ => .bad
theorem js_fld {cs : List String} {f : Str} {o : Expr} {fo : DE} {pos' : Pos} (hC : ∀ c ∈ cs, Cls X.K (G.cA c) ∧ NoAttr X.K (G.cA c) f) (ho : JE X G W o fo) (he : JE X G W e fe) (hs : swapsWith e (some (.Attribute o f pos')) pos.line X.env = pure false := by rfl) :
    JS X G W (.Assign [.Attribute o f pos'] e pos) (dPutF cs f fo fe) :=
  PS.imp (ps_fld ho he hs) fun E σ H ⟨m, ρ, S, sr, sm, q⟩ => ⟨m, ρ, S, sr, sm, SQ.then (rel := SV X.K) q sr sm fun d S1 v H1 m1 st1 sm1 r1 q1 => ⟨m1, ρ, S1, sr.mono sm st1, sm1, SQ.then (rel := SV X.K) q1 (sr.mono sm st1) sm1 fun x S2 u H2 m2 st2 sm2 r2 q2 => by
    split at q2
    · rename_i n c fs e1
      split at q2
      · rename_i hc
        obtain ⟨n', p, dx, vfs, en, rfl, hm, hoo, hf⟩ := insAt_ok sm2 e1 r2
        cases en
        refine ⟨p, G.cA c, dx, vfs, rfl, hoo, (hC c hc.1).1, (hC c hc.1).2, by rw [← hf.len]; exact hc.2, ?_⟩
        have st3 : Step m2 H2 m2 (upd H2 p (.ins (G.cA c) dx (putF f v vfs))) := Step.put sm2 hm
        exact q2 σ _ m2 st3 (sm2.put hm ⟨dx, _, upd_same, (hf.put (r1.mono sm1 st2)).mono sm2 st3⟩) ((sr.mono sm (st1.trans st2)).mono sm2 st3)
      · exact q2.elim
    · exact q2.elim⟩⟩
/-- name op= e -/
def dAug (i : Nat) (g : D2) (fe : DE) : DS := fun ρ S => match ρ[i]? with
  | some (some x) => liftS (fe ρ S) ρ fun y S1 => (match g x y S1 with
    | some (d, S2) => .nx (ρ.set i (some d)) S2
    | none => .bad)
  | _ => .bad
theorem js_aug (i : Nat) {x : Str} {op : Operator} {g : D2} {pos' : Pos} (hN : X.N.Nodup) (ho : JOp X G (inplaceOp op) g) (he : JE X G W e fe) (hi : X.N[i]? = some x := by rfl) (hx : Loc X.env.scope x := by first | exact Or.inl rfl | exact Or.inr rfl)
    (hf : X.fn x = true ∨ X.env.scope.names.lookup x = some .local := by first | exact .inl rfl | exact .inr rfl) : JS X G W (.AugAssign (.Name x pos') op e pos) (dAug i g fe) :=
  PS.imp (ps_aug hN hi hx he ho hf) fun E σ H ⟨m, ρ, S, sr, sm, q⟩ => by
    unfold dAug at q
    split at q
    · rename_i d e1
      obtain ⟨v, h1, h2⟩ := sr.2 i d e1
      refine ⟨v, h1, m, ρ, S, sr, sm, SQ.then (rel := SV X.K) q sr sm fun y S1 u H1 m1 st1 sm1 r1 q1 => ?_⟩
      split at q1
      · rename_i d2 S2 e2
        exact ⟨m1, S1, d, y, d2, S2, sm1, h2.mono sm st1, r1, e2, fun w H' m' a b c => q1 _ H' m' a b ((sr.mono sm (st1.trans a)).set i c)⟩
      · exact q1.elim
    · exact q.elim
def imulD : D2
  | .int i, .int j, S => if i.natAbs.log2 + j.natAbs.log2 < 1000000 then some (.int (i * j), S) else none
  | _, _, _ => none
def iaddD : D2
  | .int i, .int j, S => some (.int (i + j), S)
  | .str x, .str y, S => if x.length + y.length ≤ 1000000 then some (.str (x ++ y), S) else none
  | _, _, _ => none
def isubD : D2
  | .int i, .int j, S => some (.int (i - j), S)
  | _, _, _ => none
theorem iop_mulW : OpR X (inplaceOp .Mult) (rI CMulW fun i j => .int (i * j)) := opI fun _ _ _ _ _ _ _ hc q => imul_int q hc.ok
theorem jip_mul : JOp X G (inplaceOp .Mult) imulD := by
  refine OpR.imp iop_mulW fun x y H Q ⟨m, S, a, b, d, S', sm, ra, rb, e, k⟩ => ?_
  unfold imulD at e
  split at e
  · rename_i S i j
    split at e
    · rename_i hz
      cases e; cases ra; cases rb
      exact ⟨i, j, rfl, rfl, hz, k _ H m sm.refl sm rfl⟩
    · cases e
  · cases e
theorem jip_add : JOp X G (inplaceOp .Add) iaddD := by
  refine OpR.imp (OpR.or iop_add iop_add_str) fun x y H Q ⟨m, S, a, b, d, S', sm, ra, rb, e, k⟩ => ?_
  unfold iaddD at e
  split at e
  · rename_i S i j
    cases e; cases ra; cases rb
    exact .inl ⟨i, j, rfl, rfl, k _ H m sm.refl sm rfl⟩
  · rename_i S i j
    split at e
    · rename_i hz
      cases e; cases ra; cases rb
      exact .inr ⟨i, j, rfl, rfl, size6 hz, k _ H m sm.refl sm rfl⟩
    · cases e
  · cases e
theorem jip_sub : JOp X G (inplaceOp .Sub) isubD := by
  refine OpR.imp iop_sub fun x y H Q ⟨m, S, a, b, d, S', sm, ra, rb, e, k⟩ => ?_
  unfold isubD at e
  split at e
  · rename_i S i j
    cases e; cases ra; cases rb
    exact ⟨i, j, rfl, rfl, k _ H m sm.refl sm rfl⟩
  · cases e
/-- raise C('m') -/
def dRaise (c : String) : DS := fun ρ S => .exn ⟨c⟩ ρ S
theorem js_raise {c : String} {bmB : List Value} {B newId initId : String} {x ms : Str} {j : Nat} {p p2 pos1 : Pos} (hc : X.calm = true) (tk : Takes X W) (F : ExcBaseFacts B newId initId bmB) (q : PySem.W.excIn X.K (G.cA c) bmB newId = true) (gC : X.mg x = some (.ref (G.cA c)))
    (kC : PySem.W.keepIn X.K (.ref (G.cA c)) = true) (r : Raises X (.ref (G.cA c))) (hg : Gl X x := by rfl) (hdb : (x == ("__debug__" : Str)) = false := by decide) : JS X G W (.Raise (some (.Call (.Name x p) [.Constant (.str ms) j p2] [] pos1)) none pos) (dRaise c) :=
  PS.imp (ps_raise hc tk (pmk_own F q gC kC r hg hdb)) fun E σ H ⟨m, ρ, S, sr, sm, q⟩ => q _ _ σ H m sm.refl sm sr rfl
/-! ### while -/
def whileD (c : DT) (f : DS) : Nat → DS
  | 0, _, _ => .bad
  | n + 1, ρ, S => liftS (c ρ S) ρ fun b S1 => if b = true then (match f ρ S1 with
    | .nx ρ2 S2 => whileD c f n ρ2 S2
    | .ct ρ2 S2 => whileD c f n ρ2 S2
    | .bk ρ2 S2 => .nx ρ2 S2
    | o => o) else .nx ρ S1
def fuel : Nat := 1000000
theorem js_while {c : Expr} {body : List Stmt} {dc : DT} (hp : PassesOwn (model X.prog X.w) X.A X.env X.xe) (hc : JT X G W c dc) (hb : JSs X G W body f) : JS X G W (.While c body [] pos) (whileD dc f fuel) :=
  PS.imp (ps_while hp hc hb) fun E σ H ⟨m, ρ, S, sr, sm, q⟩ => by
    refine ⟨fun n σ H => ∃ m ρ S, SR X.K m H ρ σ ∧ Sim X.K G m S H ∧ SQ X.K G W E m H (whileD dc f n ρ S), ⟨fuel, m, ρ, S, sr, sm, q⟩, ?_⟩
    rintro n σ H ⟨m, ρ, S, sr, sm, q⟩
    cases n with
    | zero => exact q.elim
    | succ n =>
      refine ⟨m, ρ, S, sr, sm, SQ.then (rel := eqR) q sr sm fun b S1 b' H1 m1 st1 sm1 r1 q1 => ?_⟩
      cases r1
      cases b with
      | false => exact q1 σ H1 m1 sm1.refl sm1 (sr.mono sm st1)
      | true =>
        refine ⟨fun σ H => ∃ m ρ S, SR X.K m H ρ σ ∧ Sim X.K G m S H ∧ SQ X.K G W E m H (whileD dc f n ρ S), fun σ' H' h => ⟨n, Nat.lt_succ_self _, h⟩, m1, ρ, S1, sr.mono sm st1, sm1, ?_⟩
        have q2 : SQ X.K G W E m1 H1 (match f ρ S1 with
          | .nx ρ2 S2 => whileD dc f n ρ2 S2
          | .ct ρ2 S2 => whileD dc f n ρ2 S2
          | .bk ρ2 S2 => .nx ρ2 S2
          | o => o) := q1
        cases e1 : f ρ S1 with
        | nx ρ2 S2 => rw [e1] at q2; exact fun σ' H' m' a b c => ⟨m', ρ2, S2, c, b, SQ.step q2 a⟩
        | ct ρ2 S2 => rw [e1] at q2; exact fun σ' H' m' a b c => ⟨m', ρ2, S2, c, b, SQ.step q2 a⟩
        | bk ρ2 S2 => rw [e1] at q2; exact q2
        | rt d S2 => rw [e1] at q2; exact q2
        | exn x ρ2 S2 => rw [e1] at q2; exact q2
        | bad => rw [e1] at q2; exact q2
end
end DL
set_option Elab.async false
set_option linter.all false
set_option maxRecDepth 100000
set_option maxHeartbeats 2000000
namespace DL
open PySem PySem.Spec PyProof.Rows L2
/-! ### equality of data, for guards -/
mutual
def D.beq : D → D → Bool
  | .non, .non => true
  | .bl a, .bl b => a == b
  | .int a, .int b => a == b
  | .str a, .str b => decide (a = b)
  | .tup a, .tup b => D.beqs a b
  | .fl a, .fl b => D.beqs a b
  | .obj a, .obj b => a == b
  | _, _ => false
def D.beqs : List D → List D → Bool
  | [], [] => true
  | a :: as, b :: bs => D.beq a b && D.beqs as bs
  | _, _ => false
end
mutual
theorem D.beq_eq : ∀ (a b : D), D.beq a b = true → a = b
  | .non, .non, _ => rfl
  | .bl a, .bl b, h => by simp [D.beq] at h; rw [h]
  | .int a, .int b, h => by simp [D.beq] at h; rw [h]
  | .str a, .str b, h => by simp [D.beq] at h; rw [h]
  | .tup a, .tup b, h => by simp only [D.beq] at h; rw [D.beqs_eq a b h]
  | .fl a, .fl b, h => by simp only [D.beq] at h; rw [D.beqs_eq a b h]
  | .obj a, .obj b, h => by simp [D.beq] at h; rw [h]
  | .non, .bl _, h | .non, .int _, h | .non, .str _, h | .non, .tup _, h | .non, .fl _, h | .non, .obj _, h => by simp [D.beq] at h
  | .bl _, .non, h | .bl _, .int _, h | .bl _, .str _, h | .bl _, .tup _, h | .bl _, .fl _, h | .bl _, .obj _, h => by simp [D.beq] at h
  | .int _, .non, h | .int _, .bl _, h | .int _, .str _, h | .int _, .tup _, h | .int _, .fl _, h | .int _, .obj _, h => by simp [D.beq] at h
  | .str _, .non, h | .str _, .bl _, h | .str _, .int _, h | .str _, .tup _, h | .str _, .fl _, h | .str _, .obj _, h => by simp [D.beq] at h
  | .tup _, .non, h | .tup _, .bl _, h | .tup _, .int _, h | .tup _, .str _, h | .tup _, .fl _, h | .tup _, .obj _, h => by simp [D.beq] at h
  | .fl _, .non, h | .fl _, .bl _, h | .fl _, .int _, h | .fl _, .str _, h | .fl _, .tup _, h | .fl _, .obj _, h => by simp [D.beq] at h
  | .obj _, .non, h | .obj _, .bl _, h | .obj _, .int _, h | .obj _, .str _, h | .obj _, .tup _, h | .obj _, .fl _, h => by simp [D.beq] at h
theorem D.beqs_eq : ∀ (a b : List D), D.beqs a b = true → a = b
  | [], [], _ => rfl
  | a :: as, b :: bs, h => by simp only [D.beqs, Bool.and_eq_true] at h; rw [D.beq_eq a b h.1, D.beqs_eq as bs h.2]
  | [], _ :: _, h => by simp [D.beqs] at h
  | _ :: _, [], h => by simp [D.beqs] at h
end
mutual
theorem D.beq_refl : ∀ (a : D), D.beq a a = true
  | .non => rfl
  | .bl a => by simp [D.beq]
  | .int a => by simp [D.beq]
  | .str a => by simp [D.beq]
  | .tup a => by simp only [D.beq]; exact D.beqs_refl a
  | .fl a => by simp only [D.beq]; exact D.beqs_refl a
  | .obj a => by simp [D.beq]
theorem D.beqs_refl : ∀ (a : List D), D.beqs a a = true
  | [] => rfl
  | a :: as => by simp only [D.beqs, Bool.and_eq_true]; exact ⟨D.beq_refl a, D.beqs_refl as⟩
end
/-! ### what a loop walks -/
structure Src where
  items : List D
  grd : Store → Bool
def SrcOk (K : PySem.W.Frag) (G : Gx) (m1 : List Addr) (H1 : Hp) (src : Src) (J : It) : Prop :=
  Walk J src.items.length (fun H' => ∃ m' S', Step m1 H1 m' H' ∧ Sim K G m' S' H' ∧ src.grd S' = true)
    (fun i H' x H'' => ∀ m' S', Step m1 H1 m' H' → Sim K G m' S' H' → src.grd S' = true → ∃ d, src.items[i]? = some d ∧ Step m' H' m' H'' ∧ Sim K G m' S' H'' ∧ SV K m' H'' d x)
abbrev DI := DEnv → Store → Out Src
def tDI (K : PySem.W.Frag) (G : Gx) (W : WX) (f : DI) : TI := fun σ H R => ∃ m ρ S, SR K m H ρ σ ∧ Sim K G m S H ∧ EO K G (SrcOk K G) R (fun c d H' => W c d σ H') m H (f ρ S)
abbrev JI (X : Cx) (G : Gx) (W : WX) (tg iter : Expr) (f : DI) : Prop := PI X tg iter (tDI X.K G W f)
theorem PI.imp {X : Cx} {tg iter : Expr} {t t' : TI} (h : PI X tg iter t) (f : ∀ σ H R, t' σ H R → t σ H R) : PI X tg iter t' := ⟨fun pins s σ H R I q => h.run pins s σ H R I (f σ H R q)⟩
def grdT : Store → Bool := fun _ => true
def grdL (n : Nat) (xs : List D) : Store → Bool := fun S => match lstAt S n with
  | some ys => D.beqs xs ys
  | none => false
theorem grdL_ok {S : Store} {n : Nat} {xs : List D} (h : grdL n xs S = true) : lstAt S n = some xs := by
  unfold grdL at h
  split at h
  · rename_i ys e
    rw [D.beqs_eq xs ys h]; exact e
  · cases h
def srcOf (d : D) (S : Store) : Option (Src × Store) := match d with
  | .tup xs => some (⟨xs, grdT⟩, S)
  | .fl xs => some (⟨xs, grdT⟩, S)
  | .obj n => (lstAt S n).map fun xs => (⟨xs, grdL n xs⟩, S)
  | _ => none
def diSeq (fe : DE) : DI := fun ρ S => (fe ρ S).bind fun d S1 => optO (srcOf d S1)
section
variable {K : PySem.W.Frag} {G : Gx} {m1 : List Addr} {H1 : Hp} {S1 : Store}
/-- items that stand still, read by place -/
theorem srcOk_of {xs : List D} {grd : Store → Bool} {J : It} {ws : List V} (sm : Sim K G m1 S1 H1) (sv : SVs K m1 H1 xs ws) (w : Walk J ws.length (fun H' => ∃ m' S', Step m1 H1 m' H' ∧ Sim K G m' S' H' ∧ grd S' = true) (YAt ws)) : SrcOk K G m1 H1 ⟨xs, grd⟩ J := by
  show Walk J xs.length _ _
  rw [sv.len]
  refine ⟨w.goes, w.stops, fun i H' x H'' hi hG hy m' S' st sm' hg' => ?_⟩
  obtain ⟨e, hx⟩ := w.yields i H' x H'' hi hG hy
  subst e
  have hi' : i < xs.length := by rw [sv.len]; exact hi
  obtain ⟨v, h1, h2⟩ := sv.get (i := i) (d := xs[i]) (by simp [hi'])
  rw [hx] at h1
  cases h1
  exact ⟨xs[i], by simp [hi'], sm'.refl, sm', h2.mono sm st⟩
theorem srcOk_lst {xs : List D} {ws : List V} {a : Addr} {n : Nat} (sm : Sim K G m1 S1 H1) (hm : m1[n]? = some a) (e : H1 a = some (.lst ws)) (sv : SVs K m1 H1 xs ws) : SrcOk K G m1 H1 ⟨xs, grdL n xs⟩ (Itl K a) := by
  have key : ∀ H' m' S', Step m1 H1 m' H' → Sim K G m' S' H' → grdL n xs S' = true → ∃ (us : List V), H' a = some (.lst us) ∧ SVs K m' H' xs us := by
    intro H' m' S' st sm' hg
    obtain ⟨a', us, h1, h2, h3⟩ := lstAt_ok sm' (grdL_ok hg)
    rw [st.get hm] at h1; cases h1
    exact ⟨us, h2, h3⟩
  show Walk (Itl K a) xs.length _ _
  refine ⟨fun i H' hi ⟨m', S', st, sm', hg⟩ => ?_, fun H' ⟨m', S', st, sm', hg⟩ => ?_, fun i H' x H'' hi _ hy m' S' st sm' hg => ?_⟩
  · obtain ⟨us, h2, h3⟩ := key H' m' S' st sm' hg
    exact ⟨us, us[i]'(by rw [← h3.len]; exact hi), SqL.of h2, by simp⟩
  · obtain ⟨us, h2, h3⟩ := key H' m' S' st sm' hg
    exact ⟨us, SqL.of h2, by rw [h3.len]; exact Nat.le_refl _⟩
  · obtain ⟨us, h2, h3⟩ := key H' m' S' st sm' hg
    obtain ⟨e', hx⟩ := hy
    subst e'
    have hx := hx us (SqL.of h2)
    obtain ⟨v, h4, h5⟩ := h3.get (i := i) (d := xs[i]) (by simp [hi])
    rw [hx] at h4; cases h4
    exact ⟨xs[i], by simp [hi], sm'.refl, sm', h5⟩
theorem sqF_walk {xs : List V} {a : Addr} (sm : Sim K G m1 S1 H1) (h : SqF K H1 a xs) {grd : Store → Bool} : Walk (Itl K a) xs.length (fun H' => ∃ m' S', Step m1 H1 m' H' ∧ Sim K G m' S' H' ∧ grd S' = true) (YAt xs) :=
  (walk_list (K := K) (a := a) (xs := xs)).mono (fun H' ⟨m', S', st, _, _⟩ => (sqF_step sm st h).l) fun _ _ _ _ _ _ y => y
theorem sqT_walk {xs : List V} {a : Addr} (sm : Sim K G m1 S1 H1) (h : SqT K H1 a xs) {grd : Store → Bool} : Walk (Itt K a) xs.length (fun H' => ∃ m' S', Step m1 H1 m' H' ∧ Sim K G m' S' H' ∧ grd S' = true) (YAt xs) :=
  (walk_tup (K := K) (a := a) (xs := xs)).mono (fun H' ⟨m', S', st, _, _⟩ => sqT_step sm st h) fun _ _ _ _ _ _ y => y
/-- numbers -/
def rngD (lo c : Int) (n : Nat) : List D := (List.range n).map fun (i : Nat) => D.int (lo + (i : Int) * c)
theorem srcOk_fn {J : It} {f : Nat → Int} {n : Nat} {xs : List D} (hl : xs.length = n) (hx : ∀ i, i < n → xs[i]? = some (.int (f i))) (w : Walk J n (fun _ => True) (YFn fun i => .int (f i))) : SrcOk K G m1 H1 ⟨xs, grdT⟩ J := by
  show Walk J xs.length _ _
  rw [hl]
  refine ⟨fun i H hi _ => w.goes i H hi trivial, fun H _ => w.stops H trivial, fun i H' x H'' hi _ hy m' S' st sm' _ => ?_⟩
  obtain ⟨e, hx'⟩ := w.yields i H' x H'' hi trivial hy
  subst e
  exact ⟨.int (f i), hx i hi, sm'.refl, sm', hx'⟩
end
section
variable {X : Cx} {G : Gx} {W : WX} {tg e : Expr} {fe : DE} {p pos : Pos}
/-- a list or a tuple, by its value -/
theorem pi_seq {l : Expr} {tl : TE} (hl : PE X l tl) : PI X tg l (fun σ H R => tl σ H fun x H1 => ∃ a, x = .ref a ∧ ((∃ xs, SqL X.K H1 a xs) ∧ R (Itl X.K a) H1 ∨ (∃ xs, SqT X.K H1 a xs) ∧ R (Itt X.K a) H1)) := by
  refine ⟨fun pins s σ H R I h => ?_⟩
  refine thn (hl.run pins s σ H _ I h) fun v s1 ⟨x, H1, I1, r1, q1⟩ => ?_
  obtain ⟨a, e, hq⟩ := q1
  subst e
  cases r1
  rcases hq with ⟨⟨xs, hq⟩, q⟩ | ⟨⟨xs, hq⟩, q⟩
  · obtain ⟨its, rv, p, hz⟩ := I1.list hq
    refine wpAny_pyIter_list p.isList ?_
    refine ⟨s1.heap.objs.size, [s1.heap.objs.size], _, _, H1, rfl, I1.kept (t' := s1.toks) fun b o e => Heap.get?_push_of_some _ e, turn_list a _, ⟨_, Heap.get?_push_size _ rfl, rfl, rfl⟩, fun b hb => ?_, q⟩
    have e : b = s1.heap.objs.size := by simpa using hb
    subst e
    exact I1.fpOk (Nat.le_refl _) (I1.hok.fresh (Nat.le_refl _))
  · obtain ⟨its, rv, p, hz⟩ := I1.tuple hq
    refine wpAny_pyIter_tuple (show s1.heap.IsTuple a its.toArray from p) ?_
    refine ⟨s1.heap.objs.size, [s1.heap.objs.size], _, _, H1, rfl, I1.kept (t' := s1.toks) fun b o e => Heap.get?_push_of_some _ e, turn_tuple a _, ⟨_, Heap.get?_push_size _ rfl, rfl, rfl⟩, fun b hb => ?_, q⟩
    have e : b = s1.heap.objs.size := by simpa using hb
    subst e
    exact I1.fpOk (Nat.le_refl _) (I1.hok.fresh (Nat.le_refl _))
theorem ji_seq (he : JE X G W e fe) : JI X G W tg e (diSeq fe) :=
  PI.imp (pi_seq he) fun σ H R ⟨m, ρ, S, sr, sm, eo⟩ => ⟨m, ρ, S, sr, sm, EO.then (rel := SV X.K) eo fun d S1 v H1 m1 st1 sm1 r1 eo1 => by
    cases d with
    | tup xs =>
      obtain ⟨a, vs, rfl, q, r⟩ := r1
      exact ⟨a, rfl, .inr ⟨⟨vs, q⟩, eo1 _ H1 m1 sm1.refl sm1 (srcOk_of sm1 r (sqT_walk sm1 q))⟩⟩
    | fl xs =>
      obtain ⟨a, vs, rfl, q, r⟩ := r1
      exact ⟨a, rfl, .inl ⟨⟨vs, q.l⟩, eo1 _ H1 m1 sm1.refl sm1 (srcOk_of sm1 r (sqF_walk sm1 q))⟩⟩
    | obj n =>
      unfold srcOf at eo1
      dsimp only at eo1
      cases z : lstAt S1 n with
      | none => rw [z] at eo1; exact eo1.elim
      | some xs =>
        rw [z] at eo1
        obtain ⟨a, rfl, hm⟩ := r1
        obtain ⟨a', vs, h1, h2, h3⟩ := lstAt_ok sm1 z
        rw [hm] at h1; cases h1
        exact ⟨a, rfl, .inl ⟨⟨vs, SqL.of h2⟩, eo1 _ H1 m1 sm1.refl sm1 (srcOk_lst sm1 hm h2 h3)⟩⟩
    | _ => exact eo1.elim⟩
def diRange1 (fe : DE) : DI := fun ρ S => (fe ρ S).bind fun d S1 => match d with
  | .int j => if -1000000000000 ≤ j ∧ j ≤ 1000000000000 then .ok ⟨rngD 0 1 j.toNat, grdT⟩ S1 else .bad
  | _ => .bad
def diRange2 (fa fb : DE) : DI := fun ρ S => (fa ρ S).bind fun d S1 => (fb ρ S1).bind fun e S2 => match d, e with
  | .int i, .int j => if (-1000000000000 ≤ i ∧ i ≤ 1000000000000) ∧ -1000000000000 ≤ j ∧ j ≤ 1000000000000 then .ok ⟨rngD i 1 (j - i).toNat, grdT⟩ S2 else .bad
  | _, _ => .bad
def diRev1 (fe : DE) : DI := fun ρ S => (fe ρ S).bind fun d S1 => match d with
  | .int j => if -1000000000000 ≤ j ∧ j ≤ 1000000000000 then .ok ⟨rngD (j - 1) (-1) j.toNat, grdT⟩ S1 else .bad
  | _ => .bad
theorem rngD_len (lo c : Int) (n : Nat) : (rngD lo c n).length = n := by simp [rngD]
theorem rngD_at (lo c : Int) (n i : Nat) (h : i < n) : (rngD lo c n)[i]? = some (.int (lo + (i : Int) * c)) := by simp [rngD, h]
theorem ji_range1 (hm : X.mg "range" = none) (he : JE X G W e fe) (hg : Gl X "range" := by rfl) (hs : starEach [e] X.env = [(false, eval e X.env)] := by rfl) : JI X G W tg (.Call (.Name "range" p) [e] [] pos) (diRange1 fe) :=
  PI.imp (pi_range1 hg hm (ja_cons he ja_nil hs) hs) fun σ H R ⟨m, ρ, S, sr, sm, eo⟩ => ⟨m, ρ, S, sr, sm, by
    unfold daCons daNil
    unfold diRange1 at eo
    cases z : fe ρ S with
    | bad => rw [z] at eo; exact eo.elim
    | exn x S1 => rw [z] at eo; exact eo
    | ok d S1 =>
      rw [z] at eo
      simp only [Out.bind_ok] at eo ⊢
      intro vs H1 m1 st1 sm1 r1
      have eo1 := eo.step st1
      obtain ⟨v, rfl, rv⟩ := svs1 r1
      split at eo1
      · rename_i j
        split at eo1
        · rename_i hz
          cases rv
          exact ⟨j, rfl, by omega, by omega, eo1 _ H1 m1 sm1.refl sm1 (srcOk_fn (rngD_len _ _ _) (fun i hi => by rw [rngD_at _ _ _ _ hi, Int.mul_one]) walk_range)⟩
        · exact eo1.elim
      · exact eo1.elim⟩
theorem ji_range2 {a b : Expr} {fa fb : DE} (hm : X.mg "range" = none) (ha : JE X G W a fa) (hb : JE X G W b fb) (hg : Gl X "range" := by rfl) (hs : starEach [a, b] X.env = [(false, eval a X.env), (false, eval b X.env)] := by rfl) (hs2 : starEach [b] X.env = [(false, eval b X.env)] := by rfl)
    (h1 : starEach (a :: [b]) X.env = (false, eval a X.env) :: starEach [b] X.env := by rfl) : JI X G W tg (.Call (.Name "range" p) [a, b] [] pos) (diRange2 fa fb) :=
  PI.imp (pi_range2 hg hm (ja_cons ha (ja_cons hb ja_nil hs2) h1) hs hs2) fun σ H R ⟨m, ρ, S, sr, sm, eo⟩ => ⟨m, ρ, S, sr, sm, by
    unfold daCons daNil
    unfold diRange2 at eo
    cases z : fa ρ S with
    | bad => rw [z] at eo; exact eo.elim
    | exn x S1 => rw [z] at eo; exact eo
    | ok d S1 =>
      rw [z] at eo
      simp only [Out.bind_ok] at eo ⊢
      cases z2 : fb ρ S1 with
      | bad => rw [z2] at eo; exact eo.elim
      | exn x S1 => rw [z2] at eo; exact eo
      | ok d2 S2 =>
        rw [z2] at eo
        simp only [Out.bind_ok] at eo ⊢
        intro vs H1 m1 st1 sm1 r1
        have eo1 := eo.step st1
        obtain ⟨v, u, rfl, rv, ru⟩ := svs2 r1
        split at eo1
        · rename_i i j
          split at eo1
          · rename_i hz
            cases rv; cases ru
            exact ⟨i, j, rfl, ⟨by omega, by omega, by omega, by omega⟩, eo1 _ H1 m1 sm1.refl sm1 (srcOk_fn (rngD_len _ _ _) (fun i hi => by rw [rngD_at _ _ _ _ hi, Int.mul_one]) walk_range)⟩
          · exact eo1.elim
        · exact eo1.elim⟩
theorem ji_rev1 {p2 pos2 : Pos} (hm : X.mg "reversed" = none) (hm2 : X.mg "range" = none) (he : JE X G W e fe) (hg : Gl X "reversed" := by rfl) (hg2 : Gl X "range" := by rfl) (hs : starEach [e] X.env = (false, eval e X.env) :: starEach [] X.env := by rfl)
    (hs2 : starEach [.Call (.Name "range" p2) [e] [] pos2] X.env = (false, eval (.Call (.Name "range" p2) [e] [] pos2) X.env) :: starEach [] X.env := by rfl) :
    JI X G W tg (.Call (.Name "reversed" p) [.Call (.Name "range" p2) [e] [] pos2] [] pos) (diRev1 fe) :=
  PI.imp (pi_revR hg hm (prg_1 hg2 hm2 he hs) hs2) fun σ H R ⟨m, ρ, S, sr, sm, eo⟩ => ⟨m, ρ, S, sr, sm, EO.then (rel := SV X.K) eo fun d S1 v H1 m1 st1 sm1 r1 eo1 => by
    split at eo1
    · rename_i j
      split at eo1
      · rename_i hz
        cases r1
        refine ⟨j, rfl, by omega, by omega, by omega, by omega, eo1 _ H1 m1 sm1.refl sm1 ?_⟩
        rw [Int.sub_zero, Int.zero_add]
        refine srcOk_fn (f := fun (i : Nat) => ((j.toNat : Nat) : Int) - 1 + (i : Int) * (-1)) (rngD_len _ _ _) (fun i hi => ?_) walk_rangeC
        rw [rngD_at _ _ _ _ hi]
        have : ((j.toNat : Nat) : Int) = j := by omega
        rw [this]
      · exact eo1.elim
    · exact eo1.elim⟩
/-! ### for -/
def forD (grd : Store → Bool) (g : DG) (f : DS) : List D → DS
  | [], ρ, S => if grd S = true then .nx ρ S else .bad
  | d :: ds, ρ, S => if grd S = true then (match g d ρ S with
    | .nx ρ1 S1 => (match f ρ1 S1 with
      | .nx ρ2 S2 => forD grd g f ds ρ2 S2
      | .ct ρ2 S2 => forD grd g f ds ρ2 S2
      | .bk ρ2 S2 => .nx ρ2 S2
      | o => o)
    | .exn e ρ1 S1 => .exn e ρ1 S1
    | _ => .bad) else .bad
def dFor (fi : DI) (g : DG) (f : DS) : DS := fun ρ S => liftS (fi ρ S) ρ fun src S1 => forD src.grd g f src.items ρ S1
theorem forD_grd {K : PySem.W.Frag} {G : Gx} {W : WX} {E : Ends} {m : List Addr} {H : Hp} {grd : Store → Bool} {g : DG} {f : DS} {ds : List D} {ρ : DEnv} {S : Store} (h : SQ K G W E m H (forD grd g f ds ρ S)) : grd S = true := by
  cases q : grd S with
  | true => rfl
  | false =>
    exfalso
    cases ds with
    | nil =>
      unfold forD at h
      rw [q] at h
      exact h
    | cons d ds =>
      unfold forD at h
      rw [q] at h
      exact h
theorem js_for {iter : Expr} {body : List Stmt} {fi : DI} {g : DG} {f : DS} (hp : PassesOwn (model X.prog X.w) X.A X.env X.xe) (hc : X.calm = true) (hi : JI X G W tg iter fi) (hg : JG X G W tg g) (hb : JSs X G W body f)
    (hs : ∀ x, foldedSetIterable iter X.env x = pure x := by intro _; rfl) : JS X G W (.For tg iter body [] pos) (dFor fi g f) :=
  PS.imp (ps_for hp hc hi hg hb hs) fun E σ H ⟨m, ρ, S, sr, sm, q⟩ => ⟨m, ρ, S, sr, sm, SQ.then (rel := SrcOk X.K G) q sr sm fun src S1 J H1 m1 st1 sm1 w q1 => by
    refine for_it w (fun i σ H => ∃ m ρ S, Step m1 H1 m H ∧ SR X.K m H ρ σ ∧ Sim X.K G m S H ∧ SQ X.K G W E m H (forD src.grd g f (src.items.drop i) ρ S)) ⟨m1, ρ, S1, sm1.refl, sr.mono sm st1, sm1, q1⟩
      (fun i σ H _ ⟨m, ρ, S, a, b, c, d⟩ => ⟨m, S, a, c, forD_grd d⟩) ?_ ?_
    · rintro i x σ H H' hi ⟨m, ρ, S, st, sr, sm, q⟩ hy
      have hgd := forD_grd q
      obtain ⟨d, hd, st2, sm2, sv⟩ := hy m S st sm hgd
      have e0 : src.items.drop i = d :: src.items.drop (i + 1) := by
        rw [List.drop_eq_getElem_cons hi]
        rw [List.getElem?_eq_getElem hi] at hd
        cases hd
        rfl
      rw [e0] at q
      unfold forD at q
      rw [if_pos hgd] at q
      refine ⟨m, ρ, S, d, sr.mono sm st2, sm2, sv, ?_⟩
      have q := SQ.step q st2
      cases e1 : g d ρ S with
      | nx ρ1 S1 =>
        rw [e1] at q
        intro σ' H3 m3 st3 sm3 sr3
        refine ⟨m3, ρ1, S1, sr3, sm3, ?_⟩
        have q := SQ.step q st3
        dsimp only at q
        cases e2 : f ρ1 S1 with
        | nx ρ2 S2 => rw [e2] at q; exact fun σ4 H4 m4 a b c => ⟨m4, ρ2, S2, st.trans (st2.trans (st3.trans a)), c, b, SQ.step q a⟩
        | ct ρ2 S2 => rw [e2] at q; exact fun σ4 H4 m4 a b c => ⟨m4, ρ2, S2, st.trans (st2.trans (st3.trans a)), c, b, SQ.step q a⟩
        | bk ρ2 S2 => rw [e2] at q; exact q
        | rt d S2 => rw [e2] at q; exact q
        | exn x ρ2 S2 => rw [e2] at q; exact q
        | bad => rw [e2] at q; exact q
      | exn x ρ1 S1 => rw [e1] at q; exact q
      | rt d S2 => rw [e1] at q; exact q.elim
      | bk ρ1 S1 => rw [e1] at q; exact q.elim
      | ct ρ1 S1 => rw [e1] at q; exact q.elim
      | bad => rw [e1] at q; exact q.elim
    · rintro σ H ⟨m, ρ, S, st, sr, sm, q⟩
      have hgd := forD_grd q
      rw [List.drop_length] at q
      unfold forD at q
      rw [if_pos hgd] at q
      exact q σ H m sm.refl sm sr⟩
end
end DL
set_option Elab.async false
set_option linter.all false
set_option maxRecDepth 100000
set_option maxHeartbeats 2000000
namespace DL
open PySem PySem.Spec PyProof.Rows L2
/-! ### targets of comprehensions: only the block's own slots change -/
def Agree (vs : List Nat) (σ σ' : L2.St) : Prop := σ'.length = σ.length ∧ ∀ j, j ∉ vs → σ'[j]? = σ[j]?
theorem Agree.refl {vs : List Nat} {σ : L2.St} : Agree vs σ σ := ⟨rfl, fun _ _ => rfl⟩
theorem Agree.trans {vs : List Nat} {σ σ1 σ2 : L2.St} (a : Agree vs σ σ1) (b : Agree vs σ1 σ2) : Agree vs σ σ2 := ⟨b.1.trans a.1, fun j hj => (b.2 j hj).trans (a.2 j hj)⟩
theorem wipe_get (σ : L2.St) : ∀ (vs : List Nat) (j : Nat), (wipe σ vs)[j]? = if j ∈ vs ∧ j < σ.length then some none else σ[j]?
  | [], j => by simp [wipe]
  | v :: vs, j => by
    have ih := wipe_get σ vs j
    have hl := wipe_length σ vs
    unfold wipe
    by_cases e : v = j
    · subst e
      by_cases hlt : v < σ.length
      · rw [List.getElem?_set_self (by rw [hl]; exact hlt), if_pos ⟨List.mem_cons_self, hlt⟩]
      · rw [List.getElem?_eq_none_iff.mpr (by rw [List.length_set, hl]; omega), if_neg (fun z => hlt z.2), List.getElem?_eq_none_iff.mpr (by omega)]
    · rw [List.getElem?_set_ne e, ih]
      by_cases h : j ∈ vs ∧ j < σ.length
      · rw [if_pos h, if_pos ⟨List.mem_cons_of_mem _ h.1, h.2⟩]
      · rw [if_neg h, if_neg (fun z => h ⟨(List.mem_cons.mp z.1).resolve_left (Ne.symm e), z.2⟩)]
theorem wipe_agree {vs : List Nat} {σ σ' : L2.St} (a : Agree vs (wipe σ vs) σ') : wipe σ' vs = wipe σ vs := by
  apply List.ext_getElem?
  intro j
  have h1 := wipe_length σ vs
  rw [wipe_get σ' vs j]
  by_cases h : j ∈ vs
  · by_cases hl : j < σ'.length
    · rw [if_pos ⟨h, hl⟩, wipe_get, if_pos ⟨h, by rw [← h1, ← a.1]; exact hl⟩]
    · rw [if_neg (fun z => hl z.2), List.getElem?_eq_none_iff.mpr (by omega), List.getElem?_eq_none_iff.mpr (by rw [← a.1]; omega)]
  · rw [if_neg (fun z => h z.1)]
    exact a.2 j h
def wipeD (ρ : DEnv) : List Nat → DEnv
  | [] => ρ
  | v :: vs => (wipeD ρ vs).set v none
theorem SR.unset {K : PySem.W.Frag} {m : List Addr} {H : Hp} {ρ : DEnv} {σ : L2.St} (h : SR K m H ρ σ) (i : Nat) : SR K m H (ρ.set i none) (σ.set i none) := by
  refine ⟨by simp [h.1], fun j e hj => ?_⟩
  by_cases hij : i = j
  · subst hij
    have hlt : i < ρ.length := by
      have := (List.getElem?_eq_some_iff.mp hj).1
      simpa using this
    rw [List.getElem?_set_self hlt] at hj
    cases hj
  · rw [List.getElem?_set_ne hij] at hj
    obtain ⟨u, h1, h2⟩ := h.2 j e hj
    exact ⟨u, by rw [List.getElem?_set_ne hij]; exact h1, h2⟩
theorem SR.wipe {K : PySem.W.Frag} {m : List Addr} {H : Hp} {ρ : DEnv} {σ : L2.St} (h : SR K m H ρ σ) : ∀ vs : List Nat, SR K m H (wipeD ρ vs) (L2.wipe σ vs)
  | [] => h
  | v :: vs => (SR.wipe h vs).unset v
def tDGv (K : PySem.W.Frag) (G : Gx) (W : WX) (vs : List Nat) (f : DG) : TG := fun v σ H Q => ∃ m ρ S d, SR K m H ρ σ ∧ Sim K G m S H ∧ SV K m H d v ∧ SQ K G W (noEnds fun σ' H' => Agree vs σ σ' → Q σ' H') m H (f d ρ S)
def tDGsv (K : PySem.W.Frag) (G : Gx) (W : WX) (vs : List Nat) (f : DGs) : TGs := fun us σ H Q => ∃ m ρ S ds, SR K m H ρ σ ∧ Sim K G m S H ∧ SVs K m H ds us ∧ SQ K G W (noEnds fun σ' H' => Agree vs σ σ' → Q σ' H') m H (f ds ρ S)
abbrev JGv (X : Cx) (G : Gx) (W : WX) (vs : List Nat) (tg : Expr) (f : DG) : Prop := PG X tg (tDGv X.K G W vs f)
abbrev JGsv (X : Cx) (G : Gx) (W : WX) (vs : List Nat) (tg : List Expr) (f : DGs) : Prop := PGs X tg (tDGsv X.K G W vs f)
section
variable {X : Cx} {G : Gx} {W : WX} {vs : List Nat} {e : Expr} {pos : Pos}
theorem jgv_name (i : Nat) {x : Str} (hN : X.N.Nodup) (hv : i ∈ vs) (hi : X.N[i]? = some x := by rfl) (hx : Loc X.env.scope x := by first | exact Or.inl rfl | exact Or.inr rfl) (hf : X.fn x = true ∨ X.env.scope.names.lookup x = some .local := by first | exact .inl rfl | exact .inr rfl) : JGv X G W vs (.Name x pos) (gN i) :=
  PG.imp (pg_name hN hi hx hf) fun v σ H Q ⟨m, ρ, S, d, sr, sm, r, q⟩ => q _ H m sm.refl sm (sr.set i r) ⟨by simp, fun j hj => by
    have ne : i ≠ j := fun z => hj (by rw [← z]; exact hv)
    rw [List.getElem?_set_ne ne]⟩
theorem jgsv_nil : JGsv X G W vs [] gsNil := PGs.imp pgs_nil fun us σ H Q ⟨m, ρ, S, ds, sr, sm, r, q⟩ => by
  cases ds with
  | nil => exact ⟨r, q σ H m sm.refl sm sr Agree.refl⟩
  | cons d ds => exact q.elim
theorem jgsv_cons {es : List Expr} {g : DG} {gs : DGs} (h1 : JGv X G W vs e g) (h2 : JGsv X G W vs es gs) (hs : (assignEach (e :: es) X.env).map (·.2) = assign e X.env :: (assignEach es X.env).map (·.2) := by rfl) : JGsv X G W vs (e :: es) (gsCons g gs) :=
  PGs.imp (pgs_cons h1 h2 hs) fun us σ H Q ⟨m, ρ, S, ds, sr, sm, r, q⟩ => by
    cases ds with
    | nil => exact q.elim
    | cons d ds =>
      obtain ⟨v, vr, rfl, a, b⟩ := (show ∃ v r, us = v :: r ∧ SV X.K m H d v ∧ SVs X.K m H ds r from r)
      refine ⟨v, vr, rfl, m, ρ, S, d, sr, sm, a, ?_⟩
      unfold gsCons at q
      dsimp only at q
      cases e1 : g d ρ S with
      | nx ρ1 S1 =>
        rw [e1] at q
        intro σ' H' m' s1 s2 s3 ag
        refine ⟨m', ρ1, S1, ds, s3, s2, b.mono sm s1, ?_⟩
        have q := SQ.step q s1
        dsimp only at q
        cases e2 : gs ds ρ1 S1 with
        | nx ρ2 S2 => rw [e2] at q; exact fun σ2 H2 m2 a b c ag2 => q σ2 H2 m2 a b c (ag.trans ag2)
        | exn x ρ1 S1 => rw [e2] at q; exact q
        | rt d S1 => rw [e2] at q; exact fun v H' m' a b c => (q v H' m' a b c).elim
        | bk ρ1 S1 => rw [e2] at q; exact fun v H' m' a b c => (q v H' m' a b c).elim
        | ct ρ1 S1 => rw [e2] at q; exact fun v H' m' a b c => (q v H' m' a b c).elim
        | bad => rw [e2] at q; exact q.elim
      | exn x ρ1 S1 => rw [e1] at q; exact q
      | rt d S1 => rw [e1] at q; exact q.elim
      | bk ρ1 S1 => rw [e1] at q; exact q.elim
      | ct ρ1 S1 => rw [e1] at q; exact q.elim
      | bad => rw [e1] at q; exact q.elim
theorem jgv_tup {es : List Expr} {k n : Nat} {gs : DGs} (hc : X.calm = true) (h : JGsv X G W vs es gs) (hn : (assignEach es X.env).length = n := by rfl) (hst : (assignEach es X.env).findIdx? (·.1) = none := by rfl) : JGv X G W vs (.Tuple es k pos) (gT n gs) :=
  PG.imp (PG.or (pg_tup hc h hn hst) (pg_lst hc h hn hst)) fun v σ H Q ⟨m, ρ, S, d, sr, sm, r, q⟩ => by
    unfold gT at q
    split at q
    · rename_i xs e1
      split at q
      · rename_i hl
        obtain ⟨p, us, rfl, sv, sq⟩ := seqAt_ok sm e1 r
        rcases sq with sq | sq
        · exact .inr ⟨p, us, rfl, sq, by rw [← sv.len]; exact hl, m, ρ, S, xs, sr, sm, sv, q⟩
        · exact .inl ⟨p, us, rfl, sq, by rw [← sv.len]; exact hl, m, ρ, S, xs, sr, sm, sv, q⟩
      · exact q.elim
    · exact q.elim
/-! ### list comprehensions -/
abbrev W0 : WX := fun _ _ _ _ => False
abbrev JTs (X : Cx) (G : Gx) (W : WX) (es : List Expr) (f : DT) : Prop := PTs X es (tDT X.K G W f)
def dYes : DT := fun _ S => .ok true S
theorem PTs.imp {es : List Expr} {t t' : TT} (h : PTs X es t) (f : ∀ σ H Q, t' σ H Q → t σ H Q) : PTs X es t' := ⟨fun pins s σ H Q I q => h.run pins s σ H Q I (f σ H Q q)⟩
theorem jts_nil : JTs X G W [] dYes := PTs.imp pts_nil fun σ H Q ⟨m, ρ, S, sr, sm, eo⟩ => eo true H m sm.refl sm rfl
theorem jts_one {g : DT} (h : JT X G W e g) : JTs X G W [e] g := pts_one h
def lcD (grd : Store → Bool) (g : DG) (tt : DT) (fe : DE) (n : Nat) (ρ : DEnv) : List D → Store → Out Unit
  | [], S => if grd S = true then .ok () S else .bad
  | d :: ds, S => if grd S = true then (match g d ρ S with
    | .nx ρ1 S1 => (match tt ρ1 S1 with
      | .ok true S2 => (match fe ρ1 S2 with
        | .ok y S3 => (match lstAt S3 n with
          | some acc => if acc.length < 1000000 then lcD grd g tt fe n ρ ds (S3.set n (.lst (acc ++ [y]))) else .bad
          | none => .bad)
        | _ => .bad)
      | .ok false S2 => lcD grd g tt fe n ρ ds S2
      | _ => .bad)
    | _ => .bad) else .bad
def dLc (fi : DI) (g : DG) (tt : DT) (fe : DE) (vs : List Nat) : DE := fun ρ S => (fi ρ S).bind fun src S1 => (lcD src.grd g tt fe S1.length (wipeD ρ vs) src.items (S1 ++ [.lst []])).bind fun _ S2 => .ok (.obj S1.length) S2
theorem lcD_grd {K : PySem.W.Frag} {G : Gx} {α β : Type} {rel : List Addr → Hp → α → β → Prop} {Q : β → Hp → Prop} {Wc : Value → Option Addr → Hp → Prop} {m : List Addr} {H : Hp} {grd : Store → Bool} {g : DG} {tt : DT} {fe : DE} {n : Nat} {ρ : DEnv} {ds : List D} {S : Store} {k : Unit → Store → Out α}
    (h : EO K G rel Q Wc m H ((lcD grd g tt fe n ρ ds S).bind k)) : grd S = true := by
  cases q : grd S with
  | true => rfl
  | false =>
    exfalso
    cases ds with
    | nil => unfold lcD at h; rw [q] at h; exact h
    | cons d ds => unfold lcD at h; rw [q] at h; exact h
theorem lc_core2 {fi : DI} {g : DG} {tt : DT} {fe : DE} {σ : L2.St} {H : Hp} {Q : VK} (h : tD X.K G W (dLc fi g tt fe vs) σ H Q) : tLc (tDI X.K G W fi) (tDGv X.K G W0 vs g) (tDT X.K G W0 tt) (tD X.K G W0 fe) vs σ H Q := by
  obtain ⟨m, ρ, S, sr, sm, eo⟩ := h
  refine ⟨m, ρ, S, sr, sm, EO.then (rel := SrcOk X.K G) eo fun src S1 J H1 m1 st1 sm1 w eo1 => ?_⟩
  intro Dd hD
  have sr1 := sr.mono sm st1
  have st2 : Step m1 H1 (m1 ++ [Dd]) (upd H1 Dd (.lst [])) := Step.new sm1 hD
  have sm2 : Sim X.K G (m1 ++ [Dd]) (S1 ++ [.lst []]) (upd H1 Dd (.lst [])) := sim_lst (ds := []) (vs := []) rfl sm1 hD
  have hmD : (m1 ++ [Dd])[S1.length]? = some Dd := by rw [← sm1.len]; simp
  refine lc_it w (fun i H => ∃ m S, Step (m1 ++ [Dd]) (upd H1 Dd (.lst [])) m H ∧ Sim X.K G m S H ∧ EO X.K G (SV X.K) Q (fun c d H' => W c d σ H') m H ((lcD src.grd g tt fe S1.length (wipeD ρ vs) (src.items.drop i) S).bind fun _ S2 => .ok (.obj S1.length) S2))
    ⟨m1 ++ [Dd], S1 ++ [DO.lst []], sm2.refl, sm2, eo1.step st2⟩ (fun i H _ ⟨m, S, a, b, c⟩ => ⟨m, S, st2.trans a, b, lcD_grd c⟩) ?_ ?_
  · rintro i x H H' hi ⟨m, S, st, sm, eo⟩ hy
    have hgd := lcD_grd eo
    obtain ⟨d, hd, st3, sm3, sv⟩ := hy m S (st2.trans st) sm hgd
    have e0 : src.items.drop i = d :: src.items.drop (i + 1) := by
      rw [List.drop_eq_getElem_cons hi]
      rw [List.getElem?_eq_getElem hi] at hd
      cases hd
      rfl
    rw [e0] at eo
    unfold lcD at eo
    rw [if_pos hgd] at eo
    have srw : SR X.K m H' (wipeD ρ vs) (wipe σ vs) := (sr1.mono sm1 ((st2.trans st).trans st3)).wipe vs
    refine ⟨m, wipeD ρ vs, S, d, srw, sm3, sv, ?_⟩
    have eo := eo.step st3
    cases e1 : g d (wipeD ρ vs) S with
    | nx ρ1 Sa =>
      rw [e1] at eo
      dsimp only at eo
      intro σ4 H4 m4 st4 sm4 sr4 ag
      refine ⟨wipe_agree ag, m4, ρ1, Sa, sr4, sm4, ?_⟩
      have eo := eo.step st4
      cases e2 : tt ρ1 Sa with
      | ok b Sb =>
        rw [e2] at eo
        intro b' H5 m5 st5 sm5 rb
        cases rb
        have eo := eo.step st5
        cases b with
        | true =>
          rw [if_pos rfl]
          dsimp only at eo
          refine ⟨m5, ρ1, Sb, sr4.mono sm4 st5, sm5, ?_⟩
          cases e3 : fe ρ1 Sb with
          | ok y Sc =>
            rw [e3] at eo
            dsimp only at eo
            intro u H6 m6 st6 sm6 ru
            have eo := eo.step st6
            cases e4 : lstAt Sc S1.length with
            | none => rw [e4] at eo; exact eo.elim
            | some acc =>
              rw [e4] at eo
              dsimp only at eo
              by_cases hz : acc.length < 1000000
              · rw [if_pos hz] at eo
                obtain ⟨a', ws, h1, h2, h3⟩ := lstAt_ok sm6 e4
                have stA := (((st.trans st3).trans st4).trans st5).trans st6
                rw [stA.get hmD] at h1
                cases h1
                have stB : Step m6 H6 m6 (upd H6 Dd (.lst (ws ++ [u]))) := Step.put sm6 (stA.get hmD)
                have smB : Sim X.K G m6 (Sc.set S1.length (.lst (acc ++ [y]))) (upd H6 Dd (.lst (ws ++ [u]))) := sm6.put (stA.get hmD) ⟨ws ++ [u], upd_same, (h3.append (SVs.one ru)).mono sm6 stB⟩
                exact ⟨ws, h2, by rw [← h3.len]; exact Nat.lt_of_lt_of_le hz (size6 (Nat.le_refl _)), m6, _, stA.trans stB, smB, eo.step stB⟩
              · rw [if_neg hz] at eo; exact eo.elim
          | exn x Sc => rw [e3] at eo; exact eo.elim
          | bad => rw [e3] at eo; exact eo.elim
        | false =>
          rw [if_neg Bool.false_ne_true]
          exact ⟨m5, Sb, ((st.trans st3).trans st4).trans st5, sm5, eo⟩
      | exn x Sb => rw [e2] at eo; exact eo.elim
      | bad => rw [e2] at eo; exact eo.elim
    | exn x ρ1 Sa => rw [e1] at eo; exact eo.elim
    | rt d Sa => rw [e1] at eo; exact eo.elim
    | bk ρ1 Sa => rw [e1] at eo; exact eo.elim
    | ct ρ1 Sa => rw [e1] at eo; exact eo.elim
    | bad => rw [e1] at eo; exact eo.elim
  · rintro H ⟨m, S, st, sm, eo⟩
    have hgd := lcD_grd eo
    rw [List.drop_length] at eo
    unfold lcD at eo
    rw [if_pos hgd] at eo
    exact eo _ H m sm.refl sm ⟨Dd, rfl, st.get hmD⟩
variable {elt tg iter : Expr} {ifs : List Expr} {scope : Scope} {own : List (Str × Nat)} {fi : DI} {g : DG} {tt : DT} {fe : DE}
theorem je_lc (hc : X.calm = true) (hN : X.N.Nodup) (ok : BlkOk X.N X.env.scope scope own) (hi : JI X G W tg iter fi)
    (hg : ∀ (s : Shared) (H : Hp) (C : Addr) (cl : List (Str × Addr)) (fp : List Addr), JGv (X.blk s H scope (compEnvC scope cl C X.env) fp) G W0 vs tg g) (ht : ∀ (s : Shared) (H : Hp) (C : Addr) (cl : List (Str × Addr)) (fp : List Addr), JTs (X.blk s H scope (compEnvC scope cl C X.env) fp) G W0 ifs tt)
    (he : ∀ (s : Shared) (H : Hp) (C : Addr) (cl : List (Str × Addr)) (fp : List Addr), JE (X.blk s H scope (compEnvC scope cl C X.env) fp) G W0 elt fe) (hs : ∀ x, foldedSetIterable iter X.env x = pure x := by intro _; rfl) (hvs : own.map (·.2) = vs := by rfl) :
    JE X G W (.ListComp elt [⟨tg, iter, ifs, 0⟩] scope pos) (dLc fi g tt fe vs) := by
  subst hvs
  exact PE.imp (pe_lc hc hN hi ok hg ht he hs) fun σ H Q h => lc_core2 h
theorem js_setLc (i : Nat) {y : Str} {py spos : Pos} (hc : X.calm = true) (hN : X.N.Nodup) (ok : BlkOk X.N X.env.scope scope own) (hi : JI X G W tg iter fi)
    (hg : ∀ (s : Shared) (H : Hp) (C : Addr) (cl : List (Str × Addr)) (fp : List Addr), JGv (X.blk s H scope (compEnvC scope cl C X.env) fp) G W0 vs tg g) (ht : ∀ (s : Shared) (H : Hp) (C : Addr) (cl : List (Str × Addr)) (fp : List Addr), JTs (X.blk s H scope (compEnvC scope cl C X.env) fp) G W0 ifs tt)
    (he : ∀ (s : Shared) (H : Hp) (C : Addr) (cl : List (Str × Addr)) (fp : List Addr), JE (X.blk s H scope (compEnvC scope cl C X.env) fp) G W0 elt fe)
    (hsw : swapsWith (.ListComp elt [⟨tg, iter, ifs, 0⟩] scope pos) (some (.Name y py)) spos.line X.env = pure true)
    (hy : X.N[i]? = some y := by rfl) (hyl : X.env.scope.names.lookup y = some .local := by rfl)
    (hs : ∀ x, foldedSetIterable iter X.env x = pure x := by intro _; rfl) (hvs : own.map (·.2) = vs := by rfl) :
    JS X G W (.Assign [.Name y py] (.ListComp elt [⟨tg, iter, ifs, 0⟩] scope pos) spos) (dAsg (dLc fi g tt fe vs) (gN i)) := by
  subst hvs
  exact PS.imp (ps_setLc hc hN hy hyl hsw hi ok hg ht he hs) fun E σ H ⟨m, ρ, S, sr, sm, q⟩ => lc_core2 (W := W) ⟨m, ρ, S, sr, sm, SQ.then (rel := SV X.K) q sr sm fun d S1 v H1 m1 st1 sm1 r1 q1 => q1 _ H1 m1 sm1.refl sm1 ((sr.mono sm st1).set i r1)⟩
end
end DL
set_option Elab.async false
set_option linter.all false
set_option maxRecDepth 100000
set_option maxHeartbeats 2000000
namespace DL
open PySem PySem.Spec PyProof.Rows L2
/-! ### a def's body -/
def startD (n : Nat) (ds : List D) : DEnv := ds.map some ++ List.replicate (n - ds.length) none
def runD (n : Nat) (f : DS) : DF := fun ds S => match f (startD n ds) S with
  | .nx _ S1 => .ok .non S1
  | .rt d S1 => .ok d S1
  | .exn e _ S1 => .exn e S1
  | _ => .bad
abbrev WF (E : XK) : WX := fun cls d _ H => E cls d H
theorem startD_ok {K : PySem.W.Frag} {m : List Addr} {H : Hp} {N : List Str} {ds : List D} {vs : List V} (h : SVs K m H ds vs) : SR K m H (startD N.length ds) (L2.start N vs) := by
  have hl := h.len
  refine ⟨by simp [startD, L2.start, hl], fun i d e => ?_⟩
  unfold startD at e
  unfold L2.start
  by_cases hi : i < ds.length
  · rw [List.getElem?_append_left (by simpa using hi), List.getElem?_map] at e
    rw [List.getElem?_append_left (by simpa [← hl] using hi), List.getElem?_map]
    cases q : ds[i]? with
    | none => rw [q] at e; cases e
    | some d' =>
      rw [q] at e
      cases e
      obtain ⟨v, h1, h2⟩ := h.get q
      exact ⟨v, by rw [h1]; rfl, h2⟩
  · rw [List.getElem?_append_right (by simpa using hi)] at e
    rw [List.getElem?_replicate] at e
    split at e <;> cases e
section
variable {P : Program} {w : World} {K : PySem.W.Frag} {mg : Str → Option Value} {base : Heap} {G : Gx} {x qual : Str} {params : Arguments} {body : List Stmt} {scope : Scope} {f : Addr} {fd : FuncData} {N ps : List Str} {k : Nat} {fb : DS}
theorem body_core {X : Cx} {vs : List V} {H : Hp} {Q : VK} {E : XK} {m : List Addr} {ds : List D} {S : Store} (hN : X.N = N) (sv : SVs X.K m H ds vs) (sm : Sim X.K G m S H) (eo : EO X.K G (SV X.K) Q E m H (runD N.length fb ds S)) :
    tDS X.K G (WF E) fb { nx := fun _ H' => Q .non H', rt := Q } (L2.start N vs) H := by
  refine ⟨m, startD N.length ds, S, startD_ok sv, sm, ?_⟩
  unfold runD at eo
  cases e : fb (startD N.length ds) S with
  | nx ρ S1 => rw [e] at eo; exact fun σ H' m' a b c => eo .non H' m' a b rfl
  | rt d S1 => rw [e] at eo; exact eo
  | exn x ρ S1 => rw [e] at eo; exact fun cls dx σ H' m' a b c d => eo cls dx H' m' a b d
  | bk ρ S1 => rw [e] at eo; exact eo.elim
  | ct ρ S1 => rw [e] at eo; exact eo.elim
  | bad => rw [e] at eo; exact eo.elim
/-- THE RULE for a def; the body's derivation may use that its code object is told by K -/
theorem fnOk_of (F : FunD K x qual params body scope [] [] f fd) (Sc : FnScope N ps scope)
    (hbody : ∀ (cdv : Value) (A : Around) (outer : List Env) (s : Shared) (H : Hp) (E : XK), (∃ (oc : Value) (od : Option Addr) (osl : Array (Option Value)) (fd' : FuncData), K.lookup f = some ⟨oc, od, .func fd', osl⟩ ∧ fd'.code = cdv) → PySem.W.codeIn K cdv qual = true → Room k (A.deeper (envOfC qual scope s.heap.objs.size f cdv)) →
      JSs (cxOf (L2.CX P w) P w K mg base N qual scope f cdv A outer s H E) G (WF E) body fb) : FnOk P w K mg base (L2.CX P w) (k + 1) f fd ps (spD K G ps.length (runD N.length fb)) := by
  obtain ⟨oc, od, dV, kV, doc, pm, an, cdv, ct, osl, rfl, lk, hcd, _, _⟩ := F.ex
  refine fn_of lk hcd Sc (fun vs H Q E h => ?_) fun A outer s H vs Q E hr h => ?_
  · obtain ⟨m, ds, S, hl, sv, _⟩ := h
    rw [← sv.len, hl]
  · obtain ⟨m, ds, S, hl, sv, sm, eo⟩ := h
    exact ⟨_, hbody cdv A outer s H E ⟨oc, od, osl, _, lk, rfl⟩ hcd hr, body_core (X := cxOf (L2.CX P w) P w K mg base N qual scope f cdv A outer s H E) rfl sv sm eo⟩
theorem fnD_of (F : FunD K x qual params body scope [] [] f fd) (Sc : FnScope N ps scope) (hb : Binds K fd ps [])
    (hbody : ∀ (cdv : Value) (A : Around) (outer : List Env) (s : Shared) (H : Hp) (E : XK), (∃ (oc : Value) (od : Option Addr) (osl : Array (Option Value)) (fd' : FuncData), K.lookup f = some ⟨oc, od, .func fd', osl⟩ ∧ fd'.code = cdv) → PySem.W.codeIn K cdv qual = true → Room k (A.deeper (envOfC qual scope s.heap.objs.size f cdv)) →
      JSs (cxOf (L2.CX P w) P w K mg base N qual scope f cdv A outer s H E) G (WF E) body fb) : FnD P w K mg base G (k + 1) f ps.length (runD N.length fb) :=
  ⟨⟨fd, ps, fnOk_of F Sc hbody, hb⟩, F.kp⟩
end
/-! ### a lambda handed to a def that tells refusals by texts -/
def subB (a b : String) : Bool := a == b || b == "WageFault"
def pickD : List (String × Str) → String → Option Str
  | [], _ => none
  | (c, t) :: r, e => if subB e c = true then some t else pickD r e
def dTold (rs : List String) (cs : List (String × Str)) (f : DE) : DE := fun ρ S => match f ρ S with
  | .ok d S1 => .ok d S1
  | .exn e S1 => if e.c ∈ rs then (match pickD cs e.c with
    | some t => .ok (.str t) S1
    | none => .bad) else .bad
  | .bad => .bad
def pickP (K : PySem.W.Frag) (Q : VK) (cls : Value) (H' : Hp) : List (Addr × Str) → Prop
  | [] => False
  | (c, t) :: r => ∃ b, PySem.W.exmOne K cls (.ref c) = some b ∧ (b = true → Q (.str t) H') ∧ (b = false → pickP K Q cls H' r)
def TMany (K : PySem.W.Frag) (cs : List (Addr × Str)) : (XK → Hp → VK → Prop) → Hp → VK → Prop := fun tl H Q => tl (fun cls _ H' => pickP K Q cls H' cs) H Q
/-- the clauses: except x: return 't' -/
inductive TellHs (X : Cx) (sg : Scope) : List ExceptHandler → List (Addr × Str) → Prop
  | nil : TellHs X sg [] []
  | cons {e ret : Str} {C : Addr} {j : Nat} {p4 p5 p6 p7 : Pos} {hds : List ExceptHandler} {l : List (Addr × Str)} (hg : sg.names.lookup e = some .globalImplicit) (hm : X.mg e = some (.ref C)) (hd : (e == ("__debug__" : Str)) = false) (r : TellHs X sg hds l) :
      TellHs X sg (.ExceptHandler (some (.Name e p4)) none [.Return (some (.Constant (.str ret) j p5)) p6] p7 :: hds) ((C, ret) :: l)
section
variable {X : Cx} {G : Gx} {W : WX}
theorem tell_hds {Ng : List Str} {x : Str} {sg : Scope} {g : Addr} {cdg : Value} {s : Shared} {H : Hp} {hds : List ExceptHandler} {l : List (Addr × Str)} (h : TellHs X sg hds l) :
    HdsOk (cxOf C8.CX0 X.prog X.w X.K X.mg X.base Ng x sg g cdg X.A X.stack s H C8.E0).nox hds (l.map fun q => (Value.ref q.1, fun _ _ _ => tRet (tC (.str q.2)))) := by
  induction h with
  | nil => exact .nil
  | cons hg hm hd r ih => exact .cons ⟨hg, hd, .inl hm⟩ (fun a oe cls d pn _ _ => pss_one (ps_ret pe_str)) ih
theorem many_pick {K : PySem.W.Frag} {D : Ends} {Q : VK} (hrt : D.rt = Q) {cls : Value} {d : Option Addr} {σ : L2.St} {H' : Hp} : ∀ {l : List (Addr × Str)}, pickP K Q cls H' l → wMany K (fun _ _ _ _ => False) D (l.map fun q => (Value.ref q.1, fun _ _ _ => tRet (tC (.str q.2)))) cls d σ H'
  | [], h => h
  | (c, t) :: r, ⟨b, h1, h2, h3⟩ => ⟨b, h1, fun hb a _ => by
      show D.rt (.str t) H'
      rw [hrt]; exact h2 hb, fun hb => many_pick hrt (h3 hb)⟩
theorem told_many {Ng : List Str} {x a q : Str} {sg : Scope} {g : Addr} {cdg : Value} {h₀ : ExceptHandler} {hds : List ExceptHandler} {l : List (Addr × Str)} {p1 p2 p3 p8 : Pos} (hh : TellHs X sg (h₀ :: hds) l) (h0 : ∀ f : Addr, (L2.start Ng [V.ref f])[0]? = some (some (V.ref f))) :
    LamX.GivesTo X Ng x sg g cdg [.Try [.Return (some (.Call (.Name a p1) [] [] p2)) p3] (h₀ :: hds) [] [] p8] a q (TMany X.K l) := by
  intro f c' s H Q tl act hc h
  refine ⟨_, pss_one (ps_try_many (X := (cxOf C8.CX0 X.prog X.w X.K X.mg X.base Ng x sg g cdg X.A X.stack s H C8.E0).nox)
      (tb := fun W D σ H => ∃ Ech : XK, (∀ cls d σ' H', Ech cls d H' → W cls d σ' H') ∧ σ[0]? = some (some (.ref f)) ∧ H c' = some (LamX.CodeO c' q) ∧ tl Ech H D.rt)
      rfl rfl LamX.takes0 (fun W pn xe tk _ => ?_) (tell_hds hh)), ?_⟩
  · refine ⟨fun pins s' σ H' D I h' => ?_⟩
    obtain ⟨Ech, hW, h1, h2, h3⟩ := h'
    have hp := act W pn xe Ech p1 p2 tk hW
    have hq := pss_one (ps_ret (pos := p3) hp)
    exact hq.run pins s' σ H' D I ⟨h1, h2, h3⟩
  · exact ⟨fun cls _ H' => pickP X.K Q cls H' l, fun cls d σ' H' hp => many_pick rfl hp, h0 f, hc, h⟩
theorem lam_takes {A : Around} {outer : List Env} {s : Shared} {H : Hp} {E : XK} {scope : Scope} {f c' : Addr} : Takes (LamX.lamCx X A outer s H E scope f c') (WF E) := takes_of rfl rfl rfl rfl
theorem pick_of {K : PySem.W.Frag} {Q : VK} {H' : Hp} {e : String} (cs : List (String × Str)) (hx : ∀ q ∈ cs, PySem.W.exmOne K (.ref (G.cA e)) (.ref (G.cA q.1)) = some (subB e q.1)) {t : Str} (hp : pickD cs e = some t) (hQ : Q (.str t) H') :
    pickP K Q (.ref (G.cA e)) H' (cs.map fun q => (G.cA q.1, q.2)) := by
  induction cs with
  | nil => cases hp
  | cons q r ih =>
    obtain ⟨c, t'⟩ := q
    unfold pickD at hp
    refine ⟨subB e c, hx _ List.mem_cons_self, fun hb => ?_, fun hb => ih (fun q hq => hx q (List.mem_cons_of_mem _ hq)) ?_⟩
    · rw [if_pos hb] at hp
      cases hp
      exact hQ
    · rw [hb, if_neg Bool.false_ne_true] at hp
      exact hp
theorem sim_ext {K : PySem.W.Frag} {m : List Addr} {S : Store} {H H1 : Hp} (sm : Sim K G m S H) (e : LamX.ExtN H H1) (t : LamX.Tabs G.T H1) : Step m H m H1 ∧ Sim K G m S H1 := by
  have st : Step m H m H1 := ⟨⟨[], by simp⟩, sm.nd, fun b o h1 h2 _ => e b o h1 h2⟩
  refine ⟨st, sm.len, sm.nd, fun n o a h1 h2 => ?_, t⟩
  obtain ⟨u, eu, mu⟩ := sm.mem (List.mem_of_getElem? h2)
  refine (sm.at_ n o a h1 h2).mono sm st ?_
  rw [eu]
  exact e a u eu (fun ps z => by subst z; exact mu)
/-- told(lambda: body) -/
theorem je_told {x a : Str} {g c P : Addr} {k : Nat} {pg : Arguments} {sg : Scope} {dV kV doc pm cdv ct oc : Value} {an od : Option Addr} {osl : Array (Option Value)} {Ng : List Str} {h₀ : ExceptHandler} {hds : List ExceptHandler} {rs : List String} {cs : List (String × Str)} {p1 p2 p3 p8 : Pos}
    {params : Arguments} {body : Expr} {scope : Scope} {f : DE} {p lpos pos : Pos} (hm : X.mg x = some (.ref g)) (hk : PySem.W.keepIn X.K (.ref g) = true)
    (lk : X.K.lookup g = some ⟨oc, od, .func (PySem.W.fnOf x x pg [.Try [.Return (some (.Call (.Name a p1) [] [] p2)) p3] (h₀ :: hds) [] [] p8] sg dV kV doc pm an cdv ct), osl⟩) (hcg : PySem.W.codeIn X.K cdv x = true)
    (hb : L2.Binds X.K (PySem.W.fnOf x x pg [.Try [.Return (some (.Call (.Name a p1) [] [] p2)) p3] (h₀ :: hds) [] [] p8] sg dV kV doc pm an cdv ct) [a] []) (Sg : FnScope Ng [a] sg) (hNg : Ng[0]? = some a) (hva : Vis sg a) (h0 : ∀ f : Addr, (L2.start Ng [V.ref f])[0]? = some (some (V.ref f)))
    (hh : TellHs X sg (h₀ :: hds) (cs.map fun q => (G.cA q.1, q.2))) (hx : ∀ e ∈ rs, ∀ q ∈ cs, PySem.W.exmOne X.K (.ref (G.cA e)) (.ref (G.cA q.1)) = some (subB e q.1))
    (TB : LamX.TabB X.base X.mg c P) (hcode : X.env.code = .ref c) (hmT : (P, X.env.qual ++ "<lambda>") ∈ G.T) (hu : ∀ p ∈ G.T, p.1 = P → p.2 = X.env.qual ++ "<lambda>") (hr : Room (k + 2) X.A) (L : LamX.LamS X.env.scope scope) (hdef : defaultsOf params X.env = ([], []))
    (hbind : ∀ (q : Str) (cl : List (Str × Addr)) (pm cv ctv : Value), bindArgs (PySem.W.kla_fn "<lambda>" q params body scope cl pm cv ctv) ⟨[], []⟩ = pure [])
    (hbody : ∀ (A : Around) (outer : List Env) (s : Shared) (H : Hp) (E : XK) (f0 c' : Addr), Room k (A.deeper (LamX.lamEnv X scope s.heap.objs.size f0 c')) → JE (LamX.lamCx X A outer s H E scope f0 c') G (WF E) body f)
    (hg : Gl X x := by rfl) (hdb : (x == ("__debug__" : Str)) = false := by decide) (hd : (a == ("__debug__" : Str)) = false := by decide) (hcd : (a == ("__classdict__" : Str)) = false := by decide) :
    JE X G W (.Call (.Name x p) [.Lambda params body scope lpos] [] pos) (dTold rs cs f) := by
  refine PE.imp (LamX.pe_lamcall (T := G.T) (t := fun E => tD X.K G (WF E) f) hg hm hk lk hcg hb Sg hNg hva (told_many hh h0) TB hcode hmT hu hr L hdef hbind hbody hdb hd hcd) fun σ H Q ⟨m, ρ, S, sr, sm, eo⟩ => ?_
  refine ⟨sm.tabs, fun H1 e1 t1 => ?_⟩
  obtain ⟨st, sm1⟩ := sim_ext sm e1 t1
  refine ⟨m, ρ, S, sr.mono sm st, sm1, ?_⟩
  have eo1 := eo.step st
  unfold dTold at eo1
  cases z : f ρ S with
  | ok d S1 => rw [z] at eo1; exact eo1
  | bad => rw [z] at eo1; exact eo1.elim
  | exn e S1 =>
    rw [z] at eo1
    dsimp only at eo1
    split at eo1
    · rename_i hrs
      split at eo1
      · rename_i t ht
        intro cls dx H' m' a b xo
        rw [show cls = .ref (G.cA e.c) from xo]
        exact pick_of cs (hx e.c hrs) ht (eo1 _ H' m' a b rfl)
      · exact eo1.elim
    · exact eo1.elim
end
/-! ### the law's end -/
theorem sim_none {K : PySem.W.Frag} {G : Gx} {H : Hp} (t : LamX.Tabs G.T H) : Sim K G [] [] H := ⟨rfl, List.nodup_nil, fun n o a h _ => by simp at h, t⟩
theorem ints_svs {K : PySem.W.Frag} {m : List Addr} {H : Hp} : ∀ ns : List Int, SVs K m H (ns.map D.int) (ns.map V.int)
  | [] => rfl
  | n :: ns => ⟨_, _, rfl, rfl, ints_svs ns⟩
/-- the script as it may be met: a fixed list, or the store's first -/
def ScriptAt (ns : List Int) (d : D) (S : Store) : Prop := (d = .fl (ns.map D.int) ∧ S = []) ∨ (d = .obj 0 ∧ S = [.lst (ns.map D.int)])
theorem law_sp {K : PySem.W.Frag} {G : Gx} {F : DF} {H : Hp} {a : Addr} {ns : List Int} (t : LamX.Tabs G.T H) (hS : SqL K H a (ns.map V.int)) (h : ∀ d S, ScriptAt ns d S → ∃ S', F [d] S = .ok (.bl true) S') : spD K G 1 F [.ref a] H (fun v _ => v = .bl true) (fun _ _ _ => False) := by
  have fin : ∀ {m : List Addr} {d : D} {S : Store}, ScriptAt ns d S → EO K G (SV K) (fun v _ => v = .bl true) (fun _ _ _ => False) m H (F [d] S) := fun {m d S} q => by
    obtain ⟨S', e⟩ := h d S q
    rw [e]
    exact fun v H' m' _ _ r => r
  rcases hS with (e | ⟨o, e⟩) | e
  · have sm : Sim K G [a] [.lst (ns.map D.int)] H := ⟨rfl, by simp, fun n o b h1 h2 => by
      cases n with
      | zero => simp at h1 h2; subst h1 h2; exact ⟨_, e, ints_svs ns⟩
      | succ n => simp at h1, t⟩
    exact ⟨[a], [.obj 0], _, rfl, SVs.one ⟨a, rfl, rfl⟩, sm, fin (.inr ⟨rfl, rfl⟩)⟩
  · exact ⟨[], [.fl (ns.map D.int)], [], rfl, SVs.one ⟨a, _, rfl, .inl ⟨o, e⟩, ints_svs ns⟩, sim_none t, fin (.inl ⟨rfl, rfl⟩)⟩
  · exact ⟨[], [.fl (ns.map D.int)], [], rfl, SVs.one ⟨a, _, rfl, .inr e, ints_svs ns⟩, sim_none t, fin (.inl ⟨rfl, rfl⟩)⟩
end DL
set_option Elab.async false
set_option linter.all false
set_option maxRecDepth 100000
set_option maxHeartbeats 2000000
namespace DL
open PySem PySem.Spec PyProof.Rows L2
/-! ### enumerate(tuple) -/
set_option maxHeartbeats 4000000 in
theorem meets_enum1 {v : Value} {o : Obj} {H : Heap → Prop} (B : Begins v o H) :
    Meets (Builtin.«enumerate.__new__» ⟨[.type "enumerate", v], []⟩) (fun _ R s => H s.heap ∧
      R (.ok (.ret (.ref (s.heap.push o).objs.size))) { s with heap := (s.heap.push o).push { cls := .type "enumerate", data := .fields #[.none, .bool false, .ref s.heap.objs.size, rawInt 0, .none, .none] } }) :=
  .of_wp fun prog w A R s h => by
    obtain ⟨hp, g, d, tk, os⟩ := s; obtain ⟨h1, h⟩ := h
    have hsub := sub_enumerate
    have q1 : ∀ {A' : Around} {E : Value → Shared → Prop} {Q : Value → Shared → Prop}, Q (.ref hp.objs.size) ⟨hp.push o, g, d, tk, os⟩ → wpAny (model prog w) A' (pyIter v) Q E ⟨hp, g, d, tk, os⟩ :=
      fun q => B.iter prog w _ _ ⟨hp, g, d, tk, os⟩ _ h1 q
    wp_walk using q1
    refine wpAny_stack_any fun st => wpAny_pure ?_
    split
    · rename_i c _ _ _ _ _
      cases (c == Value.type "enumerate")
      · wp_walk using q1
        exact ⟨_, rfl, h⟩
      · wp_walk using q1
        exact ⟨_, rfl, h⟩
    · wp_walk using q1
      exact ⟨_, rfl, h⟩
section
variable {prog : Program} {w : World} {A : Around} {E : Value → Shared → Prop} {s : Shared}
theorem enum1_begins {v : Value} {o : Obj} {H : Heap → Prop} {Q : Value → Shared → Prop} (B : Begins v o H) (h1 : H s.heap)
    (h : ∀ h', IsEnum h' (s.heap.objs.size + 1) s.heap.objs.size 0 .none → h'.get? s.heap.objs.size = some o → h'.objs.size = s.heap.objs.size + 2 →
      (∀ b o, s.heap.get? b = some o → h'.get? b = some o) → Q (.ref (s.heap.objs.size + 1)) { s with heap := h' }) :
    wpAny (model prog w) A (call (.type "enumerate") [v]) Q E s := by
  refine callType_new F.called_enumerate (by decide) (F.typeCall_enumerate_1 _) (F.newCall_enumerate_1 _) (fun obj => F.args_object_init_2 obj _) F.entry_enumerate_new
    (meets_enum1 B) ⟨h1, ?_⟩
  have hz : (s.heap.push o).objs.size = s.heap.objs.size + 1 := Heap.size_push ..
  show _ ∧ _
  rw [hz]
  have he : IsEnum ((s.heap.push o).push { cls := .type "enumerate", data := .fields #[.none, .bool false, .ref s.heap.objs.size, rawInt 0, .none, .none] }) (s.heap.objs.size + 1) s.heap.objs.size 0 .none := by
    have := Heap.get?_push_size (s.heap.push o) (o := { cls := .type "enumerate", data := .fields #[.none, .bool false, .ref s.heap.objs.size, rawInt 0, .none, .none] }) rfl
    rw [hz] at this; exact this
  refine ⟨⟨_, he, rfl⟩, h _ he (Heap.get?_push_of_some _ (Heap.get?_push_size _ B.free)) (by rw [Heap.size_push, hz]) fun b o x => Heap.get?_push_of_some _ (Heap.get?_push_of_some _ x)⟩
end
/-- the tuple at a, each item in a new pair -/
def ItTe (K : PySem.W.Frag) (a : Addr) : It :=
  ⟨fun i H => ∃ (xs : List V) (x : V), SqT K H a xs ∧ xs[i]? = some x, fun i H v H' => ∃ T x, v = .ref T ∧ H T = none ∧ H' = upd H T (.tup [.int (i : Nat), x]) ∧ ∀ xs, SqT K H a xs → xs[i]? = some x, fun i H => ∃ xs : List V, SqT K H a xs ∧ xs.length = i⟩
theorem turn_enumT {P : Program} {w : World} {K : PySem.W.Frag} {elts : List Expr} {kk : Nat} {tpos : Pos} (a e it : Addr) :
    Turn P w K (.Tuple elts kk tpos) (ItTe K a) [e, it] e (fun i h => (∃ old, IsEnum h e it ((i : Nat) : Int) old) ∧ h.IsTupleIter it a i ∧ e ≠ it ∧ a ≠ it ∧ e ≠ a) where
  mem := by simp
  obj := fun i h st b hb => by
    obtain ⟨⟨old, he⟩, ⟨o, ho, hc, hd⟩, _⟩ := st
    have e' : b = e ∨ b = it := by simpa using hb
    rcases e' with z | z
    · rw [z]; exact ⟨_, he, fun v q => nomatch q⟩
    · rw [z]; exact ⟨o, ho, fun v q => by rw [hd] at q; cases q⟩
  keep := fun i h h' st k => let ⟨⟨old, he⟩, hi, hne⟩ := st; ⟨⟨old, k e (by simp) _ he⟩, hi.at fun o q => k it (by simp) o q, hne⟩
  item := by
    intro X hP hw hK hc i pins s σ H E I hf st hg
    subst hP hw hK
    obtain ⟨⟨old, he⟩, hit, hne, hai, hea⟩ := st
    obtain ⟨xs, x, hq, hx⟩ := hg
    obtain ⟨its, rv, p, hz⟩ := I.tuple hq
    obtain ⟨u, hu, ru⟩ := rv.get hx
    have hel : e < s.heap.objs.size := Heap.lt_size he
    have hil : it < s.heap.objs.size := by obtain ⟨_, q, _⟩ := hit; exact Heap.lt_size q
    have Dr := Draws.tuple (prog := X.prog) (w := X.w) (A := X.A.in1) (show X.A.in1.handled = none from I.ok.hd hc) it a hai its.toArray
    have hlt : i < its.toArray.size := by
      have := (List.getElem?_eq_some_iff.mp hu).1
      simpa using this
    refine wpAny_pyNext_enum_itemD Dr he ⟨hit, p⟩ hlt hne (by simp [hne, hea]) fun y h' tk hy ho hst' hT hsz hk => ?_
    have ey : y = u := by
      have hy : its.toArray[i]? = some y := hy
      have hu' : its.toArray[i]? = some u := by simpa using hu
      rw [hy] at hu'
      exact Option.some.inj hu'
    subst ey
    refine ⟨_, rfl, wpAny_letOwnedTupleGo_enum (s := { s with heap := h', toks := tk + 1 }) ho fun h'' he' sb => ?_⟩
    have hT2 : h''.get? s.heap.objs.size = some { cls := .type "tuple", data := .seq #[.int i tk, y] } := (sb.2 _ (Nat.ne_of_gt hel)).trans hT
    have new : ObjOk X.prog X.w (upd H s.heap.objs.size (.tup [.int (i : Nat), x])) h'' s.heap.objs.size (.tup [.int (i : Nat), x]) :=
      ⟨by show 2 ≤ sizeLine; decide, [.int i tk, y], .cons ⟨_, rfl⟩ (.cons ru .nil), ⟨_, hT2, rfl, _, rfl⟩⟩
    have I1 : Inv X pins σ (upd H s.heap.objs.size (.tup [.int (i : Nat), x])) { s with heap := h'', toks := tk + 1 } :=
      I.turnedNew (ch := [e, it]) (fun b ob hb q => (sb.2 b (fun z => hb (by simp [z]))).trans (hk b ob (fun z => hb (by simp [z])) (fun z => hb (by simp [z])) q)) hf (Nat.le_refl _) new
    refine ⟨.ref s.heap.objs.size, _, I1, rfl, ⟨_, x, rfl, I.hok.fresh (Nat.le_refl _), rfl, fun ys hy => by rw [I.tuple_inj hy hq]; exact hx⟩, ⟨⟨y, ?_⟩, hst'.1.at fun o q => (sb.2 it (Ne.symm hne)).trans q, hne, hai, hea⟩, fun b hb => ?_⟩
    · have e1 : ((i + 1 : Nat) : Int) = (i : Int) + 1 := by omega
      rw [e1]; exact he'
    · have hb' : b < s.heap.objs.size := by
        have e' : b = e ∨ b = it := by simpa using hb
        rcases e' with z | z
        · rw [z]; exact hel
        · rw [z]; exact hil
      rw [upd_ne (Nat.ne_of_lt hb')]
      exact (hf b hb).1
  done := by
    intro X hP hw hK hc i pins s σ H E I hf st hg
    subst hP hw hK
    obtain ⟨⟨old, he⟩, hit, hne, hai, hea⟩ := st
    obtain ⟨xs, hq, hx⟩ := hg
    obtain ⟨its, rv, p, hz⟩ := I.tuple hq
    obtain ⟨f0, f1, f2, f3, f4, f5⟩ := hf it (by simp)
    have hl := rv.length
    have Dr := Draws.tuple (prog := X.prog) (w := X.w) (A := X.A.in1) (show X.A.in1.handled = none from I.ok.hd hc) it a hai its.toArray
    have hit2 : s.heap.IsTupleIter it a its.toArray.size := by
      have : its.toArray.size = i := by simp; omega
      rw [this]; exact hit
    exact wpAny_pyNext_enum_endD Dr he ⟨hit2, p⟩ fun h' eb => ⟨rfl, I.turned (t' := s.toks) (fun b o hb q => eb b o hb q) f0 f1 f3 f4 f5⟩
  self := fun A i s Q E st h => let ⟨⟨_, he⟩, _⟩ := st; wpAny_pyIter_enum he h
theorem walk_enumT {K : PySem.W.Frag} {a : Addr} {xs : List V} : Walk (ItTe K a) xs.length (fun H => SqT K H a xs) (YPair (fun i => some (.int (i : Nat))) (fun i => xs[i]?)) := by
  refine ⟨fun i _ hi q => ⟨xs, xs[i], q, by simp [hi]⟩, fun _ q => ⟨xs, q, rfl⟩, fun i H v H' _ q y => ?_⟩
  obtain ⟨T, x, h1, h2, h3, h4⟩ := y
  exact ⟨T, .int (i : Nat), x, h1, h2, h3, rfl, h4 xs q⟩
/-- enumerate of a list or a tuple, by its value -/
theorem pi_enumS {X : Cx} {e : Expr} {ta : TA} {p pos tpos : Pos} {elts : List Expr} {kk : Nat} (hg : Gl X "enumerate") (hm : X.mg "enumerate" = none) (ha : PA X [e] ta) (hs : starEach [e] X.env = [(false, eval e X.env)] := by rfl) :
    PI X (.Tuple elts kk tpos) (.Call (.Name "enumerate" p) [e] [] pos) (fun σ H R => ta σ H fun vs H1 => ∃ a, vs = [.ref a] ∧ ((∃ xs, SqL X.K H1 a xs) ∧ R (Ite X.K a) H1 ∨ (∃ xs, SqT X.K H1 a xs) ∧ R (ItTe X.K a) H1)) := by
  refine ⟨fun pins s σ H R I h => ?_⟩
  refine Call_ (ld_blt I hg hm boot_enumerate (PyProof.Rows.callWith_type1 (thn (ha.run pos pins s σ H _ I h) fun us s1 ⟨vs, H1, I1, r1, q1⟩ => ?_) hs rfl))
  obtain ⟨a, ex, hq⟩ := q1
  subst ex
  cases r1 with
  | cons r rr =>
    cases rr
    cases r
    rcases hq with ⟨⟨xs, hq⟩, q⟩ | ⟨⟨xs, hq⟩, q⟩
    · obtain ⟨its, rv, p', hz⟩ := I1.list hq
      refine call_enumerate_list p'.isList fun h' he hit hsz hk => wpAny_pyIter_enum he ?_
      have I2 : Inv X pins σ H1 { s1 with heap := h' } := I1.kept (t' := s1.toks) hk
      refine ⟨s1.heap.objs.size + 1, [s1.heap.objs.size + 1, s1.heap.objs.size], _, _, H1, rfl, I2, turn_enum a (s1.heap.objs.size + 1) s1.heap.objs.size, ⟨⟨.none, he⟩, hit, Nat.succ_ne_self _⟩, fun b hb => ?_, q⟩
      have e' : b = s1.heap.objs.size + 1 ∨ b = s1.heap.objs.size := by simpa using hb
      have hle : s1.heap.objs.size ≤ b := by
        rcases e' with z | z
        · rw [z]; exact Nat.le_add_right _ _
        · rw [z]; exact Nat.le_refl _
      exact I1.fpOk hle (I1.hok.fresh hle)
    · obtain ⟨its, rv, p', hz⟩ := I1.tuple hq
      have hlt : a < s1.heap.objs.size := by
        obtain ⟨o, ho, _⟩ := p'
        exact Heap.lt_size ho
      refine enum1_begins (begins_tuple a its.toArray) p' fun h' he hit hsz hk => wpAny_pyIter_enum he ?_
      have I2 : Inv X pins σ H1 { s1 with heap := h' } := I1.kept (t' := s1.toks) hk
      refine ⟨s1.heap.objs.size + 1, [s1.heap.objs.size + 1, s1.heap.objs.size], _, _, H1, rfl, I2, turn_enumT a (s1.heap.objs.size + 1) s1.heap.objs.size, ⟨⟨.none, he⟩, ⟨_, hit, rfl, rfl⟩, Nat.succ_ne_self _, Nat.ne_of_lt hlt, Ne.symm (Nat.ne_of_lt (Nat.lt_succ_of_lt hlt))⟩, fun b hb => ?_, q⟩
      have e' : b = s1.heap.objs.size + 1 ∨ b = s1.heap.objs.size := by simpa using hb
      have hle : s1.heap.objs.size ≤ b := by
        rcases e' with z | z
        · rw [z]; exact Nat.le_add_right _ _
        · rw [z]; exact Nat.le_refl _
      exact I1.fpOk hle (I1.hok.fresh hle)
def enumL (xs : List D) : List D := (List.range xs.length).map fun (i : Nat) => D.tup [.int (i : Int), xs.getD i .non]
def enumOf (d : D) (S : Store) : Option (Src × Store) := (srcOf d S).map fun q => (⟨enumL q.1.items, q.1.grd⟩, q.2)
def diEnum (fe : DE) : DI := fun ρ S => (fe ρ S).bind fun d S1 => optO (enumOf d S1)
theorem enumL_len (xs : List D) : (enumL xs).length = xs.length := by simp [enumL]
theorem enumL_at {xs : List D} {i : Nat} (h : i < xs.length) : (enumL xs)[i]? = some (.tup [.int (i : Int), xs[i]]) := by
  simp [enumL, h]
section
variable {K : PySem.W.Frag} {G : Gx} {m1 : List Addr} {H1 : Hp} {S1 : Store}
/-- pairs of a place and what is read there -/
theorem srcOk_pair {xs : List D} {grd : Store → Bool} {J : It} (R : Hp → List V → Prop) (hw : ∀ ws : List V, Walk J ws.length (fun H => R H ws) (YPair (fun i => some (.int (i : Nat))) (fun i => ws[i]?)))
    (key : ∀ H' m' S', Step m1 H1 m' H' → Sim K G m' S' H' → grd S' = true → ∃ us : List V, R H' us ∧ SVs K m' H' xs us) : SrcOk K G m1 H1 ⟨enumL xs, grd⟩ J := by
  show Walk J (enumL xs).length _ _
  rw [enumL_len]
  refine ⟨fun i H' hi ⟨m', S', st, sm', hg⟩ => ?_, fun H' ⟨m', S', st, sm', hg⟩ => ?_, fun i H' x H'' hi _ hy m' S' st sm' hg => ?_⟩
  · obtain ⟨us, h2, h3⟩ := key H' m' S' st sm' hg
    exact (hw us).goes i H' (by rw [← h3.len]; exact hi) h2
  · obtain ⟨us, h2, h3⟩ := key H' m' S' st sm' hg
    rw [h3.len]
    exact (hw us).stops H' h2
  · obtain ⟨us, h2, h3⟩ := key H' m' S' st sm' hg
    obtain ⟨T, a, b, rfl, hT, rfl, ea, eb⟩ := (hw us).yields i H' x H'' (by rw [← h3.len]; exact hi) h2 hy
    cases ea
    obtain ⟨v, h4, h5⟩ := h3.get (i := i) (d := xs[i]) (by simp [hi])
    have eb : us[i]? = some b := eb
    rw [eb] at h4; cases h4
    exact ⟨_, enumL_at hi, Step.beside sm' hT, sm'.beside hT, sv_tup (ds := [.int (i : Int), xs[i]]) ⟨_, _, rfl, rfl, SVs.one h5⟩ sm' hT⟩
end
section
variable {X : Cx} {G : Gx} {W : WX} {e : Expr} {fe : DE} {p pos tpos : Pos} {elts : List Expr} {kk : Nat}
theorem ji_enum (hm : X.mg "enumerate" = none) (he : JE X G W e fe) (hg : Gl X "enumerate" := by rfl) (hs : starEach [e] X.env = [(false, eval e X.env)] := by rfl) : JI X G W (.Tuple elts kk tpos) (.Call (.Name "enumerate" p) [e] [] pos) (diEnum fe) :=
  PI.imp (pi_enumS hg hm (ja_cons he ja_nil hs) hs) fun σ H R ⟨m, ρ, S, sr, sm, eo⟩ => ⟨m, ρ, S, sr, sm, by
    unfold daCons daNil
    unfold diEnum at eo
    cases z : fe ρ S with
    | bad => rw [z] at eo; exact eo.elim
    | exn x S1 => rw [z] at eo; exact eo
    | ok d S1 =>
      rw [z] at eo
      simp only [Out.bind_ok] at eo ⊢
      intro vs H1 m1 st1 sm1 r1
      have eo1 := eo.step st1
      obtain ⟨v, rfl, rv⟩ := svs1 r1
      cases d with
      | tup xs =>
        obtain ⟨a, us, rfl, q, r⟩ := rv
        exact ⟨a, rfl, .inr ⟨⟨us, q⟩, eo1 _ H1 m1 sm1.refl sm1 (srcOk_pair (fun H ws => SqT X.K H a ws) (fun ws => walk_enumT) fun H' m' S' st _ _ => ⟨us, sqT_step sm1 st q, r.mono sm1 st⟩)⟩⟩
      | fl xs =>
        obtain ⟨a, us, rfl, q, r⟩ := rv
        exact ⟨a, rfl, .inl ⟨⟨us, q.l⟩, eo1 _ H1 m1 sm1.refl sm1 (srcOk_pair (fun H ws => SqL X.K H a ws) (fun ws => walk_enum) fun H' m' S' st _ _ => ⟨us, (sqF_step sm1 st q).l, r.mono sm1 st⟩)⟩⟩
      | obj n =>
        unfold enumOf srcOf at eo1
        dsimp only at eo1
        cases z : lstAt S1 n with
        | none => rw [z] at eo1; exact eo1.elim
        | some xs =>
          rw [z] at eo1
          obtain ⟨a, rfl, hm⟩ := rv
          obtain ⟨a', us, h1, h2, h3⟩ := lstAt_ok sm1 z
          rw [hm] at h1; cases h1
          refine ⟨a, rfl, .inl ⟨⟨us, SqL.of h2⟩, eo1 _ H1 m1 sm1.refl sm1 (srcOk_pair (fun H ws => SqL X.K H a ws) (fun ws => walk_enum) fun H' m' S' st sm' hg => ?_)⟩⟩
          obtain ⟨a', us, h1, h2, h3⟩ := lstAt_ok sm' (grdL_ok hg)
          rw [st.get hm] at h1; cases h1
          exact ⟨us, SqL.of h2, h3⟩
      | _ => exact eo1.elim⟩
end
end DL
set_option Elab.async false
set_option linter.all false
set_option maxRecDepth 100000
set_option maxHeartbeats 2000000
namespace DL
open PySem PySem.Spec PyProof.Rows L2
theorem Out.bind_assoc {α β γ : Type} (o : Out α) (f : α → Store → Out β) (g : β → Store → Out γ) : (o.bind f).bind g = o.bind fun a S => (f a S).bind g := by
  cases o <;> rfl
section
variable {K : PySem.W.Frag} {G : Gx} {W : WX} {vs : List Nat}
/-- the turns of a comprehension's loop -/
theorem lc_turns {src : Src} {J : It} {g : DG} {tt : DT} {fe : DE} {σ : L2.St} {ρ : DEnv} {m1 m0 : List Addr} {S1 S0 : Store} {H1 H0 : Hp} {n : Nat} {Dd : Addr} {α β : Type} {rel : List Addr → Hp → α → β → Prop} {Q : β → Hp → Prop} {Wc : Value → Option Addr → Hp → Prop} {k : Unit → Store → Out α} {Qd : Hp → Prop}
    (w : SrcOk K G m1 H1 src J) (sm1 : Sim K G m1 S1 H1) (sr1 : SR K m1 H1 ρ σ) (st0 : Step m1 H1 m0 H0) (sm0 : Sim K G m0 S0 H0) (hmD : m0[n]? = some Dd) (eo : EO K G rel Q Wc m0 H0 ((lcD src.grd g tt fe n (wipeD ρ vs) src.items S0).bind k))
    (hQd : ∀ m S H, Step m0 H0 m H → Sim K G m S H → EO K G rel Q Wc m H (k () S) → Qd H) :
    ∃ W' : Nat → Nat → Hp → Prop, (∃ mm, W' 0 mm H0) ∧ ∀ i mm H, W' i mm H → (J.stop i H ∧ Qd H) ∨ (J.go i H ∧ ∃ Nx : Hp → Prop, (∀ H', Nx H' → ∃ m', m' < mm ∧ W' (i + 1) m' H') ∧ ∀ x H', J.yld i H x H' → tDGv K G W0 vs g x (wipe σ vs) H' fun σ2 H2 => wipe σ2 vs = wipe σ vs ∧ tDT K G W0 tt σ2 H2 fun b H3 =>
      if b = true then tD K G W0 fe σ2 H3 fun y H4 => ∃ acc, H4 Dd = some (.lst acc) ∧ acc.length < sizeLine ∧ Nx (upd H4 Dd (.lst (acc ++ [y]))) else Nx H3) := by
  have turn : ∀ i x H H', i < src.items.length → (∃ m S, Step m0 H0 m H ∧ Sim K G m S H ∧ EO K G rel Q Wc m H ((lcD src.grd g tt fe n (wipeD ρ vs) (src.items.drop i) S).bind k)) → (∀ m' S', Step m1 H1 m' H → Sim K G m' S' H → src.grd S' = true → ∃ d, src.items[i]? = some d ∧ Step m' H m' H' ∧ Sim K G m' S' H' ∧ SV K m' H' d x) →
      tDGv K G W0 vs g x (wipe σ vs) H' fun σ2 H2 => wipe σ2 vs = wipe σ vs ∧ tDT K G W0 tt σ2 H2 fun b H3 =>
        if b = true then tD K G W0 fe σ2 H3 fun y H4 => ∃ acc, H4 Dd = some (.lst acc) ∧ acc.length < sizeLine ∧ (∃ m S, Step m0 H0 m (upd H4 Dd (.lst (acc ++ [y]))) ∧ Sim K G m S (upd H4 Dd (.lst (acc ++ [y]))) ∧ EO K G rel Q Wc m (upd H4 Dd (.lst (acc ++ [y]))) ((lcD src.grd g tt fe n (wipeD ρ vs) (src.items.drop (i + 1)) S).bind k))
        else (∃ m S, Step m0 H0 m H3 ∧ Sim K G m S H3 ∧ EO K G rel Q Wc m H3 ((lcD src.grd g tt fe n (wipeD ρ vs) (src.items.drop (i + 1)) S).bind k)) := by
    rintro i x H H' hi ⟨m, S, st, sm, eo⟩ hy
    have hgd := lcD_grd eo
    obtain ⟨d, hd, st3, sm3, sv⟩ := hy m S (st0.trans st) sm hgd
    have e0 : src.items.drop i = d :: src.items.drop (i + 1) := by
      rw [List.drop_eq_getElem_cons hi]
      rw [List.getElem?_eq_getElem hi] at hd
      cases hd
      rfl
    rw [e0] at eo
    unfold lcD at eo
    rw [if_pos hgd] at eo
    have srw : SR K m H' (wipeD ρ vs) (wipe σ vs) := (sr1.mono sm1 ((st0.trans st).trans st3)).wipe vs
    refine ⟨m, wipeD ρ vs, S, d, srw, sm3, sv, ?_⟩
    have eo := eo.step st3
    cases e1 : g d (wipeD ρ vs) S with
    | nx ρ1 Sa =>
      rw [e1] at eo
      dsimp only at eo
      intro σ4 H4 m4 st4 sm4 sr4 ag
      refine ⟨wipe_agree ag, m4, ρ1, Sa, sr4, sm4, ?_⟩
      have eo := eo.step st4
      cases e2 : tt ρ1 Sa with
      | ok b Sb =>
        rw [e2] at eo
        intro b' H5 m5 st5 sm5 rb
        cases rb
        have eo := eo.step st5
        cases b with
        | true =>
          rw [if_pos rfl]
          dsimp only at eo
          refine ⟨m5, ρ1, Sb, sr4.mono sm4 st5, sm5, ?_⟩
          cases e3 : fe ρ1 Sb with
          | ok y Sc =>
            rw [e3] at eo
            dsimp only at eo
            intro u H6 m6 st6 sm6 ru
            have eo := eo.step st6
            cases e4 : lstAt Sc n with
            | none => rw [e4] at eo; exact eo.elim
            | some acc =>
              rw [e4] at eo
              dsimp only at eo
              by_cases hz : acc.length < 1000000
              · rw [if_pos hz] at eo
                obtain ⟨a', ws, h1, h2, h3⟩ := lstAt_ok sm6 e4
                have stA := (((st.trans st3).trans st4).trans st5).trans st6
                rw [stA.get hmD] at h1
                cases h1
                have stB : Step m6 H6 m6 (upd H6 Dd (.lst (ws ++ [u]))) := Step.put sm6 (stA.get hmD)
                have smB : Sim K G m6 (Sc.set n (.lst (acc ++ [y]))) (upd H6 Dd (.lst (ws ++ [u]))) := sm6.put (stA.get hmD) ⟨ws ++ [u], upd_same, (h3.append (SVs.one ru)).mono sm6 stB⟩
                exact ⟨ws, h2, by rw [← h3.len]; exact Nat.lt_of_lt_of_le hz (size6 (Nat.le_refl _)), m6, _, stA.trans stB, smB, eo.step stB⟩
              · rw [if_neg hz] at eo; exact eo.elim
          | exn x Sc => rw [e3] at eo; exact eo.elim
          | bad => rw [e3] at eo; exact eo.elim
        | false =>
          rw [if_neg Bool.false_ne_true]
          exact ⟨m5, Sb, ((st.trans st3).trans st4).trans st5, sm5, eo⟩
      | exn x Sb => rw [e2] at eo; exact eo.elim
      | bad => rw [e2] at eo; exact eo.elim
    | exn x ρ1 Sa => rw [e1] at eo; exact eo.elim
    | rt d Sa => rw [e1] at eo; exact eo.elim
    | bk ρ1 Sa => rw [e1] at eo; exact eo.elim
    | ct ρ1 Sa => rw [e1] at eo; exact eo.elim
    | bad => rw [e1] at eo; exact eo.elim
  refine ⟨fun i mm H => mm = src.items.length - i ∧ i ≤ src.items.length ∧ ∃ m S, Step m0 H0 m H ∧ Sim K G m S H ∧ EO K G rel Q Wc m H ((lcD src.grd g tt fe n (wipeD ρ vs) (src.items.drop i) S).bind k), ⟨src.items.length, by simp, Nat.zero_le _, m0, S0, sm0.refl, sm0, eo⟩, ?_⟩
  rintro i mm H ⟨rfl, hi, m, S, st, sm, eo⟩
  have hG : ∃ m' S', Step m1 H1 m' H ∧ Sim K G m' S' H ∧ src.grd S' = true := ⟨m, S, st0.trans st, sm, lcD_grd eo⟩
  by_cases hlt : i < src.items.length
  · refine .inr ⟨w.goes i H hlt hG, fun H => ∃ m S, Step m0 H0 m H ∧ Sim K G m S H ∧ EO K G rel Q Wc m H ((lcD src.grd g tt fe n (wipeD ρ vs) (src.items.drop (i + 1)) S).bind k), fun H' p' => ⟨src.items.length - (i + 1), by omega, rfl, hlt, p'⟩, fun x H' y => turn i x H H' hlt ⟨m, S, st, sm, eo⟩ (w.yields i H x H' hlt hG y)⟩
  · have e : i = src.items.length := by omega
    subst e
    refine .inl ⟨w.stops H hG, hQd m S H st sm ?_⟩
    have hgd := lcD_grd eo
    rw [List.drop_length] at eo
    unfold lcD at eo
    rw [if_pos hgd] at eo
    exact eo
end
def lcD2 (grd : Store → Bool) (g : DG) (tt : DT) (fi1 : DI) (g1 : DG) (tt1 : DT) (fe : DE) (vs1 : List Nat) (n : Nat) (ρ : DEnv) : List D → Store → Out Unit
  | [], S => if grd S = true then .ok () S else .bad
  | d :: ds, S => if grd S = true then (match g d ρ S with
    | .nx ρ1 S1 => (match tt ρ1 S1 with
      | .ok true S2 => (match fi1 ρ1 S2 with
        | .ok src S3 => (lcD src.grd g1 tt1 fe n (wipeD ρ1 vs1) src.items S3).bind fun _ S4 => lcD2 grd g tt fi1 g1 tt1 fe vs1 n ρ ds S4
        | _ => .bad)
      | .ok false S2 => lcD2 grd g tt fi1 g1 tt1 fe vs1 n ρ ds S2
      | _ => .bad)
    | _ => .bad) else .bad
def dLc2 (fi : DI) (g : DG) (tt : DT) (fi1 : DI) (g1 : DG) (tt1 : DT) (fe : DE) (vs vs1 : List Nat) : DE := fun ρ S => (fi ρ S).bind fun src S1 => (lcD2 src.grd g tt fi1 g1 tt1 fe vs1 S1.length (wipeD ρ vs) src.items (S1 ++ [.lst []])).bind fun _ S2 => .ok (.obj S1.length) S2
theorem lcD2_grd {K : PySem.W.Frag} {G : Gx} {α β : Type} {rel : List Addr → Hp → α → β → Prop} {Q : β → Hp → Prop} {Wc : Value → Option Addr → Hp → Prop} {m : List Addr} {H : Hp} {grd : Store → Bool} {g g1 : DG} {tt tt1 : DT} {fi1 : DI} {fe : DE} {vs1 : List Nat} {n : Nat} {ρ : DEnv} {ds : List D} {S : Store} {k : Unit → Store → Out α}
    (h : EO K G rel Q Wc m H ((lcD2 grd g tt fi1 g1 tt1 fe vs1 n ρ ds S).bind k)) : grd S = true := by
  cases q : grd S with
  | true => rfl
  | false =>
    exfalso
    cases ds with
    | nil => unfold lcD2 at h; rw [q] at h; exact h
    | cons d ds => unfold lcD2 at h; rw [q] at h; exact h
section
variable {X : Cx} {G : Gx} {W : WX} {vs vs1 : List Nat} {pos : Pos}
theorem lc2_core3 {fi fi1 : DI} {g g1 : DG} {tt tt1 : DT} {fe : DE} {σ : L2.St} {H : Hp} {Q : VK} (h : tD X.K G W (dLc2 fi g tt fi1 g1 tt1 fe vs vs1) σ H Q) :
    tLc2 (tDI X.K G W fi) (tDGv X.K G W0 vs g) (tDT X.K G W0 tt) (tDI X.K G W0 fi1) (tDGv X.K G W0 vs1 g1) (tDT X.K G W0 tt1) (tD X.K G W0 fe) vs vs1 σ H Q := by
  obtain ⟨m, ρ, S, sr, sm, eo⟩ := h
  refine ⟨m, ρ, S, sr, sm, EO.then (rel := SrcOk X.K G) eo fun src S1 J H1 m1 st1 sm1 w eo1 => ?_⟩
  intro Dd hD
  have sr1 := sr.mono sm st1
  have st2 : Step m1 H1 (m1 ++ [Dd]) (upd H1 Dd (.lst [])) := Step.new sm1 hD
  have sm2 : Sim X.K G (m1 ++ [Dd]) (S1 ++ [.lst []]) (upd H1 Dd (.lst [])) := sim_lst (ds := []) (vs := []) rfl sm1 hD
  have hmD : (m1 ++ [Dd])[S1.length]? = some Dd := by rw [← sm1.len]; simp
  let Pv : Nat → Hp → Prop := fun i H => ∃ m S, Step (m1 ++ [Dd]) (upd H1 Dd (.lst [])) m H ∧ Sim X.K G m S H ∧ EO X.K G (SV X.K) Q (fun c d H' => W c d σ H') m H ((lcD2 src.grd g tt fi1 g1 tt1 fe vs1 S1.length (wipeD ρ vs) (src.items.drop i) S).bind fun _ S2 => .ok (.obj S1.length) S2)
  refine ⟨fun i mm H => mm = src.items.length - i ∧ i ≤ src.items.length ∧ Pv i H, ⟨src.items.length, by simp, Nat.zero_le _, m1 ++ [Dd], S1 ++ [DO.lst []], sm2.refl, sm2, eo1.step st2⟩, ?_⟩
  rintro i mm H ⟨rfl, hi, m, S, st, sm, eo⟩
  have hgd := lcD2_grd eo
  have hG : ∃ m' S', Step m1 H1 m' H ∧ Sim X.K G m' S' H ∧ src.grd S' = true := ⟨m, S, st2.trans st, sm, hgd⟩
  by_cases hlt : i < src.items.length
  · refine .inr ⟨w.goes i H hlt hG, Pv (i + 1), fun H' p' => ⟨src.items.length - (i + 1), by omega, rfl, hlt, p'⟩, fun x H' y => ?_⟩
    obtain ⟨d, hd, st3, sm3, sv⟩ := w.yields i H x H' hlt hG y m S (st2.trans st) sm hgd
    have e0 : src.items.drop i = d :: src.items.drop (i + 1) := by
      rw [List.drop_eq_getElem_cons hlt]
      rw [List.getElem?_eq_getElem hlt] at hd
      cases hd
      rfl
    rw [e0] at eo
    unfold lcD2 at eo
    rw [if_pos hgd] at eo
    have srw : SR X.K m H' (wipeD ρ vs) (wipe σ vs) := (sr1.mono sm1 ((st2.trans st).trans st3)).wipe vs
    refine ⟨m, wipeD ρ vs, S, d, srw, sm3, sv, ?_⟩
    have eo := eo.step st3
    cases e1 : g d (wipeD ρ vs) S with
    | nx ρ1 Sa =>
      rw [e1] at eo
      dsimp only at eo
      intro σ4 H4 m4 st4 sm4 sr4 ag
      refine ⟨wipe_agree ag, m4, ρ1, Sa, sr4, sm4, ?_⟩
      have eo := eo.step st4
      cases e2 : tt ρ1 Sa with
      | ok b Sb =>
        rw [e2] at eo
        intro b' H5 m5 st5 sm5 rb
        cases rb
        have eo := eo.step st5
        cases b with
        | true =>
          rw [if_pos rfl]
          dsimp only at eo
          refine ⟨m5, ρ1, Sb, sr4.mono sm4 st5, sm5, ?_⟩
          cases e3 : fi1 ρ1 Sb with
          | ok src1 Sc =>
            rw [e3] at eo
            dsimp only at eo
            intro J1 H6 m6 st6 sm6 w1
            have eo := eo.step st6
            rw [Out.bind_assoc] at eo
            have stA := (((st.trans st3).trans st4).trans st5).trans st6
            exact lc_turns w1 sm6 (sr4.mono sm4 (st5.trans st6)) sm6.refl sm6 (stA.get hmD) eo fun m7 S7 H7 st7 sm7 eo7 => ⟨m7, S7, stA.trans st7, sm7, eo7⟩
          | exn x Sc => rw [e3] at eo; exact eo.elim
          | bad => rw [e3] at eo; exact eo.elim
        | false =>
          rw [if_neg Bool.false_ne_true]
          exact ⟨m5, Sb, ((st.trans st3).trans st4).trans st5, sm5, eo⟩
      | exn x Sb => rw [e2] at eo; exact eo.elim
      | bad => rw [e2] at eo; exact eo.elim
    | exn x ρ1 Sa => rw [e1] at eo; exact eo.elim
    | rt d Sa => rw [e1] at eo; exact eo.elim
    | bk ρ1 Sa => rw [e1] at eo; exact eo.elim
    | ct ρ1 Sa => rw [e1] at eo; exact eo.elim
    | bad => rw [e1] at eo; exact eo.elim
  · have e : i = src.items.length := by omega
    subst e
    rw [List.drop_length] at eo
    unfold lcD2 at eo
    rw [if_pos hgd] at eo
    exact .inl ⟨w.stops H hG, eo _ H m sm.refl sm ⟨Dd, rfl, st.get hmD⟩⟩
variable {elt tg iter tg1 iter1 : Expr} {ifs ifs1 : List Expr} {scope : Scope} {own : List (Str × Nat)} {fi fi1 : DI} {g g1 : DG} {tt tt1 : DT} {fe : DE}
theorem je_lc2 (hc : X.calm = true) (hN : X.N.Nodup) (ok : BlkOk X.N X.env.scope scope own) (hv : ∀ i ∈ vs1, i ∈ vs) (hi : JI X G W tg iter fi)
    (hg : ∀ (s : Shared) (H : Hp) (C : Addr) (cl : List (Str × Addr)) (fp : List Addr), JGv (X.blk s H scope (compEnvC scope cl C X.env) fp) G W0 vs tg g) (ht : ∀ (s : Shared) (H : Hp) (C : Addr) (cl : List (Str × Addr)) (fp : List Addr), JTs (X.blk s H scope (compEnvC scope cl C X.env) fp) G W0 ifs tt)
    (hi1 : ∀ (s : Shared) (H : Hp) (C : Addr) (cl : List (Str × Addr)) (fp : List Addr), JI (X.blk s H scope (compEnvC scope cl C X.env) fp) G W0 tg1 iter1 fi1)
    (hg1 : ∀ (s : Shared) (H : Hp) (C : Addr) (cl : List (Str × Addr)) (fp : List Addr), JGv (X.blk s H scope (compEnvC scope cl C X.env) fp) G W0 vs1 tg1 g1) (ht1 : ∀ (s : Shared) (H : Hp) (C : Addr) (cl : List (Str × Addr)) (fp : List Addr), JTs (X.blk s H scope (compEnvC scope cl C X.env) fp) G W0 ifs1 tt1)
    (he : ∀ (s : Shared) (H : Hp) (C : Addr) (cl : List (Str × Addr)) (fp : List Addr), JE (X.blk s H scope (compEnvC scope cl C X.env) fp) G W0 elt fe) (hs : ∀ x, foldedSetIterable iter X.env x = pure x := by intro _; rfl) (hs1 : ∀ env x, foldedSetIterable iter1 env x = pure x := by intro _ _; rfl) (hvs : own.map (·.2) = vs := by rfl) :
    JE X G W (.ListComp elt [⟨tg, iter, ifs, 0⟩, ⟨tg1, iter1, ifs1, 0⟩] scope pos) (dLc2 fi g tt fi1 g1 tt1 fe vs vs1) := by
  subst hvs
  exact PE.imp (pe_lc2 hc hN hi ok hv hg ht hi1 hg1 ht1 he hs hs1) fun σ H Q h => lc2_core3 h
theorem js_setLc2 (i : Nat) {y : Str} {py spos : Pos} (hc : X.calm = true) (hN : X.N.Nodup) (ok : BlkOk X.N X.env.scope scope own) (hv : ∀ i ∈ vs1, i ∈ vs) (hi : JI X G W tg iter fi)
    (hg : ∀ (s : Shared) (H : Hp) (C : Addr) (cl : List (Str × Addr)) (fp : List Addr), JGv (X.blk s H scope (compEnvC scope cl C X.env) fp) G W0 vs tg g) (ht : ∀ (s : Shared) (H : Hp) (C : Addr) (cl : List (Str × Addr)) (fp : List Addr), JTs (X.blk s H scope (compEnvC scope cl C X.env) fp) G W0 ifs tt)
    (hi1 : ∀ (s : Shared) (H : Hp) (C : Addr) (cl : List (Str × Addr)) (fp : List Addr), JI (X.blk s H scope (compEnvC scope cl C X.env) fp) G W0 tg1 iter1 fi1)
    (hg1 : ∀ (s : Shared) (H : Hp) (C : Addr) (cl : List (Str × Addr)) (fp : List Addr), JGv (X.blk s H scope (compEnvC scope cl C X.env) fp) G W0 vs1 tg1 g1) (ht1 : ∀ (s : Shared) (H : Hp) (C : Addr) (cl : List (Str × Addr)) (fp : List Addr), JTs (X.blk s H scope (compEnvC scope cl C X.env) fp) G W0 ifs1 tt1)
    (he : ∀ (s : Shared) (H : Hp) (C : Addr) (cl : List (Str × Addr)) (fp : List Addr), JE (X.blk s H scope (compEnvC scope cl C X.env) fp) G W0 elt fe)
    (hsw : swapsWith (.ListComp elt [⟨tg, iter, ifs, 0⟩, ⟨tg1, iter1, ifs1, 0⟩] scope pos) (some (.Name y py)) spos.line X.env = pure true)
    (hy : X.N[i]? = some y := by rfl) (hyl : X.env.scope.names.lookup y = some .local := by rfl)
    (hs : ∀ x, foldedSetIterable iter X.env x = pure x := by intro _; rfl) (hs1 : ∀ env x, foldedSetIterable iter1 env x = pure x := by intro _ _; rfl) (hvs : own.map (·.2) = vs := by rfl) :
    JS X G W (.Assign [.Name y py] (.ListComp elt [⟨tg, iter, ifs, 0⟩, ⟨tg1, iter1, ifs1, 0⟩] scope pos) spos) (dAsg (dLc2 fi g tt fi1 g1 tt1 fe vs vs1) (gN i)) := by
  subst hvs
  exact PS.imp (ps_setLc2 hc hN hy hyl hsw hi ok hv hg ht hi1 hg1 ht1 he hs hs1) fun E σ H ⟨m, ρ, S, sr, sm, q⟩ => lc2_core3 (W := W) ⟨m, ρ, S, sr, sm, SQ.then (rel := SV X.K) q sr sm fun d S1 v H1 m1 st1 sm1 r1 q1 => q1 _ H1 m1 sm1.refl sm1 ((sr.mono sm st1).set i r1)⟩
/-- xs.append(e) -/
def dApp (fo fe : DE) : DE := fun ρ S => (fo ρ S).bind fun o S1 => match o with
  | .obj n => (match lstAt S1 n with
    | some _ => (fe ρ S1).bind fun d S2 => (match lstAt S2 n with
      | some xs => if xs.length < 1000000 then .ok .non (S2.set n (.lst (xs ++ [d]))) else .bad
      | none => .bad)
    | none => .bad)
  | _ => .bad
variable {o e : Expr} {fo fe' : DE} {apos cpos : Pos}
theorem je_app (ho : JE X G W o fo) (he : JE X G W e fe') (hbase : attributeBase o "append" X.env (eval o X.env) = eval o X.env := by rfl)
    (hfew : ((backTo cpos (starEach [e] X.env)).all (fun x => !x.1) && (backToKw cpos (keywordEach [] X.env)).all (fun x => x.1.isSome)
      && decide ([e].length + ([] : List Keyword).length + (if ([] : List Keyword).isEmpty then 0 else 1) < 30)) = true := by rfl)
    (hline : (apos.endLine == cpos.line) = true := by rfl) (hs : starEach [e] X.env = (false, eval e X.env) :: starEach [] X.env := by rfl) (hplain : (backTo cpos (starEach [] X.env)).any (·.1) = false := by rfl) :
    JE X G W (.Call (.Attribute o "append" apos) [e] [] cpos) (dApp fo fe') :=
  PE.imp (pe_bm PySem.F.plainAttrs_list PySem.F.slot_list_append PySem.F.type_list_append mt_append ho (ja_cons he ja_nil hs) hbase hfew hline hs hplain) fun σ H Q ⟨m, ρ, S, sr, sm, eo⟩ => ⟨m, ρ, S, sr, sm, EO.then (rel := SV X.K) eo fun x S1 v H1 m1 st1 sm1 r1 eo1 => by
    cases x with
    | obj n =>
      dsimp only at eo1
      cases z : lstAt S1 n with
      | none => rw [z] at eo1; exact eo1.elim
      | some xs0 =>
        rw [z] at eo1
        dsimp only at eo1
        obtain ⟨a, rfl, hm⟩ := r1
        obtain ⟨a', ws0, h1, h2, h3⟩ := lstAt_ok sm1 z
        rw [hm] at h1; cases h1
        refine ⟨.inl ⟨rfl, ws0, SqL.of h2⟩, m1, ρ, S1, sr.mono sm st1, sm1, ?_⟩
        unfold daCons daNil
        cases z2 : fe' ρ S1 with
        | bad => rw [z2] at eo1; exact eo1.elim
        | exn x S2 => rw [z2] at eo1; exact eo1
        | ok d S2 =>
          rw [z2] at eo1
          simp only [Out.bind_ok] at eo1 ⊢
          intro vs H2 m2 st2 sm2 r2
          have eo2 := eo1.step st2
          obtain ⟨y, rfl, ry⟩ := svs1 r2
          cases z3 : lstAt S2 n with
          | none => rw [z3] at eo2; exact eo2.elim
          | some xs =>
            rw [z3] at eo2
            dsimp only at eo2
            split at eo2
            · rename_i hz
              obtain ⟨a', ws, h1, h2, h3⟩ := lstAt_ok sm2 z3
              rw [st2.get hm] at h1; cases h1
              have hm2 := st2.get hm
              refine ⟨a, ws, y, rfl, rfl, h2, by rw [← h3.len]; exact Nat.lt_of_lt_of_le hz (size6 (Nat.le_refl _)), ?_⟩
              have st3 : Step m2 H2 m2 (upd H2 a (.lst (ws ++ [y]))) := Step.put sm2 hm2
              exact eo2 _ _ m2 st3 (sm2.put hm2 ⟨ws ++ [y], upd_same, (h3.append (SVs.one ry)).mono sm2 st3⟩) rfl
            · exact eo2.elim
    | _ => exact eo1.elim⟩
end
end DL
set_option Elab.async false
set_option linter.all false
set_option maxRecDepth 100000
set_option maxHeartbeats 2000000
/-! DM2: generator expressions over lists and tuples. -/
namespace DL
open PySem PySem.Spec PyProof.Rows L2
section
variable {X : Cx} {pins : List (Addr × Obj)} {σ : L2.St} {H : Hp} {s : Shared}
/-- the iterator of a list or a tuple -/
theorem iter_any {a : Addr} {xs : List V} {Q : Value → Shared → Prop} (I : Inv X pins σ H s) (hq : SqL X.K H a xs ∨ SqT X.K H a xs)
    (h : ∀ (its : List Value) (o : Obj) (St : Nat → Heap → Prop), Vals xs its → (∀ A' : Around, A'.handled = none → Walks X.prog X.w A' s.heap.objs.size [s.heap.objs.size, a] [s.heap.objs.size] its.length (fun i v => its[i]? = some v) St) → a < s.heap.objs.size → (∃ ob, s.heap.get? a = some ob ∧ ob.cls ≠ .none) → (s.heap.push o).get? s.heap.objs.size = some o →
      St 0 (s.heap.push o) → Q (.ref s.heap.objs.size) { s with heap := s.heap.push o }) : wpAny (model X.prog X.w) X.A (pyIter (.ref a)) Q X.xe s := by
  rcases hq with hq | hq
  · obtain ⟨its, rv, p, hz⟩ := I.list hq
    have hcl : ∃ ob, s.heap.get? a = some ob ∧ ob.cls ≠ .none := by obtain ⟨o, n, ho, hc, _⟩ := p; exact ⟨o, ho, by rw [hc]; exact fun z => by cases z⟩
    have hlt : a < s.heap.objs.size := by obtain ⟨o, ho, _⟩ := hcl; exact Heap.lt_size ho
    refine wpAny_pyIter_list p.isList ?_
    refine h its _ (fun i h' => h'.IsListIter s.heap.objs.size a i ∧ h'.IsList a its.toArray) rv (fun A' hA => ?_) hlt hcl (Heap.get?_push_size _ rfl) ⟨⟨_, Heap.get?_push_size _ rfl, rfl, rfl⟩, p.isList.push _⟩
    have w := Walks.list (prog := X.prog) (w := X.w) hA s.heap.objs.size a (Nat.ne_of_lt hlt) its.toArray
    simpa using w
  · obtain ⟨its, rv, p, hz⟩ := I.tuple hq
    have p' : s.heap.IsTuple a its.toArray := p
    have hcl : ∃ ob, s.heap.get? a = some ob ∧ ob.cls ≠ .none := by obtain ⟨o, ho, hc, _⟩ := p'; exact ⟨o, ho, by rw [hc]; exact fun z => by cases z⟩
    have hlt : a < s.heap.objs.size := by obtain ⟨o, ho, _⟩ := hcl; exact Heap.lt_size ho
    refine wpAny_pyIter_tuple p' ?_
    refine h its _ (fun i h' => h'.IsTupleIter s.heap.objs.size a i ∧ h'.IsTuple a its.toArray) rv (fun A' hA => ?_) hlt hcl (Heap.get?_push_size _ rfl) ⟨⟨_, Heap.get?_push_size _ rfl, rfl, rfl⟩, p'.push _⟩
    have w := Walks.tuple (prog := X.prog) (w := X.w) hA s.heap.objs.size a (Nat.ne_of_lt hlt) its.toArray
    simpa using w
/-- what an element's text must do: at the value v of place i, wherever the objects of the making still stand -/
def EltOk (prog : Program) (w : World) (scope : Scope) (x : Str) (P : Addr) (elt : Expr) (h1 : Heap) (its : List Value) (F : Nat → Value → Prop) : Prop :=
  ∀ (cenv : Env) (A' : Around) (E' : Value → Shared → Prop) (i : Nat) (v : Value) (s₂ : Shared) (m₂ : Str → Option Value), cenv.scope = scope → A'.handled = none → its[i]? = some v → s₂.heap.Ns cenv.locals m₂ → m₂ x = some v →
    (∀ b o, b ≠ P → h1.get? b = some o → s₂.heap.get? b = some o) → wpAny (model prog w) A' (eval elt cenv) (fun y s₃ => F i y ∧ Keeps s₂ s₃) E' s₂
theorem passing_all (n : Nat) : passing (fun _ => true) n 0 = List.range n := by unfold passing; simp
theorem gen_seq {α : Type} {T : List (Addr × Str)} {c P : Addr} {elt iter : Expr} {x : Str} {px gpos : Pos} {scope : Scope} {te : TE} {k : Nat} {Q' : Value → Shared → Prop} {R : α → Addr → List V → Hp → Prop} {F : α → Nat → Value → Prop}
    (hr : Room k X.A) (TB : LamX.TabB X.base X.mg c P) (hcode : X.env.code = .ref c) (hm : (P, X.env.qual ++ "<genexpr>") ∈ T) (hu : ∀ p ∈ T, p.1 = P → p.2 = X.env.qual ++ "<genexpr>")
    (S : GxR.GenS X.env scope x) (hi : PE X iter te) (hs : ∀ v, genFold iter X.env v = pure v) (I : Inv X pins σ H s)
    (h : te σ H fun v H1 => ∃ w a xs, v = .ref a ∧ (SqL X.K H1 a xs ∨ SqT X.K H1 a xs) ∧ LamX.Tabs T H1 ∧ R w a xs H1)
    (hel : ∀ w a xs H1 s1 its, R w a xs H1 → Inv X pins σ H1 s1 → Vals xs its → (∃ ps, H1 P = some (.tbl ps)) → EltOk X.prog X.w scope x P elt s1.heap its (F w))
    (hQ : ∀ w a xs H1 g s5 fp wr G St, R w a xs H1 → WalksS X.prog X.w X.A.in1 g fp wr G xs.length (F w) St → St 0 s5 → (∀ b ∈ fp, b < s5.heap.objs.size) → (∀ s', Moved wr G s5 s' → ∃ H2, LamX.ExtN H1 H2 ∧ LamX.Tabs T H2 ∧ Inv X pins σ H2 s') → Q' (.ref g) s5) :
    wpAny (model X.prog X.w) X.A (eval (.GeneratorExp elt [⟨.Name x px, iter, [], 0⟩] scope gpos) X.env) Q' X.xe s := by
  refine wpAny_GeneratorExp_walksQ hr.hd S.co (closure_ok S.free) S.cell S.dot S.loc S.kind (by have := hr.dp; omega) ?_ hs
  refine thn (hi.run pins s σ H _ I h) fun xv s1 ⟨v, H1, I1, r1, q1⟩ => ?_
  obtain ⟨wt, a, xs, rfl, hq, hT, hR⟩ := q1
  cases r1
  refine iter_any I1 hq fun its o St rv W hlt hcl hot hst => ?_
  have hlen : xs.length = its.length := rv.length
  obtain ⟨ps, hP, ht, ha⟩ := hT _ hm
  have hP1 : s1.heap.get? P = some { cls := .none, data := .fields ps } := I1.hok P _ hP
  have hPlt : P < s1.heap.objs.size := Heap.lt_size hP1
  have hP2 : (s1.heap.push o).get? P = some { cls := .none, data := .fields ps } := Heap.get?_push_of_some _ hP1
  have lim : (s1.heap.push o).NoLimit := I1.nolimit.push o
  have haP : a ≠ P := fun e => by
    obtain ⟨ob, e1, e2⟩ := hcl
    rw [e, hP1] at e1
    cases e1
    exact e2 rfl
  have hcP : cStatics ≠ P := fun e => by
    obtain ⟨_, hns, _⟩ := I1.nolimit
    obtain ⟨o', es, ep, ho, hd, _⟩ := hns
    rw [e, hP1] at ho
    cases ho
    cases hd
  have hcl2 : cStatics < s1.heap.objs.size := let ⟨_, hns, _⟩ := I1.nolimit; hns.lt
  refine ⟨lim, ?_⟩
  -- behind the code: the heap h3
  have rest : ∀ (code : Value) (h3 : Heap) (tk : Nat) (ps' : Array Value), Heap.ExtBut P (s1.heap.push o) h3 → (s1.heap.push o).objs.size ≤ h3.objs.size → h3.get? P = some { cls := .none, data := .fields ps' } →
      (∀ (h' : Heap) (t' : Nat), (∀ b u, b ≠ P → s1.heap.get? b = some u → h'.get? b = some u) → h'.get? P = some { cls := .none, data := .fields ps' } → (∀ b u, s1.heap.objs.size < b → h3.get? b = some u → h'.get? b = some u) → ∃ H2, LamX.ExtN H1 H2 ∧ LamX.Tabs T H2 ∧ H2 P = some (.tbl ps') ∧ Inv X pins σ H2 { s1 with heap := h', toks := t' }) →
      wpAny (model X.prog X.w) X.A (builtinsFor X.env.globals X.env.builtins) (fun bi s₄ => ∃ Ia fp wr n₀ Pf St₀ pz F, Value.ref s1.heap.objs.size = .ref Ia ∧ (∀ A' : Around, A'.handled = none → Walks X.prog X.w A' Ia fp wr n₀ Pf St₀) ∧ St₀ 0 s₄.heap ∧ (∀ b ∈ fp, b < s₄.heap.objs.size) ∧ s₄.heap.NoLimit ∧ cStatics ∉ wr ∧ (∀ href : Heap, (∀ b o, s₄.heap.get? b = some o → href.get? b = some o) → QuietGen X.prog X.w (genEnv scope (cloFrom X.env.cells scope.names []) s₄.heap.objs.size code bi X.env) x [] elt (List.range s₄.heap.objs.size) wr Pf pz F href) ∧
          (∀ a h₅ tk gs, gs.bare = true → s₄.heap.objs.size < a → h₅.objs.size = a + 1 → (∀ b o, s₄.heap.get? b = some o → h₅.get? b = some o) → WalksS X.prog X.w X.A.in4 a (a :: s₄.heap.objs.size :: List.range s₄.heap.objs.size) (s₄.heap.objs.size :: wr) (GenOnlyQ s₄.gens.size) (passing pz n₀ 0).length (fun j y => ∃ i, (passing pz n₀ 0)[j]? = some i ∧ F i y) (GenAt X.prog X.w X.A.in4 a s₄.gens.size s₄.heap.objs.size (List.range s₄.heap.objs.size) wr pz n₀ F) →
            GenAt X.prog X.w X.A.in4 a s₄.gens.size s₄.heap.objs.size (List.range s₄.heap.objs.size) wr pz n₀ F 0 { s₄ with gens := s₄.gens.push gs, toks := tk, heap := h₅ } → Q' (.ref a) { s₄ with gens := s₄.gens.push gs, toks := tk, heap := h₅ })) X.xe { s1 with heap := h3, toks := tk } := by
    intro code h3 tk ps' hx hsz hP3 hfin
    obtain ⟨bm, ob, e1, e2, e3, e4, e5, e6, e7, e8⟩ := TB.bm
    have keep3 : ∀ b u, b ≠ P → s1.heap.get? b = some u → h3.get? b = some u := fun b u hb e => hx b u hb (Heap.get?_push_of_some _ e)
    have sz2 : (s1.heap.push o).objs.size = s1.heap.objs.size + 1 := Heap.size_push ..
    have hi3 : h3.get? s1.heap.objs.size = some o := hx _ _ (Nat.ne_of_gt hPlt) hot
    refine wpAny_builtinsFor (m := X.mg) (by rw [I1.ok.glob]; exact ((I1.mod.glob.keeps I1.bk).push o).extBut hx TB.gP) e1 e2 (keep3 _ _ e4 (I1.bk _ _ e5)) e6 e7 e8 ?_
    refine ⟨s1.heap.objs.size, [s1.heap.objs.size, a], [s1.heap.objs.size], its.length, (fun i v => its[i]? = some v), St, (fun _ => true), F wt, rfl, W, ?_, ?_, lim.extBut hx hcP, ?_, ?_, ?_⟩
    · refine (W X.A hr.hd).frame 0 _ _ hst fun b hb u e => hx b u (fun z => ?_) e
      rw [z] at hb
      rcases List.mem_cons.mp hb with z | z
      · exact Nat.ne_of_lt hPlt z
      · exact haP (List.mem_singleton.mp z).symm
    · intro b hb
      rcases List.mem_cons.mp hb with z | z
      · rw [z]; exact Heap.lt_size hi3
      · rw [List.mem_singleton.mp z]
        exact Nat.lt_of_lt_of_le hlt (show s1.heap.objs.size ≤ h3.objs.size by omega)
    · intro z
      exact Nat.ne_of_lt hcl2 (List.mem_singleton.mp z)
    · intro href hh
      refine ⟨fun A' E' i v s₂ m₂ hA hPv hn hmx hk => ?_, fun A' E' i v s₂ m₂ hA hPv hp hn hmx hk => ?_⟩
      · simp only [List.forIn_nil]
        exact wpAny_pure ⟨rfl, GxR.keeps_refl _⟩
      · refine hel wt a xs H1 s1 its hR I1 rv ⟨ps, hP⟩ _ A' E' i v s₂ m₂ rfl hA hPv hn hmx fun b u hb e => ?_
        have hbl := Heap.lt_size e
        refine hk b (List.mem_range.mpr ?_) (fun z => ?_) u (hh b u (keep3 b u hb e))
        · exact Nat.lt_of_lt_of_le hbl (show s1.heap.objs.size ≤ h3.objs.size by omega)
        · rw [List.mem_singleton.mp z] at hbl
          exact Nat.lt_irrefl _ hbl
    · intro g h5 tk5 gs hgb hag hsz5 hk5 W5 hat
      simp only [passing_all, List.length_range] at W5
      have W6 := W5.in4_1.imp (P' := F wt) (fun j y hy => by
        obtain ⟨i, hij, hy⟩ := hy
        obtain ⟨hj, ej⟩ := List.getElem?_eq_some_iff.mp hij
        rw [List.getElem_range] at ej
        rw [ej]
        exact hy)
      rw [← hlen] at W6 hat
      refine hQ wt a xs H1 g _ _ _ _ _ hR W6 hat (fun b hb => ?_) (fun s' hmv => ?_)
      · show b < h5.objs.size
        rw [hsz5]
        rcases List.mem_cons.mp hb with z | z
        · rw [z]; exact Nat.lt_succ_self _
        · rcases List.mem_cons.mp z with z | z
          · rw [z]; exact Nat.lt_succ_of_lt hag
          · exact Nat.lt_succ_of_lt (Nat.lt_trans (List.mem_range.mp z) hag)
      · have nwr : ∀ b u, b ≠ s1.heap.objs.size → h3.get? b = some u → b ∉ h3.objs.size :: [s1.heap.objs.size] := fun b u hne e hb => by
          have hl := Heap.lt_size e
          rcases List.mem_cons.mp hb with z | z
          · rw [z] at hl
            exact Nat.lt_irrefl _ hl
          · exact hne (List.mem_singleton.mp z)
        have mv : ∀ b u, b ≠ s1.heap.objs.size → h3.get? b = some u → s'.heap.get? b = some u := fun b u hne e => hmv.heap b u (nwr b u hne e) (hk5 b u e)
        obtain ⟨H2, x1, x2, x3, J⟩ := hfin s'.heap s'.toks (fun b u hb e => mv b u (Nat.ne_of_lt (Heap.lt_size e)) (keep3 b u hb e)) (mv P _ (Nat.ne_of_lt hPlt) hP3) (fun b u hb e => mv b u (Nat.ne_of_gt hb) e)
        have J2 := GxR.inv_tab (more := #[]) (h' := s'.heap) (g' := s'.gens) (d' := s'.drawn) (t' := s'.toks) J x3 (fun b u _ e => e) (by rw [Array.append_empty]; exact mv P _ (Nat.ne_of_lt hPlt) hP3) (AllBare.movedS (I1.bare.push hgb) hmv)
        have eH : upd H2 P (.tbl (ps' ++ #[])) = H2 := by
          funext b
          by_cases hb : b = P
          · rw [hb, upd_same, Array.append_empty, x3]
          · rw [upd_ne hb]
        rw [eH] at J2
        refine ⟨H2, x1, x2, ?_⟩
        have e9 := GxR.sh_eta s1 s' hmv.os
        rw [← e9]
        exact J2
  cases hf : codeAmong gpos ps.toList with
  | some cv =>
    refine wpAny_genexprCode_hit hcode ((TB.code.keeps fun b u e => Heap.get?_push_of_some _ (I1.bk b u e)).code hP2 ht) hf ?_
    refine rest cv (s1.heap.push o) s1.toks ps (Heap.ExtBut.refl _ _) (Nat.le_refl _) hP2 fun h' t' k1 k2 _ => ?_
    refine ⟨H1, LamX.ExtN.refl H1, hT, hP, I1.kept fun b u e => ?_⟩
    by_cases hb : b = P
    · rw [hb, hP1] at e
      cases e
      rw [hb]
      exact k2
    · exact k1 b u hb e
  | none =>
    have cd : PySem.W.CodeHd (s1.heap.push o) c P := TB.code.keeps fun b u e => Heap.get?_push_of_some _ (I1.bk b u e)
    refine wpAny_genexprCodeX hcode (cd.code hP2 ht) (cd.tab hP2) hf fun c' h3 tk hx hge hlt3 hco' hrec htab' _ => ?_
    have sz2 : (s1.heap.push o).objs.size = s1.heap.objs.size + 1 := Heap.size_push ..
    refine rest _ h3 tk _ hx (Nat.le_trans hge (Nat.le_of_lt hlt3)) htab'.2 fun h' t' k1 k2 k3 => ?_
    obtain ⟨c2, oc, vs, t, ec, hoc, hd, hv⟩ := hrec
    cases ec
    have hge1 : s1.heap.objs.size ≤ c' := by have : (s1.heap.push o).objs.size ≤ c' := hge; omega
    have nC : H1 c' = none := I1.hok.fresh hge1
    have J := LamX.inv_table (t' := t') (more := #[rawInt gpos.line, rawInt gpos.col, .ref c']) (h' := h') I1 hP k1 k2 hge1 ⟨oc, vs, t, k3 c' oc (by have : (s1.heap.push o).objs.size ≤ c' := hge; omega) hoc, hd, hv⟩
    have hE : LamX.ExtN H1 (upd (upd H1 P (.tbl (ps ++ #[rawInt gpos.line, rawInt gpos.col, .ref c']))) c' (LamX.CodeO c' (X.env.qual ++ "<genexpr>"))) := by
      intro b u e n
      have nb : b ≠ P := fun z => by
        rw [z, hP] at e
        exact n ps (Option.some.inj e).symm
      rw [upd_ne (ne_of_none e nC), upd_ne nb]
      exact e
    have eL : (ps ++ #[rawInt gpos.line, rawInt gpos.col, .ref c']).toList = ps.toList ++ [rawInt gpos.line, rawInt gpos.col, .ref c'] := by simp
    refine ⟨_, hE, fun p hp => ?_, by rw [upd_ne (ne_of_none hP nC), upd_same], J⟩
    by_cases hb : p.1 = P
    · rw [hu p hp hb, hb]
      refine ⟨_, by rw [upd_ne (ne_of_none hP nC), upd_same], by rw [eL]; exact PySem.TriplesOk_snoc _ _ _ _ ht, fun p' cv hcv => ?_⟩
      rw [eL] at hcv
      rcases LamX.among_app _ ht hcv with z | z
      · obtain ⟨c0, q1, q2⟩ := ha p' cv z
        exact ⟨c0, q1, hE _ _ q2 LamX.codeO_ne⟩
      · exact ⟨c', z, upd_same⟩
    · obtain ⟨ps', a1, a2, a3⟩ := hT p hp
      refine ⟨ps', by rw [upd_ne (ne_of_none a1 nC), upd_ne hb]; exact a1, a2, fun p' cv hcv => ?_⟩
      obtain ⟨c0, q1, q2⟩ := a3 p' cv hcv
      exact ⟨c0, q1, hE _ _ q2 LamX.codeO_ne⟩
end
end DL
set_option Elab.async false
set_option linter.all false
set_option maxRecDepth 100000
set_option maxHeartbeats 2000000
/-! DM3: the elements of generator expressions; any, all, sum of them. -/
namespace DL
open PySem PySem.Spec PyProof.Rows L2
/-- where an element is run: the making's state s1, the running state s₂ -/
structure At (X : Cx) (G : Gx) (scope : Scope) (x : Str) (P : Addr) (m : List Addr) (S : Store) (H1 : Hp) (s1 : Shared) (v : Value) (cenv : Env) (A' : Around) (s₂ : Shared) : Prop where
  inv : ∃ pins σ, Inv X pins σ H1 s1
  sim : Sim X.K G m S H1
  sc : cenv.scope = scope
  hd : A'.handled = none
  ns : ∃ m₂, s₂.heap.Ns cenv.locals m₂ ∧ m₂ x = some v
  keep : ∀ b o, b ≠ P → s1.heap.get? b = some o → s₂.heap.get? b = some o
  tab : ∃ ps, H1 P = some (.tbl ps)
theorem At.go {X : Cx} {G : Gx} {scope : Scope} {x : Str} {P : Addr} {m : List Addr} {S : Store} {H1 : Hp} {s1 : Shared} {v : Value} {cenv : Env} {A' : Around} {s₂ s₃ : Shared} (t : At X G scope x P m S H1 s1 v cenv A' s₂) (k : Keeps s₂ s₃) : At X G scope x P m S H1 s1 v cenv A' s₃ := by
  obtain ⟨h', tk, e, hk⟩ := k
  subst e
  obtain ⟨m₂, hn, hm⟩ := t.ns
  exact ⟨t.inv, t.sim, t.sc, t.hd, ⟨m₂, hn.keeps hk, hm⟩, fun b o hb e => hk b o (t.keep b o hb e), t.tab⟩
abbrev GE := D → Store → Option D
def EJ (X : Cx) (G : Gx) (scope : Scope) (x : Str) (P : Addr) (e : Expr) (g : GE) : Prop :=
  ∀ (m : List Addr) (S : Store) (H1 : Hp) (s1 : Shared) (d : D) (v0 : V) (v : Value) (r : D) (cenv : Env) (A' : Around) (E' : Value → Shared → Prop) (s₂ : Shared), At X G scope x P m S H1 s1 v cenv A' s₂ → SV X.K m H1 d v0 → RelV v0 v → g d S = some r →
    wpAny (model X.prog X.w) A' (eval e cenv) (fun y s₃ => (∃ rv, RelV rv y ∧ SV X.K m H1 r rv) ∧ Keeps s₂ s₃) E' s₂
theorem keeps_tr {a b c : Shared} (h : Keeps a b) (q : Keeps b c) : Keeps a c := by
  obtain ⟨h1, t1, e1, k1⟩ := h
  obtain ⟨h2, t2, e2, k2⟩ := q
  subst e1
  subst e2
  exact ⟨h2, t2, rfl, fun b o e => k2 b o (k1 b o e)⟩
section
variable {X : Cx} {G : Gx} {scope : Scope} {x : Str} {P : Addr} {a b : Expr} {ga gb : GE} {pos : Pos}
theorem ej_name (hk : scope.kind = .function) (hl : scope.names.lookup x = some .local) (hd : (x == ("__debug__" : Str)) = false := by decide) : EJ X G scope x P (.Name x pos) (fun d _ => some d) := by
  intro m S H1 s1 d v0 v r cenv A' E' s₂ t sv rv e
  cases e
  obtain ⟨m₂, hn, hm⟩ := t.ns
  refine wpAny_Name (wpAny_loadName_local (by rw [t.sc]; exact hk) (show cenv.scope.names.lookup x = some .local by rw [t.sc]; exact hl) hn hm ?_) hd
  exact ⟨⟨v0, rv, sv⟩, GxR.keeps_refl _⟩
theorem ej_int {i : Int} {j : Nat} : EJ X G scope x P (.Constant (.int i) j pos) (fun _ _ => some (.int i)) := by
  intro m S H1 s1 d v0 v r cenv A' E' s₂ t sv rv e
  cases e
  exact wpAny_Constant_int ⟨⟨.int i, ⟨_, rfl⟩, rfl⟩, GxR.keeps_tok _ _⟩
def g2 (f : D → D → Option D) (ga gb : GE) : GE := fun d S => match ga d S, gb d S with
  | some p, some q => f p q
  | _, _ => none
theorem g2_some {f : D → D → Option D} {d : D} {S : Store} {r : D} (h : g2 f ga gb d S = some r) : ∃ p q, ga d S = some p ∧ gb d S = some q ∧ f p q = some r := by
  unfold g2 at h
  split at h
  · exact ⟨_, _, by assumption, by assumption, h⟩
  · cases h
def cmpG (p : Int → Int → Bool) : D → D → Option D
  | .int i, .int j => some (.bl (p i j))
  | _, _ => none
theorem ej_cmp {op : CmpOp} {p : Int → Int → Bool} (ho : ∀ {A : Around} {E : Value → Shared → Prop} {s : Shared} {i j : Int} {t u : Tok} {Q : Value → Shared → Prop}, Q (.bool (p i j)) s → wpAny (model X.prog X.w) A (compareOp op (.int i t) (.int j u)) Q E s)
    (ha : EJ X G scope x P a ga) (hb : EJ X G scope x P b gb) (hm : behindInMarks op b = false := by with_unfolding_all rfl) : EJ X G scope x P (.Compare a [op] [b] pos) (g2 (cmpG p) ga gb) := by
  intro m S H1 s1 d v0 v r cenv A' E' s₂ t sv rv e
  obtain ⟨p1, q1, e1, e2, e3⟩ := g2_some e
  refine wpAny_Compare1 ?_ hm
  refine wpAny_mono (ha m S H1 s1 d v0 v p1 cenv A' E' s₂ t sv rv e1) (fun y s3 hy => ?_) fun _ _ e => e
  obtain ⟨⟨v1, r1, sv1⟩, k1⟩ := hy
  refine wpAny_mono (hb m S H1 s1 d v0 v q1 cenv A' E' s3 (t.go k1) sv rv e2) (fun z s4 hz => ?_) fun _ _ e => e
  obtain ⟨⟨v2, r2, sv2⟩, k2⟩ := hz
  unfold cmpG at e3
  split at e3
  · cases e3
    cases sv1; cases sv2
    obtain ⟨t1, rfl⟩ := r1
    obtain ⟨t2, rfl⟩ := r2
    exact ho ⟨⟨.bl _, rfl, rfl⟩, keeps_tr k1 k2⟩
  · cases e3
theorem ej_lt (ha : EJ X G scope x P a ga) (hb : EJ X G scope x P b gb) (hm : behindInMarks .Lt b = false := by with_unfolding_all rfl) : EJ X G scope x P (.Compare a [.Lt] [b] pos) (g2 (cmpG fun i j => decide (i < j)) ga gb) := ej_cmp (fun q => lt_int q) ha hb hm
def ixG : D → D → Option D
  | .tup xs, .int k => atI xs k
  | _, _ => none
theorem ej_ix (ha : EJ X G scope x P a ga) (hb : EJ X G scope x P b gb) (hs : PlainIx b := by exact (fun _ _ => rfl)) : EJ X G scope x P (.Subscript a b pos) (g2 ixG ga gb) := by
  intro m S H1 s1 d v0 v r cenv A' E' s₂ t sv rv e
  obtain ⟨p1, q1, e1, e2, e3⟩ := g2_some e
  refine Subscript_ ?_
  refine wpAny_mono (ha m S H1 s1 d v0 v p1 cenv A' E' s₂ t sv rv e1) (fun y s3 hy => ?_) fun _ _ e => e
  obtain ⟨⟨v1, r1, sv1⟩, k1⟩ := hy
  refine wpAny_mono (hb m S H1 s1 d v0 v q1 cenv A' E' s3 (t.go k1) sv rv e2) (fun z s4 hz => ?_) fun _ _ e => e
  obtain ⟨⟨v2, r2, sv2⟩, k2⟩ := hz
  have t4 := (t.go k1).go k2
  unfold ixG at e3
  split at e3
  · rename_i xs k
    obtain ⟨p, vs, rfl, hq, hv⟩ := sv1
    cases sv2
    cases r1
    obtain ⟨t2, rfl⟩ := r2
    obtain ⟨pins, σ, I⟩ := t.inv
    obtain ⟨its, rvs, pl, hz⟩ := I.tuple hq
    obtain ⟨u, eu, su⟩ := atI_svs hv e3
    obtain ⟨j, h1, h2, h3, h4, h5⟩ := atI_get eu
    obtain ⟨w, ew, rw'⟩ := rvs.get h2
    have hl := rvs.length
    have hn := line63
    have pl4 : IsTup s4.heap p its.toArray := by
      obtain ⟨o, ho, hc, n, hd⟩ := pl
      refine ⟨o, t4.keep p o (fun z => ?_) ho, hc, n, hd⟩
      obtain ⟨ps, hP⟩ := t.tab
      have hP1 : s1.heap.get? P = some { cls := .none, data := .fields ps } := I.hok P _ hP
      rw [z, hP1] at ho
      cases ho
      cases hc
    exact subscriptTail_builtinR (x := w) pl4.typeIs slot_tuple_getitem.lookup
      (getItem_tuple (j := j) (Q := fun r s' => r = w ∧ ((∃ rv, RelV rv r ∧ SV X.K m H1 _ rv) ∧ Keeps s₂ s')) pl4 (by omega) (by omega) (by rw [List.size_toArray, ← hl]; exact h1) (by simpa using ew) ⟨rfl, ⟨u, rw', su⟩, keeps_tr k1 k2⟩) (hs _ _)
  · cases e3
/-! ### any, all, sum of a generator expression -/
def boolsG (g : GE) (S : Store) : List D → Option (List Bool)
  | [] => some []
  | d :: ds => match g d S, boolsG g S ds with
    | some (.bl b), some bs => some (b :: bs)
    | _, _ => none
def intsG (g : GE) (S : Store) : List D → Option (List Int)
  | [] => some []
  | d :: ds => match g d S, intsG g S ds with
    | some (.int b), some bs => some (b :: bs)
    | _, _ => none
theorem boolsG_at {g : GE} {S : Store} : ∀ {ds : List D} {bs : List Bool}, boolsG g S ds = some bs → ds.length = bs.length ∧ ∀ (i : Nat) (d : D), ds[i]? = some d → ∃ b, bs[i]? = some b ∧ g d S = some (.bl b)
  | [], bs, h => by cases h; exact ⟨rfl, fun i d e => by simp at e⟩
  | d :: ds, bs, h => by
    unfold boolsG at h
    split at h
    · rename_i b bs' e1 e2
      cases h
      obtain ⟨q1, q2⟩ := boolsG_at e2
      refine ⟨by simp [q1], fun i d' e => ?_⟩
      cases i with
      | zero => simp at e; subst e; exact ⟨b, by simp, e1⟩
      | succ i => simpa using q2 i d' (by simpa using e)
    · cases h
theorem intsG_at {g : GE} {S : Store} : ∀ {ds : List D} {bs : List Int}, intsG g S ds = some bs → ds.length = bs.length ∧ ∀ (i : Nat) (d : D), ds[i]? = some d → ∃ b, bs[i]? = some b ∧ g d S = some (.int b)
  | [], bs, h => by cases h; exact ⟨rfl, fun i d e => by simp at e⟩
  | d :: ds, bs, h => by
    unfold intsG at h
    split at h
    · rename_i b bs' e1 e2
      cases h
      obtain ⟨q1, q2⟩ := intsG_at e2
      refine ⟨by simp [q1], fun i d' e => ?_⟩
      cases i with
      | zero => simp at e; subst e; exact ⟨b, by simp, e1⟩
      | succ i => simpa using q2 i d' (by simpa using e)
    · cases h
def dAnyG (fe : DE) (g : GE) : DE := fun ρ S => (fe ρ S).bind fun d S1 => match seqAt S1 d with
  | some xs => (match boolsG g S1 xs with
    | some bs => .ok (.bl (bs.any id)) S1
    | none => .bad)
  | none => .bad
def dAllG (fe : DE) (g : GE) : DE := fun ρ S => (fe ρ S).bind fun d S1 => match seqAt S1 d with
  | some xs => (match boolsG g S1 xs with
    | some bs => .ok (.bl (bs.all id)) S1
    | none => .bad)
  | none => .bad
def dSumG (fe : DE) (g : GE) : DE := fun ρ S => (fe ρ S).bind fun d S1 => match seqAt S1 d with
  | some xs => (match intsG g S1 xs with
    | some bs => .ok (.int bs.sum) S1
    | none => .bad)
  | none => .bad
def trB (bs : List Bool) (j : Nat) : Bool := (bs[j]?).getD false
theorem any_trB (bs : List Bool) : (List.range bs.length).any (trB bs) = bs.any id := by
  rw [Bool.eq_iff_iff, List.any_eq_true, List.any_eq_true]
  constructor
  · rintro ⟨j, hj, h⟩
    have hj' := List.mem_range.mp hj
    unfold trB at h
    rw [List.getElem?_eq_getElem hj'] at h
    exact ⟨_, List.getElem_mem hj', h⟩
  · rintro ⟨b, hb, h⟩
    obtain ⟨j, hj, e⟩ := List.getElem_of_mem hb
    refine ⟨j, List.mem_range.mpr hj, ?_⟩
    unfold trB
    rw [List.getElem?_eq_getElem hj, e]
    exact h
theorem all_trB (bs : List Bool) : (List.range bs.length).all (trB bs) = bs.all id := by
  rw [Bool.eq_iff_iff, List.all_eq_true, List.all_eq_true]
  constructor
  · intro h b hb
    obtain ⟨j, hj, e⟩ := List.getElem_of_mem hb
    have q := h j (List.mem_range.mpr hj)
    unfold trB at q
    rw [List.getElem?_eq_getElem hj, e] at q
    exact q
  · intro h j hj
    have hj' := List.mem_range.mp hj
    unfold trB
    rw [List.getElem?_eq_getElem hj']
    exact h _ (List.getElem_mem hj')
/-- what the making knows of the items -/
structure GW where
  m : List Addr
  S : Store
  ds : List D
def RW (X : Cx) (G : Gx) (w : GW) (xs : List V) (H1 : Hp) : Prop := Sim X.K G w.m w.S H1 ∧ SVs X.K w.m H1 w.ds xs
theorem elt_of {elt : Expr} {g : GE} {its : List Value} {xs : List V} {w : GW} {H1 : Hp} {s1 : Shared} {pins : List (Addr × Obj)} {σ : L2.St} {F : Nat → Value → Prop} (hel : EJ X G scope x P elt g) (hR : RW X G w xs H1) (I : Inv X pins σ H1 s1) (rv : Vals xs its) (hP : ∃ ps, H1 P = some (.tbl ps))
    (hF : ∀ (i : Nat) (d : D), w.ds[i]? = some d → ∃ r, g d w.S = some r ∧ ∀ rv y, RelV rv y → SV X.K w.m H1 r rv → F i y) : EltOk X.prog X.w scope x P elt s1.heap its F := by
  intro cenv A' E' i v s₂ m₂ hsc hA hv hn hmx hk
  obtain ⟨sm, sv⟩ := hR
  have hi : i < its.length := (List.getElem?_eq_some_iff.mp hv).1
  have hix : i < xs.length := by rw [rv.length]; exact hi
  have hid : i < w.ds.length := by rw [sv.len]; exact hix
  obtain ⟨v0, h1, h2⟩ := sv.get (i := i) (d := w.ds[i]) (by simp [hid])
  obtain ⟨u, h3, h4⟩ := rv.get h1
  rw [hv] at h3
  cases h3
  obtain ⟨r, e1, e2⟩ := hF i w.ds[i] (by simp [hid])
  refine wpAny_mono (hel w.m w.S H1 s1 w.ds[i] v0 v r cenv A' E' s₂ ⟨⟨pins, σ, I⟩, sm, hsc, hA, ⟨m₂, hn, hmx⟩, hk, hP⟩ h2 h4 e1) (fun y s3 hy => ?_) fun _ _ e => e
  obtain ⟨⟨rv, q1, q2⟩, k⟩ := hy
  exact ⟨e2 rv y q1 q2, k⟩
variable {W : WX} {iter elt : Expr} {fe : DE} {g : GE} {px p gpos : Pos} {k : Nat} {c : Addr}
theorem je_anyG (hr : Room k X.A) (hm : X.mg "any" = none) (TB : LamX.TabB X.base X.mg c P) (hcode : X.env.code = .ref c) (hT : (P, X.env.qual ++ "<genexpr>") ∈ G.T) (hu : ∀ p ∈ G.T, p.1 = P → p.2 = X.env.qual ++ "<genexpr>")
    (S : GxR.GenS X.env scope x) (hi : JE X G W iter fe) (hel : EJ X G scope x P elt g) (hs : ∀ v, genFold iter X.env v = pure v := by intro _; rfl) (hg : Gl X "any" := by rfl)
    (he : starEach [.GeneratorExp elt [⟨.Name x px, iter, [], 0⟩] scope gpos] X.env = (false, eval (.GeneratorExp elt [⟨.Name x px, iter, [], 0⟩] scope gpos) X.env) :: starEach [] X.env := by rfl) :
    JE X G W (.Call (.Name "any" p) [.GeneratorExp elt [⟨.Name x px, iter, [], 0⟩] scope gpos] [] pos) (dAnyG fe g) := by
  refine ⟨fun pins s σ H Q I h => ?_⟩
  obtain ⟨m, ρ, St, sr, sm, eo⟩ := h
  refine wpAny_Call_Name_kw (ld_blt I hg hm boot_any ?_)
  refine PyProof.Rows.callWith_builtin1 ?_ he (by rfl)
  rw [he]
  show wpAny _ _ (spliced ((false, eval (.GeneratorExp elt [⟨.Name x px, iter, [], 0⟩] scope gpos) X.env) :: backTo pos (starEach [] X.env))) _ _ s
  refine Calls.spliced_cons (gen_seq (T := G.T) (R := fun (w : GW × List Bool) a xs H1 => RW X G w.1 xs H1 ∧ boolsG g w.1.S w.1.ds = some w.2 ∧ ∀ H2, LamX.ExtN H1 H2 → LamX.Tabs G.T H2 → Q (.bl (w.2.any id)) H2) (F := fun w i y => ∃ b, w.2[i]? = some b ∧ y = .bool b)
    hr TB hcode hT hu S hi hs I ⟨m, ρ, St, sr, sm, EO.then (rel := SV X.K) eo fun d S1 v H1 m1 st1 sm1 r1 eo1 => ?_⟩ (fun w a xs H1 s1 its hR I1 rv hP => ?_) (fun w a xs H1 g5 s5 fp wr GG Sg hR Wk hst hfp hfin => ?_))
  · split at eo1
    · rename_i ds e1
      split at eo1
      · rename_i bs e2
        obtain ⟨q, vs, rfl, sv, sq⟩ := seqAt_ok sm1 e1 r1
        exact ⟨(⟨m1, S1, ds⟩, bs), q, vs, rfl, sq, sm1.tabs, ⟨sm1, sv⟩, e2, fun H2 x1 x2 => by
          obtain ⟨st2, sm2⟩ := sim_ext sm1 x1 x2
          exact eo1 _ H2 m1 st2 sm2 rfl⟩
      · exact eo1.elim
    · exact eo1.elim
  · obtain ⟨b1, b2⟩ := boolsG_at hR.2.1
    refine elt_of hel hR.1 I1 rv hP fun i d hd => ?_
    obtain ⟨b, e1, e2⟩ := b2 i d hd
    refine ⟨_, e2, fun rv y q1 q2 => ⟨b, e1, ?_⟩⟩
    cases q2
    cases q1
    rfl
  · obtain ⟨b1, b2⟩ := boolsG_at hR.2.1
    have hn : xs.length = w.2.length := by rw [← hR.1.2.len, b1]
    refine Calls.spliced_nil ?_
    refine call_any_walkS (Wk.self 0 _ _ _ hst ⟨g5, fp, wr, GG, xs.length, _, Sg, trB w.2, rfl, Wk, hst, ?_, fun s' hmv => ?_⟩)
    · intro j y sj Qj Ej hy hQj
      obtain ⟨b, e1, rfl⟩ := hy
      have hQ2 : Qj (trB w.2 j) sj := hQj
      unfold trB at hQ2
      rw [e1] at hQ2
      exact wpAny_truthy_bool hQ2
    · obtain ⟨H2, x1, x2, J⟩ := hfin s' hmv
      refine ⟨.bl _, H2, J, rfl, ?_⟩
      rw [hn, any_trB]
      exact hR.2.2 H2 x1 x2
theorem je_allG (hr : Room k X.A) (hm : X.mg "all" = none) (TB : LamX.TabB X.base X.mg c P) (hcode : X.env.code = .ref c) (hT : (P, X.env.qual ++ "<genexpr>") ∈ G.T) (hu : ∀ p ∈ G.T, p.1 = P → p.2 = X.env.qual ++ "<genexpr>")
    (S : GxR.GenS X.env scope x) (hi : JE X G W iter fe) (hel : EJ X G scope x P elt g) (hs : ∀ v, genFold iter X.env v = pure v := by intro _; rfl) (hg : Gl X "all" := by rfl)
    (he : starEach [.GeneratorExp elt [⟨.Name x px, iter, [], 0⟩] scope gpos] X.env = (false, eval (.GeneratorExp elt [⟨.Name x px, iter, [], 0⟩] scope gpos) X.env) :: starEach [] X.env := by rfl) :
    JE X G W (.Call (.Name "all" p) [.GeneratorExp elt [⟨.Name x px, iter, [], 0⟩] scope gpos] [] pos) (dAllG fe g) := by
  refine ⟨fun pins s σ H Q I h => ?_⟩
  obtain ⟨m, ρ, St, sr, sm, eo⟩ := h
  refine wpAny_Call_Name_kw (ld_blt I hg hm PyProof.Rows.boot_all ?_)
  refine PyProof.Rows.callWith_builtin1 ?_ he (by rfl)
  rw [he]
  show wpAny _ _ (spliced ((false, eval (.GeneratorExp elt [⟨.Name x px, iter, [], 0⟩] scope gpos) X.env) :: backTo pos (starEach [] X.env))) _ _ s
  refine Calls.spliced_cons (gen_seq (T := G.T) (R := fun (w : GW × List Bool) a xs H1 => RW X G w.1 xs H1 ∧ boolsG g w.1.S w.1.ds = some w.2 ∧ ∀ H2, LamX.ExtN H1 H2 → LamX.Tabs G.T H2 → Q (.bl (w.2.all id)) H2) (F := fun w i y => ∃ b, w.2[i]? = some b ∧ y = .bool b)
    hr TB hcode hT hu S hi hs I ⟨m, ρ, St, sr, sm, EO.then (rel := SV X.K) eo fun d S1 v H1 m1 st1 sm1 r1 eo1 => ?_⟩ (fun w a xs H1 s1 its hR I1 rv hP => ?_) (fun w a xs H1 g5 s5 fp wr GG Sg hR Wk hst hfp hfin => ?_))
  · split at eo1
    · rename_i ds e1
      split at eo1
      · rename_i bs e2
        obtain ⟨q, vs, rfl, sv, sq⟩ := seqAt_ok sm1 e1 r1
        exact ⟨(⟨m1, S1, ds⟩, bs), q, vs, rfl, sq, sm1.tabs, ⟨sm1, sv⟩, e2, fun H2 x1 x2 => by
          obtain ⟨st2, sm2⟩ := sim_ext sm1 x1 x2
          exact eo1 _ H2 m1 st2 sm2 rfl⟩
      · exact eo1.elim
    · exact eo1.elim
  · obtain ⟨b1, b2⟩ := boolsG_at hR.2.1
    refine elt_of hel hR.1 I1 rv hP fun i d hd => ?_
    obtain ⟨b, e1, e2⟩ := b2 i d hd
    refine ⟨_, e2, fun rv y q1 q2 => ⟨b, e1, ?_⟩⟩
    cases q2
    cases q1
    rfl
  · obtain ⟨b1, b2⟩ := boolsG_at hR.2.1
    have hn : xs.length = w.2.length := by rw [← hR.1.2.len, b1]
    refine Calls.spliced_nil ?_
    refine call_all_walkS (Wk.self 0 _ _ _ hst ⟨g5, fp, wr, GG, xs.length, _, Sg, trB w.2, rfl, Wk, hst, ?_, fun s' hmv => ?_⟩)
    · intro j y sj Qj Ej hy hQj
      obtain ⟨b, e1, rfl⟩ := hy
      have hQ2 : Qj (trB w.2 j) sj := hQj
      unfold trB at hQ2
      rw [e1] at hQ2
      exact wpAny_truthy_bool hQ2
    · obtain ⟨H2, x1, x2, J⟩ := hfin s' hmv
      refine ⟨.bl _, H2, J, rfl, ?_⟩
      rw [hn, all_trB]
      exact hR.2.2 H2 x1 x2
theorem preSum_take (bs : List Int) : ∀ n, n ≤ bs.length → preSum (fun j => (bs[j]?).getD 0) n = (bs.take n).sum
  | 0, _ => by simp [preSum]
  | n + 1, h => by
    rw [preSum, preSum_take bs n (by omega), List.take_add_one, List.getElem?_eq_getElem (by omega)]
    simp only [Option.getD_some, Option.toList_some, List.sum_append, List.sum_cons, List.sum_nil, Int.add_zero]
theorem preSum_list (bs : List Int) : preSum (fun j => (bs[j]?).getD 0) bs.length = bs.sum := by
  rw [preSum_take bs _ (Nat.le_refl _), List.take_length]
theorem je_sumG (hr : Room k X.A) (hm : X.mg "sum" = none) (TB : LamX.TabB X.base X.mg c P) (hcode : X.env.code = .ref c) (hT : (P, X.env.qual ++ "<genexpr>") ∈ G.T) (hu : ∀ p ∈ G.T, p.1 = P → p.2 = X.env.qual ++ "<genexpr>")
    (S : GxR.GenS X.env scope x) (hi : JE X G W iter fe) (hel : EJ X G scope x P elt g) (hs : ∀ v, genFold iter X.env v = pure v := by intro _; rfl) (hg : Gl X "sum" := by rfl)
    (he : starEach [.GeneratorExp elt [⟨.Name x px, iter, [], 0⟩] scope gpos] X.env = (false, eval (.GeneratorExp elt [⟨.Name x px, iter, [], 0⟩] scope gpos) X.env) :: starEach [] X.env := by rfl) :
    JE X G W (.Call (.Name "sum" p) [.GeneratorExp elt [⟨.Name x px, iter, [], 0⟩] scope gpos] [] pos) (dSumG fe g) := by
  refine ⟨fun pins s σ H Q I h => ?_⟩
  obtain ⟨m, ρ, St, sr, sm, eo⟩ := h
  refine wpAny_Call_Name_kw (ld_blt I hg hm PyProof.Rows.boot_sum ?_)
  refine PyProof.Rows.callWith_builtin1 ?_ he (by rfl)
  rw [he]
  show wpAny _ _ (spliced ((false, eval (.GeneratorExp elt [⟨.Name x px, iter, [], 0⟩] scope gpos) X.env) :: backTo pos (starEach [] X.env))) _ _ s
  refine Calls.spliced_cons (gen_seq (T := G.T) (R := fun (w : GW × List Int) a xs H1 => RW X G w.1 xs H1 ∧ intsG g w.1.S w.1.ds = some w.2 ∧ ∀ H2, LamX.ExtN H1 H2 → LamX.Tabs G.T H2 → Q (.int w.2.sum) H2) (F := fun w i y => ∃ b t, w.2[i]? = some b ∧ y = .int b t)
    hr TB hcode hT hu S hi hs I ⟨m, ρ, St, sr, sm, EO.then (rel := SV X.K) eo fun d S1 v H1 m1 st1 sm1 r1 eo1 => ?_⟩ (fun w a xs H1 s1 its hR I1 rv hP => ?_) (fun w a xs H1 g5 s5 fp wr GG Sg hR Wk hst hfp hfin => ?_))
  · split at eo1
    · rename_i ds e1
      split at eo1
      · rename_i bs e2
        obtain ⟨q, vs, rfl, sv, sq⟩ := seqAt_ok sm1 e1 r1
        exact ⟨(⟨m1, S1, ds⟩, bs), q, vs, rfl, sq, sm1.tabs, ⟨sm1, sv⟩, e2, fun H2 x1 x2 => by
          obtain ⟨st2, sm2⟩ := sim_ext sm1 x1 x2
          exact eo1 _ H2 m1 st2 sm2 rfl⟩
      · exact eo1.elim
    · exact eo1.elim
  · obtain ⟨b1, b2⟩ := intsG_at hR.2.1
    refine elt_of hel hR.1 I1 rv hP fun i d hd => ?_
    obtain ⟨b, e1, e2⟩ := b2 i d hd
    refine ⟨_, e2, fun rv y q1 q2 => ?_⟩
    cases q2
    obtain ⟨t, rfl⟩ := q1
    exact ⟨b, t, e1, rfl⟩
  · obtain ⟨b1, b2⟩ := intsG_at hR.2.1
    have hn : xs.length = w.2.length := by rw [← hR.1.2.len, b1]
    refine Calls.spliced_nil ?_
    refine call_sum_walkAnyS (Wk.self 0 _ _ _ hst ⟨g5, fp, wr, GG, xs.length, _, Sg, (fun j => (w.2[j]?).getD 0), rfl, Wk, hst, hfp, ?_, fun s' t' hmv => ?_⟩)
    · rintro j y ⟨b, t, e1, rfl⟩
      exact ⟨t, by dsimp only; rw [e1]; rfl⟩
    · obtain ⟨H2, x1, x2, J⟩ := hfin s' hmv
      refine ⟨.int _, H2, J, ⟨t', rfl⟩, ?_⟩
      rw [hn, preSum_list]
      exact hR.2.2 H2 x1 x2
end
end DL
set_option Elab.async false
set_option linter.all false
set_option maxRecDepth 100000
set_option maxHeartbeats 2000000
/-! DM4: what is not told; in; sums, least and greatest of lists; reversed; index; names of the top. -/
namespace DL
open PySem PySem.Spec PyProof.Rows L2
def dBad : DE := fun _ _ => .bad
def dBadS : DS := fun _ _ => .bad
def flatOf : D → Option V
  | .non => some .non
  | .bl b => some (.bl b)
  | .int i => some (.int i)
  | .str x => some (.str x)
  | _ => none
def flatsOf : List D → Option (List V)
  | [] => some []
  | d :: ds => match flatOf d, flatsOf ds with
    | some v, some vs => some (v :: vs)
    | _, _ => none
def intsOf : List D → Option (List Int)
  | [] => some []
  | .int i :: ds => (intsOf ds).map (i :: ·)
  | _ :: _ => none
section
variable {K : PySem.W.Frag} {m : List Addr} {H : Hp}
theorem flatOf_ok {d : D} {v u : V} (e : flatOf d = some u) (h : SV K m H d v) : v = u ∧ flatV u = true := by
  cases d with
  | non => cases e; cases h; exact ⟨rfl, rfl⟩
  | bl b => cases e; cases h; exact ⟨rfl, rfl⟩
  | int b => cases e; cases h; exact ⟨rfl, rfl⟩
  | str b => cases e; cases h; exact ⟨rfl, rfl⟩
  | _ => cases e
theorem flatsOf_ok : ∀ {ds : List D} {vs us : List V}, flatsOf ds = some us → SVs K m H ds vs → vs = us ∧ us.all flatV = true
  | [], vs, us, e, h => by cases e; rw [show vs = [] from h]; exact ⟨rfl, rfl⟩
  | d :: ds, vs, us, e, h => by
    obtain ⟨v, r, rfl, a, b⟩ := (show ∃ v r, vs = v :: r ∧ SV K m H d v ∧ SVs K m H ds r from h)
    unfold flatsOf at e
    split at e
    · rename_i u us' e1 e2
      cases e
      obtain ⟨rfl, f1⟩ := flatOf_ok e1 a
      obtain ⟨rfl, f2⟩ := flatsOf_ok e2 b
      exact ⟨rfl, by rw [List.all_cons, f1, f2]; rfl⟩
    · cases e
theorem intsOf_ok : ∀ {ds : List D} {vs : List V} {ns : List Int}, intsOf ds = some ns → SVs K m H ds vs → vs = ns.map V.int
  | [], vs, ns, e, h => by cases e; rw [show vs = [] from h]; rfl
  | d :: ds, vs, ns, e, h => by
    obtain ⟨v, r, rfl, a, b⟩ := (show ∃ v r, vs = v :: r ∧ SV K m H d v ∧ SVs K m H ds r from h)
    cases d with
    | int i =>
      have e : (intsOf ds).map (i :: ·) = some ns := e
      cases z : intsOf ds with
      | none => rw [z] at e; cases e
      | some ns' =>
        rw [z] at e
        cases e
        cases a
        rw [intsOf_ok z b]
        rfl
    | _ => cases e
end
def inD : D2 := fun x y S => match flatOf x, (seqAt S y).bind flatsOf with
  | some u, some us => some (.bl (inV u us), S)
  | _, _ => none
def notInD : D2 := fun x y S => match flatOf x, (seqAt S y).bind flatsOf with
  | some u, some us => some (.bl (!inV u us), S)
  | _, _ => none
/-- a list that is read -/
def lstOf (S : Store) : D → Option (List D)
  | .fl xs => some xs
  | .obj n => lstAt S n
  | _ => none
theorem lstOf_ok {K : PySem.W.Frag} {G : Gx} {m : List Addr} {S : Store} {H : Hp} (s : Sim K G m S H) {d : D} {v : V} {xs : List D} (h : lstOf S d = some xs) (r : SV K m H d v) : ∃ p vs, v = .ref p ∧ SVs K m H xs vs ∧ SqL K H p vs := by
  cases d with
  | fl ys => cases h; obtain ⟨p, vs, e, q, r⟩ := r; exact ⟨p, vs, e, r, q.l⟩
  | obj n =>
    obtain ⟨a, e, hm⟩ := r
    obtain ⟨a', vs, h1, h2, h3⟩ := lstAt_ok s h
    rw [hm] at h1; cases h1
    exact ⟨a, vs, e, h3, SqL.of h2⟩
  | _ => cases h
def sumLD : DB := fun ds S => match ds with
  | [d] => ((lstOf S d).bind intsOf).map fun ns => (.int ns.sum, S)
  | _ => none
def maxI : List Int → Option Int
  | [] => none
  | i :: is => some (is.foldl max i)
def minI : List Int → Option Int
  | [] => none
  | i :: is => some (is.foldl min i)
theorem foldl_max_mem (is : List Int) : ∀ i, is.foldl max i = i ∨ is.foldl max i ∈ is := by
  induction is with
  | nil => intro i; exact .inl rfl
  | cons j is ih =>
    intro i
    rw [List.foldl_cons]
    rcases ih (max i j) with h | h
    · rcases Int.le_total i j with q | q
      · right; rw [h, Int.max_eq_right q]; exact List.mem_cons_self
      · left; rw [h, Int.max_eq_left q]
    · exact .inr (List.mem_cons_of_mem _ h)
theorem foldl_max_le (is : List Int) : ∀ i, i ≤ is.foldl max i ∧ ∀ y ∈ is, y ≤ is.foldl max i := by
  induction is with
  | nil => intro i; exact ⟨Int.le_refl _, fun _ h => nomatch h⟩
  | cons j is ih =>
    intro i
    rw [List.foldl_cons]
    obtain ⟨h1, h2⟩ := ih (max i j)
    refine ⟨Int.le_trans (Int.le_max_left i j) h1, fun y hy => ?_⟩
    rcases List.mem_cons.mp hy with rfl | hy
    · exact Int.le_trans (Int.le_max_right i y) h1
    · exact h2 y hy
theorem foldl_min_mem (is : List Int) : ∀ i, is.foldl min i = i ∨ is.foldl min i ∈ is := by
  induction is with
  | nil => intro i; exact .inl rfl
  | cons j is ih =>
    intro i
    rw [List.foldl_cons]
    rcases ih (min i j) with h | h
    · rcases Int.le_total i j with q | q
      · left; rw [h, Int.min_eq_left q]
      · right; rw [h, Int.min_eq_right q]; exact List.mem_cons_self
    · exact .inr (List.mem_cons_of_mem _ h)
theorem foldl_min_le (is : List Int) : ∀ i, is.foldl min i ≤ i ∧ ∀ y ∈ is, is.foldl min i ≤ y := by
  induction is with
  | nil => intro i; exact ⟨Int.le_refl _, fun _ h => nomatch h⟩
  | cons j is ih =>
    intro i
    rw [List.foldl_cons]
    obtain ⟨h1, h2⟩ := ih (min i j)
    refine ⟨Int.le_trans h1 (Int.min_le_left i j), fun y hy => ?_⟩
    rcases List.mem_cons.mp hy with rfl | hy
    · exact Int.le_trans h1 (Int.min_le_right i y)
    · exact h2 y hy
def maxD2 : DB := fun ds S => match ds with
  | [d] => (((lstOf S d).bind intsOf).bind maxI).map fun i => (.int i, S)
  | ds => maxD ds S
def minD2 : DB := fun ds S => match ds with
  | [d] => (((lstOf S d).bind intsOf).bind minI).map fun i => (.int i, S)
  | ds => minD ds S
def mulD2 : D2 := fun a b S => match a, b with
  | .obj n, .int k => (match lstAt S n with
    | some xs => if -1000 ≤ k ∧ k ≤ 1000 ∧ xs.length ≤ 1000 then some (newO (.lst (List.replicate k.toNat xs).flatten) S) else none
    | none => none)
  | a, b => mulD a b S
def diRevS (fe : DE) : DI := fun ρ S => (fe ρ S).bind fun d S1 => match d with
  | .tup xs => .ok ⟨xs.reverse, grdT⟩ S1
  | .fl xs => .ok ⟨xs.reverse, grdT⟩ S1
  | .obj n => (match lstAt S1 n with
    | some xs => .ok ⟨xs.reverse, grdL n xs⟩ S1
    | none => .bad)
  | _ => .bad
section
variable {X : Cx} {G : Gx} {W : WX} {e o : Expr} {fe fo : DE} {p pos apos : Pos}
theorem je_bad : JE X G W e dBad := ⟨fun pins s σ H Q I ⟨m, ρ, S, sr, sm, eo⟩ => eo.elim⟩
theorem js_bad {st : Stmt} : JS X G W st dBadS := ⟨fun pins s σ H E I ⟨m, ρ, S, sr, sm, q⟩ => q.elim⟩
theorem jop_in : JOp X G (compareOp .In) inD :=
  OpR.imp op_in_seq fun x y H Q ⟨m, S, a, b, d, S', sm, ra, rb, e, k⟩ => by
    unfold inD at e
    split at e
    · rename_i u us e1 e2
      cases e
      cases z : seqAt S b with
      | none => rw [z] at e2; cases e2
      | some ys =>
        rw [z] at e2
        obtain ⟨q, vs, rfl, sv, sq⟩ := seqAt_ok sm z rb
        obtain ⟨rfl, f1⟩ := flatOf_ok e1 ra
        obtain ⟨rfl, f2⟩ := flatsOf_ok e2 sv
        exact ⟨q, _, rfl, sq, f1, f2, k _ H m sm.refl sm rfl⟩
    · cases e
theorem jop_notIn : JOp X G (compareOp .NotIn) notInD :=
  OpR.imp op_notIn_seq fun x y H Q ⟨m, S, a, b, d, S', sm, ra, rb, e, k⟩ => by
    unfold notInD at e
    split at e
    · rename_i u us e1 e2
      cases e
      cases z : seqAt S b with
      | none => rw [z] at e2; cases e2
      | some ys =>
        rw [z] at e2
        obtain ⟨q, vs, rfl, sv, sq⟩ := seqAt_ok sm z rb
        obtain ⟨rfl, f1⟩ := flatOf_ok e1 ra
        obtain ⟨rfl, f2⟩ := flatsOf_ok e2 sv
        exact ⟨q, _, rfl, sq, f1, f2, k _ H m sm.refl sm rfl⟩
    · cases e
theorem jb_sum (hc : X.calm = true) : CallR X (.builtin "sum") (BR X.K G sumLD) := CallR.imp (cr_sum hc) fun vs H Q ⟨m, S, ds, d, S', sm, r, e, k⟩ => by
  unfold sumLD at e
  split at e
  · rename_i d0
    obtain ⟨v, rfl, q⟩ := svs1 r
    cases z : lstOf S d0 with
    | none => rw [z] at e; cases e
    | some xs =>
      rw [z] at e
      cases z2 : intsOf xs with
      | none => rw [show (some xs).bind intsOf = none from z2] at e; cases e
      | some ns =>
        rw [show (some xs).bind intsOf = some ns from z2] at e
        cases e
        obtain ⟨p, vs, rfl, sv, sq⟩ := lstOf_ok sm z q
        rw [intsOf_ok z2 sv] at sq
        exact ⟨p, ns, rfl, sq, k _ H m sm.refl sm rfl⟩
  · cases e
theorem jb_max2 (hc : X.calm = true) : CallR X (.builtin "max") (BR X.K G maxD2) := CallR.imp (CallR.or (cr_max hc) (jb_max (G := G) hc)) fun vs H Q ⟨m, S, ds, d, S', sm, r, e, k⟩ => by
  unfold maxD2 at e
  split at e
  · rename_i d0
    obtain ⟨v, rfl, q⟩ := svs1 r
    cases z : lstOf S d0 with
    | none => rw [z] at e; cases e
    | some xs =>
      rw [z] at e
      cases z2 : intsOf xs with
      | none => rw [show (some xs).bind intsOf = none from z2] at e; cases e
      | some ns =>
        rw [show (some xs).bind intsOf = some ns from z2] at e
        cases ns with
        | nil => cases e
        | cons i is =>
          cases e
          obtain ⟨p, vs, rfl, sv, sq⟩ := lstOf_ok sm z q
          rw [intsOf_ok z2 sv] at sq
          refine .inl ⟨p, i :: is, rfl, sq, by simp, fun mx h1 h2 => ?_⟩
          have e9 : mx = is.foldl max i := by
            have q1 := foldl_max_le is i
            have q2 := foldl_max_mem is i
            have a1 : mx ≤ is.foldl max i := by
              rcases List.mem_cons.mp h1 with rfl | h1
              · exact q1.1
              · exact q1.2 _ h1
            have a2 : is.foldl max i ≤ mx := by
              rcases q2 with q2 | q2
              · rw [q2]; exact h2 _ List.mem_cons_self
              · exact h2 _ (List.mem_cons_of_mem _ q2)
            omega
          subst e9
          exact k _ H m sm.refl sm rfl
  · exact .inr ⟨m, S, _, d, S', sm, r, e, k⟩
theorem jb_min2 (hc : X.calm = true) : CallR X (.builtin "min") (BR X.K G minD2) := CallR.imp (CallR.or (cr_min hc) (jb_min (G := G) hc)) fun vs H Q ⟨m, S, ds, d, S', sm, r, e, k⟩ => by
  unfold minD2 at e
  split at e
  · rename_i d0
    obtain ⟨v, rfl, q⟩ := svs1 r
    cases z : lstOf S d0 with
    | none => rw [z] at e; cases e
    | some xs =>
      rw [z] at e
      cases z2 : intsOf xs with
      | none => rw [show (some xs).bind intsOf = none from z2] at e; cases e
      | some ns =>
        rw [show (some xs).bind intsOf = some ns from z2] at e
        cases ns with
        | nil => cases e
        | cons i is =>
          cases e
          obtain ⟨p, vs, rfl, sv, sq⟩ := lstOf_ok sm z q
          rw [intsOf_ok z2 sv] at sq
          refine .inl ⟨p, i :: is, rfl, sq, by simp, fun mx h1 h2 => ?_⟩
          have e9 : mx = is.foldl min i := by
            have q1 := foldl_min_le is i
            have q2 := foldl_min_mem is i
            have a1 : is.foldl min i ≤ mx := by
              rcases List.mem_cons.mp h1 with rfl | h1
              · exact q1.1
              · exact q1.2 _ h1
            have a2 : mx ≤ is.foldl min i := by
              rcases q2 with q2 | q2
              · rw [q2]; exact h2 _ List.mem_cons_self
              · exact h2 _ (List.mem_cons_of_mem _ q2)
            omega
          subst e9
          exact k _ H m sm.refl sm rfl
  · exact .inr ⟨m, S, _, d, S', sm, r, e, k⟩
theorem jop_mul2 : JOp X G (binaryOp .Mult) mulD2 := by
  refine OpR.imp (OpR.or op_rep (jop_mul (G := G))) fun x y H Q ⟨m, S, a, b, d, S', sm, ra, rb, e, k⟩ => ?_
  unfold mulD2 at e
  split at e
  · rename_i n kk
    split at e
    · rename_i xs z
      split at e
      · rename_i hz
        cases e
        obtain ⟨a, rfl, hm⟩ := ra
        obtain ⟨a', vs, h1, h2, h3⟩ := lstAt_ok sm z
        rw [hm] at h1; cases h1
        cases rb
        refine .inl ⟨a, kk, vs, rfl, rfl, h2, by omega, by omega, ?_, fun p hp => ?_⟩
        · rw [← h3.len]
          have : xs.length * kk.toNat ≤ 1000 * 1000 := Nat.mul_le_mul hz.2.2 (by omega)
          exact size6 this
        · exact k _ _ (m ++ [p]) (Step.new sm hp) (sim_lst (rep_svs h3 kk.toNat) sm hp) (sv_new sm)
      · cases e
    · cases e
  · exact .inr ⟨m, S, _, _, d, S', sm, ra, rb, e, k⟩
/-- a name of the top whose value is data -/
theorem je_glob {x : Str} {u : Value} {d : D} (hm : X.mg x = some u) (hd : ∀ m H, ∃ v, RelV v u ∧ SV X.K m H d v) (hg : Gl X x := by rfl) (hdb : (x == ("__debug__" : Str)) = false := by decide) : JE X G W (.Name x pos) (dC d) := by
  obtain ⟨v0, r0, _⟩ := hd [] (fun _ => none)
  refine PE.imp (pe_glob hg hm r0 hdb) fun σ H Q ⟨m, ρ, S, sr, sm, eo⟩ => ?_
  obtain ⟨v, r, q⟩ := hd m H
  have : v = v0 := RelV.inj r r0
  subst this
  exact eo _ H m sm.refl sm q
end
end DL
set_option Elab.async false
set_option linter.all false
set_option maxRecDepth 100000
set_option maxHeartbeats 2000000
/-! DM5: the least of a list of data; reversed; index. -/
namespace DL
open PySem PySem.Spec PyProof.Rows L2 RT
mutual
def D.ofP : PyData → D
  | .none => .non
  | .bool b => .bl b
  | .int i => .int i
  | .str x => .str x
  | .tuple xs => .tup (D.ofPs xs)
  | .list xs => .fl (D.ofPs xs)
  | .dict _ => .non
def D.ofPs : List PyData → List D
  | [] => []
  | p :: ps => D.ofP p :: D.ofPs ps
end
mutual
theorem ofP_toP : ∀ {d : D} {p : PyData}, D.toP d = some p → D.ofP p = d
  | .non, p, e => by cases e; rfl
  | .bl b, p, e => by cases e; rfl
  | .int b, p, e => by cases e; rfl
  | .str b, p, e => by cases e; rfl
  | .tup xs, p, e => by
    have e : (D.toPs xs).map PyData.tuple = some p := e
    cases z : D.toPs xs with
    | none => rw [z] at e; cases e
    | some ps => rw [z] at e; cases e; simp only [D.ofP]; rw [ofPs_toPs z]
  | .fl xs, p, e => by
    have e : (D.toPs xs).map PyData.list = some p := e
    cases z : D.toPs xs with
    | none => rw [z] at e; cases e
    | some ps => rw [z] at e; cases e; simp only [D.ofP]; rw [ofPs_toPs z]
  | .obj n, p, e => by cases e
theorem ofPs_toPs : ∀ {ds : List D} {ps : List PyData}, D.toPs ds = some ps → D.ofPs ps = ds
  | [], ps, e => by cases e; rfl
  | d :: ds, ps, e => by
    have e : (match D.toP d, D.toPs ds with
      | some p, some ps => some (p :: ps)
      | _, _ => none) = some ps := e
    cases z1 : D.toP d with
    | none => rw [z1] at e; cases e
    | some p =>
      cases z2 : D.toPs ds with
      | none => rw [z1, z2] at e; cases e
      | some q => rw [z1, z2] at e; cases e; simp only [D.ofPs]; rw [ofP_toP z1, ofPs_toPs z2]
end
theorem toPs_at : ∀ {ds : List D} {ps : List PyData} {i : Nat} {d : D}, D.toPs ds = some ps → ds[i]? = some d → ∃ p, ps[i]? = some p ∧ D.toP d = some p
  | [], ps, i, d, e, h => by simp at h
  | d' :: ds, ps, i, d, e, h => by
    have e : (match D.toP d', D.toPs ds with
      | some p, some ps => some (p :: ps)
      | _, _ => none) = some ps := e
    cases z1 : D.toP d' with
    | none => rw [z1] at e; cases e
    | some p =>
      cases z2 : D.toPs ds with
      | none => rw [z1, z2] at e; cases e
      | some q =>
        rw [z1, z2] at e
        cases e
        cases i with
        | zero => simp at h; subst h; exact ⟨p, by simp, z1⟩
        | succ i =>
          obtain ⟨p', h1, h2⟩ := toPs_at z2 (i := i) (by simpa using h)
          exact ⟨p', by simpa using h1, h2⟩
/-- the least of alike data -/
def likeB (ps : List PyData) : Bool := (ps.all fun x => ps.all fun y => PySem.W.alike x y) && ps.all fun x => match x with
  | .none => false
  | _ => true
def minP : DB := fun ds S => match ds with
  | [d] => (match (lstOf S d).bind D.toPs with
    | some (p :: ps) => if likeB (p :: ps) = true ∧ PyData.depthAll (p :: ps) ≤ 60 then some (D.ofP (PySem.W.minD p ps), S) else none
    | _ => none)
  | _ => none
def minD3 : DB := fun ds S => match minD2 ds S with
  | some r => some r
  | none => minP ds S
theorem likeB_ok {ps : List PyData} (h : likeB ps = true) : PySem.W.AlikeAll ps := by
  unfold likeB at h
  rw [Bool.and_eq_true] at h
  refine ⟨fun x hx y hy => List.all_eq_true.mp (List.all_eq_true.mp h.1 x hx) y hy, fun x hx z => ?_⟩
  have := List.all_eq_true.mp h.2 x hx
  rw [z] at this
  cases this
section
variable {X : Cx} {G : Gx} {W : WX} {e o tg : Expr} {fe fo : DE} {p pos apos cpos : Pos}
theorem jb_minP (hc : X.calm = true) (hu : X.A.units + 64 < cLine) : CallR X (.builtin "min") (BR X.K G minP) := by
  intro pins s σ H vs us Q I r ⟨m, S, ds, d, S', sm, rs, e, k⟩
  unfold minP at e
  split at e
  · rename_i d0
    obtain ⟨v, rfl, q⟩ := svs1 rs
    cases z : lstOf S d0 with
    | none => rw [z] at e; cases e
    | some xs =>
      rw [z] at e
      split at e
      · rename_i p0 ps z2
        split at e
        · rename_i hz
          cases e
          obtain ⟨a, ws, rfl, sv, sq⟩ := lstOf_ok sm z q
          obtain ⟨its, rv, hl, _⟩ := I.list sq
          have z3 : D.toPs xs = some (p0 :: ps) := z2
          obtain ⟨as, hr⟩ := Dp.readsAll I (p0 :: ps) ws its (toPs_ok z3 sv) rv
          rw [Vals.ref1 r]
          refine PySem.W.min_list_data (I.ok.hd hc) hl.isList (by simpa using hr) (likeB_ok hz.1) (by have := hz.2; omega) fun i v' h' tk bs hi hrd hk => ?_
          have hi' : its[i]? = some v' := by simpa using hi
          have hlt : i < its.length := (List.getElem?_eq_some_iff.mp hi').1
          have hlw : i < ws.length := by rw [rv.length]; exact hlt
          have hlx : i < xs.length := by rw [sv.len]; exact hlw
          obtain ⟨u, h1, h2⟩ := sv.get (i := i) (d := xs[i]) (by simp [hlx])
          obtain ⟨u', h3, h4⟩ := rv.get h1
          rw [hi'] at h3
          cases h3
          obtain ⟨p', h5, h6⟩ := toPs_at z3 (i := i) (d := xs[i]) (by simp [hlx])
          obtain ⟨bs', hr'⟩ := Dp.reads I p' u v' (toP_ok h6 h2) h4
          have eq := (reads_det (fun b o e _ => hk b o e) hr' hrd).1
          rw [eq] at k
          rw [ofP_toP h6] at k
          exact ⟨u, H, I.kept hk, h4, k u H m sm.refl sm h2⟩
        · cases e
      · cases e
  · cases e
theorem jb_min3 (hc : X.calm = true) (hu : X.A.units + 64 < cLine) : CallR X (.builtin "min") (BR X.K G minD3) := CallR.imp (CallR.or (jb_min2 (G := G) hc) (jb_minP (G := G) hc hu)) fun vs H Q ⟨m, S, ds, d, S', sm, r, e, k⟩ => by
  unfold minD3 at e
  split at e
  · rename_i rr z
    cases e
    exact .inl ⟨m, S, ds, d, S', sm, r, z, k⟩
  · exact .inr ⟨m, S, ds, d, S', sm, r, e, k⟩
/-! ### reversed -/
theorem ji_revS (hm : X.mg "reversed" = none) (he : JE X G W e fe) (hg : Gl X "reversed" := by rfl) (hs : starEach [e] X.env = (false, eval e X.env) :: starEach [] X.env := by rfl) : JI X G W tg (.Call (.Name "reversed" p) [e] [] pos) (diRevS fe) :=
  PI.imp (pi_revA hg hm he hs) fun σ H R ⟨m, ρ, S, sr, sm, eo⟩ => ⟨m, ρ, S, sr, sm, EO.then (rel := SV X.K) eo fun d S1 v H1 m1 st1 sm1 r1 eo1 => by
    cases d with
    | tup xs =>
      obtain ⟨a, vs, rfl, q, r⟩ := r1
      refine ⟨a, vs, rfl, .inr ⟨q, eo1 _ H1 m1 sm1.refl sm1 ?_⟩⟩
      show Walk (ItvT X.K a vs.length) xs.reverse.length _ _
      rw [List.length_reverse, r.len]
      refine ⟨fun i H' hi ⟨m', S', st, sm', hg⟩ => ⟨hi, vs, vs[vs.length - 1 - i]'(by omega), sqT_step sm1 st q, by simp [show vs.length - 1 - i < vs.length by omega]⟩, fun H' _ => Nat.le_refl _, fun i H' x H'' hi _ hy m' S' st sm' hg' => ?_⟩
      obtain ⟨e', hx⟩ := hy
      subst e'
      have hx := hx vs (sqT_step sm1 st q)
      have hlt : xs.length - 1 - i < xs.length := by rw [r.len]; omega
      obtain ⟨u, h4, h5⟩ := r.get (i := xs.length - 1 - i) (d := xs[xs.length - 1 - i]) (by simp [hlt])
      rw [r.len, hx] at h4; cases h4
      refine ⟨xs[xs.length - 1 - i], ?_, sm'.refl, sm', h5.mono sm1 st⟩
      rw [List.getElem?_reverse (by rw [r.len]; exact hi)]
      simp [hlt]
    | fl xs =>
      obtain ⟨a, vs, rfl, q, r⟩ := r1
      refine ⟨a, vs, rfl, .inl ⟨q.l, eo1 _ H1 m1 sm1.refl sm1 ?_⟩⟩
      show Walk (Itv X.K a vs.length) xs.reverse.length _ _
      rw [List.length_reverse, r.len]
      refine ⟨fun i H' hi ⟨m', S', st, sm', hg⟩ => ⟨hi, vs, vs[vs.length - 1 - i]'(by omega), (sqF_step sm1 st q).l, by simp [show vs.length - 1 - i < vs.length by omega]⟩, fun H' _ => Nat.le_refl _, fun i H' x H'' hi _ hy m' S' st sm' hg' => ?_⟩
      obtain ⟨e', hx⟩ := hy
      subst e'
      have hx := hx vs (sqF_step sm1 st q).l
      have hlt : xs.length - 1 - i < xs.length := by rw [r.len]; omega
      obtain ⟨u, h4, h5⟩ := r.get (i := xs.length - 1 - i) (d := xs[xs.length - 1 - i]) (by simp [hlt])
      rw [r.len, hx] at h4; cases h4
      refine ⟨xs[xs.length - 1 - i], ?_, sm'.refl, sm', h5.mono sm1 st⟩
      rw [List.getElem?_reverse (by rw [r.len]; exact hi)]
      simp [hlt]
    | obj n =>
      dsimp only at eo1
      cases z : lstAt S1 n with
      | none => rw [z] at eo1; exact eo1.elim
      | some xs =>
        rw [z] at eo1
        obtain ⟨a, rfl, hma⟩ := r1
        obtain ⟨a', vs, h1, h2, r⟩ := lstAt_ok sm1 z
        rw [hma] at h1; cases h1
        refine ⟨a, vs, rfl, .inl ⟨SqL.of h2, eo1 _ H1 m1 sm1.refl sm1 ?_⟩⟩
        have key : ∀ H' m' S', Step m1 H1 m' H' → Sim X.K G m' S' H' → grdL n xs S' = true → ∃ (us : List V), H' a = some (.lst us) ∧ SVs X.K m' H' xs us := by
          intro H' m' S' st sm' hg
          obtain ⟨a', us, h1, h2, h3⟩ := lstAt_ok sm' (grdL_ok hg)
          rw [st.get hma] at h1; cases h1
          exact ⟨us, h2, h3⟩
        show Walk (Itv X.K a vs.length) xs.reverse.length _ _
        rw [List.length_reverse, ← r.len]
        refine ⟨fun i H' hi ⟨m', S', st, sm', hg⟩ => ?_, fun H' _ => Nat.le_refl _, fun i H' x H'' hi _ hy m' S' st sm' hg' => ?_⟩
        · obtain ⟨us, h3, h4⟩ := key H' m' S' st sm' hg
          have hl := h4.len
          exact ⟨hi, us, us[xs.length - 1 - i]'(by omega), SqL.of h3, by simp [show xs.length - 1 - i < us.length by omega]⟩
        · obtain ⟨us, h3, h4⟩ := key H' m' S' st sm' hg'
          obtain ⟨e', hx⟩ := hy
          subst e'
          have hx := hx us (SqL.of h3)
          have hlt : xs.length - 1 - i < xs.length := by omega
          obtain ⟨u, h5, h6⟩ := h4.get (i := xs.length - 1 - i) (d := xs[xs.length - 1 - i]) (by simp [hlt])
          rw [hx] at h5; cases h5
          refine ⟨xs[xs.length - 1 - i], ?_, sm'.refl, sm', h6⟩
          rw [List.getElem?_reverse hi]
          simp [hlt]
    | _ => exact eo1.elim⟩
end
end DL
set_option Elab.async false
set_option linter.all false
set_option maxRecDepth 100000
set_option maxHeartbeats 4000000
/-! DM6: an own exception whose __init__ says super().__init__(text) and keeps what it got. -/
namespace DL
open PySem PySem.Spec PyProof.Rows L2 PySem.W PySem.Calls
/-- the text of such an __init__ -/
def initBody (prm fld : Str) (txt : Str) (j : Nat) (p0 p1 ap p2 p3 p4 p5 p6 p7 p8 : Pos) : List Stmt :=
  [.Expr (.Call (.Attribute (.Call (.Name "super" p0) [] [] p1) "__init__" ap) [.Constant (.str txt) j p2] [] p3) p4, .Assign [.Attribute (.Name "self" p5) fld p6] (.Name prm p7) p8]
section
variable {prog : Program} {w : World} {K : PySem.W.Frag} {A : Around} {s : Shared} {R : Result → Shared → Prop}
theorem init_raw {f C cc cda a t0 : Addr} {u : Value} {prm fld txt : Str} {j : Nat} {p0 p1 ap p2 p3 p4 p5 p6 p7 p8 : Pos} {name qual : Str} {params : Arguments} {scope : Scope} {dV kV doc pm ct oc ccl cl : Value} {an od cdd cld : Option Addr} {osl ccs csl : Array (Option Value)} {ar : Arg} {vs : Array Value} {file : Str} {tf : Tok} {mg mb : Str → Option Value}
    (X : K.In s.heap) (lim : s.heap.NoLimit) (hroom : A.depth < recursionLimit)
    (hlk : K.lookup f = some ⟨oc, od, .func (ksFn name qual params (initBody prm fld txt j p0 p1 ap p2 p3 p4 p5 p6 p7 p8) scope dV kV doc pm an (.ref cda) ct cc), osl⟩) (hcd : codeIn K (.ref cda) qual = true)
    (hbind : BindsTo s (ksFn name qual params (initBody prm fld txt j p0 p1 ap p2 p3 p4 p5 p6 p7 p8) scope dV kV doc pm an (.ref cda) ct cc) ⟨[.ref a, u], []⟩ [(("self" : Str), .ref a), (prm, u)])
    (hne : (prm == ("self" : Str)) = false) (hcell : ∀ x ∈ scope.names, x.2 ≠ .cell) (hself : scope.names.lookup ("self" : Str) = some .local) (hprm : scope.names.lookup prm = some .local)
    (hco : scope.isCoroutine = false) (hgen : scope.isGenerator = false) (hk : scope.kind = .function) (hks : scope.names.lookup ("super" : Str) = some .globalImplicit) (hkc : scope.names.lookup ("__class__" : Str) = some .free)
    (hp : (params.posonlyargs ++ params.args).head? = some ar) (har : ar.arg = ("self" : Str)) (hcode : K.lookup cda = some ⟨ccl, cdd, .fields vs, ccs⟩) (hvs : vs[2]? = some (.str file tf)) (hfile : ((prog.main.file : Str) == file) = true)
    (htop : (prog.main.scope.names.lookup ("super" : Str)).isSome = false) (hG : s.heap.Ns mainGlobals mg) (hmg : mg ("super" : Str) = none) (hB : s.heap.Ns builtinsNs mb) (hmb : mb ("super" : Str) = some (.type "super"))
    (hcc : K.lookup cc = some ⟨cl, cld, .cell (some (.ref C)), csl⟩) (T : OexC K C) (hsub : mroIn K C (.ref C) = some true) (hop : nsIn K cStatics "thirdparty.any" = some none) (hsup : ks_superIn K C C "__init__" = some (some (.builtin "ValueError.__init__")))
    (hVE : subIn K (.ref C) (.type "ValueError") = some true) (hfld : findIn K (.ref C) fld = some none)
    (he : s.heap.get? a = some ({ cls := .ref C, dict := none, data := .fields #[.ref t0, .none, .none, .none, .bool false, .none] } : Obj))
    (hKa : K.lookup a = none) (hdp : (prm == ("__debug__" : Str)) = false) {pl : Env → Sem Bool}
    (hev : ∀ env : Env, eval (.Call (.Attribute (.Call (.Name "super" p0) [] [] p1) "__init__" ap) [.Constant (.str txt) j p2] [] p3) env = (do
      let ov ← attributeBase (.Call (.Name "super" p0) [] [] p1) "__init__" env (eval (.Call (.Name "super" p0) [] [] p1) env)
      standAt ap.atName
      let (f, first) ← holding [ov] (getMethod ov "__init__" (pl env))
      callWith p3 f first (backTo p3 (starEach [.Constant (.str txt) j p2] env)) []))
    (hsw1 : ∀ env : Env, swapsWith (.Call (.Attribute (.Call (.Name "super" p0) [] [] p1) "__init__" ap) [.Constant (.str txt) j p2] [] p3) none p4.line env = pure false)
    (hsw2 : ∀ env : Env, swapsWith (.Name prm p7) (some (.Attribute (.Name "self" p5) fld p6)) p8.line env = pure false)
    (hR : ∀ h' tk dx t1, (∀ b o, b ≠ a → s.heap.get? b = some o → h'.get? b = some o) → s.heap.objs.size ≤ dx → dx ≠ a → h'.get? a = some ({ cls := .ref C, dict := some dx, data := .fields #[.ref t1, .none, .none, .none, .bool false, .none] } : Obj) →
      (∃ mA, h'.Ns1 dx mA ∧ ∀ y, mA y = if y = fld then some u else none) → R (.ok (.ret .none)) { s with heap := h', toks := tk }) :
    codeAny (model prog w) A (.call (.ref f) ⟨[.ref a, u], []⟩) R s := by
  have hbd := hbind
  refine ks_codeAny_call_defAt (fd := ksFn name qual params (initBody prm fld txt j p0 p1 ap p2 p3 p4 p5 p6 p7 p8) scope dV kV doc pm an (.ref cda) ct cc) (body := initBody prm fld txt j p0 p1 ap p2 p3 p4 p5 p6 p7 p8) (binds := [(("self" : Str), .ref a), (prm, u)]) hroom (X _ _ hlk) rfl lim (codeRec_of X hcd) rfl hbind hcell ?hloc (fun h1 hns1 hk1 => ?_) hco hgen hk
  case hloc =>
    intro x hx
    rcases List.mem_cons.mp hx with rfl | hx
    · exact hself
    · rw [List.mem_singleton.mp hx]; exact hprm
  have X1 : K.In h1 := X.keeps hk1
  have he1 : h1.get? a = some ({ cls := .ref C, dict := none, data := .fields #[.ref t0, .none, .none, .none, .bool false, .none] } : Obj) := hk1 _ _ he
  obtain ⟨nm, q, Nn, bs, bm, sn, sub, ab, col, dd, k0, k1, k2, k3, k5, hC, hbm⟩ := T.cls
  have hcl : clsIn K C = some { name := nm, bases := bs, mro := .ref C :: bm, ns := Nn, qualname := q, hasDict := true, slotNames := sn, subclasses := sub, abstract := ab, collection := col, hasDel := false } := by unfold clsIn; rw [hC] <;> rfl
  have hD1 := X1 _ _ hC
  have vs1 : (fun x => ([(("self" : Str), Value.ref a), (prm, u)]).reverse.lookup x) ("self" : Str) = some (.ref a) := by
    show List.lookup ("self" : Str) [(prm, u), (("self" : Str), Value.ref a)] = _
    rw [List.lookup_cons]
    have : (("self" : Str) == prm) = false := by
      have := hne
      rw [Bool.eq_false_iff] at this ⊢
      intro z
      exact this (by rw [beq_iff_eq] at z ⊢; exact z.symm)
    rw [this]
    rfl
  have vs2 : (fun x => ([(("self" : Str), Value.ref a), (prm, u)]).reverse.lookup x) prm = some u := by
    show List.lookup prm [(prm, u), (("self" : Str), Value.ref a)] = _
    rw [List.lookup_cons, beq_self_eq_true]
  have haC : a ≠ C := fun z => by
    rw [z, hD1] at he1
    cases he1
  refine ks_wpAt_execs_cons (ks_wpAt_Expr_any (ks_wpAt_MethodCall ?_ (hev _)) ?hia (hsw1 _))
  case hia =>
    have ek : (callEnv (ksFn name qual params (initBody prm fld txt j p0 p1 ap p2 p3 p4 p5 p6 p7 p8) scope dV kV doc pm an (.ref cda) ct cc) s.heap.objs.size f).scope.kind = .function := hk
    unfold interactive
    rw [ek]
    rfl
  refine ks_wpAt_super_base (env := callEnv (ksFn name qual params (initBody prm fld txt j p0 p1 ap p2 p3 p4 p5 p6 p7 p8) scope dV kV doc pm an (.ref cda) ct cc) s.heap.objs.size f) hks hkc rfl rfl (X1 _ _ hlk) rfl hp rfl (X1 _ _ hcode) rfl hvs hfile htop ?_
  refine ks_loadName_global hk hks (loadGlobal_builtin (hG.keeps hk1) hmg (hB.keeps hk1) hmb ⟨rfl, ?_⟩)
  refine wpAny_loadName_free hk hkc rfl ⟨_, X1 _ _ hcc, rfl⟩ ?_
  rw [har]
  refine wpAny_loadName_local hk hself hns1 vs1 ?_
  refine ks_wpAny_isType_cls hD1 rfl ⟨rfl, ?_⟩
  refine ks_wpAny_call_super hD1 rfl he1 rfl (fun c e => by cases e) (looks_mroIn X1 hsub) (fun h2 e2 k2 => ?_)
  have X2 : K.In h2 := X1.keeps k2
  have he2 := k2 _ _ he1
  have Ia : InstAt h2 a ({ cls := .ref C, dict := none, data := .fields #[.ref t0, .none, .none, .none, .bool false, .none] } : Obj) C none := ⟨he2, rfl, rfl, trivial⟩
  refine kxs_getMethod kxs_ValueError e2 (looks_opaque X2 hop) (l₀ := .ref C :: bm) (fun A Q E s k q => wpAny_bind ((looks_clsIn X2 hcl) A _ E s k (wpAny_pure q))) rfl X2 ?hf (Ia.type.andThen (looks_subIn X2 hVE)) haC rfl ?_
  case hf =>
    unfold ks_superIn at hsup
    rw [hcl] at hsup
    exact hsup
  -- the bound __init__ at h2's end
  have hu3 : (h2.push (kxs_mw "ValueError.__init__" a)).get? h2.objs.size = some (kxs_mw "ValueError.__init__" a) := Heap.get?_push_at rfl rfl
  have k3' : ∀ b o, h2.get? b = some o → (h2.push (kxs_mw "ValueError.__init__" a)).get? b = some o := fun b o e => Heap.get?_push_of_some _ e
  refine kxs_callWith (i := "ValueError.__init__") (x := a) rfl (evalArgs_plain ?_)
  refine Calls.spliced_cons (@Calls.Constant_str _ _ _ _ _ txt j p2 _ (Calls.spliced_nil ⟨hu3, ?_⟩))
  refine wpAny_call (codeAny_of_tree ?_)
  show wpAny _ _ (callAny (.ref h2.objs.size) ⟨_, []⟩) _ _ _
  simp only [callAny]
  refine wpAny_bind (wpAny_load hu3 ?_)
  simp only [kxs_mw, show (Value.type "method-wrapper" == Value.type "method" || Value.type "method-wrapper" == Value.type "builtin_function_or_method" || Value.type "method-wrapper" == Value.type "method-wrapper") = true by decide, if_true]
  refine KFB.if_so (by decide) ?_
  refine wpAny_bind (check_bound_init F.excBase_ValueError.toExcCallFacts (k3' _ _ (X2 _ _ hC)) (k3' _ _ he2) rfl ?_)
  refine wpAny_bind (wpAny_pure (wpAny_pure ?_))
  refine ⟨plainId_quiet F.excBase_ValueError.init.plain _, codeAny_builtin F.excBase_ValueError.initEntry ?_⟩
  refine exc_init_tree (cls := .ref C) (t0 := t0) (dv := none) (c2 := .none) (c3 := .none) (b4 := .bool false) (k3' _ _ he2) (by simp [sizeLine_eq]) fun h4 k4 e4 _ => ?_
  have halt : a < s.heap.objs.size := Heap.lt_size he
  have kk : ∀ b o, b ≠ a → h1.get? b = some o → h4.get? b = some o := fun b o hb e => k4 b o hb (k3' _ _ (k2 _ _ e))
  have X4 : K.In h4 := fun b o e => kk b o (fun z => by rw [z, hKa] at e; cases e) (X1 b o e)
  have hns4 : h4.Ns s.heap.objs.size (fun x => ([(("self" : Str), Value.ref a), (prm, u)]).reverse.lookup x) := by
    obtain ⟨oL, es, ep, hoL, r⟩ := hns1
    exact ⟨oL, es, ep, kk _ _ (Nat.ne_of_gt halt) hoL, r⟩
  refine ks_wpAt_execs_cons (ks_wpAt_Assign_Attr (wpAt_of_wpAny (wpAny_Name (wpAny_loadName_local hk hprm hns4 vs2 ?_) hdp)) (hsw2 _))
  refine wpAny_Name (wpAny_loadName_local hk hself hns4 vs1 ?_) rfl
  refine PySem.W.set_plain X4 (ox := { cls := .ref C, dict := none, data := .fields #[.ref _, .none, .none, .none, .bool false, .none] }) (od := none) ⟨e4, rfl, rfl, trivial⟩ T.sa ?_
  refine PySem.HandSPX.exc_osa X4 e4 hcl (show PySem.HandSPX.refsVE (.ref C :: bm) = true from hbm) rfl hfld (fun h' tk' dx k dn dne hx hn => ?_)
  show PySem.wpAt _ _ _ (execs [] _) _ _ _
  rw [execs_nil]
  refine wpAt_of_wpAny (wpAny_pure ?_)
  have sz4 : s.heap.objs.size ≤ h4.objs.size := by
    obtain ⟨oL, es, ep, hoL, r⟩ := hns4
    exact Nat.le_of_lt (Heap.lt_size hoL)
  exact hR h' tk' dx _ (fun b o hb e => k b o hb (kk b o hb (hk1 b o e))) (Nat.le_trans sz4 dn) dne hx ⟨_, hn, fun y => rfl⟩
end
end DL
set_option Elab.async false
set_option linter.all false
set_option maxRecDepth 100000
set_option maxHeartbeats 4000000
/-! DM7: raise of such an exception. -/
namespace DL
open PySem PySem.Spec PyProof.Rows L2 PySem.W PySem.Calls
/-- what the written part says of a class whose __init__ is of that text -/
structure SupC (K : PySem.W.Frag) (prog : Program) (C : Addr) (fld : Str) : Prop where
  T : OexC K C
  ex : ∃ (f cc cda : Addr) (prm txt : Str) (j : Nat) (p0 p1 ap p2 p3 p4 p5 p6 p7 p8 : Pos) (name qual : Str) (params : Arguments) (scope : Scope) (dV kV doc pm ct oc ccl cl : Value) (an od cdd cld : Option Addr) (osl ccs csl : Array (Option Value)) (ar : Arg) (vs : Array Value) (file : Str) (tf : Tok) (pl : Env → Sem Bool),
    findIn K (.ref C) "__init__" = some (some (.ref f)) ∧ typeIn K (.ref f) = some (.type "function") ∧
    K.lookup f = some ⟨oc, od, .func (ksFn name qual params (initBody prm fld txt j p0 p1 ap p2 p3 p4 p5 p6 p7 p8) scope dV kV doc pm an (.ref cda) ct cc), osl⟩ ∧ codeIn K (.ref cda) qual = true ∧
    (∀ u v : Value, bindArgs (ksFn name qual params (initBody prm fld txt j p0 p1 ap p2 p3 p4 p5 p6 p7 p8) scope dV kV doc pm an (.ref cda) ct cc) ⟨[u, v], []⟩ = pure [(("self" : Str), u), (prm, v)]) ∧
    (prm == ("self" : Str)) = false ∧ (∀ x ∈ scope.names, x.2 ≠ .cell) ∧ scope.names.lookup ("self" : Str) = some .local ∧ scope.names.lookup prm = some .local ∧
    scope.isCoroutine = false ∧ scope.isGenerator = false ∧ scope.kind = .function ∧ scope.names.lookup ("super" : Str) = some .globalImplicit ∧ scope.names.lookup ("__class__" : Str) = some .free ∧
    (params.posonlyargs ++ params.args).head? = some ar ∧ ar.arg = ("self" : Str) ∧ K.lookup cda = some ⟨ccl, cdd, .fields vs, ccs⟩ ∧ vs[2]? = some (.str file tf) ∧ ((prog.main.file : Str) == file) = true ∧
    (prog.main.scope.names.lookup ("super" : Str)).isSome = false ∧ K.lookup cc = some ⟨cl, cld, .cell (some (.ref C)), csl⟩ ∧ mroIn K C (.ref C) = some true ∧ nsIn K cStatics "thirdparty.any" = some none ∧
    ks_superIn K C C "__init__" = some (some (.builtin "ValueError.__init__")) ∧ subIn K (.ref C) (.type "ValueError") = some true ∧ findIn K (.ref C) fld = some none ∧ (prm == ("__debug__" : Str)) = false ∧
    (∀ env : Env, eval (.Call (.Attribute (.Call (.Name "super" p0) [] [] p1) "__init__" ap) [.Constant (.str txt) j p2] [] p3) env = (do
      let ov ← attributeBase (.Call (.Name "super" p0) [] [] p1) "__init__" env (eval (.Call (.Name "super" p0) [] [] p1) env)
      standAt ap.atName
      let (f, first) ← holding [ov] (getMethod ov "__init__" (pl env))
      callWith p3 f first (backTo p3 (starEach [.Constant (.str txt) j p2] env)) [])) ∧
    (∀ env : Env, swapsWith (.Call (.Attribute (.Call (.Name "super" p0) [] [] p1) "__init__" ap) [.Constant (.str txt) j p2] [] p3) none p4.line env = pure false) ∧
    (∀ env : Env, swapsWith (.Name prm p7) (some (.Attribute (.Name "self" p5) fld p6)) p8.line env = pure false)
theorem boot_super : bootBuiltins "super" = some (.type "super") := by decide +kernel
def tMkS (C : Addr) (fld : Str) (ta : TA) : L2.St → Hp → XK → Prop := fun σ H Q => ta σ H fun vs H1 => ∃ v, vs = [v] ∧ ∀ dx, H1 dx = none → Q (.ref C) (some dx) (upd H1 dx (.xd [(fld, v)]))
theorem pmk_sup {X : Cx} {x fld : Str} {C : Addr} {k : Nat} {e : Expr} {ta : TA} {p pos : Pos} (SC : SupC X.K X.prog C fld) (hr : Room (k + 1) X.A) (hg : Gl X x) (hm : X.mg x = some (.ref C)) (hms : X.mg "super" = none) (ha : PA X [e] ta)
    (hdb : (x == ("__debug__" : Str)) = false := by decide) (he : starEach [e] X.env = (false, eval e X.env) :: starEach [] X.env := by rfl) (hpl : (backTo pos (starEach [] X.env)).any (·.1) = false := by rfl) :
    PMk X (.Call (.Name x p) [e] [] pos) (tMkS C fld ta) := by
  intro pins s σ H Q I h
  have T := SC.T
  obtain ⟨fI, cc, cda, prm, txt, j, p0, p1, ap, p2, p3, p4, p5, p6, p7, p8, name, qual, params, scope, dV, kV, doc, pm, ct, oc, ccl, cl, an, od, cdd, cld, osl, ccs, csl, ar, vsC, file, tf, pl, iC, tI, hlk, hcd, hbind, hne, hcell, hself, hprm, hco, hgen, hk, hks, hkc, hp, har, hcode, hvs, hfile, htop, hcc, hsub, hop, hsup, hVE, hfld, hdp, hev, hsw1, hsw2⟩ := SC.ex
  obtain ⟨nm, q, N, bs, bm, sn, sub, ab, col, dd, k0, k1, k2, k3, k5, hC, hbm⟩ := T.cls
  refine wpAny_Call_Name_kw (ld_glob I hg hm ?_ hdb)
  refine PySem.W.callWith_K (h₀ := X.base) I.ok.mod.kin T.kC (thn (ha.run pos pins s σ H _ I h) fun us s1 ⟨vs, H1, I1, r1, q1⟩ => ⟨I1.kIn, ?_⟩) he hpl
  show wpAny _ _ (call (.ref C) us) _ _ _
  obtain ⟨v, rfl, q1⟩ := q1
  obtain ⟨u, ru, eu⟩ : ∃ u, RelV v u ∧ us = [u] := by
    cases r1 with
    | cons ru r2 => cases r2; exact ⟨_, ru, rfl⟩
  subst eu
  obtain ⟨hp1, g, dr, tk, os⟩ := s1
  have hsz : hp1.objs.size ≤ hp1.objs.size + 1 := Nat.le_succ _
  have hn : H1 (hp1.objs.size + 1) = none := I1.hok.fresh hsz
  have kk : ∀ b o, hp1.get? b = some o → ((hp1.push (PySem.W.kdv_tup [u])).push (PySem.HandSPX.excO C hp1.objs.size)).get? b = some o := fun b o e => Heap.get?_push_of_some _ (Heap.get?_push_of_some _ e)
  have hget : ((hp1.push (PySem.W.kdv_tup [u])).push (PySem.HandSPX.excO C hp1.objs.size)).get? (hp1.objs.size + 1) = some (PySem.HandSPX.excO C hp1.objs.size) := by heap_get
  have I2 : Inv X pins σ (upd H1 (hp1.objs.size + 1) (exo (hp1.objs.size + 1) C none)) ⟨(hp1.push (PySem.W.kdv_tup [u])).push (PySem.HandSPX.excO C hp1.objs.size), g, dr, tk, os⟩ :=
    I1.laid (t' := tk) (a := hp1.objs.size + 1) (o := exo (hp1.objs.size + 1) C none) (h' := (hp1.push (PySem.W.kdv_tup [u])).push (PySem.HandSPX.excO C hp1.objs.size)) kk hsz (exo_ok hget)
  obtain ⟨mb, hb1, hb2⟩ := I1.mod.blt
  have hKa : X.K.lookup (hp1.objs.size + 1) = none := by
    cases z : X.K.lookup (hp1.objs.size + 1) with
    | none => rfl
    | some o => exact absurd (Heap.lt_size (I1.kIn _ _ z)) (by show ¬ hp1.objs.size + 1 < hp1.objs.size; omega)
  refine wpAny_call (PySem.HandSPX.call_own F.excBase_ValueError (fun Y => PySem.HandSPX.refsVE_contains Y bm hbm) (I1.kIn _ _ hC) (PySem.W.looks_findIn I1.kIn iC) (fun self => PySem.W.bind_fn I1.kIn self tI) (by simp [sizeLine_eq]) ?_)
  refine init_raw (mg := X.mg) (mb := mb) I2.kIn I2.nolimit (hr.make C [u] []).depth hlk hcd (BindsTo.of_eq (hbind _ _)) hne hcell hself hprm hco hgen hk hks hkc hp har hcode hvs hfile htop ((I2.mod.glob.keeps I2.bk)) hms (hb1.keeps I2.bk) ((hb2 _ (by decide)).trans boot_super) hcc T hsub hop hsup hVE hfld hget hKa hdp hev hsw1 hsw2 ?_
  intro h' tk' dx t1 kp hdx hda hx hnA
  obtain ⟨mA, hn1, hmA⟩ := hnA
  have hdx' : hp1.objs.size ≤ dx := by
    have e1 : ((hp1.push (PySem.W.kdv_tup [u])).push (PySem.HandSPX.excO C hp1.objs.size)).objs.size = hp1.objs.size + 1 + 1 := by rw [Heap.size_push, Heap.size_push]
    have : ((hp1.push (PySem.W.kdv_tup [u])).push (PySem.HandSPX.excO C hp1.objs.size)).objs.size ≤ dx := hdx
    exact Nat.le_trans (by omega) this
  have hd1 : H1 dx = none := I1.hok.fresh hdx'
  have hd2 : upd H1 (hp1.objs.size + 1) (exo (hp1.objs.size + 1) C none) dx = none := I2.hok.fresh hdx
  have ea0 : upd H1 (hp1.objs.size + 1) (exo (hp1.objs.size + 1) C none) (hp1.objs.size + 1) = some (exo (hp1.objs.size + 1) C none) := upd_same
  generalize hA : hp1.objs.size + 1 = aa at *
  generalize hH : upd H1 aa (exo aa C none) = Ha at *
  generalize hh2 : (hp1.push (PySem.W.kdv_tup [u])).push (PySem.HandSPX.excO C hp1.objs.size) = h2 at *
  have na : ∀ {b : Addr}, Ha b = none → b ≠ aa := fun {b} n z => by
    rw [z, ea0] at n
    cases n
  have nd : ∀ {b : Addr} {o : Obj}, h2.get? b = some o → b ≠ dx := fun {b o} e => Nat.ne_of_lt (Nat.lt_of_lt_of_le (Heap.lt_size e) hdx)
  have un2 : Un (frs X.stack) [] Ha (upd (upd Ha dx (exd dx [(fld, v)])) aa (exo aa C (some dx))) h2 h' := {
    keep := fun b o e n _ _ => kp b o (na n) e
    slot := fun b o e n _ _ => ⟨o.slots, kp b o (na n) e⟩
    free := fun b o e n _ => by rw [upd_ne (na n), upd_ne (nd e)]; exact n
    there := fun b o e _ => by
      by_cases hb : b = aa
      · exact ⟨_, by rw [hb]; exact hx⟩
      · exact ⟨o, kp b o hb e⟩
    tups := fun b xs e => by rw [upd_ne (at_ne ea0 e exo_tup), upd_ne (ne_of_none e hd2)]; exact e
    frzs := fun b o z e => by rw [upd_ne (at_ne ea0 e exo_frz), upd_ne (ne_of_none e hd2)]; exact e
    tbls := fun b ps e => ⟨#[], by rw [upd_ne (at_ne ea0 e exo_tbl), upd_ne (ne_of_none e hd2), e]; simp⟩ }
  have hok2 : HOk X.prog X.w (upd (upd Ha dx (exd dx [(fld, v)])) aa (exo aa C (some dx))) h' := by
    intro b o e
    by_cases hb : b = aa
    · rw [hb, upd_same] at e
      cases e
      rw [hb]
      exact exo_ok hx
    · rw [upd_ne hb] at e
      by_cases hd : b = dx
      · rw [hd, upd_same] at e
        cases e
        rw [hd]
        refine exd_ok hn1 fun y => ?_
        rw [hmA y]
        exact relO_put (fs := []) (mA := fun _ => none) ru (fun g => True.intro) y
      · rw [upd_ne hd] at e
        refine (I2.hok b o e).stay (fun c z hc e3 => kp c z ?_ e3) (fun c hc => by rw [upd_ne (at_ne ea0 hc exo_own), upd_ne (ne_of_none hc hd2)]; exact hc) (fun c xs hc => by rw [upd_ne (at_ne ea0 hc exo_tup), upd_ne (ne_of_none hc hd2)]; exact hc)
        rcases hc with hc | hc
        · rw [hc]; exact hb
        · exact at_ne ea0 hc exo_own
  have eaF : upd (upd Ha dx (exd dx [(fld, v)])) aa (exo aa C (some dx)) aa = some (exo aa C (some dx)) := upd_same
  have edF : upd (upd Ha dx (exd dx [(fld, v)])) aa (exo aa C (some dx)) dx = some (exd dx [(fld, v)]) := by rw [upd_ne hda, upd_same]
  subst hH
  refine ⟨rfl, mk_end (raises_own T.exC T.tyC) I1 hsz kk un2 hok2 rfl I1.bare eaF edF hd1 ?_⟩
  have eH : upd (del (upd (upd (upd H1 aa (exo aa C none)) dx (exd dx [(fld, v)])) aa (exo aa C (some dx))) aa) dx (.xd [(fld, v)]) = upd H1 dx (.xd [(fld, v)]) := by
    funext b
    by_cases h1 : b = dx
    · rw [h1, upd_same, upd_same]
    · rw [upd_ne h1, upd_ne h1]
      by_cases h2 : b = aa
      · rw [h2, del_same, hn]
      · rw [del_ne h2, upd_ne h2, upd_ne h1, upd_ne h2]
  rw [eH]
  exact q1 dx hd1
/-- raise C(e) -/
def dRaiseI (c : String) (fe : DE) : DS := fun ρ S => liftS (fe ρ S) ρ fun _ S1 => .exn ⟨c⟩ ρ S1
section
variable {X : Cx} {G : Gx} {W : WX} {e : Expr} {fe : DE} {p pos pos' : Pos}
theorem js_raiseI {x fld : Str} {c : String} {k : Nat} (hc : X.calm = true) (tk : Takes X W) (SC : SupC X.K X.prog (G.cA c) fld) (hr : Room (k + 1) X.A) (hm : X.mg x = some (.ref (G.cA c))) (hms : X.mg "super" = none) (he : JE X G W e fe) (hg : Gl X x := by rfl)
    (hdb : (x == ("__debug__" : Str)) = false := by decide) (hs : starEach [e] X.env = (false, eval e X.env) :: starEach [] X.env := by rfl) (hpl : (backTo pos (starEach [] X.env)).any (·.1) = false := by rfl) :
    JS X G W (.Raise (some (.Call (.Name x p) [e] [] pos)) none pos') (dRaiseI c fe) :=
  PS.imp (ps_raise hc tk (pmk_sup SC hr hg hm hms (ja_cons he ja_nil hs) hdb hs hpl)) fun E σ H ⟨m, ρ, S, sr, sm, q⟩ => ⟨m, ρ, S, sr, sm, by
    unfold daCons daNil
    unfold dRaiseI at q
    cases z : fe ρ S with
    | bad => rw [z] at q; exact q.elim
    | exn x S1 => rw [z] at q; exact fun cls dx H' m' st sm' xo => q cls dx σ H' m' st sm' (sr.mono sm st) xo
    | ok d S1 =>
      rw [z] at q
      simp only [Out.bind_ok] at q ⊢
      intro vs H1 m1 st1 sm1 r1
      obtain ⟨v, rfl, rv⟩ := svs1 r1
      exact ⟨v, rfl, fun dx hdx => q _ _ σ _ m1 (st1.trans (Step.beside sm1 hdx)) (sm1.beside hdx) ((sr.mono sm st1).mono sm1 (Step.beside sm1 hdx)) rfl⟩⟩
end
end DL
set_option Elab.async false
set_option linter.all false
set_option maxRecDepth 100000
set_option maxHeartbeats 4000000
/-! DM8: the written part asked for such a class. -/
namespace DL
open PySem PySem.Spec PyProof.Rows L2 PySem.W PySem.Calls
def exName : Expr → Option (Str × Pos)
  | .Name x p => some (x, p)
  | _ => none
def exCall : Expr → Option (Expr × List Expr × List Keyword × Pos)
  | .Call f as ks p => some (f, as, ks, p)
  | _ => none
def exAttr : Expr → Option (Expr × Str × Pos)
  | .Attribute o n p => some (o, n, p)
  | _ => none
def exStr : Expr → Option (Str × Nat × Pos)
  | .Constant (.str x) j p => some (x, j, p)
  | _ => none
def stExpr : Stmt → Option (Expr × Pos)
  | .Expr e p => some (e, p)
  | _ => none
def stAsg : Stmt → Option (List Expr × Expr × Pos)
  | .Assign ts e p => some (ts, e, p)
  | _ => none
theorem exName_ok {e : Expr} {x : Str} {p : Pos} (h : exName e = some (x, p)) : e = .Name x p := by
  unfold exName at h; split at h
  · cases h; rfl
  · cases h
theorem exCall_ok {e f : Expr} {as : List Expr} {ks : List Keyword} {p : Pos} (h : exCall e = some (f, as, ks, p)) : e = .Call f as ks p := by
  unfold exCall at h; split at h
  · cases h; rfl
  · cases h
theorem exAttr_ok {e o : Expr} {n : Str} {p : Pos} (h : exAttr e = some (o, n, p)) : e = .Attribute o n p := by
  unfold exAttr at h; split at h
  · cases h; rfl
  · cases h
theorem exStr_ok {e : Expr} {x : Str} {j : Nat} {p : Pos} (h : exStr e = some (x, j, p)) : e = .Constant (.str x) j p := by
  unfold exStr at h; split at h
  · cases h; rfl
  · cases h
theorem stExpr_ok {s : Stmt} {e : Expr} {p : Pos} (h : stExpr s = some (e, p)) : s = .Expr e p := by
  unfold stExpr at h; split at h
  · cases h; rfl
  · cases h
theorem stAsg_ok {s : Stmt} {ts : List Expr} {e : Expr} {p : Pos} (h : stAsg s = some (ts, e, p)) : s = .Assign ts e p := by
  unfold stAsg at h; split at h
  · cases h; rfl
  · cases h
/-- the first row: super().__init__(txt) -/
def part1 (s : Stmt) : Option (Str × Nat × Pos × Pos × Pos × Pos × Pos × Pos) :=
  (stExpr s).bind fun (e, p4) => (exCall e).bind fun (f, as, ks, p3) => (exAttr f).bind fun (o, n, ap) => (exCall o).bind fun (f2, as2, ks2, p1) => (exName f2).bind fun (n2, p0) => match as, ks, as2, ks2 with
    | [c], [], [], [] => (exStr c).bind fun (t, j, p2) => if n = ("__init__" : Str) ∧ n2 = ("super" : Str) then some (t, j, p0, p1, ap, p2, p3, p4) else none
    | _, _, _, _ => none
theorem part1_ok {s : Stmt} {t : Str} {j : Nat} {p0 p1 ap p2 p3 p4 : Pos} (h : part1 s = some (t, j, p0, p1, ap, p2, p3, p4)) : s = .Expr (.Call (.Attribute (.Call (.Name "super" p0) [] [] p1) "__init__" ap) [.Constant (.str t) j p2] [] p3) p4 := by
  unfold part1 at h
  obtain ⟨⟨e, q4⟩, h1, h⟩ := Option.bind_eq_some_iff.mp h
  obtain ⟨⟨f, as, ks, q3⟩, h2, h⟩ := Option.bind_eq_some_iff.mp h
  obtain ⟨⟨o, n, aq⟩, h3, h⟩ := Option.bind_eq_some_iff.mp h
  obtain ⟨⟨f2, as2, ks2, q1⟩, h4, h⟩ := Option.bind_eq_some_iff.mp h
  obtain ⟨⟨n2, q0⟩, h5, h⟩ := Option.bind_eq_some_iff.mp h
  dsimp only at h
  split at h
  · obtain ⟨⟨t', j', q2⟩, h6, h⟩ := Option.bind_eq_some_iff.mp h
    dsimp only at h
    split at h
    · rename_i hc
      cases h
      rw [stExpr_ok h1, exCall_ok h2, exAttr_ok h3, exCall_ok h4, exName_ok h5, exStr_ok h6, hc.1, hc.2]
    · cases h
  · cases h
/-- the second: self.fld = prm -/
def part2 (s : Stmt) : Option (Str × Str × Pos × Pos × Pos × Pos) :=
  (stAsg s).bind fun (ts, e, p8) => (exName e).bind fun (prm, p7) => match ts with
    | [t] => (exAttr t).bind fun (o, fld, p6) => (exName o).bind fun (n, p5) => if n = ("self" : Str) then some (prm, fld, p5, p6, p7, p8) else none
    | _ => none
theorem part2_ok {s : Stmt} {prm fld : Str} {p5 p6 p7 p8 : Pos} (h : part2 s = some (prm, fld, p5, p6, p7, p8)) : s = .Assign [.Attribute (.Name "self" p5) fld p6] (.Name prm p7) p8 := by
  unfold part2 at h
  obtain ⟨⟨ts, e, q8⟩, h1, h⟩ := Option.bind_eq_some_iff.mp h
  obtain ⟨⟨prm', q7⟩, h2, h⟩ := Option.bind_eq_some_iff.mp h
  dsimp only at h
  split at h
  · obtain ⟨⟨o, fld', q6⟩, h3, h⟩ := Option.bind_eq_some_iff.mp h
    obtain ⟨⟨n, q5⟩, h4, h⟩ := Option.bind_eq_some_iff.mp h
    dsimp only at h
    split at h
    · rename_i hc
      cases h
      have h4' : exName o = some (n, p5) := h4
      rw [stAsg_ok h1, exName_ok h2, exAttr_ok h3, exName_ok h4', hc]
    · cases h
  · cases h
/-- the text's parts -/
def parts (b : List Stmt) : Option (List Str × Nat × List Pos) := match b with
  | [s1, s2] => (part1 s1).bind fun (t, j, p0, p1, ap, p2, p3, p4) => (part2 s2).map fun (prm, fld, p5, p6, p7, p8) => ([t, prm, fld], j, [p0, p1, ap, p2, p3, p4, p5, p6, p7, p8])
  | _ => none
theorem parts_ok {b : List Stmt} {prm fld txt : Str} {j : Nat} {p0 p1 ap p2 p3 p4 p5 p6 p7 p8 : Pos} (h : parts b = some ([txt, prm, fld], j, [p0, p1, ap, p2, p3, p4, p5, p6, p7, p8])) : b = initBody prm fld txt j p0 p1 ap p2 p3 p4 p5 p6 p7 p8 := by
  unfold parts at h
  split at h
  · rename_i s1 s2
    obtain ⟨⟨t, j', q0, q1, aq, q2, q3, q4⟩, h1, h⟩ := Option.bind_eq_some_iff.mp h
    cases z : part2 s2 with
    | none => rw [z] at h; cases h
    | some b =>
      obtain ⟨prm', fld', q5, q6, q7, q8⟩ := b
      rw [z] at h
      cases h
      rw [part1_ok h1, part2_ok z]
      rfl
  · cases h
def paramsB (prm : Str) (p : Arguments) : Bool := match p.posonlyargs, p.args, p.vararg, p.kwonlyargs, p.kw_defaults, p.kwarg, p.defaults with
  | [], [a, b], none, [], [], none, [] => decide (a.arg = ("self" : Str)) && decide (b.arg = prm)
  | _, _, _, _, _, _, _ => false
theorem paramsB_ok {prm : Str} {p : Arguments} (h : paramsB prm p = true) : ∃ a1 q1 a2 q2, p = ⟨[], [⟨"self", a1, q1⟩, ⟨prm, a2, q2⟩], none, [], [], none, []⟩ := by
  obtain ⟨x1, x2, x3, x4, x5, x6, x7⟩ := p
  unfold paramsB at h
  dsimp only at h
  split at h
  · rename_i a b
    rw [Bool.and_eq_true] at h
    obtain ⟨n1, a1, q1⟩ := a
    obtain ⟨n2, a2, q2⟩ := b
    have e1 := of_decide_eq_true h.1
    have e2 := of_decide_eq_true h.2
    dsimp only at e1 e2
    subst e1 e2
    exact ⟨a1, q1, a2, q2, rfl⟩
  · cases h
def scopeB (prm : Str) (sc : Scope) : Bool := decide (∀ x ∈ sc.names, x.2 ≠ .cell) && (decide (sc.names.lookup ("self" : Str) = some .local) && (decide (sc.names.lookup prm = some .local) && (decide (sc.isCoroutine = false) && (decide (sc.isGenerator = false) && (decide (sc.kind = .function) && (decide (sc.names.lookup ("super" : Str) = some .globalImplicit) && decide (sc.names.lookup ("__class__" : Str) = some .free)))))))
/-- the code object tells the file -/
def fileB (K : PySem.W.Frag) (prog : Program) (cda : Addr) : Bool := match K.lookup cda with
  | some ⟨_, _, .fields vs, _⟩ => (match vs[2]? with
    | some (Value.str file _) => ((prog.main.file : Str) == file)
    | _ => false)
  | _ => false
theorem fileB_ok {K : PySem.W.Frag} {prog : Program} {cda : Addr} (h : fileB K prog cda = true) : ∃ ccl cdd vs ccs file tf, K.lookup cda = some ⟨ccl, cdd, .fields vs, ccs⟩ ∧ vs[2]? = some (.str file tf) ∧ ((prog.main.file : Str) == file) = true := by
  unfold fileB at h
  split at h
  · rename_i a b vs c e
    split at h
    · rename_i file tf e2
      exact ⟨a, b, vs, c, file, tf, e, e2, h⟩
    · cases h
  · cases h
def cellB (K : PySem.W.Frag) (cc C : Addr) : Bool := match K.lookup cc with
  | some ⟨_, _, .cell (some v), _⟩ => decide (v = .ref C)
  | _ => false
theorem cellB_ok {K : PySem.W.Frag} {cc C : Addr} (h : cellB K cc C = true) : ∃ cl cld csl, K.lookup cc = some ⟨cl, cld, .cell (some (.ref C)), csl⟩ := by
  unfold cellB at h
  split at h
  · rename_i a b v c e
    have e2 := of_decide_eq_true h
    subst e2
    exact ⟨a, b, c, e⟩
  · cases h
/-- the class at C: its own __init__ is of the text b -/
def supB (K : PySem.W.Frag) (prog : Program) (C : Addr) (prm fld : Str) (b : List Stmt) : Bool :=
  PySem.W.excInitIn K C [.type "ValueError", .type "Exception", .type "BaseException", .type "object"] "ValueError.__new__" && (match K.lookup (He.ma K C "__init__") with
    | some ⟨_, _, .func fd, _⟩ => (match fd.body, fd.closure, fd.code with
      | .stmts b', [(x, cc)], .ref cda => decide (parts b' = parts b) && (decide (x = ("__class__" : Str)) && (paramsB prm fd.params && (scopeB prm fd.scope && (decide (fd.globals = mainGlobals) && (decide (fd.builtins = builtinsNs) && (decide (fd.defaults = .none) && (codeIn K (.ref cda) fd.qualname && (fileB K prog cda && cellB K cc C))))))))
      | _, _, _ => false)
    | _ => false)
theorem supB_ok {K : PySem.W.Frag} {prog : Program} {C : Addr} {prm fld txt : Str} {j : Nat} {p0 p1 ap p2 p3 p4 p5 p6 p7 p8 : Pos} {b : List Stmt} {pl : Env → Sem Bool} (T : OexC K C) (h : supB K prog C prm fld b = true) (hb : parts b = some ([txt, prm, fld], j, [p0, p1, ap, p2, p3, p4, p5, p6, p7, p8]))
    (hi : findIn K (.ref C) "__init__" = some (some (.ref (He.ma K C "__init__")))) (ht : typeIn K (.ref (He.ma K C "__init__")) = some (.type "function"))
    (hbind : ∀ (name qual : Str) (body : List Stmt) (scope : Scope) (kV doc pm : Value) (an : Option Addr) (cdv ct : Value) (cc : Addr) (a1 : Option Expr) (q1 : Pos) (a2 : Option Expr) (q2 : Pos) (u v : Value), bindArgs (ksFn name qual ⟨[], [⟨"self", a1, q1⟩, ⟨prm, a2, q2⟩], none, [], [], none, []⟩ body scope .none kV doc pm an cdv ct cc) ⟨[u, v], []⟩ = pure [(("self" : Str), u), (prm, v)])
    (hne : (prm == ("self" : Str)) = false) (hdp : (prm == ("__debug__" : Str)) = false) (htop : (prog.main.scope.names.lookup ("super" : Str)).isSome = false) (hsub : mroIn K C (.ref C) = some true) (hop : nsIn K cStatics "thirdparty.any" = some none)
    (hsup : ks_superIn K C C "__init__" = some (some (.builtin "ValueError.__init__"))) (hVE : subIn K (.ref C) (.type "ValueError") = some true) (hfld : findIn K (.ref C) fld = some none)
    (hev : ∀ env : Env, eval (.Call (.Attribute (.Call (.Name "super" p0) [] [] p1) "__init__" ap) [.Constant (.str txt) j p2] [] p3) env = (do
      let ov ← attributeBase (.Call (.Name "super" p0) [] [] p1) "__init__" env (eval (.Call (.Name "super" p0) [] [] p1) env)
      standAt ap.atName
      let (f, first) ← holding [ov] (getMethod ov "__init__" (pl env))
      callWith p3 f first (backTo p3 (starEach [.Constant (.str txt) j p2] env)) []))
    (hsw1 : ∀ env : Env, swapsWith (.Call (.Attribute (.Call (.Name "super" p0) [] [] p1) "__init__" ap) [.Constant (.str txt) j p2] [] p3) none p4.line env = pure false)
    (hsw2 : ∀ env : Env, swapsWith (.Name prm p7) (some (.Attribute (.Name "self" p5) fld p6)) p8.line env = pure false) : SupC K prog C fld := by
  refine ⟨T, ?_⟩
  unfold supB at h
  rw [Bool.and_eq_true] at h
  have h := h.2
  generalize hf : He.ma K C "__init__" = f at *
  split at h
  · rename_i oc od fd osl lk
    split at h
    · rename_i b' x cc cda e1 e2 e3
      simp only [Bool.and_eq_true] at h
      obtain ⟨c1, c2, c3, c4, c5, c6, c7, c8, c9, c10⟩ := h
      have d1 := of_decide_eq_true c1
      clear c1
      have d2 := of_decide_eq_true c2
      clear c2
      have d5 := of_decide_eq_true c5
      clear c5
      have d6 := of_decide_eq_true c6
      clear c6
      have d7 := of_decide_eq_true c7
      clear c7
      rw [hb] at d1
      have eb := parts_ok d1
      obtain ⟨a1, q1, a2, q2, ep⟩ := paramsB_ok c3
      unfold scopeB at c4
      simp only [Bool.and_eq_true, decide_eq_true_eq] at c4
      obtain ⟨s1, s2, s3, s4, s5, s6, s7, s8⟩ := c4
      obtain ⟨ccl, cdd, vs, ccs, file, tf, f1, f2, f3⟩ := fileB_ok c9
      obtain ⟨cl, cld, csl, g1⟩ := cellB_ok c10
      obtain ⟨n1, n2, n3, n4, n5, n6, n7, n8, n9, n10, n11, n12, n13, n14, n15⟩ := fd
      dsimp only at e1 e2 e3 c3 d5 d6 d7 c8 ep s1 s2 s3 s4 s5 s6 s7 s8
      subst e1 e2 e3 d2 d5 d6 d7 ep eb
      exact ⟨f, cc, cda, prm, txt, j, p0, p1, ap, p2, p3, p4, p5, p6, p7, p8, n1, n2, _, n5, .none, n9, n10, n11, n14, oc, ccl, cl, n12, od, cdd, cld, osl, ccs, csl, ⟨"self", a1, q1⟩, vs, file, tf, pl,
        hi, ht, lk, c8, fun u v => hbind _ _ _ _ _ _ _ _ _ _ _ _ _ _ _ u v, hne, s1, s2, s3, s4, s5, s6, s7, s8, rfl, rfl, f1, f2, f3, htop, g1, hsub, hop, hsup, hVE, hfld, hdp, hev, hsw1, hsw2⟩
    · cases h
  · cases h
end DL
set_option Elab.async false
set_option linter.all false
set_option maxRecDepth 100000
set_option maxHeartbeats 4000000
/-! DM9: the whole look at such a class; tuples of the top. -/
namespace DL
open PySem PySem.Spec PyProof.Rows L2 PySem.W PySem.Calls
def oexB (K : PySem.W.Frag) (C : Addr) : Bool := (match K.lookup C with
  | some ⟨c, _, .cls cd, sl⟩ => decide (c = .type "type") && (match cd.mro, sl.toList with
    | .ref C' :: bm, [_, _, _, _, some (.builtin n), _] => decide (C' = C) && (decide (n = "ValueError.__new__") && (!cd.hasDel && (cd.hasDict && PySem.HandSPX.refsVE bm)))
    | _, _ => false)
  | _ => false) && (decide (findIn K (.ref C) "__setattr__" = some (some (.builtin "object.__setattr__"))) && (decide (subIn K (.ref C) (.type "BaseException") = some true) && (decide (typeIn K (.ref C) = some (.type "type")) && keepIn K (.ref C))))
theorem oexB_ok {K : PySem.W.Frag} {C : Addr} (h : oexB K C = true) : OexC K C := by
  unfold oexB at h
  rw [Bool.and_eq_true] at h
  obtain ⟨h1, h2⟩ := h
  simp only [Bool.and_eq_true, decide_eq_true_eq] at h2
  obtain ⟨a1, a2, a3, a4⟩ := h2
  refine ⟨?_, a1, a2, a3, a4⟩
  split at h1
  · rename_i c dd cd sl ho
    rw [Bool.and_eq_true] at h1
    obtain ⟨hc, h1⟩ := h1
    have hc := of_decide_eq_true hc
    subst hc
    split at h1
    · rename_i C' bm k0 k1 k2 k3 n k5 hm hs
      simp only [Bool.and_eq_true, decide_eq_true_eq, Bool.not_eq_true'] at h1
      obtain ⟨e1, e2, e3, e4, e5⟩ := h1
      obtain ⟨nm, bs, mro, ns, qn, hd, sn, sub, ab, col, del⟩ := cd
      dsimp only at hm e3 e4
      subst hm e1 e2 e3 e4
      have hsl : sl = #[k0, k1, k2, k3, some (.builtin "ValueError.__new__"), k5] := by
        obtain ⟨l⟩ := sl
        simp only at hs
        rw [hs]
      subst hsl
      exact ⟨nm, qn, ns, bs, bm, sn, sub, ab, col, dd, k0, k1, k2, k3, k5, ho, e5⟩
    · cases h1
  · cases h1
def clsB (K : PySem.W.Frag) (prog : Program) (C : Addr) (prm fld : Str) (b : List Stmt) : Bool := oexB K C && (supB K prog C prm fld b && (decide (findIn K (.ref C) "__init__" = some (some (.ref (He.ma K C "__init__")))) && (decide (typeIn K (.ref (He.ma K C "__init__")) = some (.type "function")) && (decide (mroIn K C (.ref C) = some true) && (decide (nsIn K cStatics "thirdparty.any" = some none) && (decide (ks_superIn K C C "__init__" = some (some (.builtin "ValueError.__init__"))) && (decide (subIn K (.ref C) (.type "ValueError") = some true) && decide (findIn K (.ref C) fld = some none))))))))
theorem clsB_ok {K : PySem.W.Frag} {prog : Program} {C : Addr} {prm fld txt : Str} {j : Nat} {p0 p1 ap p2 p3 p4 p5 p6 p7 p8 : Pos} {b : List Stmt} {pl : Env → Sem Bool} (h : clsB K prog C prm fld b = true) (hb : parts b = some ([txt, prm, fld], j, [p0, p1, ap, p2, p3, p4, p5, p6, p7, p8]))
    (hbind : ∀ (name qual : Str) (body : List Stmt) (scope : Scope) (kV doc pm : Value) (an : Option Addr) (cdv ct : Value) (cc : Addr) (a1 : Option Expr) (q1 : Pos) (a2 : Option Expr) (q2 : Pos) (u v : Value), bindArgs (ksFn name qual ⟨[], [⟨"self", a1, q1⟩, ⟨prm, a2, q2⟩], none, [], [], none, []⟩ body scope .none kV doc pm an cdv ct cc) ⟨[u, v], []⟩ = pure [(("self" : Str), u), (prm, v)])
    (hev : ∀ env : Env, eval (.Call (.Attribute (.Call (.Name "super" p0) [] [] p1) "__init__" ap) [.Constant (.str txt) j p2] [] p3) env = (do
      let ov ← attributeBase (.Call (.Name "super" p0) [] [] p1) "__init__" env (eval (.Call (.Name "super" p0) [] [] p1) env)
      standAt ap.atName
      let (f, first) ← holding [ov] (getMethod ov "__init__" (pl env))
      callWith p3 f first (backTo p3 (starEach [.Constant (.str txt) j p2] env)) []))
    (hsw1 : ∀ env : Env, swapsWith (.Call (.Attribute (.Call (.Name "super" p0) [] [] p1) "__init__" ap) [.Constant (.str txt) j p2] [] p3) none p4.line env = pure false)
    (hsw2 : ∀ env : Env, swapsWith (.Name prm p7) (some (.Attribute (.Name "self" p5) fld p6)) p8.line env = pure false)
    (htop : (prog.main.scope.names.lookup ("super" : Str)).isSome = false) (hne : (prm == ("self" : Str)) = false := by decide) (hdp : (prm == ("__debug__" : Str)) = false := by decide) : SupC K prog C fld := by
  unfold clsB at h
  simp only [Bool.and_eq_true, decide_eq_true_eq] at h
  obtain ⟨h1, h2, h3, h4, h5, h6, h7, h8, h9⟩ := h
  exact supB_ok (oexB_ok h1) h2 hb h3 h4 hbind hne hdp htop h5 h6 h7 h8 h9 hev hsw1 hsw2
/-- a tuple of texts at the top -/
theorem svs_strs {K : PySem.W.Frag} {m : List Addr} {H : Hp} : ∀ zs : List Str, SVs K m H (zs.map D.str) ((zs.map He.Dv.str).map (He.Dv.v K))
  | [] => rfl
  | z :: zs => ⟨.str z, _, rfl, rfl, svs_strs zs⟩
def genSB (scope : Scope) (x : Str) : Bool := decide (scope.kind = .function) && (decide (scope.isCoroutine = false) && (decide (∀ y ∈ scope.names, y.2 ≠ .cell) && (decide (scope.names.lookup (".0" : Str) = some NameKind.local) && (decide (scope.names.lookup x = some .local) && decide (∀ y ∈ scope.names, y.2 ≠ .free)))))
theorem genS_by {env : Env} {scope : Scope} {x : Str} (h : genSB scope x = true) : GxR.GenS env scope x := by
  unfold genSB at h
  simp only [Bool.and_eq_true, decide_eq_true_eq] at h
  obtain ⟨h1, h2, h3, h4, h5, h6⟩ := h
  exact ⟨h1, h2, h3, h4, h5, fun y hy e => absurd e (h6 y hy)⟩
def dIndex (fo fe : DE) : DE := fun ρ S => (fo ρ S).bind fun o S1 => match o with
  | .obj n => (match lstAt S1 n with
    | some _ => (fe ρ S1).bind fun y S2 => (match flatOf y, (lstAt S2 n).bind flatsOf with
      | some u, some us => (match us.findIdx? (fun z => eqV z u) with
        | some k => .ok (.int (k : Int)) S2
        | none => .bad)
      | _, _ => .bad)
    | none => .bad)
  | _ => .bad
section
variable {X : Cx} {G : Gx} {W : WX} {e o : Expr} {fe fo : DE} {p pos apos cpos : Pos}
theorem je_globT {x : Str} {zs : List Str} (hm : X.mg x = some (.ref (He.ga X.K x))) (h : He.tupB X.K x (zs.map He.Dv.str) = true) (hg : Gl X x := by rfl) (hdb : (x == ("__debug__" : Str)) = false := by decide) : JE X G W (.Name x pos) (dC (.tup (zs.map D.str))) :=
  je_glob hm (fun m H => ⟨.ref (He.ga X.K x), rfl, _, _, rfl, He.tupB_ok h H, svs_strs zs⟩) hg hdb
theorem je_index (ho : JE X G W o fo) (he : JE X G W e fe) (hbase : attributeBase o "index" X.env (eval o X.env) = eval o X.env := by rfl)
    (hfew : ((backTo cpos (starEach [e] X.env)).all (fun x => !x.1) && (backToKw cpos (keywordEach [] X.env)).all (fun x => x.1.isSome) && decide ([e].length + ([] : List Keyword).length + (if ([] : List Keyword).isEmpty then 0 else 1) < 30)) = true := by rfl)
    (hline : (apos.endLine == cpos.line) = true := by rfl) (hs : starEach [e] X.env = (false, eval e X.env) :: starEach [] X.env := by rfl) (hplain : (backTo cpos (starEach [] X.env)).any (·.1) = false := by rfl) :
    JE X G W (.Call (.Attribute o "index" apos) [e] [] cpos) (dIndex fo fe) :=
  PE.imp (pe_bm PySem.F.plainAttrs_list PySem.F.slot_list_index PySem.F.type_list_index mt_index ho (ja_cons he ja_nil hs) hbase hfew hline hs hplain) fun σ H Q ⟨m, ρ, S, sr, sm, eo⟩ => ⟨m, ρ, S, sr, sm, EO.then (rel := SV X.K) eo fun x S1 v H1 m1 st1 sm1 r1 eo1 => by
    cases x with
    | obj n =>
      dsimp only at eo1
      cases z : lstAt S1 n with
      | none => rw [z] at eo1; exact eo1.elim
      | some xs0 =>
        rw [z] at eo1
        dsimp only at eo1
        obtain ⟨a, rfl, hm⟩ := r1
        obtain ⟨a', ws0, h1, h2, h3⟩ := lstAt_ok sm1 z
        rw [hm] at h1; cases h1
        refine ⟨.inl ⟨rfl, ws0, SqL.of h2⟩, m1, ρ, S1, sr.mono sm st1, sm1, ?_⟩
        unfold daCons daNil
        cases z2 : fe ρ S1 with
        | bad => rw [z2] at eo1; exact eo1.elim
        | exn x S2 => rw [z2] at eo1; exact eo1
        | ok d S2 =>
          rw [z2] at eo1
          simp only [Out.bind_ok] at eo1 ⊢
          intro vs H2 m2 st2 sm2 r2
          have eo2 := eo1.step st2
          obtain ⟨y, rfl, ry⟩ := svs1 r2
          split at eo2
          · rename_i u us e1 e2
            split at eo2
            · rename_i kx e3
              cases z3 : lstAt S2 n with
              | none => rw [z3] at e2; cases e2
              | some xs =>
                rw [z3] at e2
                obtain ⟨a', ws, g1, g2, g3⟩ := lstAt_ok sm2 z3
                rw [st2.get hm] at g1; cases g1
                obtain ⟨rfl, f1⟩ := flatOf_ok e1 ry
                obtain ⟨rfl, f2⟩ := flatsOf_ok (show flatsOf xs = some us from e2) g3
                obtain ⟨hk, hk2, hk3⟩ := List.findIdx?_eq_some_iff_getElem.mp e3
                refine ⟨a, ws, y, kx, ws[kx], rfl, rfl, SqL.of g2, f1, f2, by simp [hk], hk2, fun i z' hi hz => ?_, eo2 _ H2 m2 sm2.refl sm2 rfl⟩
                obtain ⟨hi2, hz2⟩ := List.getElem?_eq_some_iff.mp hz
                have := hk3 i hi
                rw [← hz2]
                simpa using this
            · exact eo2.elim
          · exact eo2.elim
    | _ => exact eo1.elim⟩
end
end DL
set_option Elab.async false
set_option linter.all false
set_option maxRecDepth 100000
set_option maxHeartbeats 4000000
/-! DM10: the hook whose written part holds the statics too. -/
namespace DL
open PySem PySem.Spec PyProof.Rows L2 PySem.W PySem.Calls
variable {n : Nat} {fa : List He.Fa} {fn : List He.DefD} {ts : List He.Tab} {tf : List He.Defn} {ex : PySem.W.Frag → Bool}
/-- the written part: what the names reach, and the statics -/
def frY (n : Nat) (g : Addr → Option Obj) : PySem.W.Frag := He.frT g (He.asD g n ++ [cStatics])
def obsY (n : Nat) (fa : List He.Fa) (fn : List He.DefD) (ts : List He.Tab) (tf : List He.Defn) (ex : PySem.W.Frag → Bool) (g : Addr → Option Obj) : He.AlX :=
  (He.obsT fa fn ts (frY n g), (ex (frY n g) && He.tabsB g tf (frY n g)))
theorem tabs_ok {h : Heap} {as : List Addr} (z : He.tabsB h.get? tf (He.frT h.get? as) = true) : ∀ p ∈ tf, PySem.W.codeHdIn (He.frT h.get? as) (He.cT (He.frT h.get? as) p).1 (He.cT (He.frT h.get? as) p).2 = true ∧ (He.frT h.get? as).lookup (He.cT (He.frT h.get? as) p).2 = none ∧ h.get? (He.cT (He.frT h.get? as) p).2 = some { cls := .none, data := .fields #[] } := by
  intro p hp
  have zp := List.all_eq_true.mp z p hp
  rw [Bool.and_eq_true] at zp
  refine ⟨zp.1, ?_⟩
  have z2 := zp.2
  generalize (He.cT (He.frT h.get? as) p).2 = t at z2 ⊢
  cases q : h.get? t with
  | none => rw [q] at z2; exact nomatch z2
  | some o => rw [q] at z2; exact ⟨He.frT_none q z2, congrArg some (He.emptyTab_eq z2)⟩
theorem saysY_of {w : World} {h : Heap} (e : obsY n fa fn ts tf ex h.get? = He.valX fn ts w) : He.SaysX fa fn ts tf ex w h (frY n h.get?) := by
  have e2 : (ex (frY n h.get?) && He.tabsB h.get? tf (frY n h.get?)) = true := congrArg Prod.snd e
  rw [Bool.and_eq_true] at e2
  have k := tabs_ok e2.2
  exact { t := congrArg Prod.fst e, more := e2.1, hd := fun p hp => (k p hp).1, out := fun p hp => (k p hp).2.1, empty := fun p hp => (k p hp).2.2 }
def hookY (n : Nat) (fa : List He.Fa) (fn : List He.DefD) (ts : List He.Tab) (tf : List He.Defn) (ex : PySem.W.Frag → Bool) : PySem.W.Hook :=
  { He.hookX n fa fn ts tf ex with obs := fun s => obsY n fa fn ts tf ex s.heap.get?, of := fun _ _ e => ⟨_, He.frT_in, saysY_of e⟩ }
theorem obsY_eq {g : Addr → Option Obj} {s : Shared} (h : ∀ a, g a = s.heap.get? a) : obsY n fa fn ts tf ex g = (hookY n fa fn ts tf ex).obs s := by
  rw [funext h]
  rfl
end DL
set_option Elab.async false
set_option linter.all false
set_option maxRecDepth 100000
set_option maxHeartbeats 2000000
/-! DN1: generator expressions in their own frame: any element, any target, tests, captured names. -/
namespace DL
open PySem PySem.Spec PyProof.Rows L2
/-- the generator expression's own scope: its own names (with their places in N), captured ones -/
structure GenB (N : List Str) (sc scope : Scope) (own : List (Str × Nat)) : Prop where
  kind : scope.kind = .function
  co : scope.isCoroutine = false
  cell : ∀ y ∈ scope.names, y.2 ≠ .cell
  dot : scope.names.lookup (".0" : Str) = some NameKind.local
  ix : ∀ p ∈ own, N[p.2]? = some p.1
  free : ∀ y ∈ scope.names, y.2 = .free → sc.names.lookup y.1 = some .cell ∨ sc.names.lookup y.1 = some .free
  loc : ∀ y ∈ scope.names, y.2 = .local → y.1 ∈ own.map (·.1) ∨ y.1 ∉ N
def genBB (N : List Str) (sc scope : Scope) (own : List (Str × Nat)) : Bool :=
  decide (scope.kind = .function) && !scope.isCoroutine && decide (scope.names.lookup (".0" : Str) = some NameKind.local) && own.all (fun p => decide (N[p.2]? = some p.1)) &&
    scope.names.all fun y => !decide (y.2 = .cell) && (!decide (y.2 = .free) || decide (sc.names.lookup y.1 = some .cell) || decide (sc.names.lookup y.1 = some .free)) && (!decide (y.2 = .local) || decide (y.1 ∈ own.map (·.1)) || decide (y.1 ∉ N))
theorem genB_by {N : List Str} {sc scope : Scope} {own : List (Str × Nat)} (h : genBB N sc scope own = true) : GenB N sc scope own := by
  unfold genBB at h
  simp only [Bool.and_eq_true, Bool.or_eq_true, Bool.not_eq_true', decide_eq_true_eq, decide_eq_false_iff_not, List.all_eq_true] at h
  obtain ⟨⟨⟨⟨h1, h2⟩, h3⟩, h4⟩, h5⟩ := h
  refine ⟨h1, h2, fun y hy => (h5 y hy).1.1, h3, h4, fun y hy e => ?_, fun y hy e => ?_⟩
  · rcases (h5 y hy).1.2 with (z | z) | z
    · exact absurd e z
    · exact .inl z
    · exact .inr z
  · rcases (h5 y hy).2 with (z | z) | z
    · exact absurd e z
    · exact .inl z
    · exact .inr z
theorem GenB.has {X : Cx} {scope : Scope} {own : List (Str × Nat)} (B : GenB X.N X.env.scope scope own) (ok : X.Ok) : ∀ y ∈ scope.names, y.2 = .free → ∃ c, X.env.cells.lookup y.1 = some c := fun y hy e => by
  rcases B.free y hy e with k | k
  · exact ok.has _ (.inl k)
  · exact ok.has _ (.inr k)
abbrev gEnv (X : Cx) (scope : Scope) (C : Addr) (code : Value) : Env := genEnv scope (cloFrom X.env.cells scope.names []) C code builtinsNs X.env
/-- the context of the generator's frame; s: the state ahead of the frame's making -/
def genCx (X : Cx) (s : Shared) (H : Hp) (scope : Scope) (code : Value) (fp : List Addr) : Cx where
  prog := X.prog
  w := X.w
  K := X.K
  mg := X.mg
  base := X.base
  A := X.A.in1.in1.deeper (gEnv X scope s.heap.objs.size code)
  N := X.N
  s_0 := s
  H_0 := H
  env := gEnv X scope s.heap.objs.size code
  outer := X.stack
  stack := gEnv X scope s.heap.objs.size code :: X.stack
  ex := fp
  fn := fun _ => false
  calm := true
  pn := []
  xe := fun _ _ => False
section
variable {X : Cx} {pins : List (Addr × Obj)} {σ : L2.St} {H H1 : Hp} {s : Shared} {scope : Scope} {own : List (Str × Nat)} {fp : List Addr} {code : Value}
theorem inv_gens {h' : Heap} {g' : Array GenState} {t' : Nat} (I : Inv X pins σ H s) (k : ∀ b o, s.heap.get? b = some o → h'.get? b = some o) (hg : AllBare g') : Inv X pins σ H { s with heap := h', gens := g', toks := t' } :=
  I.call (ch := []) (g' := g') (t' := t') (d' := s.drawn) (Un.kept k) (I.hok.kept k) hg fun b hb => absurd hb (by simp)
theorem inv_setGen {g : Nat} {x : GenState} (I : Inv X pins σ H s) (hx : x.bare = true) : Inv X pins σ H (s.setGen g x) := by
  refine inv_gens (h' := s.heap) (t' := s.toks) I (fun _ _ e => e) fun y hy => ?_
  obtain ⟨i, hi, rfl⟩ := Array.mem_iff_getElem.mp hy
  have hi' : i < s.gens.size := by simpa using hi
  rw [Array.getElem_setIfInBounds hi']
  split
  · exact hx
  · exact I.bare _ (Array.getElem_mem _)
theorem gen_start {h' : Heap} {t' : Nat} {g' : Array GenState} {mm : Str → Option Value} (I : Inv X pins σ H s) (B : GenB X.N X.env.scope scope own) (hN : X.N.Nodup) (hd : X.A.handled = none) (hfp : ∀ b ∈ fp, FpOk X pins H b ∧ b < s.heap.objs.size) (hg : AllBare g')
    (hns : h'.Ns s.heap.objs.size mm) (kp : ∀ b o, s.heap.get? b = some o → h'.get? b = some o) :
    Inv (genCx X s H scope code fp) [] (wipe σ (own.map (·.2))) H { s with heap := h', gens := g', toks := t' } := by
  have hfree := B.has I.ok
  have cm : ∀ {y c}, (cloFrom X.env.cells scope.names []).lookup y = some c → X.env.cells.lookup y = some c ∧ c < s.heap.objs.size := fun {y c} e => by
    rcases cloFrom_mem (PySem.mem_of_lookup e) with hm | ⟨h1, h2⟩
    · cases hm
    · obtain ⟨c1, hc⟩ := hfree _ h1 rfl
      have hc : X.env.cells.lookup y = some c1 := hc
      have e2 : c = c1 := by
        rw [h2, hc] <;> rfl
      rw [e2]
      obtain ⟨w, z⟩ := I.cell _ _ hc
      exact ⟨hc, z.lt⟩
  have look : ∀ {y}, scope.names.lookup y = some .free → ∃ c, (cloFrom X.env.cells scope.names []).lookup y = some c := fun {y} hl => by
    have hy : (y, NameKind.free) ∈ scope.names := PySem.mem_of_lookup hl
    exact mem_lookup (cloFrom_has (cells := X.env.cells) (acc := []) hy)
  have okG : (genCx X s H scope code fp).Ok := by
    refine ⟨I.ok.mod, B.kind, I.ok.glob, rfl, Nat.le_refl _, fun y z c e1 e2 => I.ok.inj y z c (cm e1).1 (cm e2).1, fun y hy => ?_, fun y c z _ => ?_, fun _ => hd, Around.frames_deeper I.ok.frames, .inr ⟨rfl, rfl⟩, fun b hb => ⟨Nat.ne_of_lt (hfp b hb).2, fun y c e z => ?_⟩,
      I.bs, Nat.le_trans I.ok.bsz I.sz, fun b o e hb => ?_, fun b hb z => ?_, I.stack, I.stkFree⟩
    · have hy : scope.names.lookup y = some .cell ∨ scope.names.lookup y = some .free := hy
      rcases hy with hy | hy
      · exact absurd rfl (B.cell _ (PySem.mem_of_lookup hy))
      · exact look hy
    · have z : false = true := z
      cases z
    · exact (hfp b hb).1.2.2.2.2.1 y c (cm e).1 z
    · rcases (hfp b hb).1.2.2.2.1 with z | z
      · exact I.ok.noex b o e z
      · exact absurd (Nat.lt_of_lt_of_le (Heap.lt_size e) (Nat.le_trans I.ok.bsz z)) (Nat.lt_irrefl _)
    · rcases List.mem_cons.mp (I.stkSub b z) with z | z
      · exact (hfp b hb).1.2.1 z
      · exact (hfp b hb).1.2.2.1 z
  refine ⟨okG, rfl, hg, Un.kept kp, ⟨mm, hns, fun i y av e1 e2 e3 => ?_⟩, fun y c e => ?_, I.hok.fresh (Nat.le_refl _), fun y c e => I.freeC y c (cm e).1, fun p hp => absurd (show p ∈ ([] : List (Addr × Obj)) ++ [] from hp) (by simp), I.hok.kept kp, by rw [wipe_length]; exact I.len⟩
  · obtain ⟨e2, hne⟩ := wipe_some e2
    have e3 : Vis scope y := e3
    rcases e3 with k | k | k
    · rcases B.loc _ (PySem.mem_of_lookup k) rfl with e' | e'
      · obtain ⟨p, hp, hpy⟩ := List.mem_map.mp e'
        have e4 := B.ix p hp
        have e5 : p.1 = y := hpy
        rw [e5] at e4
        exact absurd (List.mem_map.mpr ⟨p, hp, nodup_ix hN e4 e1⟩) hne
      · exact absurd (List.mem_of_getElem? e1) e'
    · exact absurd rfl (B.cell _ (PySem.mem_of_lookup k))
    · obtain ⟨m, hn, hl⟩ := I.loc
      have hvis : Vis X.env.scope y := (B.free _ (PySem.mem_of_lookup k) rfl).elim (fun k => .inr (.inl k)) (fun k => .inr (.inr k))
      obtain ⟨w', r, q⟩ := hl i y av e1 e2 hvis
      obtain ⟨c2, h2⟩ := look k
      refine ⟨w', r, .inr ⟨.inr k, c2, h2, ?_⟩⟩
      have c1 := (cm h2).1
      rcases q with ⟨k', _⟩ | ⟨_, c3, e', z⟩
      · have k' : X.env.scope.names.lookup y = some .local := k'
        rcases B.free _ (PySem.mem_of_lookup k) rfl with k2 | k2 <;> rw [show X.env.scope.names.lookup y = _ from k2] at k' <;> cases k'
      · rw [c1] at e'
        cases e'
        exact z.keeps kp
  · obtain ⟨w', z⟩ := I.cell y c (cm e).1
    exact ⟨w', z.keeps kp⟩
/-- the generator is made -/
theorem gen_make {T : List (Addr × Str)} {c P : Addr} {elt tg iter : Expr} {ifs : List Expr} {gpos : Pos} {wi : TI} {k : Nat} {R : It → Hp → Prop} {Q' : Value → Shared → Prop}
    (hr : Room k X.A) (TB : LamX.TabB X.base X.mg c P) (hcode : X.env.code = .ref c) (hm : (P, X.env.qual ++ "<genexpr>") ∈ T) (hu : ∀ p ∈ T, p.1 = P → p.2 = X.env.qual ++ "<genexpr>") (B : GenB X.N X.env.scope scope own) (hi : PI X tg iter wi) (hs : ∀ v, genFold iter X.env v = pure v) (I : Inv X pins σ H s)
    (h : wi σ H fun J H1 => LamX.Tabs T H1 ∧ R J H1)
    (hQ : ∀ (J : It) (H1 H2 : Hp) (it : Addr) (fp : List Addr) (tn : Nat → Heap → Prop) (code : Value) (s4 : Shared) (h' : Heap) (o : Obj) (tk : Nat), R J H1 → LamX.ExtN H1 H2 → LamX.Tabs T H2 → Inv X pins σ H2 s4 → Turn X.prog X.w X.K tg J fp it tn → tn 0 s4.heap → (∀ b ∈ fp, FpOk X pins H2 b ∧ b < s4.heap.objs.size) →
      h'.Ns s4.heap.objs.size (fun y => if y = ".0" then some (.ref it) else none) → (∀ b o, s4.heap.get? b = some o → h'.get? b = some o) → s4.heap.objs.size < h'.objs.size → (∃ nm qn, o = { cls := .type "generator", data := .fields #[.int s4.gens.size 0, nm, qn] }) →
      Q' (.ref h'.objs.size) { s4 with gens := s4.gens.push (.fresh (.compStart (.GeneratorExp elt [⟨tg, iter, ifs, 0⟩] scope gpos) 0 (.ref it) .none (gEnv X scope s4.heap.objs.size code))), toks := tk, heap := h'.push o }) :
    wpAny (model X.prog X.w) X.A (eval (.GeneratorExp elt [⟨tg, iter, ifs, 0⟩] scope gpos) X.env) Q' X.xe s := by
  refine wpAny_GeneratorExp_make B.co (closure_ok (B.has I.ok)) B.cell B.dot B.kind hr.depth ?_ hs
  refine thn (hi.run pins s σ H _ I h) fun xv s1 hx => thn hx fun itv s2 h2 => ?_
  obtain ⟨it, fp, tn, J, H1, rfl, I2, TT, st2, f2, hT, hR⟩ := h2
  refine ⟨I2.nolimit, ?_⟩
  obtain ⟨ps, hP, ht, ha⟩ := hT _ hm
  have hP2 : s2.heap.get? P = some { cls := .none, data := .fields ps } := I2.hok P _ hP
  have szf : ∀ b ∈ fp, b < s2.heap.objs.size := fun b hb => by
    obtain ⟨o, e, _⟩ := TT.obj _ _ st2 b hb
    exact Heap.lt_size e
  have nfP : ∀ b ∈ fp, b ≠ P := fun b hb z => by
    have e := (f2 b hb).1
    rw [z, hP] at e
    cases e
  obtain ⟨bm, ob, e1, e2, e3, e4, e5, e6, e7, e8⟩ := TB.bm
  -- behind the code
  have rest : ∀ (cv : Value) (s3 : Shared) (H2 : Hp), LamX.ExtN H1 H2 → LamX.Tabs T H2 → Inv X pins σ H2 s3 → tn 0 s3.heap → (∀ b ∈ fp, FpOk X pins H2 b ∧ b < s3.heap.objs.size) → 
      wpAny (model X.prog X.w) X.A (builtinsFor X.env.globals X.env.builtins) (fun bi s₄ =>
        ∀ h', h'.Ns s₄.heap.objs.size (fun y => if y = ".0" then some (Value.ref it) else none) → Heap.SameBut s₄.heap.objs.size (s₄.heap.push { cls := .type "frame", data := .dict #[] }) h' →
          Q' (.ref h'.objs.size) { s₄ with
            gens := s₄.gens.push (.fresh (.compStart (.GeneratorExp elt [⟨tg, iter, ifs, 0⟩] scope gpos) 0 (.ref it) .none (genEnv scope (cloFrom X.env.cells scope.names []) s₄.heap.objs.size cv bi X.env))),
            toks := s₄.toks + 1 + 1 + 1,
            heap := h'.push { cls := .type "generator", data := .fields #[.int s₄.gens.size 0, .str "<genexpr>" (s₄.toks + 1), .str (X.env.qual ++ "<genexpr>") (s₄.toks + 1 + 1)] } }) X.xe s3 := by
    intro cv s3 H2 x1 x2 I3 st3 f3
    refine wpAny_builtinsFor (m := X.mg) (by rw [I3.ok.glob]; exact I3.mod.glob.keeps I3.bk) e1 e2 (I3.bk _ _ (e5.symm ▸ e5)) e6 e7 e8 ?_
    intro h' hn sb
    have hsz : h'.objs.size = s3.heap.objs.size + 1 := by rw [sb.1, Heap.size_push]
    exact hQ J H1 H2 it fp tn cv s3 h' _ _ hR x1 x2 I3 TT st3 f3 hn (fun b o e => sb.extBut b o (Nat.ne_of_lt (Heap.lt_size e)) (Heap.get?_push_of_some _ e)) (by omega) ⟨_, _, rfl⟩
  cases hf : codeAmong gpos ps.toList with
  | some cv =>
    refine wpAny_genexprCode_hit hcode ((TB.code.keeps I2.bk).code hP2 ht) hf ?_
    exact rest cv s2 H1 (LamX.ExtN.refl H1) hT I2 st2 fun b hb => ⟨f2 b hb, szf b hb⟩
  | none =>
    have cd : PySem.W.CodeHd s2.heap c P := TB.code.keeps I2.bk
    refine wpAny_genexprCodeX hcode (cd.code hP2 ht) (cd.tab hP2) hf fun c' h3 tk hx hge hlt3 hco' hrec htab' _ => ?_
    obtain ⟨c2, oc, vs, t, ec, hoc, hd, hv⟩ := hrec
    cases ec
    have nC : H1 c' = none := I2.hok.fresh hge
    have J3 := LamX.inv_table (t' := tk) (more := #[rawInt gpos.line, rawInt gpos.col, .ref c']) (h' := h3) I2 hP hx htab'.2 hge ⟨oc, vs, t, hoc, hd, hv⟩
    have hE : LamX.ExtN H1 (upd (upd H1 P (.tbl (ps ++ #[rawInt gpos.line, rawInt gpos.col, .ref c']))) c' (LamX.CodeO c' (X.env.qual ++ "<genexpr>"))) := by
      intro b u e n
      have nb : b ≠ P := fun z => by
        rw [z, hP] at e
        exact n ps (Option.some.inj e).symm
      rw [upd_ne (ne_of_none e nC), upd_ne nb]
      exact e
    have eL : (ps ++ #[rawInt gpos.line, rawInt gpos.col, .ref c']).toList = ps.toList ++ [rawInt gpos.line, rawInt gpos.col, .ref c'] := by simp
    refine rest _ _ _ hE (fun p hp => ?_) J3 (TT.keep _ _ _ st2 fun b hb o e => hx b o (nfP b hb) e) fun b hb => ⟨⟨?_, (f2 b hb).2⟩, Nat.lt_of_lt_of_le (szf b hb) (Nat.le_trans hge (Nat.le_of_lt hlt3))⟩
    · by_cases hb : p.1 = P
      · rw [hu p hp hb, hb]
        refine ⟨_, by rw [upd_ne (ne_of_none hP nC), upd_same], by rw [eL]; exact PySem.TriplesOk_snoc _ _ _ _ ht, fun p' cv hcv => ?_⟩
        rw [eL] at hcv
        rcases LamX.among_app _ ht hcv with z | z
        · obtain ⟨c0, q1, q2⟩ := ha p' cv z
          exact ⟨c0, q1, hE _ _ q2 LamX.codeO_ne⟩
        · exact ⟨c', z, upd_same⟩
      · obtain ⟨ps', a1, a2, a3⟩ := hT p hp
        refine ⟨ps', by rw [upd_ne (ne_of_none a1 nC), upd_ne hb]; exact a1, a2, fun p' cv hcv => ?_⟩
        obtain ⟨c0, q1, q2⟩ := a3 p' cv hcv
        exact ⟨c0, q1, hE _ _ q2 LamX.codeO_ne⟩
    · rw [upd_ne (Nat.ne_of_lt (Nat.lt_of_lt_of_le (szf b hb) hge)), upd_ne (nfP b hb)]
      exact (f2 b hb).1
end
end DL
set_option Elab.async false
set_option linter.all false
set_option maxRecDepth 100000
set_option maxHeartbeats 2000000
/-! DN2: the generator's turns, its consumer's next. -/
namespace DL
open PySem PySem.Spec PyProof.Rows L2
/-- a generator that is consumed at once -/
structure GD (β : Type) where
  X : Cx
  s0 : Shared
  H0 : Hp
  scope : Scope
  code : Value
  fp : List Addr
  elt : Expr
  tg : Expr
  iter : Expr
  ifs : List Expr
  gpos : Pos
  it : Addr
  a : Addr
  S : Addr
  oa : Obj
  J : It
  tn : Nat → Heap → Prop
  n : Nat
  σ : L2.St
  vs : List Nat
  Cons : β → Obj → Prop
  Φ : β → Nat → Hp → Prop
  Ψ : β → Nat → V → Hp → Prop
  Qe : β → Hp → Prop
namespace GD
variable {β : Type}
abbrev cx (D : GD β) : Cx := genCx D.X D.s0 D.H0 D.scope D.code D.fp
abbrev gexp (D : GD β) : Expr := .GeneratorExp D.elt [⟨D.tg, D.iter, D.ifs, 0⟩] D.scope D.gpos
abbrev loop (D : GD β) : Code := .compLoop D.gexp 0 (.ref D.it) .none (gEnv D.X D.scope D.s0.heap.objs.size D.code)
abbrev startC (D : GD β) : Code := .compStart D.gexp 0 (.ref D.it) .none (gEnv D.X D.scope D.s0.heap.objs.size D.code)
def pn (D : GD β) (o : Obj) : List (Addr × Obj) := [(D.a, D.oa), (D.S, o)]
def asl (D : GD β) (b : β) (i : Nat) (s : Shared) : Prop :=
  ∃ H o, Inv D.cx (D.pn o) (wipe D.σ D.vs) H s ∧ D.Cons b o ∧ D.tn i s.heap ∧ (∀ x ∈ D.fp, H x = none) ∧ D.Φ b i H
def P (D : GD β) (_ : Nat) (s₀ s₁ : Shared) : Prop :=
  ∃ b H o, Inv D.cx (D.pn o) (wipe D.σ D.vs) H s₁ ∧ D.Cons b o ∧ s₀.heap.get? D.S = some o ∧ D.Qe b H ∧ s₀.gens.size ≤ s₁.gens.size
abbrev R (D : GD β) : GenEnd := fun n s₀ r s₁ => r = .ok .next ∧ D.P n s₀ s₁
def Y (D : GD β) : Protocol := fun m s₀ v s kap =>
  ∃ b i y H o, D.n - (i + 1) < m ∧ i < D.n ∧ RelV y v ∧ Inv D.cx (D.pn o) (wipe D.σ D.vs) H s ∧ D.Cons b o ∧ s₀.heap.get? D.S = some o ∧ D.tn (i + 1) s.heap ∧ (∀ x ∈ D.fp, H x = none) ∧ D.Ψ b i y H ∧ s₀.gens.size ≤ s.gens.size ∧
    ∀ s'' b', D.asl b' (i + 1) s'' → kap (.send .none) s''
structure Ok (D : GD β) (g : TG) (tt : TT) (te : TE) : Prop where
  hd : D.X.A.handled = none
  T : Turn D.X.prog D.X.w D.X.K D.tg D.J D.fp D.it D.tn
  na : D.a ∉ D.fp
  nS : D.S ∉ D.fp
  co : D.scope.isCoroutine = false
  pg : PG D.cx D.tg g
  pt : PTs D.cx D.ifs tt
  pe : PE D.cx D.elt te
  turn : ∀ b i H, i ≤ D.n → D.Φ b i H → (i = D.n → D.J.stop i H ∧ D.Qe b H) ∧ (i < D.n → D.J.go i H ∧ ∀ x H', D.J.yld i H x H' → g x (wipe D.σ D.vs) H' fun σ2 H2 => wipe σ2 D.vs = wipe D.σ D.vs ∧ tt σ2 H2 fun ok H3 =>
    if ok = true then te σ2 H3 fun y H4 => D.Ψ b i y H4 else D.Φ b (i + 1) H3)
theorem over_eq (D : GD β) : D.X.A.in1.in1.over D.loop [] = D.cx.A := by
  first
    | rfl
    | (show (D.X.A.in1.in1).over _ [] = (D.X.A.in1.in1).deeper _
       obtain ⟨hd, d, fr, gs, u⟩ := D.X.A.in1.in1; simp [Around.over, Around.deeper, marksOver, frameCount, unitsOf, envsOf, guardsOf, pushEnvs, pushGuards, Code.envs, Code.env?, Code.isFrame, Code.guards, Code.isGuard, Code.weight, Code.frames, Code.isCreation, Code.isCaller, Code.cUnits])
theorem over_eq0 (D : GD β) : D.X.A.in1.in1.over D.startC [] = D.cx.A := by
  first
    | rfl
    | (show (D.X.A.in1.in1).over _ [] = (D.X.A.in1.in1).deeper _
       obtain ⟨hd, d, fr, gs, u⟩ := D.X.A.in1.in1; simp [Around.over, Around.deeper, marksOver, frameCount, unitsOf, envsOf, guardsOf, pushEnvs, pushGuards, Code.envs, Code.env?, Code.isFrame, Code.guards, Code.isGuard, Code.weight, Code.frames, Code.isCreation, Code.isCaller, Code.cUnits])
theorem stat {D : GD β} {g : TG} {tt : TT} {te : TE} (O : D.Ok g tt te) {o : Obj} {σ' : L2.St} {H' : Hp} {s' : Shared} (I : Inv D.cx (D.pn o) σ' H' s') (hn : ∀ b ∈ D.fp, H' b = none) : ∀ b ∈ D.fp, FpOk D.cx (D.pn o) H' b := fun b hb =>
  ⟨hn b hb, (I.ok.exf b hb).1, I.ok.exfs b hb, .inl hb, fun x c e => (I.ok.exf b hb).2 x c e, fun p hp => by
    have hp : p ∈ [(D.a, D.oa), (D.S, o)] := hp
    rcases List.mem_cons.mp hp with e | e
    · rw [e]; exact fun z => O.na (by rw [show D.a = b from z]; exact hb)
    · rw [List.mem_singleton.mp e]; exact fun z => O.nS (by rw [show D.S = b from z]; exact hb)⟩
theorem seg {D : GD β} {g : TG} {tt : TT} {te : TE} (O : D.Ok g tt te) : ∀ (k i c : Nat) (b : β) (s₀ s : Shared) (H : Hp) (o : Obj), D.n - i = k → i ≤ D.n → D.n - i < c → Inv D.cx (D.pn o) (wipe D.σ D.vs) H s → D.Cons b o → s₀.heap.get? D.S = some o → D.tn i s.heap → (∀ x ∈ D.fp, H x = none) → D.Φ b i H → s₀.gens.size ≤ s.gens.size →
    Seg (model D.X.prog D.X.w) D.X.A.in1.in1 D.R D.Y c s₀ D.loop ((model D.X.prog D.X.w).den D.loop) [] s := by
  have hov := D.over_eq
  intro k
  induction k with
  | zero =>
    intro i c b s₀ s H o hk hi hc I hC hS st nf ph hsz
    have e : i = D.n := by omega
    obtain ⟨stop, qe⟩ := (O.turn b i H hi ph).1 e
    show Seg _ _ _ _ _ s₀ _ ((compTurn D.gexp 0 (.ref D.it) .none (gEnv D.X D.scope D.s0.heap.objs.size D.code)).onRaise (leaving (gEnv D.X D.scope D.s0.heap.objs.size D.code))) [] s
    rw [compTurn_gen, Sem.onRaise_eq_wrap]
    refine seg_bind_wrap (wpAny_standAt ?_)
    refine seg_bind_wrap ?_
    rw [hov]
    refine GenW.wpAny_gsz hsz (thnF (O.T.done D.cx rfl rfl rfl rfl i _ s _ H (fun _ _ => False) I (stat O I nf) st stop) fun r s1 ⟨hr, I1⟩ hz => ?_)
    subst hr
    exact seg_end (.ok .next) ⟨rfl, b, H, o, I1, hC, hS, qe, hz⟩
  | succ k ih =>
    intro i c b s₀ s H o hk hi hc I hC hS st nf ph hsz
    have hlt : i < D.n := by omega
    obtain ⟨go, step⟩ := (O.turn b i H hi ph).2 hlt
    show Seg _ _ _ _ _ s₀ _ ((compTurn D.gexp 0 (.ref D.it) .none (gEnv D.X D.scope D.s0.heap.objs.size D.code)).onRaise (leaving (gEnv D.X D.scope D.s0.heap.objs.size D.code))) [] s
    rw [compTurn_gen, Sem.onRaise_eq_wrap]
    refine seg_bind_wrap (wpAny_standAt ?_)
    refine seg_bind_wrap ?_
    rw [hov]
    refine GenW.wpAny_gsz hsz (thnF (O.T.item D.cx rfl rfl rfl rfl i _ s _ H (fun _ _ => False) I (stat O I nf) st go) fun r s1 ⟨u, hr, h1⟩ hz1 => ?_)
    subst hr
    refine seg_bind_wrap ?_
    rw [hov]
    refine GenW.wpAny_gsz hz1 (thnF h1 fun _ s2 ⟨x, H2, I2, rx, yx, st2, nf2⟩ hz2 => ?_)
    have I2' := I2.pinned (stat O I2 nf2) (O.T.obj _ _ st2)
    refine seg_bind_wrap ?_
    rw [hov]
    refine GenW.wpAny_gsz hz2 (thnF (O.pg.run _ s2 _ H2 x u _ I2' rx (step x H2 yx)) fun _ s3 ⟨σ3, H3, I3, hw3, q3⟩ hz3 => ?_)
    refine seg_bind_wrap ?_
    rw [hov]
    refine GenW.wpAny_gsz hz3 (thnF (O.pt.run _ s3 σ3 H3 _ I3 q3) fun ok s4 ⟨H4, I4, q4⟩ hz4 => ?_)
    have back : ∀ {s' : Shared} {H' : Hp}, Inv D.cx (D.pn o ++ pinsAt D.fp s2.heap) σ3 H' s' → Inv D.cx (D.pn o) (wipe D.σ D.vs) H' s' ∧ D.tn (i + 1) s'.heap ∧ ∀ x ∈ D.fp, H' x = none := fun {s' H'} I' => by
      have pin' : ∀ b ∈ D.fp, ∀ o', s2.heap.get? b = some o' → s'.heap.get? b = some o' ∧ H' b = none := fun b hb o' e =>
        let z := I'.pin (b, o') (List.mem_append_right _ (List.mem_append_right _ (mem_pinsAt hb e)))
        ⟨z.1, z.2.1⟩
      have hl : (wipe D.σ D.vs).length = σ3.length := by rw [← hw3, wipe_length]
      refine ⟨(I'.unpinned (pins := D.pn o)).weak hl (fun j v e => ?_), O.T.keep _ _ _ st2 fun b hb o' e => (pin' b hb o' e).1, fun b hb => ?_⟩
      · rw [← hw3] at e
        exact (wipe_some e).1
      · obtain ⟨o', e, _⟩ := O.T.obj _ _ st2 b hb
        exact (pin' b hb o' e).2
    cases ok with
    | false =>
      simp only [Bool.false_eq_true, if_false] at q4 ⊢
      obtain ⟨I5, st5, nf5⟩ := back I4
      exact seg_again rfl (ih (i + 1) c b s₀ s4 H4 o (by omega) hlt (by omega) I5 hC hS st5 nf5 q4 hz4)
    | true =>
      simp only [if_true] at q4 ⊢
      have hy : ∀ v, yieldOut (gEnv D.X D.scope D.s0.heap.objs.size D.code) v = yieldValue v := fun v => by
        have hco : (gEnv D.X D.scope D.s0.heap.objs.size D.code).scope.isCoroutine = false := O.co
        simp only [yieldOut, hco, Bool.false_eq_true, if_false]
      simp only [hy]
      rw [Sem.bind_eq_wrap', Sem.bind_eq_wrap', Sem.wrap_wrap, Sem.wrap_wrap]
      refine seg_wrap ?_
      rw [hov]
      refine GenW.wpAny_gsz hz4 (thnF (O.pe.run _ s4 σ3 H4 _ I4 q4) fun y s5 ⟨yv, H5, I5, ry, q5⟩ hz5 => ?_)
      obtain ⟨I6, st6, nf6⟩ := back I5
      obtain ⟨c', rfl⟩ : ∃ c', c = c' + 1 := ⟨c - 1, by omega⟩
      refine seg_at (seg_yield rfl rfl rfl ⟨b, i, yv, H5, o, by omega, hlt, ry, I6, hC, hS, st6, nf6, q5, hz5, fun s'' b' ⟨H', o', I', hC', st', nf', ph'⟩ => ?_⟩)
      refine seg_again rfl (ih (i + 1) c' b' s'' s'' H' o' (by omega) hlt (by omega) I' hC' ?_ st' nf' ph' (Nat.le_refl _))
      exact (I'.pin (D.S, o') (List.mem_append_right _ (List.mem_cons_of_mem _ List.mem_cons_self))).1
theorem seg0 {D : GD β} {g : TG} {tt : TT} {te : TE} (O : D.Ok g tt te) {c : Nat} {b : β} {s₀ s : Shared} {H : Hp} {o : Obj} (hc : D.n < c) (I : Inv D.cx (D.pn o) (wipe D.σ D.vs) H s) (hC : D.Cons b o) (hS : s₀.heap.get? D.S = some o) (st : D.tn 0 s.heap) (nf : ∀ x ∈ D.fp, H x = none) (ph : D.Φ b 0 H) (hsz : s₀.gens.size ≤ s.gens.size) :
    Seg (model D.X.prog D.X.w) D.X.A.in1.in1 D.R D.Y c s₀ D.startC ((model D.X.prog D.X.w).den D.startC) [] s := by
  have loop := seg O (D.n - 0) 0 c b s₀ s H o rfl (Nat.zero_le _) (by omega) I hC hS st nf ph hsz
  show Seg _ _ _ _ _ s₀ _ ((compStart D.gexp 0 (.ref D.it) .none (gEnv D.X D.scope D.s0.heap.objs.size D.code)).onRaise (leaving (gEnv D.X D.scope D.s0.heap.objs.size D.code))) [] s
  unfold compStart
  rw [Sem.onRaise_eq_wrap]
  show Seg _ _ _ _ _ s₀ _ ((ask >>= _).wrap _ _ _ _) [] s
  refine seg_bind_wrap (wpAny_askSetting ?_)
  split
  · exact seg_again rfl loop
  · first
      | exact seg_bind_wrap (wpAny_rule (seg_bind_wrap (wpAny_standAt (seg_bind_wrap (O.T.self _ 0 s _ _ st (seg_again rfl loop))))))
      | (refine seg_bind_wrap (wpAny_rule ?_); show Seg _ _ _ _ _ s₀ _ ((standAt D.iter.pos >>= _).wrap _ _ _ _) [] s; exact seg_bind_wrap (wpAny_standAt (seg_bind_wrap (O.T.self _ 0 s _ _ st (seg_again rfl loop)))))
def ready (D : GD β) (gn c : Nat) (b : β) (i : Nat) (s : Shared) : Prop :=
  D.n - i < c ∧ i ≤ D.n ∧ D.asl b i s ∧ ∃ gs, s.gens[gn]? = some gs ∧ ∀ s'' b', D.asl b' i s'' → gs.Goes (model D.X.prog D.X.w) D.X.A.in1.in1 D.R D.Y c (.send .none) s''
def GenO (o : Obj) (gn : Nat) : Prop := ∃ nm qn, o = { cls := .type "generator", data := .fields #[.int gn 0, nm, qn] }
theorem isGen {h : Heap} {a : Addr} {o : Obj} {gn : Nat} (e : h.get? a = some o) (x : GenO o gn) : h.IsGen a gn := by
  obtain ⟨nm, qn, rfl⟩ := x
  exact ⟨_, _, _, e, rfl, rfl, rfl⟩
theorem next {D : GD β} {g : TG} {tt : TT} {te : TE} (O : D.Ok g tt te) {gn c i : Nat} {b : β} {s : Shared} {Q : Option Value → Shared → Prop} {E : Value → Shared → Prop} (hoa : GenO D.oa gn) (hroom : D.X.A.depth < recursionLimit) (inj : ∀ b b' o, D.Cons b o → D.Cons b' o → b = b')
    (r : D.ready gn c b i s)
    (hY : ∀ v s' y H o i' c', c = c' + 1 → i' < D.n → RelV y v → Inv D.cx (D.pn o) (wipe D.σ D.vs) H s' → D.Cons b o → s.heap.get? D.S = some o → D.tn (i' + 1) s'.heap → (∀ x ∈ D.fp, H x = none) → D.Ψ b i' y H → (∀ s'' b', D.asl b' (i' + 1) s'' → s''.gens = s'.gens → D.ready gn c' b' (i' + 1) s'') → Q (some v) s')
    (hE : ∀ s' H o, Inv D.cx (D.pn o) (wipe D.σ D.vs) H s' → D.Qe b H → Q none s') :
    wpAny (model D.X.prog D.X.w) D.X.A.in1 (pyNext (.ref D.a)) Q E s := by
  obtain ⟨hc, hi, asl, gs, hgs, hgo⟩ := r
  obtain ⟨H, o, I, hC, st, nf, ph⟩ := id asl
  have asl' : D.asl b i (s.setGen gn .running) := ⟨H, o, inv_setGen I rfl, hC, st, nf, ph⟩
  have pa := I.pin (D.a, D.oa) (List.mem_append_right _ List.mem_cons_self)
  have pS := I.pin (D.S, o) (List.mem_append_right _ (List.mem_cons_of_mem _ List.mem_cons_self))
  obtain ⟨c', rfl⟩ : ∃ c', c = c' + 1 := ⟨c - 1, by omega⟩
  have hlt : gn < s.gens.size := by
    rcases Nat.lt_or_ge gn s.gens.size with h' | h'
    · exact h'
    · rw [Array.getElem?_eq_none h'] at hgs; cases hgs
  refine wpAny_pyNext_genexpQ (A := D.X.A.in1) (P := D.P) (Y := D.Y) (n := c' + 1) O.hd I.nolimit hroom (isGen pa.1 hoa) hgs (hgo _ b asl') (fun v s₁ gs' hb hv => ?_) (fun s₁ hp h' hk => ?_)
  · obtain ⟨b1, i1, y, H1, o1, hm, hl1, ry, I1, hC1, hS1, st1, nf1, q1, hz, hkap⟩ := hv
    have e1 : o1 = o := by
      have hS1 : s.heap.get? D.S = some o1 := hS1
      rw [pS.1] at hS1
      exact (Option.some.inj hS1).symm
    subst e1
    have e2 := inj _ _ _ hC1 hC
    subst e2
    have hz : (s.setGen gn .running).gens.size ≤ s₁.gens.size := hz
    rw [GenW.setGen_size] at hz
    refine hY v _ y H1 o1 i1 c' rfl hl1 ry (inv_setGen I1 hb) hC1 pS.1 st1 nf1 q1 fun s'' b' as hg => ⟨hm, hl1, as, gs', ?_, fun s3 b3 as3 => hkap s3 b3 as3⟩
    rw [hg]
    show (s₁.gens.setIfInBounds gn gs')[gn]? = some gs'
    have : gn < s₁.gens.size := Nat.lt_of_lt_of_le hlt hz
    simp [this]
  · obtain ⟨b1, H1, o1, I1, hC1, hS1, qe, hz⟩ := hp
    have e1 : o1 = o := by
      have hS1 : s.heap.get? D.S = some o1 := hS1
      rw [pS.1] at hS1
      exact (Option.some.inj hS1).symm
    subst e1
    have e2 := inj _ _ _ hC1 hC
    subst e2
    have I2 : Inv D.cx (D.pn o1) (wipe D.σ D.vs) H1 (s₁.setGen gn .finished) := inv_setGen I1 rfl
    exact hE _ H1 o1 (inv_gens (g' := (s₁.setGen gn .finished).gens) (t' := (s₁.setGen gn .finished).toks) I2 hk I2.bare) qe
end GD
end DL
set_option Elab.async false
set_option linter.all false
set_option maxRecDepth 100000
set_option maxHeartbeats 2000000
/-! DN3: any, all, sum of a generator. -/
namespace DL
open PySem PySem.Spec PyProof.Rows L2
namespace GD
section
variable {D : GD Unit} {g : TG} {tt : TT} {te : TE} {gn : Nat} {QB : Bool → Hp → Prop} {R : Result → Shared → Prop}
theorem any_loop (O : D.Ok g tt te) (hoa : GenO D.oa gn) (hroom : D.X.A.depth < recursionLimit)
    (hΨ : ∀ i y H, D.Ψ () i y H → ∃ bb, y = .bl bb ∧ (bb = true → QB true H) ∧ (bb = false → D.Φ () (i + 1) H)) (hQe : ∀ H, D.Qe () H → QB false H)
    (hR : ∀ s' H o bb, Inv D.cx (D.pn o) (wipe D.σ D.vs) H s' → QB bb H → R (.ok (.ret (.bool bb))) s') :
    ∀ (c i : Nat) (s : Shared), D.ready gn c () i s → codeAny (model D.X.prog D.X.w) D.X.A (.builtin "any.loop" ⟨[.ref D.a], []⟩) R s := by
  intro c
  induction c using Nat.strongRecOn with
  | ind c ih =>
    intro i s r
    refine codeAny_builtin F.entry_any_loop ?_
    rw [Around.under_plainId F.plain_any_loop _]
    show wpAny _ D.X.A.in1 (pyNext (.ref D.a) >>= _) _ _ s
    refine wpAny_bind (next O hoa hroom (fun _ _ _ _ _ => rfl) r (fun v s' y H o i' c' hc hlt ry I hC hS st nf q rd => ?_) (fun s' H o I q => ?_))
    · obtain ⟨bb, rfl, h1, h2⟩ := hΨ i' y H q
      cases ry
      refine wpAny_bind (wpAny_holding (wpAny_truthy_bool ?_))
      refine wpAny_bind (wpAny_letGo ?_)
      cases bb with
      | false =>
        simp only [Bool.false_eq_true, if_false]
        exact wpAny_pure ⟨plainId_quiet F.plain_any_loop _, ih c' (by omega) (i' + 1) s' (rd s' () ⟨H, o, I, hC, st, nf, h2 rfl⟩ rfl)⟩
      | true =>
        simp only [if_true]
        exact wpAny_bind (wpAny_rule (wpAny_pure (hR s' H o true I (h1 rfl))))
    · exact wpAny_bind (wpAny_rule (wpAny_pure (hR s' H o false I (hQe H q))))
theorem all_loop (O : D.Ok g tt te) (hoa : GenO D.oa gn) (hroom : D.X.A.depth < recursionLimit)
    (hΨ : ∀ i y H, D.Ψ () i y H → ∃ bb, y = .bl bb ∧ (bb = false → QB false H) ∧ (bb = true → D.Φ () (i + 1) H)) (hQe : ∀ H, D.Qe () H → QB true H)
    (hR : ∀ s' H o bb, Inv D.cx (D.pn o) (wipe D.σ D.vs) H s' → QB bb H → R (.ok (.ret (.bool bb))) s') :
    ∀ (c i : Nat) (s : Shared), D.ready gn c () i s → codeAny (model D.X.prog D.X.w) D.X.A (.builtin "all.loop" ⟨[.ref D.a], []⟩) R s := by
  intro c
  induction c using Nat.strongRecOn with
  | ind c ih =>
    intro i s r
    refine codeAny_builtin F.entry_all_loop ?_
    rw [Around.under_plainId F.plain_all_loop _]
    show wpAny _ D.X.A.in1 (pyNext (.ref D.a) >>= _) _ _ s
    refine wpAny_bind (next O hoa hroom (fun _ _ _ _ _ => rfl) r (fun v s' y H o i' c' hc hlt ry I hC hS st nf q rd => ?_) (fun s' H o I q => ?_))
    · obtain ⟨bb, rfl, h1, h2⟩ := hΨ i' y H q
      cases ry
      refine wpAny_bind (wpAny_holding (wpAny_truthy_bool ?_))
      refine wpAny_bind (wpAny_letGo ?_)
      cases bb with
      | true =>
        simp only [if_true]
        exact wpAny_pure ⟨plainId_quiet F.plain_all_loop _, ih c' (by omega) (i' + 1) s' (rd s' () ⟨H, o, I, hC, st, nf, h2 rfl⟩ rfl)⟩
      | false =>
        simp only [Bool.false_eq_true, if_false]
        exact wpAny_bind (wpAny_rule (wpAny_pure (hR s' H o false I (h1 rfl))))
    · exact wpAny_bind (wpAny_rule (wpAny_pure (hR s' H o true I (hQe H q))))
end
/-- sum's own list -/
def SumO (b : Int) (o : Obj) : Prop := ∃ t c, o = { cls := .type "list", dict := none, data := .seq #[.int b t] c, slots := #[] }
theorem SumO.inj (b b' : Int) (o : Obj) (h : SumO b o) (h' : SumO b' o) : b = b' := by
  obtain ⟨t, c, rfl⟩ := h
  obtain ⟨t', c', e⟩ := h'
  simp only [Obj.mk.injEq, Data.seq.injEq, Array.mk.injEq] at e
  have e2 := e.2.2.1.1
  simp at e2
  exact e2.1
section
variable {β : Type} {D : GD β} {g : TG} {tt : TT} {te : TE}
theorem upd_S {o o' : Obj} {σ' : L2.St} {H : Hp} {s : Shared} {h' : Heap} {t' : Nat} (I : Inv D.cx (D.pn o) σ' H s) (hne : D.a ≠ D.S) (hS0 : D.s0.heap.objs.size ≤ D.S) (k : ∀ b ob, b ≠ D.S → s.heap.get? b = some ob → h'.get? b = some ob) (hS : h'.get? D.S = some o') (hnc : ∀ v, o'.data ≠ .cell v) :
    Inv D.cx (D.pn o') σ' H { s with heap := h', toks := t' } := by
  have pa := I.pin (D.a, D.oa) (List.mem_append_right _ List.mem_cons_self)
  have pS := I.pin (D.S, o) (List.mem_append_right _ (List.mem_cons_of_mem _ List.mem_cons_self))
  have J : Inv D.cx [(D.a, D.oa)] σ' H s := I.pins_of fun p hp => by rw [List.mem_singleton.mp hp]; exact pa
  have J2 : Inv D.cx [(D.a, D.oa)] σ' H { s with heap := h', toks := t' } := J.turned (it := D.S) k pS.2.1 pS.2.2.1 (.inr hS0) (fun x c e z => by
    obtain ⟨v, ob, ho, hd⟩ := I.cell x c e
    rw [z, pS.1] at ho
    cases ho
    exact pS.2.2.2.2 v hd) (fun p hp => by
      have hp : p ∈ [(D.a, D.oa)] := hp
      rw [List.mem_singleton.mp hp]
      exact hne)
  refine J2.pins_of fun p hp => ?_
  have hp : p ∈ [(D.a, D.oa), (D.S, o')] := hp
  rcases List.mem_cons.mp hp with e | e
  · rw [e]; exact J2.pin (D.a, D.oa) (List.mem_append_right _ List.mem_cons_self)
  · rw [List.mem_singleton.mp e]; exact ⟨hS, pS.2.1, pS.2.2.1, pS.2.2.2.1, hnc⟩
end
section
variable {D : GD Int} {g : TG} {tt : TT} {te : TE} {gn : Nat} {R : Result → Shared → Prop}
theorem sum_loop (O : D.Ok g tt te) (hoa : GenO D.oa gn) (hroom : D.X.A.depth < recursionLimit) (hCons : D.Cons = SumO) (hne : D.a ≠ D.S) (hS0 : D.s0.heap.objs.size ≤ D.S)
    (hΨ : ∀ b i y H, D.Ψ b i y H → ∃ v, y = .int v ∧ D.Φ (b + v) (i + 1) H)
    (hR : ∀ s' H o b t, Inv D.cx (D.pn o) (wipe D.σ D.vs) H s' → D.Qe b H → R (.ok (.ret (.int b t))) s') :
    ∀ (c i : Nat) (b st : Int) (s : Shared), (st = 0 ∨ st = 2) → D.ready gn c b i s → codeAny (model D.X.prog D.X.w) D.X.A (.builtin "sum.loop" ⟨[.ref D.a, .ref D.S, rawInt st, rawInt 0], []⟩) R s := by
  intro c
  induction c using Nat.strongRecOn with
  | ind c ih =>
    intro i b st s hst r
    obtain ⟨H0, o0, I0, hC0, _⟩ := id r.2.2.1
    have pS0 := (I0.pin (D.S, o0) (List.mem_append_right _ (List.mem_cons_of_mem _ List.mem_cons_self))).1
    rw [hCons] at hC0
    obtain ⟨tA, cA, rfl⟩ := hC0
    refine codeAny_builtin F.entry_sum_loop ?_
    rw [Around.under_plainId F.plain_sum_loop _]
    show wpAny _ D.X.A.in1 (seqItems? (.ref D.S) >>= _) _ _ s
    refine wpAny_bind (wpAny_seqItems pS0 rfl ?_)
    show wpAny _ D.X.A.in1 (tryCatch (pyNext (.ref D.a)) _ >>= _) _ _ s
    refine wpAny_bind (wpAny_tryCatch (next O hoa hroom (fun b b' o h h' => SumO.inj b b' o (hCons ▸ h) (hCons ▸ h')) r (fun v s' y H o i' c' hc hlt ry I hC hS st' nf q rd => ?_) (fun s' H o I q => ?_)))
    · obtain ⟨j, rfl, ph⟩ := hΨ b i' y H q
      obtain ⟨t, rfl⟩ := ry
      have hS' := (I.pin (D.S, o) (List.mem_append_right _ (List.mem_cons_of_mem _ List.mem_cons_self))).1
      have eo : o = { cls := .type "list", dict := none, data := .seq #[.int b tA] cA, slots := #[] } := Option.some.inj (hS.symm.trans pS0)
      subst eo
      have nfS : ∀ {h' : Heap}, (∀ x ob, x ≠ D.S → s'.heap.get? x = some ob → h'.get? x = some ob) → D.tn (i' + 1) h' := fun {h'} k => O.T.keep _ _ _ st' fun x hx ob e => k x ob (fun z => O.nS (z ▸ hx)) e
      have fin : ∀ (h' : Heap) (tk tn' c2 : Nat), (∀ x ob, x ≠ D.S → s'.heap.get? x = some ob → h'.get? x = some ob) → h'.get? D.S = some { cls := .type "list", dict := none, data := .seq #[.int (b + j) tn'] c2, slots := #[] } → ∀ st2 : Int, (st2 = 0 ∨ st2 = 2) →
          codeAny (model D.X.prog D.X.w) D.X.A (.builtin "sum.loop" ⟨[.ref D.a, .ref D.S, rawInt st2, rawInt 0], []⟩) R { s' with heap := h', toks := tk } := fun h' tk tn' c2 k hS2 st2 h2 => by
        refine ih c' (by omega) (i' + 1) (b + j) st2 _ h2 (rd _ _ ⟨H, _, upd_S (t' := tk) I hne hS0 k hS2 (fun v z => by cases z), ?_, nfS k, nf, ph⟩ rfl)
        rw [hCons]
        exact ⟨_, _, rfl⟩
      rcases hst with rfl | rfl
      · show wpAny _ _ (if (_ : Bool) = true then (mkInt (b + j) >>= _) else _) _ _ _
        split
        · refine wpAny_bind (wpAny_mkInt ?_)
          show wpAny _ _ (updateSeq D.S (fun _ => #[.int (b + j) s'.toks]) >>= _) _ _ _
          refine wpAny_bind ?_
          refine wpAny_updateSeq hS' rfl (wpAny_pure ⟨plainId_quiet F.plain_sum_loop _, fin _ _ _ _ (fun x ob hx e => (Heap.get?_update_other _ _ (Ne.symm hx)).trans e) (Heap.get?_update_self _ hS' rfl) 0 (.inl rfl)⟩)
        · refine wpAny_bind (wpAny_rule ?_)
          refine wpAny_bind (wpAny_attempt (wpAny_holding (wpAny_add_int ?_)))
          show wpAny _ _ (updateSeq D.S (fun _ => #[.int (b + j) s'.toks]) >>= _) _ _ _
          refine wpAny_bind (wpAny_updateSeq hS' rfl ?_)
          have hS₂ := Heap.get?_update_self (Obj.mapSeq fun _ => #[Value.int (b + j) s'.toks]) hS' rfl
          refine wpAny_bind (wpAny_letGo ?_)
          exact wpAny_bind (wpAny_updateSeq hS₂ rfl (wpAny_pure ⟨plainId_quiet F.plain_sum_loop _, fin _ _ _ _ (fun x ob hx e => (Heap.get?_update_other _ _ (Ne.symm hx)).trans ((Heap.get?_update_other _ _ (Ne.symm hx)).trans e)) (Heap.get?_update_self _ hS₂ rfl) 2 (.inr rfl)⟩))
      · show wpAny _ _ ((holding [Value.int j t] (binaryOp .Add (.int b tA) (.int j t))).attempt >>= _) _ _ _
        refine wpAny_bind (wpAny_attempt (wpAny_holding (wpAny_add_int ?_)))
        show wpAny _ _ (updateSeq D.S (fun _ => #[.int (b + j) s'.toks]) >>= _) _ _ _
        refine wpAny_bind (wpAny_updateSeq hS' rfl ?_)
        have hS₂ := Heap.get?_update_self (Obj.mapSeq fun _ => #[Value.int (b + j) s'.toks]) hS' rfl
        refine wpAny_bind (wpAny_letGo ?_)
        exact wpAny_bind (wpAny_updateSeq hS₂ rfl (wpAny_pure ⟨plainId_quiet F.plain_sum_loop _, fin _ _ _ _ (fun x ob hx e => (Heap.get?_update_other _ _ (Ne.symm hx)).trans ((Heap.get?_update_other _ _ (Ne.symm hx)).trans e)) (Heap.get?_update_self _ hS₂ rfl) 2 (.inr rfl)⟩))
    · exact wpAny_pure (hR s' H o b tA I q)
end
end GD
end DL
set_option Elab.async false
set_option linter.all false
set_option maxRecDepth 100000
set_option maxHeartbeats 2000000
/-! DN4: any, all, sum of a generator expression, in the judgement PE. -/
namespace DL
open PySem PySem.Spec PyProof.Rows L2
/-- the walk of a generator expression: n turns by Φ, what a turn hands out in Ψ -/
def GTurn (J : It) (n : Nat) (σ : L2.St) (vs : List Nat) (g : TG) (tt : TT) (te : TE) (Φ : Nat → Hp → Prop) (Ψ : Nat → V → Hp → Prop) (Qe : Hp → Prop) : Prop :=
  ∀ i H, i ≤ n → Φ i H → (i = n → J.stop i H ∧ Qe H) ∧ (i < n → J.go i H ∧ ∀ x H', J.yld i H x H' → g x (wipe σ vs) H' fun σ2 H2 => wipe σ2 vs = wipe σ vs ∧ tt σ2 H2 fun ok H3 => if ok = true then te σ2 H3 fun y H4 => Ψ i y H4 else Φ (i + 1) H3)
def tAnyX (T : List (Addr × Str)) (wi : TI) (g : TG) (tt : TT) (te : TE) (vs : List Nat) : TE := fun σ H Q => wi σ H fun J H1 => LamX.Tabs T H1 ∧ ∀ H2, LamX.ExtN H1 H2 → LamX.Tabs T H2 → ∃ (n : Nat) (Φ : Nat → Hp → Prop), Φ 0 H2 ∧
  GTurn J n σ vs g tt te Φ (fun i y H => ∃ bb, y = .bl bb ∧ (bb = true → Q (.bl true) H) ∧ (bb = false → Φ (i + 1) H)) (Q (.bl false))
def tAllX (T : List (Addr × Str)) (wi : TI) (g : TG) (tt : TT) (te : TE) (vs : List Nat) : TE := fun σ H Q => wi σ H fun J H1 => LamX.Tabs T H1 ∧ ∀ H2, LamX.ExtN H1 H2 → LamX.Tabs T H2 → ∃ (n : Nat) (Φ : Nat → Hp → Prop), Φ 0 H2 ∧
  GTurn J n σ vs g tt te Φ (fun i y H => ∃ bb, y = .bl bb ∧ (bb = false → Q (.bl false) H) ∧ (bb = true → Φ (i + 1) H)) (Q (.bl true))
def tSumX (T : List (Addr × Str)) (wi : TI) (g : TG) (tt : TT) (te : TE) (vs : List Nat) : TE := fun σ H Q => wi σ H fun J H1 => LamX.Tabs T H1 ∧ ∀ H2, LamX.ExtN H1 H2 → LamX.Tabs T H2 → ∃ (n : Nat) (Φ : Int → Nat → Hp → Prop), Φ 0 0 H2 ∧
  ∀ b, GTurn J n σ vs g tt te (Φ b) (fun i y H => ∃ v, y = .int v ∧ Φ (b + v) (i + 1) H) (Q (.int b))
section
variable {X : Cx} {scope : Scope} {own : List (Str × Nat)} {T : List (Addr × Str)} {c P : Addr} {elt tg iter : Expr} {ifs : List Expr} {gpos pos p : Pos} {wi : TI} {g : TG} {tt : TT} {te : TE} {k : Nat}
/-- the generator's context just behind its making -/
theorem gen_fresh {pins : List (Addr × Obj)} {σ : L2.St} {H2 : Hp} {s4 : Shared} {fp : List Addr} {code : Value} {h' : Heap} {o : Obj} {tk : Nat} {gs : GenState} {mm : Str → Option Value} (I4 : Inv X pins σ H2 s4) (B : GenB X.N X.env.scope scope own) (hN : X.N.Nodup) (hd : X.A.handled = none) (f4 : ∀ b ∈ fp, FpOk X pins H2 b ∧ b < s4.heap.objs.size)
    (hns : h'.Ns s4.heap.objs.size mm) (kp : ∀ b o, s4.heap.get? b = some o → h'.get? b = some o) (hlt : s4.heap.objs.size < h'.objs.size) (hgo : GD.GenO o s4.gens.size) (hgs : gs.bare = true) :
    Inv (genCx X s4 H2 scope code fp) [(h'.objs.size, o)] (wipe σ (own.map (·.2))) H2 { s4 with gens := s4.gens.push gs, toks := tk, heap := h'.push o } := by
  have Ia : Inv (genCx X s4 H2 scope code fp) [] (wipe σ (own.map (·.2))) H2 { s4 with heap := h', gens := s4.gens, toks := s4.toks } := gen_start I4 B hN hd f4 I4.bare hns kp
  have nf := Ia.nofs (Nat.le_refl _)
  have fr := Ia.hok.fresh (Nat.le_refl _)
  have ll := Ia.lt
  have Ib : Inv (genCx X s4 H2 scope code fp) [] (wipe σ (own.map (·.2))) H2 { s4 with gens := s4.gens.push gs, toks := tk, heap := h'.push o } := inv_gens (s := { s4 with heap := h', gens := s4.gens, toks := s4.toks }) (h' := h'.push o) (g' := s4.gens.push gs) (t' := tk) Ia (fun b ob e => Heap.get?_push_of_some _ e) (I4.bare.push hgs)
  refine Ib.pins_of fun q hq => ?_
  rw [List.mem_singleton.mp hq]
  refine ⟨Heap.get?_push_size _ (by obtain ⟨nm, qn, rfl⟩ := hgo; rfl), fr, Nat.ne_of_gt ll, nf, fun v z => ?_⟩
  obtain ⟨nm, qn, rfl⟩ := hgo
  cases z
theorem back_X {pins : List (Addr × Obj)} {σ σ' : L2.St} {H2 H' : Hp} {s4 s' : Shared} {fp : List Addr} {code : Value} {pl : List (Addr × Obj)} (I4 : Inv X pins σ H2 s4) (f4 : ∀ b ∈ fp, FpOk X pins H2 b ∧ b < s4.heap.objs.size) (I : Inv (genCx X s4 H2 scope code fp) pl σ' H' s') : Inv X pins σ H' s' :=
  I4.call' (ch := fp) I.os I.base I.hok I.bare fun b hb => ⟨(f4 b hb).1.2.2.2.1, (f4 b hb).1.2.1, (f4 b hb).1.2.2.2.2.1, (f4 b hb).1.2.2.2.2.2⟩
theorem pe_anyX (hr : Room (k + 3) X.A) (hg : Gl X "any") (hm : X.mg "any" = none) (TB : LamX.TabB X.base X.mg c P) (hcode : X.env.code = .ref c) (hT : (P, X.env.qual ++ "<genexpr>") ∈ T) (hu : ∀ p ∈ T, p.1 = P → p.2 = X.env.qual ++ "<genexpr>") (hN : X.N.Nodup)
    (B : GenB X.N X.env.scope scope own) (hi : PI X tg iter wi) (hpg : ∀ (s : Shared) (H : Hp) (code : Value) (fp : List Addr), Room k (genCx X s H scope code fp).A → PG (genCx X s H scope code fp) tg g) (hpt : ∀ (s : Shared) (H : Hp) (code : Value) (fp : List Addr), Room k (genCx X s H scope code fp).A → PTs (genCx X s H scope code fp) ifs tt)
    (hpe : ∀ (s : Shared) (H : Hp) (code : Value) (fp : List Addr), Room k (genCx X s H scope code fp).A → PE (genCx X s H scope code fp) elt te) (hs : ∀ v, genFold iter X.env v = pure v)
    (he : starEach [.GeneratorExp elt [⟨tg, iter, ifs, 0⟩] scope gpos] X.env = (false, eval (.GeneratorExp elt [⟨tg, iter, ifs, 0⟩] scope gpos) X.env) :: starEach [] X.env) :
    PE X (.Call (.Name "any" p) [.GeneratorExp elt [⟨tg, iter, ifs, 0⟩] scope gpos] [] pos) (tAnyX T wi g tt te (own.map (·.2))) := by
  refine ⟨fun pins s σ H Q I h => ?_⟩
  refine wpAny_Call_Name_kw (ld_blt I hg hm boot_any ?_)
  refine PyProof.Rows.callWith_builtin1 ?_ he (by rfl)
  rw [he]
  show wpAny _ _ (spliced ((false, eval (.GeneratorExp elt [⟨tg, iter, ifs, 0⟩] scope gpos) X.env) :: backTo pos (starEach [] X.env))) _ _ s
  refine Calls.spliced_cons (gen_make (T := T) hr TB hcode hT hu B hi hs I h fun J H1 H2 it fp tn code s4 h' o tk hR x1 x2 I4 TT st4 f4 hns kp hlt hgo => Calls.spliced_nil ?_)
  obtain ⟨n, Φ, φ0, turn⟩ := hR H2 x1 x2
  have hrG : Room k (genCx X s4 H2 scope code fp).A := hr.in1.in1.deeper _
  have nfp : h'.objs.size ∉ fp := fun hb => absurd (Nat.lt_trans (f4 _ hb).2 hlt) (Nat.lt_irrefl _)
  have O : GD.Ok (β := Unit) { X := X, s0 := s4, H0 := H2, scope := scope, code := code, fp := fp, elt := elt, tg := tg, iter := iter, ifs := ifs, gpos := gpos, it := it, a := h'.objs.size, S := h'.objs.size, oa := o, J := J, tn := tn, n := n, σ := σ, vs := own.map (·.2), Cons := fun _ _ => True, Φ := fun _ => Φ, Ψ := fun _ i y H => ∃ bb, y = .bl bb ∧ (bb = true → Q (.bl true) H) ∧ (bb = false → Φ (i + 1) H), Qe := fun _ => Q (.bl false) } g tt te :=
    ⟨hr.hd, TT, nfp, nfp, B.co, hpg _ _ _ _ hrG, hpt _ _ _ _ hrG, hpe _ _ _ _ hrG, fun _ i H hi ph => turn i H hi ph⟩
  have I5 := gen_fresh (tk := tk) (gs := .fresh (.compStart (.GeneratorExp elt [⟨tg, iter, ifs, 0⟩] scope gpos) 0 (.ref it) .none (gEnv X scope s4.heap.objs.size code))) (code := code) I4 B hN hr.hd f4 hns kp hlt hgo rfl
  have pa := I5.pin (h'.objs.size, o) (List.mem_append_right _ List.mem_cons_self)
  refine call_function_tree F.kind_any F.plain_any F.entry_any (F.args_any1 _) ?_
  unfold Builtin.«any»
  refine wpAny_bind (m := oneArg "any" _) (wpAny_pure ?_)
  refine wpAny_bind (wpAny_pyIter_gen (GD.isGen pa.1 hgo) ?_)
  refine wpAny_pure ⟨plainId_quiet F.plain_any_loop _, GD.any_loop (QB := fun b H => Q (.bl b) H) O hgo hr.depth (fun _ _ _ z => z) (fun _ z => z) (fun s' H o' bb I' qb => ?_) (n + 1) 0 _ ⟨by show n - 0 < n + 1; omega, Nat.zero_le _, ⟨H2, o, ?_, trivial, ?_, fun x hx => (f4 x hx).1.1, φ0⟩, _, Array.getElem?_push_size .., fun s'' b' as => ⟨rfl, ?_⟩⟩⟩
  · exact ⟨.bl bb, H, back_X I4 f4 I', rfl, qb⟩
  · refine I5.pins_of fun q hq => ?_
    have hq : q ∈ [(h'.objs.size, o), (h'.objs.size, o)] := hq
    rcases List.mem_cons.mp hq with e | e
    · rw [e]; exact pa
    · rw [List.mem_singleton.mp e]; exact pa
  · exact TT.keep _ _ _ st4 fun b _ ob e => Heap.get?_push_of_some _ (kp b ob e)
  · obtain ⟨H', o', I', hC', st', nf', ph'⟩ := as
    exact GD.seg0 O (by show n < n + 1; omega) I' hC' (I'.pin (h'.objs.size, o') (List.mem_append_right _ (List.mem_cons_of_mem _ List.mem_cons_self))).1 st' nf' ph' (Nat.le_refl _)
theorem pe_allX (hr : Room (k + 3) X.A) (hg : Gl X "all") (hm : X.mg "all" = none) (TB : LamX.TabB X.base X.mg c P) (hcode : X.env.code = .ref c) (hT : (P, X.env.qual ++ "<genexpr>") ∈ T) (hu : ∀ p ∈ T, p.1 = P → p.2 = X.env.qual ++ "<genexpr>") (hN : X.N.Nodup)
    (B : GenB X.N X.env.scope scope own) (hi : PI X tg iter wi) (hpg : ∀ (s : Shared) (H : Hp) (code : Value) (fp : List Addr), Room k (genCx X s H scope code fp).A → PG (genCx X s H scope code fp) tg g) (hpt : ∀ (s : Shared) (H : Hp) (code : Value) (fp : List Addr), Room k (genCx X s H scope code fp).A → PTs (genCx X s H scope code fp) ifs tt)
    (hpe : ∀ (s : Shared) (H : Hp) (code : Value) (fp : List Addr), Room k (genCx X s H scope code fp).A → PE (genCx X s H scope code fp) elt te) (hs : ∀ v, genFold iter X.env v = pure v)
    (he : starEach [.GeneratorExp elt [⟨tg, iter, ifs, 0⟩] scope gpos] X.env = (false, eval (.GeneratorExp elt [⟨tg, iter, ifs, 0⟩] scope gpos) X.env) :: starEach [] X.env) :
    PE X (.Call (.Name "all" p) [.GeneratorExp elt [⟨tg, iter, ifs, 0⟩] scope gpos] [] pos) (tAllX T wi g tt te (own.map (·.2))) := by
  refine ⟨fun pins s σ H Q I h => ?_⟩
  refine wpAny_Call_Name_kw (ld_blt I hg hm PyProof.Rows.boot_all ?_)
  refine PyProof.Rows.callWith_builtin1 ?_ he (by rfl)
  rw [he]
  show wpAny _ _ (spliced ((false, eval (.GeneratorExp elt [⟨tg, iter, ifs, 0⟩] scope gpos) X.env) :: backTo pos (starEach [] X.env))) _ _ s
  refine Calls.spliced_cons (gen_make (T := T) hr TB hcode hT hu B hi hs I h fun J H1 H2 it fp tn code s4 h' o tk hR x1 x2 I4 TT st4 f4 hns kp hlt hgo => Calls.spliced_nil ?_)
  obtain ⟨n, Φ, φ0, turn⟩ := hR H2 x1 x2
  have hrG : Room k (genCx X s4 H2 scope code fp).A := hr.in1.in1.deeper _
  have nfp : h'.objs.size ∉ fp := fun hb => absurd (Nat.lt_trans (f4 _ hb).2 hlt) (Nat.lt_irrefl _)
  have O : GD.Ok (β := Unit) { X := X, s0 := s4, H0 := H2, scope := scope, code := code, fp := fp, elt := elt, tg := tg, iter := iter, ifs := ifs, gpos := gpos, it := it, a := h'.objs.size, S := h'.objs.size, oa := o, J := J, tn := tn, n := n, σ := σ, vs := own.map (·.2), Cons := fun _ _ => True, Φ := fun _ => Φ, Ψ := fun _ i y H => ∃ bb, y = .bl bb ∧ (bb = false → Q (.bl false) H) ∧ (bb = true → Φ (i + 1) H), Qe := fun _ => Q (.bl true) } g tt te :=
    ⟨hr.hd, TT, nfp, nfp, B.co, hpg _ _ _ _ hrG, hpt _ _ _ _ hrG, hpe _ _ _ _ hrG, fun _ i H hi ph => turn i H hi ph⟩
  have I5 := gen_fresh (tk := tk) (gs := .fresh (.compStart (.GeneratorExp elt [⟨tg, iter, ifs, 0⟩] scope gpos) 0 (.ref it) .none (gEnv X scope s4.heap.objs.size code))) (code := code) I4 B hN hr.hd f4 hns kp hlt hgo rfl
  have pa := I5.pin (h'.objs.size, o) (List.mem_append_right _ List.mem_cons_self)
  refine call_function_tree F.kind_all F.plain_all F.entry_all (F.args_all1 _) ?_
  unfold Builtin.«all»
  refine wpAny_bind (m := oneArg "all" _) (wpAny_pure ?_)
  refine wpAny_bind (wpAny_pyIter_gen (GD.isGen pa.1 hgo) ?_)
  refine wpAny_pure ⟨plainId_quiet F.plain_all_loop _, GD.all_loop (QB := fun b H => Q (.bl b) H) O hgo hr.depth (fun _ _ _ z => z) (fun _ z => z) (fun s' H o' bb I' qb => ?_) (n + 1) 0 _ ⟨by show n - 0 < n + 1; omega, Nat.zero_le _, ⟨H2, o, ?_, trivial, ?_, fun x hx => (f4 x hx).1.1, φ0⟩, _, Array.getElem?_push_size .., fun s'' b' as => ⟨rfl, ?_⟩⟩⟩
  · exact ⟨.bl bb, H, back_X I4 f4 I', rfl, qb⟩
  · refine I5.pins_of fun q hq => ?_
    have hq : q ∈ [(h'.objs.size, o), (h'.objs.size, o)] := hq
    rcases List.mem_cons.mp hq with e | e
    · rw [e]; exact pa
    · rw [List.mem_singleton.mp e]; exact pa
  · exact TT.keep _ _ _ st4 fun b _ ob e => Heap.get?_push_of_some _ (kp b ob e)
  · obtain ⟨H', o', I', hC', st', nf', ph'⟩ := as
    exact GD.seg0 O (by show n < n + 1; omega) I' hC' (I'.pin (h'.objs.size, o') (List.mem_append_right _ (List.mem_cons_of_mem _ List.mem_cons_self))).1 st' nf' ph' (Nat.le_refl _)
theorem pe_sumX (hr : Room (k + 3) X.A) (hg : Gl X "sum") (hm : X.mg "sum" = none) (TB : LamX.TabB X.base X.mg c P) (hcode : X.env.code = .ref c) (hT : (P, X.env.qual ++ "<genexpr>") ∈ T) (hu : ∀ p ∈ T, p.1 = P → p.2 = X.env.qual ++ "<genexpr>") (hN : X.N.Nodup)
    (B : GenB X.N X.env.scope scope own) (hi : PI X tg iter wi) (hpg : ∀ (s : Shared) (H : Hp) (code : Value) (fp : List Addr), Room k (genCx X s H scope code fp).A → PG (genCx X s H scope code fp) tg g) (hpt : ∀ (s : Shared) (H : Hp) (code : Value) (fp : List Addr), Room k (genCx X s H scope code fp).A → PTs (genCx X s H scope code fp) ifs tt)
    (hpe : ∀ (s : Shared) (H : Hp) (code : Value) (fp : List Addr), Room k (genCx X s H scope code fp).A → PE (genCx X s H scope code fp) elt te) (hs : ∀ v, genFold iter X.env v = pure v)
    (he : starEach [.GeneratorExp elt [⟨tg, iter, ifs, 0⟩] scope gpos] X.env = (false, eval (.GeneratorExp elt [⟨tg, iter, ifs, 0⟩] scope gpos) X.env) :: starEach [] X.env) :
    PE X (.Call (.Name "sum" p) [.GeneratorExp elt [⟨tg, iter, ifs, 0⟩] scope gpos] [] pos) (tSumX T wi g tt te (own.map (·.2))) := by
  refine ⟨fun pins s σ H Q I h => ?_⟩
  refine wpAny_Call_Name_kw (ld_blt I hg hm PyProof.Rows.boot_sum ?_)
  refine PyProof.Rows.callWith_builtin1 ?_ he (by rfl)
  rw [he]
  show wpAny _ _ (spliced ((false, eval (.GeneratorExp elt [⟨tg, iter, ifs, 0⟩] scope gpos) X.env) :: backTo pos (starEach [] X.env))) _ _ s
  refine Calls.spliced_cons (gen_make (T := T) hr TB hcode hT hu B hi hs I h fun J H1 H2 it fp tn code s4 h' o tk hR x1 x2 I4 TT st4 f4 hns kp hlt hgo => Calls.spliced_nil ?_)
  obtain ⟨n, Φ, φ0, turn⟩ := hR H2 x1 x2
  have hrG : Room k (genCx X s4 H2 scope code fp).A := hr.in1.in1.deeper _
  have nfp : h'.objs.size ∉ fp := fun hb => absurd (Nat.lt_trans (f4 _ hb).2 hlt) (Nat.lt_irrefl _)
  have nfS : h'.objs.size + 1 ∉ fp := fun hb => by
    have h1 : h'.objs.size + 1 < s4.heap.objs.size := (f4 _ hb).2
    exact absurd (Nat.lt_trans hlt (Nat.lt_of_succ_lt h1)) (Nat.lt_irrefl _)
  have O : GD.Ok (β := Int) { X := X, s0 := s4, H0 := H2, scope := scope, code := code, fp := fp, elt := elt, tg := tg, iter := iter, ifs := ifs, gpos := gpos, it := it, a := h'.objs.size, S := h'.objs.size + 1, oa := o, J := J, tn := tn, n := n, σ := σ, vs := own.map (·.2), Cons := GD.SumO, Φ := Φ, Ψ := fun b i y H => ∃ v, y = .int v ∧ Φ (b + v) (i + 1) H, Qe := fun b => Q (.int b) } g tt te :=
    ⟨hr.hd, TT, nfp, nfS, B.co, hpg _ _ _ _ hrG, hpt _ _ _ _ hrG, hpe _ _ _ _ hrG, fun b i H hi ph => turn b i H hi ph⟩
  have I5 := gen_fresh (tk := tk) (gs := .fresh (.compStart (.GeneratorExp elt [⟨tg, iter, ifs, 0⟩] scope gpos) 0 (.ref it) .none (gEnv X scope s4.heap.objs.size code))) (code := code) I4 B hN hr.hd f4 hns kp hlt hgo rfl
  have pa := I5.pin (h'.objs.size, o) (List.mem_append_right _ List.mem_cons_self)
  have hsz : (h'.push o).objs.size = h'.objs.size + 1 := Heap.size_push ..
  refine call_function_tree F.kind_sum F.plain_sum F.entry_sum (F.args_sum1 _) ?_
  unfold Builtin.«sum»
  simp only [List.length_cons, List.length_nil]
  rw [if_neg (by decide)]
  refine wpAny_bind (wpAny_of_eq (show Builtin.Builtins.bindParams "sum" ["start"] 0 { } = pure [none] from rfl) ?_)
  refine wpAny_bind (wpAny_pyIter_gen (GD.isGen pa.1 hgo) ?_)
  refine wpAny_bind (wpAny_mkInt ?_)
  refine wpAny_bind (wpAny_pure ?_)
  simp only [List.forIn_cons, List.forIn_nil]
  refine wpAny_bind (wpAny_bind (wpAny_bind (wpAny_isInstance (T := "int") (b := false) (typeIs_int _ _ _) PySem.sub_int_str ?_)))
  simp only [Bool.false_eq_true, if_false]
  refine wpAny_pure (wpAny_bind (wpAny_bind (wpAny_isInstance (T := "int") (b := false) (typeIs_int _ _ _) PySem.sub_int_bytes ?_)))
  simp only [Bool.false_eq_true, if_false]
  refine wpAny_pure (wpAny_bind (wpAny_bind (wpAny_isInstance (T := "int") (b := false) (typeIs_int _ _ _) PySem.sub_int_bytearray ?_)))
  simp only [Bool.false_eq_true, if_false]
  refine wpAny_pure (wpAny_pure ?_)
  refine wpAny_bind (wpAny_newObj_type ?_)
  rw [hsz]
  refine wpAny_pure ⟨plainId_quiet F.plain_sum_loop _, GD.sum_loop O hgo hr.depth rfl (by show h'.objs.size ≠ h'.objs.size + 1; omega) (by show s4.heap.objs.size ≤ h'.objs.size + 1; omega) (fun _ _ _ _ z => z) (fun s' H o' b t I' qb => ?_) (n + 1) 0 0 0 _ (.inl rfl) ⟨by show n - 0 < n + 1; omega, Nat.zero_le _, ⟨H2, { cls := .type "list", dict := none, data := .seq #[.int 0 tk] 0, slots := #[] }, ?_, ⟨_, _, rfl⟩, ?_, fun x hx => (f4 x hx).1.1, φ0⟩, _, Array.getElem?_push_size .., fun s'' b' as => ⟨rfl, ?_⟩⟩⟩
  · exact ⟨.int b, H, back_X I4 f4 I', ⟨t, rfl⟩, qb⟩
  · have nf := I5.nofs (a := h'.objs.size + 1) (by show (h'.push o).objs.size ≤ _; omega)
    have fr := I5.hok.fresh (a := h'.objs.size + 1) (by show (h'.push o).objs.size ≤ _; omega)
    have ll := I5.lt
    have ll : s4.heap.objs.size < (h'.push o).objs.size := ll
    refine (inv_gens I5 (fun b ob e => Heap.get?_push_of_some _ e) I5.bare).pins_of fun q hq => ?_
    have hq : q ∈ [(h'.objs.size, o), (h'.objs.size + 1, ({ cls := .type "list", dict := none, data := .seq #[.int 0 tk] 0, slots := #[] } : Obj))] := hq
    rcases List.mem_cons.mp hq with e | e
    · rw [e]; exact ⟨Heap.get?_push_of_some _ pa.1, pa.2⟩
    · rw [List.mem_singleton.mp e]
      refine ⟨?_, fr, by show h'.objs.size + 1 ≠ s4.heap.objs.size; omega, nf, fun v z => by cases z⟩
      show ((h'.push o).push _).get? (h'.objs.size + 1) = _
      rw [← hsz]
      exact Heap.get?_push_size _ rfl
  · exact TT.keep _ _ _ st4 fun b _ ob e => Heap.get?_push_of_some _ (Heap.get?_push_of_some _ (kp b ob e))
  · obtain ⟨H', o', I', hC', st', nf', ph'⟩ := as
    exact GD.seg0 O (by show n < n + 1; omega) I' hC' (I'.pin (h'.objs.size + 1, o') (List.mem_append_right _ (List.mem_cons_of_mem _ List.mem_cons_self))).1 st' nf' ph' (Nat.le_refl _)
end
end DL
set_option Elab.async false
set_option linter.all false
set_option maxRecDepth 100000
set_option maxHeartbeats 2000000
/-! DN5: any, all, sum of a generator expression: the denotations. -/
namespace DL
open PySem PySem.Spec PyProof.Rows L2
/-- the walk until an item gives «stop» -/
def anyL (stop : Bool) (grd : Store → Bool) (g : DG) (tt : DT) (fe : DE) (ρ : DEnv) : List D → Store → Out Bool
  | [], S => if grd S = true then .ok (!stop) S else .bad
  | d :: ds, S => if grd S = true then (match g d ρ S with
    | .nx ρ1 S1 => (match tt ρ1 S1 with
      | .ok true S2 => (match fe ρ1 S2 with
        | .ok (.bl b) S3 => if b = stop then .ok stop S3 else anyL stop grd g tt fe ρ ds S3
        | _ => .bad)
      | .ok false S2 => anyL stop grd g tt fe ρ ds S2
      | _ => .bad)
    | _ => .bad) else .bad
def sumL (grd : Store → Bool) (g : DG) (tt : DT) (fe : DE) (ρ : DEnv) : List D → Int → Store → Out Int
  | [], acc, S => if grd S = true then .ok acc S else .bad
  | d :: ds, acc, S => if grd S = true then (match g d ρ S with
    | .nx ρ1 S1 => (match tt ρ1 S1 with
      | .ok true S2 => (match fe ρ1 S2 with
        | .ok (.int v) S3 => sumL grd g tt fe ρ ds (acc + v) S3
        | _ => .bad)
      | .ok false S2 => sumL grd g tt fe ρ ds acc S2
      | _ => .bad)
    | _ => .bad) else .bad
def dAnyX (fi : DI) (g : DG) (tt : DT) (fe : DE) (vs : List Nat) : DE := fun ρ S => (fi ρ S).bind fun src S1 => (anyL true src.grd g tt fe (wipeD ρ vs) src.items S1).bind fun b S2 => .ok (.bl b) S2
def dAllX (fi : DI) (g : DG) (tt : DT) (fe : DE) (vs : List Nat) : DE := fun ρ S => (fi ρ S).bind fun src S1 => (anyL false src.grd g tt fe (wipeD ρ vs) src.items S1).bind fun b S2 => .ok (.bl b) S2
def dSumX (fi : DI) (g : DG) (tt : DT) (fe : DE) (vs : List Nat) : DE := fun ρ S => (fi ρ S).bind fun src S1 => (sumL src.grd g tt fe (wipeD ρ vs) src.items 0 S1).bind fun b S2 => .ok (.int b) S2
theorem anyL_grd {K : PySem.W.Frag} {G : Gx} {α β : Type} {rel : List Addr → Hp → α → β → Prop} {Q : β → Hp → Prop} {Wc : Value → Option Addr → Hp → Prop} {m : List Addr} {H : Hp} {stop : Bool} {grd : Store → Bool} {g : DG} {tt : DT} {fe : DE} {ρ : DEnv} {ds : List D} {S : Store} {k : Bool → Store → Out α}
    (h : EO K G rel Q Wc m H ((anyL stop grd g tt fe ρ ds S).bind k)) : grd S = true := by
  cases q : grd S with
  | true => rfl
  | false =>
    exfalso
    cases ds with
    | nil => unfold anyL at h; rw [q] at h; exact h
    | cons d ds => unfold anyL at h; rw [q] at h; exact h
theorem sumL_grd {K : PySem.W.Frag} {G : Gx} {α β : Type} {rel : List Addr → Hp → α → β → Prop} {Q : β → Hp → Prop} {Wc : Value → Option Addr → Hp → Prop} {m : List Addr} {H : Hp} {grd : Store → Bool} {g : DG} {tt : DT} {fe : DE} {ρ : DEnv} {ds : List D} {acc : Int} {S : Store} {k : Int → Store → Out α}
    (h : EO K G rel Q Wc m H ((sumL grd g tt fe ρ ds acc S).bind k)) : grd S = true := by
  cases q : grd S with
  | true => rfl
  | false =>
    exfalso
    cases ds with
    | nil => unfold sumL at h; rw [q] at h; exact h
    | cons d ds => unfold sumL at h; rw [q] at h; exact h
section
variable {X : Cx} {G : Gx} {W : WX} {vs : List Nat} {elt tg iter : Expr} {ifs : List Expr} {scope : Scope} {own : List (Str × Nat)} {fi : DI} {g : DG} {tt : DT} {fe : DE} {c P : Addr} {k : Nat} {gpos pos p : Pos}
theorem anyX_core {σ : L2.St} {H : Hp} {Q : VK} (h : tD X.K G W (dAnyX fi g tt fe vs) σ H Q) : tAnyX G.T (tDI X.K G W fi) (tDGv X.K G W0 vs g) (tDT X.K G W0 tt) (tD X.K G W0 fe) vs σ H Q := by
  obtain ⟨m, ρ, S, sr, sm, eo⟩ := h
  refine ⟨m, ρ, S, sr, sm, EO.then (rel := SrcOk X.K G) eo fun src S1 J H1 m1 st1 sm1 w eo1 => ⟨sm1.tabs, fun H2 x1 x2 => ?_⟩⟩
  obtain ⟨st2, sm2⟩ := sim_ext sm1 x1 x2
  have sr1 := sr.mono sm st1
  refine ⟨src.items.length, fun i H => ∃ m S, Step m1 H1 m H ∧ Sim X.K G m S H ∧ EO X.K G (SV X.K) Q (fun c d H' => W c d σ H') m H ((anyL true src.grd g tt fe (wipeD ρ vs) (src.items.drop i) S).bind fun b S2 => .ok (.bl b) S2), ⟨m1, S1, st2, sm2, eo1.step st2⟩, fun i H hi ⟨m, S, st, sm, eo⟩ => ?_⟩
  have hgd := anyL_grd eo
  refine ⟨fun e => ?_, fun hlt => ⟨w.goes i H hlt ⟨m, S, st, sm, hgd⟩, fun x H' hy => ?_⟩⟩
  · subst e
    refine ⟨w.stops H ⟨m, S, st, sm, hgd⟩, ?_⟩
    rw [List.drop_length] at eo
    unfold anyL at eo
    rw [if_pos hgd] at eo
    exact eo _ H m sm.refl sm rfl
  · obtain ⟨d, hd, st3, sm3, sv⟩ := w.yields i H x H' hlt ⟨m, S, st, sm, hgd⟩ hy m S st sm hgd
    have e0 : src.items.drop i = d :: src.items.drop (i + 1) := by
      rw [List.drop_eq_getElem_cons hlt]
      rw [List.getElem?_eq_getElem hlt] at hd
      cases hd
      rfl
    rw [e0] at eo
    unfold anyL at eo
    rw [if_pos hgd] at eo
    have srw : SR X.K m H' (wipeD ρ vs) (wipe σ vs) := (sr1.mono sm1 (st.trans st3)).wipe vs
    refine ⟨m, wipeD ρ vs, S, d, srw, sm3, sv, ?_⟩
    have eo := eo.step st3
    cases e1 : g d (wipeD ρ vs) S with
    | nx ρ1 Sa =>
      rw [e1] at eo
      dsimp only at eo
      intro σ4 H4 m4 st4 sm4 sr4 ag
      refine ⟨wipe_agree ag, m4, ρ1, Sa, sr4, sm4, ?_⟩
      have eo := eo.step st4
      cases e2 : tt ρ1 Sa with
      | ok b Sb =>
        rw [e2] at eo
        intro b' H5 m5 st5 sm5 rb
        cases rb
        have eo := eo.step st5
        cases b with
        | true =>
          rw [if_pos rfl]
          dsimp only at eo
          refine ⟨m5, ρ1, Sb, sr4.mono sm4 st5, sm5, ?_⟩
          cases e3 : fe ρ1 Sb with
          | ok y Sc =>
            rw [e3] at eo
            intro u H6 m6 st6 sm6 ru
            have eo := eo.step st6
            have stZ := (((st.trans st3).trans st4).trans st5).trans st6
            cases y with
            | bl bb =>
              refine ⟨bb, ru, fun z => ?_, fun z => ?_⟩
              · subst z
                dsimp only at eo
                rw [if_pos rfl] at eo
                exact eo _ H6 m6 sm6.refl sm6 rfl
              · subst z
                dsimp only at eo
                rw [if_neg (by decide)] at eo
                exact ⟨m6, Sc, stZ, sm6, eo⟩
            | _ => exact eo.elim
          | exn x Sc => rw [e3] at eo; exact eo.elim
          | bad => rw [e3] at eo; exact eo.elim
        | false =>
          rw [if_neg Bool.false_ne_true]
          exact ⟨m5, Sb, ((st.trans st3).trans st4).trans st5, sm5, eo⟩
      | exn x Sb => rw [e2] at eo; exact eo.elim
      | bad => rw [e2] at eo; exact eo.elim
    | exn x ρ1 Sa => rw [e1] at eo; exact eo.elim
    | rt d Sa => rw [e1] at eo; exact eo.elim
    | bk ρ1 Sa => rw [e1] at eo; exact eo.elim
    | ct ρ1 Sa => rw [e1] at eo; exact eo.elim
    | bad => rw [e1] at eo; exact eo.elim
theorem je_anyX (hr : Room (k + 3) X.A) (hm : X.mg "any" = none) (TB : LamX.TabB X.base X.mg c P) (hcode : X.env.code = .ref c) (hT : (P, X.env.qual ++ "<genexpr>") ∈ G.T) (hu : ∀ p ∈ G.T, p.1 = P → p.2 = X.env.qual ++ "<genexpr>") (hN : X.N.Nodup)
    (B : GenB X.N X.env.scope scope own) (hi : JI X G W tg iter fi) (hg : ∀ (s : Shared) (H : Hp) (code : Value) (fp : List Addr), Room k (genCx X s H scope code fp).A → JGv (genCx X s H scope code fp) G W0 vs tg g) (ht : ∀ (s : Shared) (H : Hp) (code : Value) (fp : List Addr), Room k (genCx X s H scope code fp).A → JTs (genCx X s H scope code fp) G W0 ifs tt)
    (he : ∀ (s : Shared) (H : Hp) (code : Value) (fp : List Addr), Room k (genCx X s H scope code fp).A → JE (genCx X s H scope code fp) G W0 elt fe) (hg2 : Gl X "any" := by rfl) (hs : ∀ v, genFold iter X.env v = pure v := by intro _; rfl)
    (hst : starEach [.GeneratorExp elt [⟨tg, iter, ifs, 0⟩] scope gpos] X.env = (false, eval (.GeneratorExp elt [⟨tg, iter, ifs, 0⟩] scope gpos) X.env) :: starEach [] X.env := by rfl) (hvs : own.map (·.2) = vs := by rfl) :
    JE X G W (.Call (.Name "any" p) [.GeneratorExp elt [⟨tg, iter, ifs, 0⟩] scope gpos] [] pos) (dAnyX fi g tt fe vs) := by
  subst hvs
  exact PE.imp (pe_anyX hr hg2 hm TB hcode hT hu hN B hi hg ht he hs hst) fun σ H Q h => anyX_core h
theorem allX_core {σ : L2.St} {H : Hp} {Q : VK} (h : tD X.K G W (dAllX fi g tt fe vs) σ H Q) : tAllX G.T (tDI X.K G W fi) (tDGv X.K G W0 vs g) (tDT X.K G W0 tt) (tD X.K G W0 fe) vs σ H Q := by
  obtain ⟨m, ρ, S, sr, sm, eo⟩ := h
  refine ⟨m, ρ, S, sr, sm, EO.then (rel := SrcOk X.K G) eo fun src S1 J H1 m1 st1 sm1 w eo1 => ⟨sm1.tabs, fun H2 x1 x2 => ?_⟩⟩
  obtain ⟨st2, sm2⟩ := sim_ext sm1 x1 x2
  have sr1 := sr.mono sm st1
  refine ⟨src.items.length, fun i H => ∃ m S, Step m1 H1 m H ∧ Sim X.K G m S H ∧ EO X.K G (SV X.K) Q (fun c d H' => W c d σ H') m H ((anyL false src.grd g tt fe (wipeD ρ vs) (src.items.drop i) S).bind fun b S2 => .ok (.bl b) S2), ⟨m1, S1, st2, sm2, eo1.step st2⟩, fun i H hi ⟨m, S, st, sm, eo⟩ => ?_⟩
  have hgd := anyL_grd eo
  refine ⟨fun e => ?_, fun hlt => ⟨w.goes i H hlt ⟨m, S, st, sm, hgd⟩, fun x H' hy => ?_⟩⟩
  · subst e
    refine ⟨w.stops H ⟨m, S, st, sm, hgd⟩, ?_⟩
    rw [List.drop_length] at eo
    unfold anyL at eo
    rw [if_pos hgd] at eo
    exact eo _ H m sm.refl sm rfl
  · obtain ⟨d, hd, st3, sm3, sv⟩ := w.yields i H x H' hlt ⟨m, S, st, sm, hgd⟩ hy m S st sm hgd
    have e0 : src.items.drop i = d :: src.items.drop (i + 1) := by
      rw [List.drop_eq_getElem_cons hlt]
      rw [List.getElem?_eq_getElem hlt] at hd
      cases hd
      rfl
    rw [e0] at eo
    unfold anyL at eo
    rw [if_pos hgd] at eo
    have srw : SR X.K m H' (wipeD ρ vs) (wipe σ vs) := (sr1.mono sm1 (st.trans st3)).wipe vs
    refine ⟨m, wipeD ρ vs, S, d, srw, sm3, sv, ?_⟩
    have eo := eo.step st3
    cases e1 : g d (wipeD ρ vs) S with
    | nx ρ1 Sa =>
      rw [e1] at eo
      dsimp only at eo
      intro σ4 H4 m4 st4 sm4 sr4 ag
      refine ⟨wipe_agree ag, m4, ρ1, Sa, sr4, sm4, ?_⟩
      have eo := eo.step st4
      cases e2 : tt ρ1 Sa with
      | ok b Sb =>
        rw [e2] at eo
        intro b' H5 m5 st5 sm5 rb
        cases rb
        have eo := eo.step st5
        cases b with
        | true =>
          rw [if_pos rfl]
          dsimp only at eo
          refine ⟨m5, ρ1, Sb, sr4.mono sm4 st5, sm5, ?_⟩
          cases e3 : fe ρ1 Sb with
          | ok y Sc =>
            rw [e3] at eo
            intro u H6 m6 st6 sm6 ru
            have eo := eo.step st6
            have stZ := (((st.trans st3).trans st4).trans st5).trans st6
            cases y with
            | bl bb =>
              refine ⟨bb, ru, fun z => ?_, fun z => ?_⟩
              · subst z
                dsimp only at eo
                rw [if_pos rfl] at eo
                exact eo _ H6 m6 sm6.refl sm6 rfl
              · subst z
                dsimp only at eo
                rw [if_neg (by decide)] at eo
                exact ⟨m6, Sc, stZ, sm6, eo⟩
            | _ => exact eo.elim
          | exn x Sc => rw [e3] at eo; exact eo.elim
          | bad => rw [e3] at eo; exact eo.elim
        | false =>
          rw [if_neg Bool.false_ne_true]
          exact ⟨m5, Sb, ((st.trans st3).trans st4).trans st5, sm5, eo⟩
      | exn x Sb => rw [e2] at eo; exact eo.elim
      | bad => rw [e2] at eo; exact eo.elim
    | exn x ρ1 Sa => rw [e1] at eo; exact eo.elim
    | rt d Sa => rw [e1] at eo; exact eo.elim
    | bk ρ1 Sa => rw [e1] at eo; exact eo.elim
    | ct ρ1 Sa => rw [e1] at eo; exact eo.elim
    | bad => rw [e1] at eo; exact eo.elim
theorem je_allX (hr : Room (k + 3) X.A) (hm : X.mg "all" = none) (TB : LamX.TabB X.base X.mg c P) (hcode : X.env.code = .ref c) (hT : (P, X.env.qual ++ "<genexpr>") ∈ G.T) (hu : ∀ p ∈ G.T, p.1 = P → p.2 = X.env.qual ++ "<genexpr>") (hN : X.N.Nodup)
    (B : GenB X.N X.env.scope scope own) (hi : JI X G W tg iter fi) (hg : ∀ (s : Shared) (H : Hp) (code : Value) (fp : List Addr), Room k (genCx X s H scope code fp).A → JGv (genCx X s H scope code fp) G W0 vs tg g) (ht : ∀ (s : Shared) (H : Hp) (code : Value) (fp : List Addr), Room k (genCx X s H scope code fp).A → JTs (genCx X s H scope code fp) G W0 ifs tt)
    (he : ∀ (s : Shared) (H : Hp) (code : Value) (fp : List Addr), Room k (genCx X s H scope code fp).A → JE (genCx X s H scope code fp) G W0 elt fe) (hg2 : Gl X "all" := by rfl) (hs : ∀ v, genFold iter X.env v = pure v := by intro _; rfl)
    (hst : starEach [.GeneratorExp elt [⟨tg, iter, ifs, 0⟩] scope gpos] X.env = (false, eval (.GeneratorExp elt [⟨tg, iter, ifs, 0⟩] scope gpos) X.env) :: starEach [] X.env := by rfl) (hvs : own.map (·.2) = vs := by rfl) :
    JE X G W (.Call (.Name "all" p) [.GeneratorExp elt [⟨tg, iter, ifs, 0⟩] scope gpos] [] pos) (dAllX fi g tt fe vs) := by
  subst hvs
  exact PE.imp (pe_allX hr hg2 hm TB hcode hT hu hN B hi hg ht he hs hst) fun σ H Q h => allX_core h
theorem sumX_core {σ : L2.St} {H : Hp} {Q : VK} (h : tD X.K G W (dSumX fi g tt fe vs) σ H Q) : tSumX G.T (tDI X.K G W fi) (tDGv X.K G W0 vs g) (tDT X.K G W0 tt) (tD X.K G W0 fe) vs σ H Q := by
  obtain ⟨m, ρ, S, sr, sm, eo⟩ := h
  refine ⟨m, ρ, S, sr, sm, EO.then (rel := SrcOk X.K G) eo fun src S1 J H1 m1 st1 sm1 w eo1 => ⟨sm1.tabs, fun H2 x1 x2 => ?_⟩⟩
  obtain ⟨st2, sm2⟩ := sim_ext sm1 x1 x2
  have sr1 := sr.mono sm st1
  refine ⟨src.items.length, fun b i H => ∃ m S, Step m1 H1 m H ∧ Sim X.K G m S H ∧ EO X.K G (SV X.K) Q (fun c d H' => W c d σ H') m H ((sumL src.grd g tt fe (wipeD ρ vs) (src.items.drop i) b S).bind fun b S2 => .ok (.int b) S2), ⟨m1, S1, st2, sm2, eo1.step st2⟩, fun b => fun i H hi ⟨m, S, st, sm, eo⟩ => ?_⟩
  have hgd := sumL_grd eo
  refine ⟨fun e => ?_, fun hlt => ⟨w.goes i H hlt ⟨m, S, st, sm, hgd⟩, fun x H' hy => ?_⟩⟩
  · subst e
    refine ⟨w.stops H ⟨m, S, st, sm, hgd⟩, ?_⟩
    rw [List.drop_length] at eo
    unfold sumL at eo
    rw [if_pos hgd] at eo
    exact eo _ H m sm.refl sm rfl
  · obtain ⟨d, hd, st3, sm3, sv⟩ := w.yields i H x H' hlt ⟨m, S, st, sm, hgd⟩ hy m S st sm hgd
    have e0 : src.items.drop i = d :: src.items.drop (i + 1) := by
      rw [List.drop_eq_getElem_cons hlt]
      rw [List.getElem?_eq_getElem hlt] at hd
      cases hd
      rfl
    rw [e0] at eo
    unfold sumL at eo
    rw [if_pos hgd] at eo
    have srw : SR X.K m H' (wipeD ρ vs) (wipe σ vs) := (sr1.mono sm1 (st.trans st3)).wipe vs
    refine ⟨m, wipeD ρ vs, S, d, srw, sm3, sv, ?_⟩
    have eo := eo.step st3
    cases e1 : g d (wipeD ρ vs) S with
    | nx ρ1 Sa =>
      rw [e1] at eo
      dsimp only at eo
      intro σ4 H4 m4 st4 sm4 sr4 ag
      refine ⟨wipe_agree ag, m4, ρ1, Sa, sr4, sm4, ?_⟩
      have eo := eo.step st4
      cases e2 : tt ρ1 Sa with
      | ok b Sb =>
        rw [e2] at eo
        intro b' H5 m5 st5 sm5 rb
        cases rb
        have eo := eo.step st5
        cases b with
        | true =>
          rw [if_pos rfl]
          dsimp only at eo
          refine ⟨m5, ρ1, Sb, sr4.mono sm4 st5, sm5, ?_⟩
          cases e3 : fe ρ1 Sb with
          | ok y Sc =>
            rw [e3] at eo
            intro u H6 m6 st6 sm6 ru
            have eo := eo.step st6
            have stZ := (((st.trans st3).trans st4).trans st5).trans st6
            cases y with
            | int v => exact ⟨v, ru, m6, Sc, stZ, sm6, eo⟩
            | _ => exact eo.elim
          | exn x Sc => rw [e3] at eo; exact eo.elim
          | bad => rw [e3] at eo; exact eo.elim
        | false =>
          rw [if_neg Bool.false_ne_true]
          exact ⟨m5, Sb, ((st.trans st3).trans st4).trans st5, sm5, eo⟩
      | exn x Sb => rw [e2] at eo; exact eo.elim
      | bad => rw [e2] at eo; exact eo.elim
    | exn x ρ1 Sa => rw [e1] at eo; exact eo.elim
    | rt d Sa => rw [e1] at eo; exact eo.elim
    | bk ρ1 Sa => rw [e1] at eo; exact eo.elim
    | ct ρ1 Sa => rw [e1] at eo; exact eo.elim
    | bad => rw [e1] at eo; exact eo.elim
theorem je_sumX (hr : Room (k + 3) X.A) (hm : X.mg "sum" = none) (TB : LamX.TabB X.base X.mg c P) (hcode : X.env.code = .ref c) (hT : (P, X.env.qual ++ "<genexpr>") ∈ G.T) (hu : ∀ p ∈ G.T, p.1 = P → p.2 = X.env.qual ++ "<genexpr>") (hN : X.N.Nodup)
    (B : GenB X.N X.env.scope scope own) (hi : JI X G W tg iter fi) (hg : ∀ (s : Shared) (H : Hp) (code : Value) (fp : List Addr), Room k (genCx X s H scope code fp).A → JGv (genCx X s H scope code fp) G W0 vs tg g) (ht : ∀ (s : Shared) (H : Hp) (code : Value) (fp : List Addr), Room k (genCx X s H scope code fp).A → JTs (genCx X s H scope code fp) G W0 ifs tt)
    (he : ∀ (s : Shared) (H : Hp) (code : Value) (fp : List Addr), Room k (genCx X s H scope code fp).A → JE (genCx X s H scope code fp) G W0 elt fe) (hg2 : Gl X "sum" := by rfl) (hs : ∀ v, genFold iter X.env v = pure v := by intro _; rfl)
    (hst : starEach [.GeneratorExp elt [⟨tg, iter, ifs, 0⟩] scope gpos] X.env = (false, eval (.GeneratorExp elt [⟨tg, iter, ifs, 0⟩] scope gpos) X.env) :: starEach [] X.env := by rfl) (hvs : own.map (·.2) = vs := by rfl) :
    JE X G W (.Call (.Name "sum" p) [.GeneratorExp elt [⟨tg, iter, ifs, 0⟩] scope gpos] [] pos) (dSumX fi g tt fe vs) := by
  subst hvs
  exact PE.imp (pe_sumX hr hg2 hm TB hcode hT hu hN B hi hg ht he hs hst) fun σ H Q h => sumX_core h
end
end DL
set_option Elab.async false
set_option linter.all false
set_option maxRecDepth 100000
set_option maxHeartbeats 4000000
/-! DN6: zip of two sequences of any kind; pop, extend; xs[i] op= e. -/
namespace DL
open PySem PySem.Spec PyProof.Rows L2
/-! ### zip -/
inductive Sd where
  | l | t
def Sd.Sq (K : PySem.W.Frag) : Sd → Hp → Addr → List V → Prop
  | .l => SqL K
  | .t => SqT K
def Sd.it : Sd → Heap → Addr → Addr → Nat → Prop
  | .l => Heap.IsListIter
  | .t => Heap.IsTupleIter
def Sd.sq : Sd → Heap → Addr → Array Value → Prop
  | .l => Heap.IsList
  | .t => Heap.IsTuple
def Sd.ob (d : Sd) (a : Addr) : Obj := { cls := .type (match d with | .l => "list_iterator" | .t => "tuple_iterator"), data := .fields #[.ref a, .int 0 0] }
theorem Sd.draws (d : Sd) {prog : Program} {w : World} {A : Around} (hh : A.handled = none) (it a : Addr) (hne : a ≠ it) (items : Array Value) :
    Draws prog w A it [it, a] items.size (fun i v => items[i]? = some v) (fun i h => d.it h it a i ∧ d.sq h a items) := by
  cases d with
  | l => exact Draws.list hh it a hne items
  | t => exact Draws.tuple hh it a hne items
theorem Sd.begins (d : Sd) (a : Addr) (items : Array Value) : Begins (.ref a) (d.ob a) fun h => d.sq h a items := by
  cases d with
  | l => exact begins_list a items
  | t => exact begins_tuple a items
theorem Sd.it_at (d : Sd) {h h' : Heap} {it a : Addr} {k : Nat} (x : d.it h it a k) (e : ∀ o, h.get? it = some o → h'.get? it = some o) : d.it h' it a k := by
  cases d with
  | l => exact Heap.IsListIter.at x e
  | t => exact Heap.IsTupleIter.at x e
theorem Sd.it_obj (d : Sd) {h : Heap} {it a : Addr} {k : Nat} (x : d.it h it a k) : ∃ o, h.get? it = some o ∧ ∀ v, o.data ≠ .cell v := by
  cases d with
  | l => obtain ⟨o, e, c, dd⟩ := x; exact ⟨o, e, fun v z => by rw [dd] at z; cases z⟩
  | t => obtain ⟨o, e, c, dd⟩ := x; exact ⟨o, e, fun v z => by rw [dd] at z; cases z⟩
theorem Sd.it_new (d : Sd) {h : Heap} {it a : Addr} (e : h.get? it = some (d.ob a)) : d.it h it a 0 := by
  cases d with
  | l => exact ⟨_, e, rfl, rfl⟩
  | t => exact ⟨_, e, rfl, rfl⟩
theorem Sd.sq_lt (d : Sd) {h : Heap} {a : Addr} {items : Array Value} (x : d.sq h a items) : a < h.objs.size := by
  cases d with
  | l => obtain ⟨o, e, _⟩ := x; exact Heap.lt_size e
  | t => obtain ⟨o, e, _⟩ := x; exact Heap.lt_size e
section
variable {X : Cx} {pins : List (Addr × Obj)} {σ : L2.St} {H : Hp} {s : Shared} {a : Addr} {xs : List V}
theorem Sd.inv (d : Sd) (I : Inv X pins σ H s) (h : d.Sq X.K H a xs) : ∃ its, Vals xs its ∧ d.sq s.heap a its.toArray := by
  cases d with
  | l => obtain ⟨its, rv, p, _⟩ := I.list h; exact ⟨its, rv, p.isList⟩
  | t => obtain ⟨its, rv, p, _⟩ := I.tuple h; exact ⟨its, rv, p⟩
theorem Sd.inj (d : Sd) (I : Inv X pins σ H s) {ys : List V} (h : d.Sq X.K H a xs) (h' : d.Sq X.K H a ys) : xs = ys := by
  cases d with
  | l => exact I.list_inj h h'
  | t => exact I.tuple_inj h h'
end
def ItzS (K : PySem.W.Frag) (d1 d2 : Sd) (a b : Addr) : It :=
  ⟨fun i H => ∃ (xs ys : List V) (x y : V), d1.Sq K H a xs ∧ d2.Sq K H b ys ∧ xs[i]? = some x ∧ ys[i]? = some y,
    fun i H v H' => ∃ T x y, v = .ref T ∧ H T = none ∧ H' = upd H T (.tup [x, y]) ∧ (∀ xs, d1.Sq K H a xs → xs[i]? = some x) ∧ ∀ ys, d2.Sq K H b ys → ys[i]? = some y,
    fun i H => ∃ xs ys : List V, d1.Sq K H a xs ∧ d2.Sq K H b ys ∧ i ≤ xs.length ∧ i ≤ ys.length ∧ (i = xs.length ∨ i = ys.length)⟩
/-- the cells of the zip lie apart, and from what it walks -/
structure ZSep (z TI TO i1 i2 a b : Addr) : Prop where
  s : ZipSep2 z TI TO i1 i2 [i1, a] [i2, b]
  a1 : a ≠ i1
  b2 : b ≠ i2
theorem turn_zipS {P : Program} {w : World} {K : PySem.W.Frag} {elts : List Expr} {kk : Nat} {tpos : Pos} {d1 d2 : Sd} {a b z TI TO i1 i2 : Addr} (D : ZSep z TI TO i1 i2 a b) :
    Turn P w K (.Tuple elts kk tpos) (ItzS K d1 d2 a b) [z, TI, TO, i1, i2] z (fun i h => IsZip h z TI TO .none ∧ IsPair h TI (.ref i1) (.ref i2) ∧ (∃ x y, IsPair h TO x y) ∧ d1.it h i1 a i ∧ d2.it h i2 b i) where
  mem := by simp
  obj := fun i h st c hc => by
    obtain ⟨hz, hTI, ⟨x, y, hTO⟩, h1, h2⟩ := st
    have e' : c = z ∨ c = TI ∨ c = TO ∨ c = i1 ∨ c = i2 := by simpa using hc
    rcases e' with q | q | q | q | q
    · rw [q]; exact ⟨_, hz, fun v q => nomatch q⟩
    · rw [q]; exact ⟨_, hTI, fun v q => nomatch q⟩
    · rw [q]; exact ⟨_, hTO, fun v q => nomatch q⟩
    · rw [q]; exact d1.it_obj h1
    · rw [q]; exact d2.it_obj h2
  keep := fun i h h' st k => by
    obtain ⟨hz, hTI, ⟨x, y, hTO⟩, h1, h2⟩ := st
    exact ⟨k z (by simp) _ hz, k TI (by simp) _ hTI, ⟨x, y, k TO (by simp) _ hTO⟩, d1.it_at h1 fun o q => k i1 (by simp) o q, d2.it_at h2 fun o q => k i2 (by simp) o q⟩
  item := by
    intro X hP hw hK hc i pins s σ H E I hf st hg
    subst hP hw hK
    obtain ⟨hz, hTI, ⟨x0, y0, hTO⟩, h1, h2⟩ := st
    obtain ⟨xs, ys, x, y, hqx, hqy, hx, hy⟩ := hg
    obtain ⟨its, rv, p⟩ := d1.inv I hqx
    obtain ⟨its2, rv2, p2⟩ := d2.inv I hqy
    obtain ⟨u, hu, ru⟩ := rv.get hx
    obtain ⟨u2, hu2, ru2⟩ := rv2.get hy
    have hzl : z < s.heap.objs.size := Heap.lt_size hz
    have hl1 : i < its.toArray.size := by simpa using (List.getElem?_eq_some_iff.mp hu).1
    have hl2 : i < its2.toArray.size := by simpa using (List.getElem?_eq_some_iff.mp hu2).1
    have hh : X.A.in1.handled = none := I.ok.hd hc
    refine wpAny_pyNext_zipD2_item D.s (d1.draws hh i1 a D.a1 its.toArray) (d2.draws hh i2 b D.b2 its2.toArray) hz hTI hTO ⟨h1, p⟩ ⟨h2, p2⟩ hl1 hl2 fun w1 w2 h' tk y1 y2 z' TO' h1' h2' hT hsz hk => ?_
    have e1 : w1 = u := by
      have y1 : its.toArray[i]? = some w1 := y1
      have hu' : its.toArray[i]? = some u := by simpa using hu
      rw [y1] at hu'; exact Option.some.inj hu'
    have e2 : w2 = u2 := by
      have y2 : its2.toArray[i]? = some w2 := y2
      have hu' : its2.toArray[i]? = some u2 := by simpa using hu2
      rw [y2] at hu'; exact Option.some.inj hu'
    subst e1 e2
    refine ⟨_, rfl, wpAny_letOwnedTupleGo_zip (s := { s with heap := h', toks := tk }) z' fun h'' z'' sb => ?_⟩
    have hT2 : h''.get? s.heap.objs.size = some { cls := .type "tuple", data := .seq #[w1, w2] } := (sb.2 _ (Nat.ne_of_gt hzl)).trans hT
    have new : ObjOk X.prog X.w (upd H s.heap.objs.size (.tup [x, y])) h'' s.heap.objs.size (.tup [x, y]) :=
      ⟨by show 2 ≤ sizeLine; decide, [w1, w2], .cons ru (.cons ru2 .nil), ⟨_, hT2, rfl, _, rfl⟩⟩
    have I1 : Inv X pins σ (upd H s.heap.objs.size (.tup [x, y])) { s with heap := h'', toks := tk } :=
      I.turnedNew (t' := tk) (ch := [z, TI, TO, i1, i2]) (fun c o hb q => (sb.2 c (fun q' => hb (by simp [q']))).trans (hk c o (fun q' => hb (by simp [q'])) (fun q' => hb (by simp [q'])) (fun q' => hb (by simp [q'])) (fun q' => hb (by simp [q'])) q)) hf (Nat.le_refl _) new
    refine ⟨.ref s.heap.objs.size, _, I1, rfl, ⟨_, x, y, rfl, I.hok.fresh (Nat.le_refl _), rfl, fun l hl => by rw [d1.inj I hl hqx]; exact hx, fun l hl => by rw [d2.inj I hl hqy]; exact hy⟩, ⟨z'', ?_, ⟨w1, w2, ?_⟩, ?_, ?_⟩, fun c hcm => ?_⟩
    · refine (sb.2 _ D.s.TIz).trans (hk _ _ D.s.TIz D.s.TITO D.s.TIi1 D.s.TIi2 hTI)
    · exact (sb.2 _ D.s.TOz).trans TO'
    · exact d1.it_at h1'.1 fun o q => (sb.2 _ (Ne.symm D.s.zi1)).trans q
    · exact d2.it_at h2'.1 fun o q => (sb.2 _ (Ne.symm D.s.zi2)).trans q
    · have hlt : c < s.heap.objs.size := by
        have e' : c = z ∨ c = TI ∨ c = TO ∨ c = i1 ∨ c = i2 := by simpa using hcm
        rcases e' with q | q | q | q | q
        · rw [q]; exact hzl
        · rw [q]; exact Heap.lt_size hTI
        · rw [q]; exact Heap.lt_size hTO
        · rw [q]; obtain ⟨_, e1, _⟩ := d1.it_obj h1; exact Heap.lt_size e1
        · rw [q]; obtain ⟨_, e2, _⟩ := d2.it_obj h2; exact Heap.lt_size e2
      rw [upd_ne (Nat.ne_of_lt hlt)]
      exact (hf c hcm).1
  done := by
    intro X hP hw hK hc i pins s σ H E I hf st hg
    subst hP hw hK
    obtain ⟨hz, hTI, ⟨x0, y0, hTO⟩, h1, h2⟩ := st
    obtain ⟨xs, ys, hqx, hqy, hle1, hle2, hend⟩ := hg
    obtain ⟨its, rv, p⟩ := d1.inv I hqx
    obtain ⟨its2, rv2, p2⟩ := d2.inv I hqy
    have l1 := rv.length
    have l2 := rv2.length
    have hh : X.A.in1.handled = none := I.ok.hd hc
    exact wpAny_pyNext_zipD2_end D.s (d1.draws hh i1 a D.a1 its.toArray) (d2.draws hh i2 b D.b2 its2.toArray) hz hTI hTO ⟨h1, p⟩ ⟨h2, p2⟩ (by rw [List.size_toArray]; omega) (by rw [List.size_toArray]; omega) (by rw [List.size_toArray, List.size_toArray]; omega)
      fun h' tk hk => ⟨rfl, I.turnedL (t' := tk) (ch := [z, TI, TO, i1, i2]) (fun c o hb q =>
        hk c o (fun q' => hb (by simp [q'])) (fun q' => hb (by simp [q'])) (fun q' => hb (by simp [q'])) (fun q' => hb (by simp [q'])) q) hf⟩
  self := fun A i s Q E st h => wpAny_pyIter_zip st.1 h
theorem neA {a b : Nat} (h : a ≠ b) : (a : Addr) ≠ b := h
theorem zsep_new (I a b : Nat) (h1 : a < I) (h2 : b < I) : ZSep (I + 4) (I + 2) (I + 3) I (I + 1) a b := by
  have ne : ∀ {x y : Nat}, x ≠ y → (show Addr from x) ≠ (show Addr from y) := fun h => h
  refine ⟨⟨ne (by omega), ne (by omega), ne (by omega), ne (by omega), by simp, ?_, ?_, ne (by omega), by simp, ?_, ?_, ?_, ?_⟩, ne (by omega), ne (by omega)⟩ <;>
  · intro z
    have z' := List.mem_cons.mp z
    rcases z' with q | q
    · have q : (_ : Nat) = _ := q
      omega
    · have q : (_ : Nat) = _ := List.mem_singleton.mp q
      omega
def iZipS (K : PySem.W.Frag) (ta : TA) : TI := fun σ H R => ta σ H fun vs H1 => ∃ d1 d2 a b xs ys, vs = [.ref a, .ref b] ∧ Sd.Sq K d1 H1 a xs ∧ Sd.Sq K d2 H1 b ys ∧ R (ItzS K d1 d2 a b) H1
theorem pi_zipS {X : Cx} {e e2 : Expr} {ta : TA} {p pos tpos : Pos} {elts : List Expr} {kk : Nat} (hg : Gl X "zip") (hm : X.mg "zip" = none) (ha : PA X [e, e2] ta)
    (hs : starEach [e, e2] X.env = (false, eval e X.env) :: starEach [e2] X.env := by rfl) (hpl : (backTo pos (starEach [e2] X.env)).any (·.1) = false := by rfl) :
    PI X (.Tuple elts kk tpos) (.Call (.Name "zip" p) [e, e2] [] pos) (iZipS X.K ta) := by
  refine ⟨fun pins s σ H R I h => ?_⟩
  refine Call_ (ld_blt I hg hm PyProof.Rows.boot_zip (PyProof.Rows.callWith_type1 (thn (ha.run pos pins s σ H _ I h) fun us s1 ⟨vs, H1, I1, r1, q1⟩ => ?_) hs hpl))
  obtain ⟨d1, d2, a, b, xs, ys, ex, hqx, hqy, q⟩ := q1
  subst ex
  cases r1 with
  | cons r rr =>
    cases rr with
    | cons r' rr =>
      cases rr
      cases r
      cases r'
      obtain ⟨its, rv, p1⟩ := d1.inv I1 hqx
      obtain ⟨its2, rv2, p2⟩ := d2.inv I1 hqy
      refine zip_begins2 (d1.begins a its.toArray) (d2.begins b its2.toArray) p1 p2 fun h' hz hTI hTO h1 h2 hsz hk => wpAny_pyIter_zip hz ?_
      have I2 : Inv X pins σ H1 { s1 with heap := h' } := I1.kept (t' := s1.toks) hk
      refine ⟨s1.heap.objs.size + 4, [s1.heap.objs.size + 4, s1.heap.objs.size + 2, s1.heap.objs.size + 3, s1.heap.objs.size, s1.heap.objs.size + 1], _, _, H1, rfl, I2, turn_zipS (zsep_new s1.heap.objs.size a b (d1.sq_lt p1) (d2.sq_lt p2)), ⟨hz, hTI, ⟨_, _, hTO⟩, d1.it_new h1, d2.it_new h2⟩, fun c hcm => ?_, q⟩
      have e' : c = s1.heap.objs.size + 4 ∨ c = s1.heap.objs.size + 2 ∨ c = s1.heap.objs.size + 3 ∨ c = s1.heap.objs.size ∨ c = s1.heap.objs.size + 1 := by simpa using hcm
      have hle : s1.heap.objs.size ≤ c := by
        rcases e' with z | z | z | z | z
        · rw [z]; exact Nat.le_add_right _ _
        · rw [z]; exact Nat.le_add_right _ _
        · rw [z]; exact Nat.le_add_right _ _
        · rw [z]; exact Nat.le_refl _
        · rw [z]; exact Nat.le_add_right _ _
      exact I1.fpOk hle (I1.hok.fresh hle)
def zipD : List D → List D → List D
  | x :: xs, y :: ys => .tup [x, y] :: zipD xs ys
  | _, _ => []
theorem zipD_len : ∀ (xs ys : List D), (zipD xs ys).length = min xs.length ys.length
  | [], _ => by simp [zipD]
  | _ :: _, [] => by simp [zipD]
  | x :: xs, y :: ys => by simp [zipD, zipD_len xs ys]
theorem zipD_at : ∀ {xs ys : List D} {i : Nat} {x y : D}, xs[i]? = some x → ys[i]? = some y → (zipD xs ys)[i]? = some (.tup [x, y])
  | [], _, i, _, _, h, _ => by simp at h
  | _ :: _, [], i, _, _, _, h => by simp at h
  | x :: xs, y :: ys, 0, a, b, h, h' => by simp at h h'; subst h h'; simp [zipD]
  | x :: xs, y :: ys, i + 1, a, b, h, h' => by simpa [zipD] using zipD_at (xs := xs) (ys := ys) (i := i) (by simpa using h) (by simpa using h')
def grdQ (d : D) (xs : List D) : Store → Bool := match d with
  | .obj n => grdL n xs
  | _ => grdT
def diZip (fa fb : DE) : DI := fun ρ S => (fa ρ S).bind fun d S1 => (fb ρ S1).bind fun e S2 => match seqAt S2 d, seqAt S2 e with
  | some xs, some ys => .ok ⟨zipD xs ys, fun S => grdQ d xs S && grdQ e ys S⟩ S2
  | _, _ => .bad
section
variable {K : PySem.W.Frag} {G : Gx} {m1 : List Addr} {H1 : Hp} {S1 : Store}
/-- a sequence that stands still: by its side -/
theorem side_of {d : D} {v : V} {xs : List D} (sm : Sim K G m1 S1 H1) (h : seqAt S1 d = some xs) (r : SV K m1 H1 d v) : ∃ (sd : Sd) (a : Addr), v = .ref a ∧ ∀ (H' : Hp) (m' : List Addr) (S' : Store), Step m1 H1 m' H' → Sim K G m' S' H' → grdQ d xs S' = true → ∃ us, sd.Sq K H' a us ∧ SVs K m' H' xs us := by
  cases d with
  | tup ys => cases h; obtain ⟨p, vs, e, q, r⟩ := r; exact ⟨.t, p, e, fun H' m' S' st sm' _ => ⟨vs, sqT_step sm st q, r.mono sm st⟩⟩
  | fl ys => cases h; obtain ⟨p, vs, e, q, r⟩ := r; exact ⟨.l, p, e, fun H' m' S' st sm' _ => ⟨vs, (sqF_step sm st q).l, r.mono sm st⟩⟩
  | obj n =>
    obtain ⟨a, e, hm⟩ := r
    refine ⟨.l, a, e, fun H' m' S' st sm' hg => ?_⟩
    obtain ⟨a', us, h1, h2, h3⟩ := lstAt_ok sm' (grdL_ok hg)
    rw [st.get hm] at h1; cases h1
    exact ⟨us, SqL.of h2, h3⟩
  | _ => cases h
theorem grdQ_here {d : D} {xs : List D} (h : seqAt S1 d = some xs) : grdQ d xs S1 = true := by
  cases d with
  | obj n =>
    show grdL n xs S1 = true
    unfold grdL
    rw [show lstAt S1 n = some xs from h]
    exact D.beqs_refl xs
  | _ => rfl
theorem srcOk_zip {d e : D} {xs ys : List D} {sd1 sd2 : Sd} {a b : Addr}
    (k1 : ∀ (H' : Hp) (m' : List Addr) (S' : Store), Step m1 H1 m' H' → Sim K G m' S' H' → grdQ d xs S' = true → ∃ us, sd1.Sq K H' a us ∧ SVs K m' H' xs us)
    (k2 : ∀ (H' : Hp) (m' : List Addr) (S' : Store), Step m1 H1 m' H' → Sim K G m' S' H' → grdQ e ys S' = true → ∃ us, sd2.Sq K H' b us ∧ SVs K m' H' ys us) :
    SrcOk K G m1 H1 ⟨zipD xs ys, fun S => grdQ d xs S && grdQ e ys S⟩ (ItzS K sd1 sd2 a b) := by
  show Walk _ (zipD xs ys).length _ _
  rw [zipD_len]
  refine ⟨fun i H' hi ⟨m', S', st, sm', hg⟩ => ?_, fun H' ⟨m', S', st, sm', hg⟩ => ?_, fun i H' x H'' hi _ hy m' S' st sm' hg => ?_⟩
  · have hg' := Bool.and_eq_true_iff.mp hg
    obtain ⟨us, q1, r1⟩ := k1 H' m' S' st sm' hg'.1
    obtain ⟨ws, q2, r2⟩ := k2 H' m' S' st sm' hg'.2
    have l1 := r1.len
    have l2 := r2.len
    exact ⟨us, ws, us[i]'(by omega), ws[i]'(by omega), q1, q2, by simp, by simp⟩
  · have hg' := Bool.and_eq_true_iff.mp hg
    obtain ⟨us, q1, r1⟩ := k1 H' m' S' st sm' hg'.1
    obtain ⟨ws, q2, r2⟩ := k2 H' m' S' st sm' hg'.2
    have l1 := r1.len
    have l2 := r2.len
    exact ⟨us, ws, q1, q2, by omega, by omega, by omega⟩
  · have hg' := Bool.and_eq_true_iff.mp hg
    obtain ⟨us, q1, r1⟩ := k1 H' m' S' st sm' hg'.1
    obtain ⟨ws, q2, r2⟩ := k2 H' m' S' st sm' hg'.2
    obtain ⟨T, p, q, rfl, hT, rfl, e1, e2⟩ := hy
    have h1 : i < xs.length := by omega
    have h2 : i < ys.length := by omega
    obtain ⟨v, f1, f2⟩ := r1.get (i := i) (d := xs[i]) (by simp [h1])
    obtain ⟨u, f3, f4⟩ := r2.get (i := i) (d := ys[i]) (by simp [h2])
    rw [e1 us q1] at f1
    rw [e2 ws q2] at f3
    cases f1
    cases f3
    exact ⟨_, zipD_at (x := xs[i]) (y := ys[i]) (by simp [h1]) (by simp [h2]), Step.beside sm' hT, sm'.beside hT, sv_tup (ds := [xs[i], ys[i]]) ⟨_, _, rfl, f2, SVs.one f4⟩ sm' hT⟩
end
section
variable {X : Cx} {G : Gx} {W : WX} {e e2 : Expr} {fa fb : DE} {p pos tpos : Pos} {elts : List Expr} {kk : Nat}
theorem ji_zip (hm : X.mg "zip" = none) (ha : JE X G W e fa) (hb : JE X G W e2 fb) (hg : Gl X "zip" := by rfl) (hs : starEach [e, e2] X.env = (false, eval e X.env) :: starEach [e2] X.env := by rfl) (hs2 : starEach [e2] X.env = (false, eval e2 X.env) :: starEach [] X.env := by rfl) (hpl : (backTo pos (starEach [e2] X.env)).any (·.1) = false := by rfl) :
    JI X G W (.Tuple elts kk tpos) (.Call (.Name "zip" p) [e, e2] [] pos) (diZip fa fb) :=
  PI.imp (pi_zipS hg hm (ja_cons ha (ja_cons hb ja_nil hs2) hs) hs hpl) fun σ H R ⟨m, ρ, S, sr, sm, eo⟩ => ⟨m, ρ, S, sr, sm, by
    unfold daCons daNil
    unfold diZip at eo
    cases z : fa ρ S with
    | bad => rw [z] at eo; exact eo.elim
    | exn x S1 => rw [z] at eo; exact eo
    | ok d S1 =>
      rw [z] at eo
      simp only [Out.bind_ok] at eo ⊢
      cases z2 : fb ρ S1 with
      | bad => rw [z2] at eo; exact eo.elim
      | exn x S1 => rw [z2] at eo; exact eo
      | ok d2 S2 =>
        rw [z2] at eo
        simp only [Out.bind_ok] at eo ⊢
        intro vs H1 m1 st1 sm1 r1
        have eo1 := eo.step st1
        obtain ⟨v, u, rfl, rv, ru⟩ := svs2 r1
        split at eo1
        · rename_i xs ys q1 q2
          obtain ⟨sd1, a, rfl, k1⟩ := side_of sm1 q1 rv
          obtain ⟨sd2, b, rfl, k2⟩ := side_of sm1 q2 ru
          obtain ⟨us, w1, _⟩ := k1 H1 m1 S2 sm1.refl sm1 (grdQ_here q1)
          obtain ⟨ws, w2, _⟩ := k2 H1 m1 S2 sm1.refl sm1 (grdQ_here q2)
          exact ⟨sd1, sd2, a, b, us, ws, rfl, w1, w2, eo1 _ H1 m1 sm1.refl sm1 (srcOk_zip k1 k2)⟩
        · exact eo1.elim⟩
end
end DL
set_option Elab.async false
set_option linter.all false
set_option maxRecDepth 100000
set_option maxHeartbeats 4000000
/-! DN7: xs.pop(), xs.pop(i), xs.extend(ys), xs[i] op= e. -/
namespace DL
open PySem PySem.Spec PyProof.Rows L2
/-- a method of a list with one argument: what it gives, the list behind it -/
def dLM1 (g : Store → List D → D → Option (D × List D)) (fo fe : DE) : DE := fun ρ S => (fo ρ S).bind fun o S1 => match o with
  | .obj n => (match lstAt S1 n with
    | some _ => (fe ρ S1).bind fun y S2 => (match lstAt S2 n with
      | some xs => (match g S2 xs y with
        | some (r, zs) => .ok r (S2.set n (.lst zs))
        | none => .bad)
      | none => .bad)
    | none => .bad)
  | _ => .bad
def dLM0 (g : List D → Option (D × List D)) (fo : DE) : DE := fun ρ S => (fo ρ S).bind fun o S1 => match o with
  | .obj n => (match lstAt S1 n with
    | some xs => (match g xs with
      | some (r, zs) => .ok r (S1.set n (.lst zs))
      | none => .bad)
    | none => .bad)
  | _ => .bad
def LM1 (X : Cx) (G : Gx) (g : Store → List D → D → Option (D × List D)) (rr : V → List V → Hp → VK → Prop) : Prop :=
  ∀ (m : List Addr) (S : Store) (H : Hp) (n : Nat) (a : Addr) (d r : D) (zs xs : List D) (ws : List V) (v : V) (Q : VK), Sim X.K G m S H → m[n]? = some a → H a = some (.lst ws) → SVs X.K m H xs ws → SV X.K m H d v → g S xs d = some (r, zs) →
    (∀ u H' m', Step m H m' H' → Sim X.K G m' (S.set n (.lst zs)) H' → SV X.K m' H' r u → Q u H') → rr (.ref a) [v] H Q
section
variable {X : Cx} {G : Gx} {W : WX} {o e : Expr} {fo fe : DE} {g : Store → List D → D → Option (D × List D)} {g0 : List D → Option (D × List D)} {rr : V → List V → Hp → VK → Prop} {name : Str} {id : String} {apos cpos : Pos}
theorem je_lm1 (pa : PlainAttrs "list") (slot : Slot "list" name id) (hty : typeOf (.builtin id) = pure (.type "method_descriptor")) (hm : MtR X id rr) (hL : LM1 X G g rr) (ho : JE X G W o fo) (he : JE X G W e fe) (hbase : attributeBase o name X.env (eval o X.env) = eval o X.env := by rfl)
    (hfew : ((backTo cpos (starEach [e] X.env)).all (fun x => !x.1) && (backToKw cpos (keywordEach [] X.env)).all (fun x => x.1.isSome) && decide ([e].length + ([] : List Keyword).length + (if ([] : List Keyword).isEmpty then 0 else 1) < 30)) = true := by rfl)
    (hline : (apos.endLine == cpos.line) = true := by rfl) (hs : starEach [e] X.env = (false, eval e X.env) :: starEach [] X.env := by rfl) (hplain : (backTo cpos (starEach [] X.env)).any (·.1) = false := by rfl) :
    JE X G W (.Call (.Attribute o name apos) [e] [] cpos) (dLM1 g fo fe) :=
  PE.imp (pe_bm pa slot hty hm ho (ja_cons he ja_nil hs) hbase hfew hline hs hplain) fun σ H Q ⟨m, ρ, S, sr, sm, eo⟩ => ⟨m, ρ, S, sr, sm, EO.then (rel := SV X.K) eo fun x S1 v H1 m1 st1 sm1 r1 eo1 => by
    cases x with
    | obj n =>
      dsimp only at eo1
      cases z : lstAt S1 n with
      | none => rw [z] at eo1; exact eo1.elim
      | some xs0 =>
        rw [z] at eo1
        dsimp only at eo1
        obtain ⟨a, rfl, hm⟩ := r1
        obtain ⟨a', ws0, h1, h2, h3⟩ := lstAt_ok sm1 z
        rw [hm] at h1; cases h1
        refine ⟨.inl ⟨rfl, ws0, SqL.of h2⟩, m1, ρ, S1, sr.mono sm st1, sm1, ?_⟩
        unfold daCons daNil
        cases z2 : fe ρ S1 with
        | bad => rw [z2] at eo1; exact eo1.elim
        | exn x S2 => rw [z2] at eo1; exact eo1
        | ok d S2 =>
          rw [z2] at eo1
          simp only [Out.bind_ok] at eo1 ⊢
          intro vs H2 m2 st2 sm2 r2
          have eo2 := eo1.step st2
          obtain ⟨y, rfl, ry⟩ := svs1 r2
          cases z3 : lstAt S2 n with
          | none => rw [z3] at eo2; exact eo2.elim
          | some xs =>
            rw [z3] at eo2
            dsimp only at eo2
            cases z4 : g S2 xs d with
            | none => rw [z4] at eo2; exact eo2.elim
            | some p =>
              obtain ⟨r, zs⟩ := p
              rw [z4] at eo2
              obtain ⟨a', ws, h1, h2, h3⟩ := lstAt_ok sm2 z3
              rw [st2.get hm] at h1; cases h1
              exact hL m2 S2 H2 n a d r zs xs ws y _ sm2 (st2.get hm) h2 h3 ry z4 fun u H' m' st sm' ru => eo2 u H' m' st sm' ru
    | _ => exact eo1.elim⟩
theorem je_lm0 (pa : PlainAttrs "list") (slot : Slot "list" name id) (hty : typeOf (.builtin id) = pure (.type "method_descriptor")) (hm : MtR X id rr)
    (hL : ∀ (m : List Addr) (S : Store) (H : Hp) (n : Nat) (a : Addr) (r : D) (zs xs : List D) (ws : List V) (Q : VK), Sim X.K G m S H → m[n]? = some a → H a = some (.lst ws) → SVs X.K m H xs ws → g0 xs = some (r, zs) →
      (∀ u H' m', Step m H m' H' → Sim X.K G m' (S.set n (.lst zs)) H' → SV X.K m' H' r u → Q u H') → rr (.ref a) [] H Q)
    (ho : JE X G W o fo) (hbase : attributeBase o name X.env (eval o X.env) = eval o X.env := by rfl) (hline : (apos.endLine == cpos.line) = true := by rfl) :
    JE X G W (.Call (.Attribute o name apos) [] [] cpos) (dLM0 g0 fo) :=
  PE.imp (pe_bm0 pa slot hty hm ho hbase hline) fun σ H Q ⟨m, ρ, S, sr, sm, eo⟩ => ⟨m, ρ, S, sr, sm, EO.then (rel := SV X.K) eo fun x S1 v H1 m1 st1 sm1 r1 eo1 => by
    cases x with
    | obj n =>
      dsimp only at eo1
      cases z : lstAt S1 n with
      | none => rw [z] at eo1; exact eo1.elim
      | some xs =>
        rw [z] at eo1
        dsimp only at eo1
        obtain ⟨a, rfl, hm⟩ := r1
        obtain ⟨a', ws, h1, h2, h3⟩ := lstAt_ok sm1 z
        rw [hm] at h1; cases h1
        refine ⟨.inl ⟨rfl, ws, SqL.of h2⟩, ?_⟩
        cases z4 : g0 xs with
        | none => rw [z4] at eo1; exact eo1.elim
        | some p =>
          obtain ⟨r, zs⟩ := p
          rw [z4] at eo1
          exact hL m1 S1 H1 n a r zs xs ws _ sm1 hm h2 h3 z4 fun u H' m' st sm' ru => eo1 u H' m' st sm' ru
    | _ => exact eo1.elim⟩
/-! ### pop, extend -/
def pop0D (xs : List D) : Option (D × List D) := match xs[xs.length - 1]? with
  | some y => some (y, xs.dropLast)
  | none => none
def pop1D (_ : Store) (xs : List D) (d : D) : Option (D × List D) := match d with
  | .int i => if -1000000000000 ≤ i ∧ i ≤ 1000000000000 then (match seqIndex? i xs.length with
    | some k => (match xs[k]? with
      | some y => some (y, xs.eraseIdx k)
      | none => none)
    | none => none) else none
  | _ => none
theorem SVs.dropLast {K : PySem.W.Frag} {m : List Addr} {H : Hp} {ds : List D} {vs : List V} (h : SVs K m H ds vs) : SVs K m H ds.dropLast vs.dropLast := by
  rw [List.dropLast_eq_take, List.dropLast_eq_take, ← h.len]
  exact h.take _
theorem SVs.erase {K : PySem.W.Frag} {m : List Addr} {H : Hp} {ds : List D} {vs : List V} (h : SVs K m H ds vs) (k : Nat) : SVs K m H (ds.eraseIdx k) (vs.eraseIdx k) := by
  rw [List.eraseIdx_eq_take_drop_succ, List.eraseIdx_eq_take_drop_succ]
  exact (h.take k).append (h.drop (k + 1))
theorem je_pop0 (ho : JE X G W o fo) (hbase : attributeBase o "pop" X.env (eval o X.env) = eval o X.env := by rfl) (hline : (apos.endLine == cpos.line) = true := by rfl) : JE X G W (.Call (.Attribute o "pop" apos) [] [] cpos) (dLM0 pop0D fo) :=
  je_lm0 PySem.F.plainAttrs_list PySem.F.slot_list_pop PySem.F.type_list_pop mt_pop (fun m S H n a r zs xs ws Q sm hm h2 h3 z k => by
    unfold pop0D at z
    split at z
    · rename_i y hy
      cases z
      obtain ⟨v, e1, e2⟩ := h3.get hy
      have st3 : Step m H m (upd H a (.lst ws.dropLast)) := Step.put sm hm
      exact ⟨a, ws, v, rfl, rfl, h2, by rw [← h3.len]; exact e1, k v _ m st3 (sm.put hm ⟨ws.dropLast, upd_same, h3.dropLast.mono sm st3⟩) (e2.mono sm st3)⟩
    · cases z) ho hbase hline
theorem je_pop1 (ho : JE X G W o fo) (he : JE X G W e fe) (hbase : attributeBase o "pop" X.env (eval o X.env) = eval o X.env := by rfl)
    (hfew : ((backTo cpos (starEach [e] X.env)).all (fun x => !x.1) && (backToKw cpos (keywordEach [] X.env)).all (fun x => x.1.isSome) && decide ([e].length + ([] : List Keyword).length + (if ([] : List Keyword).isEmpty then 0 else 1) < 30)) = true := by rfl)
    (hline : (apos.endLine == cpos.line) = true := by rfl) (hs : starEach [e] X.env = (false, eval e X.env) :: starEach [] X.env := by rfl) (hplain : (backTo cpos (starEach [] X.env)).any (·.1) = false := by rfl) :
    JE X G W (.Call (.Attribute o "pop" apos) [e] [] cpos) (dLM1 pop1D fo fe) :=
  je_lm1 PySem.F.plainAttrs_list PySem.F.slot_list_pop PySem.F.type_list_pop mt_popAt (fun m S H n a d r zs xs ws v Q sm hm h2 h3 hv z k => by
    unfold pop1D at z
    split at z
    · rename_i i
      cases hv
      split at z
      · rename_i hz
        split at z
        · rename_i kk hk
          split at z
          · rename_i y hy
            cases z
            obtain ⟨u, e1, e2⟩ := h3.get hy
            have st3 : Step m H m (upd H a (.lst (ws.eraseIdx kk))) := Step.put sm hm
            exact ⟨a, ws, i, kk, u, rfl, rfl, h2, by omega, by omega, by rw [← h3.len]; exact hk, e1, k u _ m st3 (sm.put hm ⟨_, upd_same, (h3.erase kk).mono sm st3⟩) (e2.mono sm st3)⟩
          · cases z
        · cases z
      · cases z
    · cases z) ho he hbase hfew hline hs hplain
theorem list_extend_tup (l : Addr) (items : Array Value) (n : Nat) (b : Addr) (items2 : Array Value) (n2 : Nat) (dd : Option Addr) (sl : Array (Option Value)) (hs0 : ¬(!items.isEmpty && Builtin.List.listTooLong (items.size + items2.size)) = true) (hs1 : items.size ≤ sizeLine) (hs2 : items.size + items2.size ≤ sizeLine + 1) :
    Meets (Builtin.«list.extend» ⟨[.ref l, .ref b], []⟩) (fun _ R s => s.heap.get? l = some { cls := .type "list", dict := none, data := .seq items n, slots := #[] } ∧ s.heap.get? b = some { cls := .type "tuple", dict := dd, data := .seq items2 n2, slots := sl } ∧ R (.ok (.ret Value.none)) { s with heap := s.heap.update l (Obj.mapSeq fun x => x ++ items2), toks := s.toks }) :=
  .of_wp fun prog w A R s h => by
    obtain ⟨hp, g, d, tk, os⟩ := s
    obtain ⟨hl, hb, h⟩ := h
    have f1 := AutoSeq1.idx_int
    have f2 := AutoSeq1.sub_tuple_tuple
    have f3 := AutoSeq1.sub_list_list
    have f4 := AutoSeq1.sub_tuple_list
    have f5 := AutoSeq1.sub_list_tuple
    have hz' : (items ++ items2).size ≤ sizeLine + 1 := by rw [Array.size_append]; exact hs2
    wp_walk using (wpAny_updateSeq hl rfl (hz := hs1) (_hz' := hz')), wpAny_loadPart' hl, wpAny_loadPart' hb
    exact ⟨_, rfl, h⟩
def rExtA (K : PySem.W.Frag) : V → List V → Hp → VK → Prop := fun x vs H Q => ∃ l b xs zs, x = .ref l ∧ vs = [.ref b] ∧ H l = some (.lst xs) ∧ (H b = some (.lst zs) ∨ SqT K H b zs) ∧ xs.length + zs.length ≤ sizeLine ∧ Q .non (upd H l (.lst (xs ++ zs)))
theorem mt_extA : MtM X "list.extend" (rExtA X.K) := by
  intro pins s σ H x vs v us Q I rx rv h
  obtain ⟨l, b, xs, zs, rfl, rfl, hH, hB, hz, q⟩ := h
  rcases hB with hB | hB
  · exact mt_extend pins s σ H _ _ v us Q I rx rv ⟨l, b, xs, zs, rfl, rfl, hH, hB, hz, q⟩
  · cases rx
    obtain ⟨u, rfl, ru⟩ := rv.one
    cases ru
    obtain ⟨z, its, n, r, hl, e⟩ := I.lstM hH
    obtain ⟨its2, r2, ⟨⟨cls, dd, data, sl⟩, e2, hc, n2, hd⟩, hs⟩ := I.tuple hB
    simp only at hc hd
    subst hc hd
    have hl2 : zs.length = its2.length := r2.length
    have hsz : its.toArray.size + its2.toArray.size ≤ sizeLine := by rw [List.size_toArray, List.size_toArray]; omega
    have hlong : ¬ (!its.toArray.isEmpty && Builtin.List.listTooLong (its.toArray.size + its2.toArray.size)) = true := by
      rw [notLongL hsz, Bool.and_false]
      exact Bool.false_ne_true
    refine call_meets F.slot_list_extend ⟨_, e, rfl⟩ F.entry_list_extend (F.args_list_extend_2 _ _)
      (list_extend_tup l its.toArray n b its2.toArray n2 dd sl hlong (by rw [List.size_toArray]; omega) (by omega)) ⟨e, e2, ?_⟩
    refine ⟨.non, _, I.lset (its' := its ++ its2) hH e (by simp) (r.append r2) ?_, rfl, q⟩
    rw [List.length_append]
    omega
def extD (S : Store) (xs : List D) (d : D) : Option (D × List D) := match d with
  | .tup ys => if xs.length + ys.length ≤ 1000000 then some (.non, xs ++ ys) else none
  | .obj n => (match lstAt S n with
    | some ys => if xs.length + ys.length ≤ 1000000 then some (.non, xs ++ ys) else none
    | none => none)
  | _ => none
theorem je_ext (ho : JE X G W o fo) (he : JE X G W e fe) (hbase : attributeBase o "extend" X.env (eval o X.env) = eval o X.env := by rfl)
    (hfew : ((backTo cpos (starEach [e] X.env)).all (fun x => !x.1) && (backToKw cpos (keywordEach [] X.env)).all (fun x => x.1.isSome) && decide ([e].length + ([] : List Keyword).length + (if ([] : List Keyword).isEmpty then 0 else 1) < 30)) = true := by rfl)
    (hline : (apos.endLine == cpos.line) = true := by rfl) (hs : starEach [e] X.env = (false, eval e X.env) :: starEach [] X.env := by rfl) (hplain : (backTo cpos (starEach [] X.env)).any (·.1) = false := by rfl) :
    JE X G W (.Call (.Attribute o "extend" apos) [e] [] cpos) (dLM1 extD fo fe) :=
  je_lm1 PySem.F.plainAttrs_list PySem.F.slot_list_extend PySem.F.type_list_extend mt_extA (fun m S H n a d r zs xs ws v Q sm hm h2 h3 hv z k => by
    unfold extD at z
    split at z
    · rename_i ys
      split at z
      · rename_i hz
        cases z
        obtain ⟨p, us, rfl, q, ru⟩ := hv
        have l1 := h3.len
        have l2 := ru.len
        have st3 : Step m H m (upd H a (.lst (ws ++ us))) := Step.put sm hm
        exact ⟨a, p, ws, us, rfl, rfl, h2, .inr q, by rw [← l1, ← l2]; exact size6 hz, k _ _ m st3 (sm.put hm ⟨_, upd_same, (h3.append ru).mono sm st3⟩) rfl⟩
      · cases z
    · rename_i n2
      split at z
      · rename_i ys e1
        split at z
        · rename_i hz
          cases z
          obtain ⟨p, rfl, hmp⟩ := hv
          obtain ⟨a', us, g1, g2, ru⟩ := lstAt_ok sm e1
          rw [hmp] at g1; cases g1
          have l1 := h3.len
          have l2 := ru.len
          have st3 : Step m H m (upd H a (.lst (ws ++ us))) := Step.put sm hm
          exact ⟨a, p, ws, us, rfl, rfl, h2, .inl g2, by rw [← l1, ← l2]; exact size6 hz, k _ _ m st3 (sm.put hm ⟨_, upd_same, (h3.append ru).mono sm st3⟩) rfl⟩
        · cases z
      · cases z
    · cases z) ho he hbase hfew hline hs hplain
end
end DL
set_option Elab.async false
set_option linter.all false
set_option maxRecDepth 100000
set_option maxHeartbeats 4000000
/-! DN8: xs[i] op= e. -/
namespace DL
open PySem PySem.Spec PyProof.Rows L2
section
variable {X : Cx} {G : Gx} {W : WX} {o i e : Expr} {fo fi fe : DE} {g : D2} {op : Operator} {tpos pos : Pos}
theorem get_listN : PGet X (fun o i H Q => ∃ a xs k v, o = .ref a ∧ i = .int k ∧ SqL X.K H a xs ∧ atI xs k = some v ∧ Q v H) := by
  intro pins s σ H x y v u Q I rx ry h
  obtain ⟨p, xs, i, z, rfl, rfl, hq, he, q⟩ := h
  cases rx
  obtain ⟨t, rfl⟩ := ry
  obtain ⟨its, r, pl, hz⟩ := I.list hq
  obtain ⟨j, h1, h2, h3, h4, h5⟩ := atI_get he
  obtain ⟨w, ew, rw'⟩ := r.get h2
  have hl := r.length
  have hn := line63
  have fin : EP X pins σ Q w s := ⟨z, H, I, rw', q⟩
  by_cases h0 : 0 ≤ i
  · have hj : i.toNat = j := by
      rw [seqIndex_of h0 h5] at h1
      exact Option.some.inj h1
    exact wpAny_getItem_list pl.isList h0 (by omega) (by rw [hj]; simpa using ew) fin
  · have hj : (i + (its.toArray.size : Int)).toNat = j := by
      rw [seqIndex_neg (by omega) h4] at h1
      rw [List.size_toArray, ← hl]
      exact Option.some.inj h1
    exact wpAny_getItem_list_neg pl.isList (by omega) (by rw [List.size_toArray] <;> omega) (by omega) (by rw [hj]; simpa using ew) fin
def dAugS (fo fi : DE) (g : D2) (fe : DE) : DS := fun ρ S => liftS (fo ρ S) ρ fun o S1 => liftS (fi ρ S1) ρ fun i S2 => match o, i with
  | .obj n, .int k => (match lstAt S2 n with
    | some xs => (match atI xs k with
      | some x => liftS (fe ρ S2) ρ fun y S3 => (match g x y S3 with
        | some (d, S4) => (match lstAt S4 n with
          | some ys => (match ixN ys.length k with
            | some j => .nx ρ (S4.set n (.lst (ys.set j d)))
            | none => .bad)
          | none => .bad)
        | none => .bad)
      | none => .bad)
    | none => .bad)
  | _, _ => .bad
theorem js_augS (ho : JOp X G (inplaceOp op) g) (hO : JE X G W o fo) (hI : JE X G W i fi) (he : JE X G W e fe)
    (ha : ∀ ov iv new, augStore i ov iv new = (do holding [new, ov, iv] (setItem ov iv new); release [new, ov, iv] []; pure .next) := by intros; rfl) : JS X G W (.AugAssign (.Subscript o i tpos) op e pos) (dAugS fo fi g fe) :=
  PS.imp (ps_augS hO hI get_listN he ho set_list ha) fun E σ H ⟨m, ρ, S, sr, sm, q⟩ => ⟨m, ρ, S, sr, sm, SQ.then (rel := SV X.K) q sr sm fun x S1 u H1 m1 st1 sm1 r1 q1 => ⟨m1, ρ, S1, sr.mono sm st1, sm1, SQ.then (rel := SV X.K) q1 (sr.mono sm st1) sm1 fun y S2 w H2 m2 st2 sm2 r2 q2 => by
    have sr2 := (sr.mono sm st1).mono sm1 st2
    split at q2
    · rename_i n k
      split at q2
      · rename_i xs e1
        split at q2
        · rename_i x e2
          have r1' := r1.mono sm1 st2
          obtain ⟨a, rfl, hm⟩ := r1'
          cases r2
          obtain ⟨a', vs, h1, h2, h3⟩ := lstAt_ok sm2 e1
          rw [hm] at h1; cases h1
          obtain ⟨xv, h4, h5⟩ := atI_svs h3 e2
          refine ⟨a, vs, k, xv, rfl, rfl, SqL.of h2, h4, m2, ρ, S2, sr2, sm2, SQ.then (rel := SV X.K) q2 sr2 sm2 fun y S3 yv H3 m3 st3 sm3 r3 q3 => ?_⟩
          split at q3
          · rename_i d S4 e3
            refine ⟨m3, S3, x, y, d, S4, sm3, h5.mono sm2 st3, r3, e3, fun dv H4 m4 st4 sm4 r4 => ?_⟩
            have q4 := SQ.step q3 st4
            split at q4
            · rename_i ys e4
              split at q4
              · rename_i j e5
                obtain ⟨a', us, g1, g2, g3⟩ := lstAt_ok sm4 e4
                have hm4 := st4.get (st3.get hm)
                rw [hm4] at g1; cases g1
                have st5 : Step m4 H4 m4 (upd H4 a (.lst (us.set j dv))) := Step.put sm4 hm4
                exact ⟨a, us, k, j, rfl, rfl, g2, by rw [← g3.len]; exact e5, q4 σ _ m4 st5 (sm4.put hm4 ⟨_, upd_same, (g3.set r4 j).mono sm4 st5⟩) ((sr2.mono sm2 (st3.trans st4)).mono sm4 st5)⟩
              · exact q4.elim
            · exact q4.elim
          · exact q3.elim
        · exact q2.elim
      · exact q2.elim
    · exact q2.elim⟩⟩
end
end DL
set_option Elab.async false
set_option linter.all false
set_option maxRecDepth 100000
set_option maxHeartbeats 4000000
/-! DN9: sum, max, min of a tuple of numbers. -/
namespace DL
open PySem PySem.Spec PyProof.Rows L2
section
variable {X : Cx} {G : Gx}
theorem at_ints {ns : List Int} {its : List Value} (rv : Vals (ns.map V.int) its) {i : Nat} {v : Value} (h : its.toArray[i]? = some v) : i < ns.length ∧ ∃ t, v = .int ((ns[i]?).getD 0) t := by
  have h1 : its[i]? = some v := by simpa using h
  have hl := rv.length
  have hi : i < its.length := (List.getElem?_eq_some_iff.mp h1).1
  have hin : i < ns.length := by rw [List.length_map] at hl; omega
  obtain ⟨u, e1, e2⟩ := rv.get (i := i) (x := .int ns[i]) (by simp [hin])
  rw [h1] at e1
  cases e1
  obtain ⟨t, e2⟩ := e2
  exact ⟨hin, t, by rw [e2, List.getElem?_eq_getElem hin]; rfl⟩
theorem iter_tupS {A : Around} {E : Value → Shared → Prop} {s : Shared} {a : Addr} {items : Array Value} {Q : Value → Shared → Prop} {prog : Program} {w : World} (ht : s.heap.IsTuple a items)
    (h : ∀ o, (s.heap.push o).objs.size = s.heap.objs.size + 1 → ((s.heap.push o).IsTupleIter s.heap.objs.size a 0 ∧ (s.heap.push o).IsTuple a items) → (∀ b ∈ [s.heap.objs.size, a], b < (s.heap.push o).objs.size) → a ≠ s.heap.objs.size → Q (.ref s.heap.objs.size) { s with heap := s.heap.push o }) : wpAny (model prog w) A (pyIter (.ref a)) Q E s := by
  refine wpAny_pyIter_tuple ht ?_
  have hlt : a < s.heap.objs.size := by obtain ⟨o, e, _⟩ := ht; exact Heap.lt_size e
  refine h _ (Heap.size_push ..) ⟨⟨_, Heap.get?_push_size _ rfl, rfl, rfl⟩, ht.push _⟩ (fun b hb => ?_) (Nat.ne_of_lt hlt)
  rw [Heap.size_push]
  rcases List.mem_cons.mp hb with z | z
  · rw [z]; exact Nat.lt_succ_self _
  · rw [List.mem_singleton.mp z]; exact Nat.lt_succ_of_lt hlt
theorem kept_it {s : Shared} {o : Obj} {h' : Heap} (hk : ∀ b ob, b ∉ [s.heap.objs.size] → (s.heap.push o).get? b = some ob → h'.get? b = some ob) : ∀ b ob, s.heap.get? b = some ob → h'.get? b = some ob := fun b ob e =>
  hk b ob (fun z => by
    have := Heap.lt_size e
    rw [List.mem_singleton.mp z] at this
    exact absurd this (Nat.lt_irrefl _)) (Heap.get?_push_of_some _ e)
theorem cr_sumT (hc : X.calm = true) : CallR X (.builtin "sum") (fun vs H Q => ∃ (a : Addr) (ns : List Int), vs = [V.ref a] ∧ SqT X.K H a (ns.map V.int) ∧ Q (.int ns.sum) H) := by
  intro pins s σ H vs us Q I r h
  obtain ⟨a, ns, rfl, hs, q⟩ := h
  obtain ⟨its, rv, p, _⟩ := I.tuple hs
  have hl := rv.length
  rw [Vals.ref1 r]
  have hh : X.A.in1.handled = none := I.ok.hd hc
  refine call_sum_walkG (iter_tupS (show s.heap.IsTuple a its.toArray from p) fun o hz st hfp hne => ?_)
  refine ⟨_, _, _, _, _, _, (fun j => (ns[j]?).getD 0), rfl, Walks.tuple (prog := X.prog) (w := X.w) hh _ a hne its.toArray, st, hfp, (fun i v hv => (at_ints rv hv).2), fun h' tk t' hk => ?_⟩
  refine ⟨.int _, H, I.kept (t' := tk) (kept_it hk), ⟨t', rfl⟩, ?_⟩
  rw [show its.toArray.size = ns.length by rw [List.size_toArray, ← hl, List.length_map], preSum_list]
  exact q
theorem cr_maxT (hc : X.calm = true) : CallR X (.builtin "max") (fun vs H Q => ∃ (a : Addr) (ns : List Int), vs = [V.ref a] ∧ SqT X.K H a (ns.map V.int) ∧ 0 < ns.length ∧ ∀ m, m ∈ ns → (∀ y, y ∈ ns → y ≤ m) → Q (.int m) H) := by
  intro pins s σ H vs us Q I r h
  obtain ⟨a, ns, rfl, hs, hpos, q⟩ := h
  obtain ⟨its, rv, p, _⟩ := I.tuple hs
  have hl := rv.length
  have hsz : its.toArray.size = ns.length := by rw [List.size_toArray, ← hl, List.length_map]
  rw [Vals.ref1 r]
  have hh : X.A.in1.handled = none := I.ok.hd hc
  refine call_max_walk (iter_tupS (show s.heap.IsTuple a its.toArray from p) fun o hz st hfp hne => ?_)
  refine ⟨_, _, _, _, _, _, _, rfl, Walks.tuple (prog := X.prog) (w := X.w) hh _ a hne its.toArray, st, hfp, by omega, CmpOf.ints_gt (fun j => (ns[j]?).getD 0) (fun i v hv => (at_ints rv hv).2), fun v h' tk hP hk => ?_⟩
  obtain ⟨hi, t, rfl⟩ := at_ints rv hP
  refine ⟨.int _, H, I.kept (t' := tk) (kept_it hk), ⟨t, rfl⟩, q _ ?_ fun y hy => ?_⟩
  · rw [List.getElem?_eq_getElem hi]; exact List.getElem_mem hi
  · obtain ⟨j, hj, rfl⟩ := List.getElem_of_mem hy
    have := (argBest_gt (fun j => (ns[j]?).getD 0) (its.toArray.size - 1)).2 j (by omega)
    rw [List.getElem?_eq_getElem hj] at this
    exact this
theorem cr_minT (hc : X.calm = true) : CallR X (.builtin "min") (fun vs H Q => ∃ (a : Addr) (ns : List Int), vs = [V.ref a] ∧ SqT X.K H a (ns.map V.int) ∧ 0 < ns.length ∧ ∀ m, m ∈ ns → (∀ y, y ∈ ns → m ≤ y) → Q (.int m) H) := by
  intro pins s σ H vs us Q I r h
  obtain ⟨a, ns, rfl, hs, hpos, q⟩ := h
  obtain ⟨its, rv, p, _⟩ := I.tuple hs
  have hl := rv.length
  have hsz : its.toArray.size = ns.length := by rw [List.size_toArray, ← hl, List.length_map]
  rw [Vals.ref1 r]
  have hh : X.A.in1.handled = none := I.ok.hd hc
  refine call_min_walk (iter_tupS (show s.heap.IsTuple a its.toArray from p) fun o hz st hfp hne => ?_)
  refine ⟨_, _, _, _, _, _, _, rfl, Walks.tuple (prog := X.prog) (w := X.w) hh _ a hne its.toArray, st, hfp, by omega, CmpOf.ints_lt (fun j => (ns[j]?).getD 0) (fun i v hv => (at_ints rv hv).2), fun v h' tk hP hk => ?_⟩
  obtain ⟨hi, t, rfl⟩ := at_ints rv hP
  refine ⟨.int _, H, I.kept (t' := tk) (kept_it hk), ⟨t, rfl⟩, q _ ?_ fun y hy => ?_⟩
  · rw [List.getElem?_eq_getElem hi]; exact List.getElem_mem hi
  · obtain ⟨j, hj, rfl⟩ := List.getElem_of_mem hy
    have := (argBest_lt (fun j => (ns[j]?).getD 0) (its.toArray.size - 1)).2 j (by omega)
    rw [List.getElem?_eq_getElem hj] at this
    exact this
def sumLT : DB := fun ds S => match ds with
  | [.tup xs] => (intsOf xs).map fun ns => (.int ns.sum, S)
  | ds => sumLD ds S
def maxT : DB := fun ds S => match ds with
  | [.tup xs] => ((intsOf xs).bind maxI).map fun i => (.int i, S)
  | ds => maxD2 ds S
def minT : DB := fun ds S => match ds with
  | [.tup xs] => ((intsOf xs).bind minI).map fun i => (.int i, S)
  | ds => minD3 ds S
theorem max_unique {i mx : Int} {is : List Int} (h1 : mx ∈ i :: is) (h2 : ∀ y, y ∈ i :: is → y ≤ mx) : mx = is.foldl max i := by
  have q1 := foldl_max_le is i
  have q2 := foldl_max_mem is i
  have a1 : mx ≤ is.foldl max i := by
    rcases List.mem_cons.mp h1 with rfl | h1
    · exact q1.1
    · exact q1.2 _ h1
  have a2 : is.foldl max i ≤ mx := by
    rcases q2 with q2 | q2
    · rw [q2]; exact h2 _ List.mem_cons_self
    · exact h2 _ (List.mem_cons_of_mem _ q2)
  omega
theorem min_unique {i mx : Int} {is : List Int} (h1 : mx ∈ i :: is) (h2 : ∀ y, y ∈ i :: is → mx ≤ y) : mx = is.foldl min i := by
  have q1 := foldl_min_le is i
  have q2 := foldl_min_mem is i
  have a1 : is.foldl min i ≤ mx := by
    rcases List.mem_cons.mp h1 with rfl | h1
    · exact q1.1
    · exact q1.2 _ h1
  have a2 : mx ≤ is.foldl min i := by
    rcases q2 with q2 | q2
    · rw [q2]; exact h2 _ List.mem_cons_self
    · exact h2 _ (List.mem_cons_of_mem _ q2)
  omega
theorem jb_sumT (hc : X.calm = true) : CallR X (.builtin "sum") (BR X.K G sumLT) := CallR.imp (CallR.or (cr_sumT hc) (jb_sum (G := G) hc)) fun vs H Q ⟨m, S, ds, d, S', sm, r, e, k⟩ => by
  unfold sumLT at e
  split at e
  · rename_i xs
    obtain ⟨v, rfl, q⟩ := svs1 r
    cases z2 : intsOf xs with
    | none => rw [z2] at e; cases e
    | some ns =>
      rw [z2] at e
      cases e
      obtain ⟨p, vs, rfl, sq, sv⟩ := q
      rw [intsOf_ok z2 sv] at sq
      exact .inl ⟨p, ns, rfl, sq, k _ H m sm.refl sm rfl⟩
  · exact .inr ⟨m, S, _, d, S', sm, r, e, k⟩
theorem jb_maxT (hc : X.calm = true) : CallR X (.builtin "max") (BR X.K G maxT) := CallR.imp (CallR.or (cr_maxT hc) (jb_max2 (G := G) hc)) fun vs H Q ⟨m, S, ds, d, S', sm, r, e, k⟩ => by
  unfold maxT at e
  split at e
  · rename_i xs
    obtain ⟨v, rfl, q⟩ := svs1 r
    cases z2 : intsOf xs with
    | none => rw [z2] at e; cases e
    | some ns =>
      rw [z2] at e
      cases ns with
      | nil => cases e
      | cons i is =>
        cases e
        obtain ⟨p, vs, rfl, sq, sv⟩ := q
        rw [intsOf_ok z2 sv] at sq
        refine .inl ⟨p, i :: is, rfl, sq, by simp, fun mx h1 h2 => ?_⟩
        rw [max_unique h1 h2]
        exact k _ H m sm.refl sm rfl
  · exact .inr ⟨m, S, _, d, S', sm, r, e, k⟩
theorem jb_minT (hc : X.calm = true) (hu : X.A.units + 64 < cLine) : CallR X (.builtin "min") (BR X.K G minT) := CallR.imp (CallR.or (cr_minT hc) (jb_min3 (G := G) hc hu)) fun vs H Q ⟨m, S, ds, d, S', sm, r, e, k⟩ => by
  unfold minT at e
  split at e
  · rename_i xs
    obtain ⟨v, rfl, q⟩ := svs1 r
    cases z2 : intsOf xs with
    | none => rw [z2] at e; cases e
    | some ns =>
      rw [z2] at e
      cases ns with
      | nil => cases e
      | cons i is =>
        cases e
        obtain ⟨p, vs, rfl, sq, sv⟩ := q
        rw [intsOf_ok z2 sv] at sq
        refine .inl ⟨p, i :: is, rfl, sq, by simp, fun mx h1 h2 => ?_⟩
        rw [min_unique h1 h2]
        exact k _ H m sm.refl sm rfl
  · exact .inr ⟨m, S, _, d, S', sm, r, e, k⟩
end
end DL
set_option Elab.async false
set_option linter.all false
set_option maxRecDepth 100000
set_option maxHeartbeats 4000000
/-! DN10: sorted of whole numbers: a list or a tuple. -/
namespace DL
open PySem PySem.Spec PyProof.Rows L2 SrtO Srt
section
variable {prog : Program} {w : World} {A : Around} {E : Value → Shared → Prop} {s : Shared}
theorem collect_tup {l : Addr} {vs : List Value} {Q : List Value → Shared → Prop} (hl : s.heap.IsTuple l vs.toArray)
    (h : Q vs { s with heap := (s.heap.push (seqObj "list" #[] 0)).update s.heap.objs.size (Obj.mapSeq (· ++ vs.toArray)) }) (hsz : vs.length ≤ sizeLine) :
    wpAny (model prog w) A (collect (.ref l)) Q E s := by
  obtain ⟨o, ho, hc, n, hd⟩ := id hl
  unfold collect
  refine wpAny_bind (wpAny_runValue (codeAny_builtin entry_proto_collect' ?_))
  show wpAny _ _ (do again (.builtin "list.__iadd__" ⟨[← newList [], .ref l], []⟩)) _ _ s
  refine wpAny_bind (wpAny_newList (wpAny_pure ⟨Code.quiet_builtin _ (by decide +kernel), codeAny_builtin entry_list_iadd' ?_⟩))
  show wpAny _ _ (Builtin.List.listExtendWith (.ref s.heap.objs.size) (.ref l) (.ref s.heap.objs.size)) _ _ { s with heap := s.heap.push (seqObj "list" #[] 0) }
  unfold Builtin.List.listExtendWith
  have ho' : (s.heap.push (seqObj "list" #[] 0)).get? l = some o := Heap.get?_push_of_some _ ho
  refine wpAny_bind (wpAny_typeOf (T := "tuple") ⟨o, ho', hc⟩ ?_)
  have ht : (Value.type "tuple" == Value.type "tuple") = true := by rfl
  rw [if_pos (by rw [ht]; simp)]
  refine wpAny_bind (listItems_at ho' hd ?_)
  refine wpAny_bind (listItems_at (xs := #[]) (n := 0) (Heap.get?_push_size _ rfl) rfl ?_)
  rw [if_neg (by simp)]
  refine wpAny_bind (listUpdate_at (xs := #[]) (n := 0) (Heap.get?_push_size _ rfl) rfl ?_ (Nat.zero_le _) (by show (#[] ++ vs.toArray).size ≤ sizeLine + 1; simp only [Array.size_append, List.size_toArray, List.length_nil]; omega))
  refine wpAny_pure ?_
  show wpAny (model prog w) A (do
      let o ← load s.heap.objs.size
      match o.data with
      | .seq xs _ => pure xs.toList
      | _ => unsupported "internal:collect") Q E { s with heap := (s.heap.push (seqObj "list" #[] 0)).update s.heap.objs.size (Obj.mapSeq (· ++ vs.toArray)) }
  refine wpAny_bind (wpAny_load (get?_update_seq (Heap.get?_push_size _ rfl) _) ?_)
  show wpAny _ _ (pure ((#[] : Array Value) ++ vs.toArray).toList) Q E _
  rw [show ((#[] : Array Value) ++ vs.toArray).toList = vs by simp]
  exact wpAny_pure h
theorem sorted_ordT {l : Addr} {vs : List Value} {ltv : Value → Value → Bool} {Q : Value → Shared → Prop} (O : Swo ltv) (hl : s.heap.IsTuple l vs.toArray) (hz : vs.length ≤ sizeLine)
    (hS : 2 ≤ vs.length → ∀ (h₁ : Heap) (a : Addr), h₁.get? a = some (seqObj "list" vs.toArray 0) → (∀ b o, s.heap.get? b = some o → b ≠ a ∧ h₁.get? b = some o) → SortableO prog w A.in1.in1 { s with heap := h₁ } a vs ltv)
    (h : ∀ out : List Value, Srtd ltv out → Stb ltv out vs → Q (.ref (s.heap.objs.size + 1)) { s with heap := sortedAll s.heap vs out.toArray }) :
    wpAny (model prog w) A (call (.builtin "sorted") [.ref l]) Q E s := by
  refine Calls.call_function_entry kind_sorted plain_sorted entry_sorted (args_sorted1 _) ?_
  unfold Builtin.«sorted»
  refine wpAny_bind (m := checkCount "sorted" 1 1 _) (wpAny_pure ?_)
  refine wpAny_bind (collect_tup hl ?_ hz)
  refine wpAny_bind (wpAny_newList ?_ hz)
  have hsz : ((s.heap.push (seqObj "list" #[] 0)).update s.heap.objs.size (Obj.mapSeq (· ++ vs.toArray))).objs.size = s.heap.objs.size + 1 := by
    rw [Heap.size_update, size_push']
  have hoL : (((s.heap.push (seqObj "list" #[] 0)).update s.heap.objs.size (Obj.mapSeq (· ++ vs.toArray))).push (seqObj "list" vs.toArray 0)).get? (s.heap.objs.size + 1) = some (seqObj "list" vs.toArray 0) := by
    rw [← hsz]; exact Heap.get?_push_size _ rfl
  have keep : ∀ b o, s.heap.get? b = some o → b ≠ s.heap.objs.size + 1 ∧ (((s.heap.push (seqObj "list" #[] 0)).update s.heap.objs.size (Obj.mapSeq (· ++ vs.toArray))).push (seqObj "list" vs.toArray 0)).get? b = some o := fun b o q => by
    have hlt : b < s.heap.objs.size := Heap.lt_size q
    refine ⟨Nat.ne_of_lt (Nat.lt_succ_of_lt hlt), Heap.get?_push_of_some _ ?_⟩
    rw [Heap.get?_update_ne _ _ _ _ (Nat.ne_of_lt hlt)]
    exact Heap.get?_push_of_some _ q
  show wpAny _ _ _ _ _ { s with heap := ((s.heap.push (seqObj "list" #[] 0)).update s.heap.objs.size (Obj.mapSeq (· ++ vs.toArray))).push (seqObj "list" vs.toArray 0) }
  rw [hsz]
  refine wpAny_bind (wpAny_holding (wpAny_call_entry slot_list_sort ⟨_, hoL, rfl⟩ entry_list_sort (list_sort_ord O hoL hz (fun h2 => hS h2 _ _ hoL keep) fun out hs hb => ⟨_, rfl, ?_⟩) (args_list_sort _)))
  exact wpAny_pure ⟨_, rfl, h out hs hb⟩
end
section
variable {X : Cx} {G : Gx}
theorem cr_sortedTI : CallR X (.builtin "sorted") (fun vs H Q => ∃ (a : Addr) (ns : List Int), vs = [V.ref a] ∧ (SqL X.K H a (ns.map V.int) ∨ SqT X.K H a (ns.map V.int)) ∧
    ∀ (ns' : List Int) (p : Addr), ns'.Perm ns → ns'.Pairwise (· ≤ ·) → H p = none → Q (.ref p) (upd H p (.lst (ns'.map V.int)))) := by
  intro pins s σ H vs us Q I r h
  obtain ⟨a, ns, rfl, hs | hs, q⟩ := h
  · exact cr_sortedI pins s σ H _ us Q I r ⟨a, ns, rfl, hs, q⟩
  · obtain ⟨its, rv, p, hz⟩ := I.tuple hs
    rw [Vals.ref1 r]
    have hi := rv.ints
    have hz2 : its.length ≤ sizeLine := by
      have := rv.length
      rw [List.length_map] at this
      simp at hz
      omega
    refine sorted_ordT SrtO.swo_int (show s.heap.IsTuple a its.toArray from p) hz2 (fun h2 h₁ a' _ _ => SrtO.ints_sortable hi h2) fun out h1 h2 => ?_
    obtain ⟨k1, k2, k3⟩ := SrtO.ints_out hi h1 h2
    obtain ⟨ep, he'⟩ := PyProof.Rows.sortedAll_at s.heap its out.toArray
    have hlen : ((out.map SrtO.iv).map V.int).length ≤ sizeLine := by
      rw [List.length_map, k2.length_eq]
      have := rv.length
      rw [List.length_map] at this
      omega
    exact ⟨.ref _, upd H (s.heap.objs.size + 1) (.lst ((out.map SrtO.iv).map V.int)), I.laid (t' := s.toks) (fun _ _ => PyProof.Rows.sortedAll_old) (Nat.le_succ _) ⟨hlen, out, ep, vals_of_ints k1, he'⟩, rfl, q _ _ k2 k3 (I.hok.fresh (Nat.le_succ _))⟩
/-- the whole numbers in order -/
def inOrder (ns : List Int) : List Int := ns.mergeSort (fun a b => decide (a ≤ b))
theorem order_unique {ns ns' : List Int} (h1 : ns'.Perm ns) (h2 : ns'.Pairwise (· ≤ ·)) : ns' = inOrder ns := by
  have p := List.pairwise_mergeSort (le := fun a b : Int => decide (a ≤ b)) (fun a b c h1 h2 => by simp at *; omega) (fun a b => by simp; omega) ns
  refine List.Perm.eq_of_pairwise (le := fun a b : Int => a ≤ b) (fun a b _ _ h1 h2 => by omega) h2 (p.imp fun h => by simpa using h) ?_
  exact h1.trans (List.mergeSort_perm ns _).symm
theorem svs_ints {K : PySem.W.Frag} {m : List Addr} {H : Hp} : ∀ (ns : List Int), SVs K m H (ns.map D.int) (ns.map V.int)
  | [] => rfl
  | n :: ns => ⟨.int n, ns.map V.int, rfl, rfl, svs_ints ns⟩
def sortedD : DB := fun ds S => match ds with
  | [d] => (match seqAt S d with
    | some xs => (match intsOf xs with
      | some ns => some (newO (.lst ((inOrder ns).map D.int)) S)
      | none => none)
    | none => none)
  | _ => none
theorem jb_sorted : CallR X (.builtin "sorted") (BR X.K G sortedD) := CallR.imp cr_sortedTI fun vs H Q ⟨m, S, ds, d, S', sm, r, e, k⟩ => by
  unfold sortedD at e
  split at e
  · rename_i d'
    obtain ⟨v, rfl, q⟩ := svs1 r
    cases z : seqAt S d' with
    | none => rw [z] at e; cases e
    | some xs =>
      rw [z] at e
      dsimp only at e
      cases z2 : intsOf xs with
      | none => rw [z2] at e; cases e
      | some ns =>
        rw [z2] at e
        cases e
        obtain ⟨p, ws, rfl, sv, sq⟩ := seqAt_ok sm z q
        rw [intsOf_ok z2 sv] at sq
        refine ⟨p, ns, rfl, sq, fun ns' l h1 h2 hl => ?_⟩
        rw [order_unique h1 h2]
        exact k _ _ (m ++ [l]) (Step.new sm hl) (sim_lst (svs_ints _) sm hl) (sv_new sm)
  · cases e
end
end DL
set_option Elab.async false
set_option linter.all false
set_option maxRecDepth 100000
set_option maxHeartbeats 0
namespace Pr
open PySem PySem.Spec PyProof.Rows L2 DL
def top (i : Nat) : Stmt := PySem.Challenge.pw_wagehall_k05_withheld_and_paid.main.body.getD i (.Pass ⟨0, 0, 0, 0⟩)
abbrev s_part : Stmt := top 12
abbrev s_add : Stmt := top 13
abbrev s_less : Stmt := top 14
abbrev s_times : Stmt := top 15
abbrev s_over : Stmt := top 16
abbrev s_order : Stmt := top 17
abbrev s_rounded : Stmt := top 18
abbrev s_Table___init__ : Stmt := inClass (top 20) 0
abbrev s_Table_exact : Stmt := inClass (top 20) 1
abbrev s_Table_withheld : Stmt := inClass (top 20) 2
abbrev s_Table_at_edge : Stmt := inClass (top 20) 3
abbrev s_Table_mean : Stmt := inClass (top 20) 4
abbrev s_Table_back : Stmt := inClass (top 20) 5
abbrev s_Table_is_rising : Stmt := inClass (top 20) 6
abbrev s_Table_scaled : Stmt := inClass (top 20) 7
abbrev s_over_year : Stmt := top 21
abbrev s_at_end : Stmt := top 22
abbrev s_for_two : Stmt := top 23
abbrev s_best_split : Stmt := top 24
abbrev s_capped : Stmt := top 25
abbrev s_credits_used : Stmt := top 26
abbrev s_edge_jump : Stmt := top 27
abbrev s_worse_off : Stmt := top 28
abbrev s_gap_of : Stmt := top 29
abbrev s_split_days : Stmt := top 31
abbrev s_by_minutes : Stmt := top 33
abbrev s_day_pay : Stmt := top 34
abbrev s_Slip___init__ : Stmt := inClass (top 35) 0
abbrev s_Slip_line : Stmt := inClass (top 35) 1
abbrev s_Slip_sum_of : Stmt := inClass (top 35) 2
abbrev s_Slip_gross : Stmt := inClass (top 35) 3
abbrev s_Slip_net : Stmt := inClass (top 35) 4
abbrev s_Slip_hold : Stmt := inClass (top 35) 5
abbrev s_made : Stmt := top 36
abbrev s_gross_for : Stmt := top 37
abbrev s_net_of : Stmt := top 38
abbrev s_part_time : Stmt := top 39
abbrev s_raised : Stmt := top 40
abbrev s_piece_pay : Stmt := top 41
abbrev s_bonus : Stmt := top 42
abbrev s_least_paid : Stmt := top 43
abbrev s_is_even : Stmt := top 44
abbrev s__law_dice : Stmt := top 46
abbrev s__law_roll : Stmt := top 47
abbrev s__law_rounds : Stmt := top 48
abbrev s__law_told : Stmt := top 49
abbrev s__law_least : Stmt := top 50
abbrev s__law_withheld : Stmt := top 51
abbrev s__law_shares : Stmt := top 52
abbrev s__law_slips : Stmt := top 53
abbrev s__law_year : Stmt := top 54
abbrev s_law : Stmt := top 55
def d_part : He.DefD := ⟨("part", none), "part", "part", defArgs s_part, defBody s_part, defScope s_part, [], []⟩
def d_add : He.DefD := ⟨("add", none), "add", "add", defArgs s_add, defBody s_add, defScope s_add, [], []⟩
def d_less : He.DefD := ⟨("less", none), "less", "less", defArgs s_less, defBody s_less, defScope s_less, [], []⟩
def d_times : He.DefD := ⟨("times", none), "times", "times", defArgs s_times, defBody s_times, defScope s_times, [], []⟩
def d_over : He.DefD := ⟨("over", none), "over", "over", defArgs s_over, defBody s_over, defScope s_over, [], []⟩
def d_order : He.DefD := ⟨("order", none), "order", "order", defArgs s_order, defBody s_order, defScope s_order, [], []⟩
def d_rounded : He.DefD := ⟨("rounded", none), "rounded", "rounded", defArgs s_rounded, defBody s_rounded, defScope s_rounded, [], []⟩
def d_Table___init__ : He.DefD := ⟨("Table", some "__init__"), "__init__", "Table.__init__", defArgs s_Table___init__, defBody s_Table___init__, defScope s_Table___init__, [], []⟩
def d_Table_exact : He.DefD := ⟨("Table", some "exact"), "exact", "Table.exact", defArgs s_Table_exact, defBody s_Table_exact, defScope s_Table_exact, [], []⟩
def d_Table_withheld : He.DefD := ⟨("Table", some "withheld"), "withheld", "Table.withheld", defArgs s_Table_withheld, defBody s_Table_withheld, defScope s_Table_withheld, [], []⟩
def d_Table_at_edge : He.DefD := ⟨("Table", some "at_edge"), "at_edge", "Table.at_edge", defArgs s_Table_at_edge, defBody s_Table_at_edge, defScope s_Table_at_edge, [], []⟩
def d_Table_mean : He.DefD := ⟨("Table", some "mean"), "mean", "Table.mean", defArgs s_Table_mean, defBody s_Table_mean, defScope s_Table_mean, [], []⟩
def d_Table_back : He.DefD := ⟨("Table", some "back"), "back", "Table.back", defArgs s_Table_back, defBody s_Table_back, defScope s_Table_back, [], []⟩
def d_Table_is_rising : He.DefD := ⟨("Table", some "is_rising"), "is_rising", "Table.is_rising", defArgs s_Table_is_rising, defBody s_Table_is_rising, defScope s_Table_is_rising, [], []⟩
def d_Table_scaled : He.DefD := ⟨("Table", some "scaled"), "scaled", "Table.scaled", defArgs s_Table_scaled, defBody s_Table_scaled, defScope s_Table_scaled, [], []⟩
def d_over_year : He.DefD := ⟨("over_year", none), "over_year", "over_year", defArgs s_over_year, defBody s_over_year, defScope s_over_year, [], []⟩
def d_at_end : He.DefD := ⟨("at_end", none), "at_end", "at_end", defArgs s_at_end, defBody s_at_end, defScope s_at_end, [], []⟩
def d_for_two : He.DefD := ⟨("for_two", none), "for_two", "for_two", defArgs s_for_two, defBody s_for_two, defScope s_for_two, [], []⟩
def d_best_split : He.DefD := ⟨("best_split", none), "best_split", "best_split", defArgs s_best_split, defBody s_best_split, defScope s_best_split, [], []⟩
def d_capped : He.DefD := ⟨("capped", none), "capped", "capped", defArgs s_capped, defBody s_capped, defScope s_capped, [], []⟩
def d_credits_used : He.DefD := ⟨("credits_used", none), "credits_used", "credits_used", defArgs s_credits_used, defBody s_credits_used, defScope s_credits_used, [], []⟩
def d_edge_jump : He.DefD := ⟨("edge_jump", none), "edge_jump", "edge_jump", defArgs s_edge_jump, defBody s_edge_jump, defScope s_edge_jump, [], []⟩
def d_worse_off : He.DefD := ⟨("worse_off", none), "worse_off", "worse_off", defArgs s_worse_off, defBody s_worse_off, defScope s_worse_off, [], []⟩
def d_gap_of : He.DefD := ⟨("gap_of", none), "gap_of", "gap_of", defArgs s_gap_of, defBody s_gap_of, defScope s_gap_of, [], []⟩
def d_split_days : He.DefD := ⟨("split_days", none), "split_days", "split_days", defArgs s_split_days, defBody s_split_days, defScope s_split_days, [], []⟩
def d_by_minutes : He.DefD := ⟨("by_minutes", none), "by_minutes", "by_minutes", defArgs s_by_minutes, defBody s_by_minutes, defScope s_by_minutes, [], []⟩
def d_day_pay : He.DefD := ⟨("day_pay", none), "day_pay", "day_pay", defArgs s_day_pay, defBody s_day_pay, defScope s_day_pay, [], []⟩
def d_Slip___init__ : He.DefD := ⟨("Slip", some "__init__"), "__init__", "Slip.__init__", defArgs s_Slip___init__, defBody s_Slip___init__, defScope s_Slip___init__, [], []⟩
def d_Slip_line : He.DefD := ⟨("Slip", some "line"), "line", "Slip.line", defArgs s_Slip_line, defBody s_Slip_line, defScope s_Slip_line, [], []⟩
def d_Slip_sum_of : He.DefD := ⟨("Slip", some "sum_of"), "sum_of", "Slip.sum_of", defArgs s_Slip_sum_of, defBody s_Slip_sum_of, defScope s_Slip_sum_of, [], []⟩
def d_Slip_gross : He.DefD := ⟨("Slip", some "gross"), "gross", "Slip.gross", defArgs s_Slip_gross, defBody s_Slip_gross, defScope s_Slip_gross, [], []⟩
def d_Slip_net : He.DefD := ⟨("Slip", some "net"), "net", "Slip.net", defArgs s_Slip_net, defBody s_Slip_net, defScope s_Slip_net, [], []⟩
def d_Slip_hold : He.DefD := ⟨("Slip", some "hold"), "hold", "Slip.hold", defArgs s_Slip_hold, defBody s_Slip_hold, defScope s_Slip_hold, [], []⟩
def d_made : He.DefD := ⟨("made", none), "made", "made", defArgs s_made, defBody s_made, defScope s_made, [], []⟩
def d_gross_for : He.DefD := ⟨("gross_for", none), "gross_for", "gross_for", defArgs s_gross_for, defBody s_gross_for, defScope s_gross_for, [], []⟩
def d_net_of : He.DefD := ⟨("net_of", none), "net_of", "net_of", defArgs s_net_of, defBody s_net_of, defScope s_net_of, [], []⟩
def d_part_time : He.DefD := ⟨("part_time", none), "part_time", "part_time", defArgs s_part_time, defBody s_part_time, defScope s_part_time, [], []⟩
def d_raised : He.DefD := ⟨("raised", none), "raised", "raised", defArgs s_raised, defBody s_raised, defScope s_raised, [], []⟩
def d_piece_pay : He.DefD := ⟨("piece_pay", none), "piece_pay", "piece_pay", defArgs s_piece_pay, defBody s_piece_pay, defScope s_piece_pay, [], []⟩
def d_bonus : He.DefD := ⟨("bonus", none), "bonus", "bonus", defArgs s_bonus, defBody s_bonus, defScope s_bonus, [], []⟩
def d_least_paid : He.DefD := ⟨("least_paid", none), "least_paid", "least_paid", defArgs s_least_paid, defBody s_least_paid, defScope s_least_paid, [], []⟩
def d_is_even : He.DefD := ⟨("is_even", none), "is_even", "is_even", defArgs s_is_even, defBody s_is_even, defScope s_is_even, [], []⟩
def d__law_dice : He.DefD := ⟨("_law_dice", none), "_law_dice", "_law_dice", defArgs s__law_dice, defBody s__law_dice, defScope s__law_dice, [], []⟩
def d__law_roll : He.DefD := ⟨("_law_roll", none), "_law_roll", "_law_roll", defArgs s__law_roll, defBody s__law_roll, defScope s__law_roll, [], []⟩
def d__law_rounds : He.DefD := ⟨("_law_rounds", none), "_law_rounds", "_law_rounds", defArgs s__law_rounds, defBody s__law_rounds, defScope s__law_rounds, [], []⟩
def d__law_told : He.DefD := ⟨("_law_told", none), "_law_told", "_law_told", defArgs s__law_told, defBody s__law_told, defScope s__law_told, [], []⟩
def d__law_least : He.DefD := ⟨("_law_least", none), "_law_least", "_law_least", defArgs s__law_least, defBody s__law_least, defScope s__law_least, [], []⟩
def d__law_withheld : He.DefD := ⟨("_law_withheld", none), "_law_withheld", "_law_withheld", defArgs s__law_withheld, defBody s__law_withheld, defScope s__law_withheld, [], []⟩
def d__law_shares : He.DefD := ⟨("_law_shares", none), "_law_shares", "_law_shares", defArgs s__law_shares, defBody s__law_shares, defScope s__law_shares, [], []⟩
def d__law_slips : He.DefD := ⟨("_law_slips", none), "_law_slips", "_law_slips", defArgs s__law_slips, defBody s__law_slips, defScope s__law_slips, [], []⟩
def d__law_year : He.DefD := ⟨("_law_year", none), "_law_year", "_law_year", defArgs s__law_year, defBody s__law_year, defScope s__law_year, [], []⟩
def d_law : He.DefD := ⟨("law", none), "law", "law", defArgs s_law, defBody s_law, defScope s_law, [], []⟩
def fn : List He.DefD := [d_part, d_add, d_less, d_times, d_over, d_order, d_rounded, d_Table___init__, d_Table_exact, d_Table_withheld, d_Table_at_edge, d_Table_mean, d_Table_back, d_Table_is_rising, d_Table_scaled, d_over_year, d_at_end, d_for_two, d_best_split, d_capped, d_credits_used, d_edge_jump, d_worse_off, d_gap_of, d_split_days, d_by_minutes, d_day_pay, d_Slip___init__, d_Slip_line, d_Slip_sum_of, d_Slip_gross, d_Slip_net, d_Slip_hold, d_made, d_gross_for, d_net_of, d_part_time, d_raised, d_piece_pay, d_bonus, d_least_paid, d_is_even, d__law_dice, d__law_roll, d__law_rounds, d__law_told, d__law_least, d__law_withheld, d__law_shares, d__law_slips, d__law_year, d_law]
def fa0 : List He.Fa := [.glo "WageFault", .glo "BadMoney", .glo "BadDay", .glo "BadRule", .glo "Unbalanced", .glo "Shut", .glo "Short", .glo "BadText", .glo "NoAnswer", .glo "part", .glo "add", .glo "less", .glo "times", .glo "over", .glo "order", .glo "rounded", .glo "Table", .glo "over_year", .glo "at_end", .glo "for_two", .glo "best_split", .glo "capped", .glo "credits_used", .glo "edge_jump", .glo "worse_off", .glo "gap_of", .glo "split_days", .glo "by_minutes", .glo "day_pay", .glo "Slip"]
def fa1 : List He.Fa := [.glo "made", .glo "gross_for", .glo "net_of", .glo "part_time", .glo "raised", .glo "piece_pay", .glo "bonus", .glo "least_paid", .glo "is_even", .glo "_law_dice", .glo "_law_roll", .glo "_law_rounds", .glo "_law_told", .glo "_law_least", .glo "_law_withheld", .glo "_law_shares", .glo "_law_slips", .glo "_law_year", .glo "law", .glo "RULES", .free "abs", .free "all", .free "any", .free "enumerate", .free "int", .free "len", .free "list", .free "max", .free "min", .free "range"]
def fa2 : List He.Fa := [.free "sorted", .free "sum", .free "tuple", .free "zip", .cls "Table", .mkr "Table", .noat "Table" "steps", .meth "Table" "exact", .meth "Table" "withheld", .meth "Table" "at_edge", .meth "Table" "mean", .meth "Table" "back", .meth "Table" "is_rising", .meth "Table" "scaled", .cls "Slip", .mkr "Slip", .noat "Slip" "lines", .meth "Slip" "line", .meth "Slip" "sum_of", .meth "Slip" "gross", .meth "Slip" "net", .meth "Slip" "hold", .exc "WageFault", .keep "WageFault", .exc "BadMoney", .keep "BadMoney", .exc "BadDay", .keep "BadDay", .exc "BadRule", .keep "BadRule"]
def fa3 : List He.Fa := [.keep "Unbalanced", .exc "Shut", .keep "Shut", .keep "Short", .keep "BadText", .exc "NoAnswer", .keep "NoAnswer", .exm "WageFault" "WageFault" true, .exm "WageFault" "BadMoney" false, .exm "WageFault" "BadDay" false, .exm "WageFault" "BadRule" false, .exm "WageFault" "Unbalanced" false, .exm "WageFault" "Shut" false, .exm "WageFault" "Short" false, .exm "WageFault" "BadText" false, .exm "WageFault" "NoAnswer" false, .exm "BadMoney" "WageFault" true, .exm "BadMoney" "BadMoney" true, .exm "BadMoney" "BadDay" false, .exm "BadMoney" "BadRule" false, .exm "BadMoney" "Unbalanced" false, .exm "BadMoney" "Shut" false, .exm "BadMoney" "Short" false, .exm "BadMoney" "BadText" false, .exm "BadMoney" "NoAnswer" false, .exm "BadDay" "WageFault" true, .exm "BadDay" "BadMoney" false, .exm "BadDay" "BadDay" true, .exm "BadDay" "BadRule" false, .exm "BadDay" "Unbalanced" false]
def fa4 : List He.Fa := [.exm "BadDay" "Shut" false, .exm "BadDay" "Short" false, .exm "BadDay" "BadText" false, .exm "BadDay" "NoAnswer" false, .exm "BadRule" "WageFault" true, .exm "BadRule" "BadMoney" false, .exm "BadRule" "BadDay" false, .exm "BadRule" "BadRule" true, .exm "BadRule" "Unbalanced" false, .exm "BadRule" "Shut" false, .exm "BadRule" "Short" false, .exm "BadRule" "BadText" false, .exm "BadRule" "NoAnswer" false, .exm "Shut" "WageFault" true, .exm "Shut" "BadMoney" false, .exm "Shut" "BadDay" false, .exm "Shut" "BadRule" false, .exm "Shut" "Unbalanced" false, .exm "Shut" "Shut" true, .exm "Shut" "Short" false, .exm "Shut" "BadText" false, .exm "Shut" "NoAnswer" false, .exm "NoAnswer" "WageFault" true, .exm "NoAnswer" "BadMoney" false, .exm "NoAnswer" "BadDay" false, .exm "NoAnswer" "BadRule" false, .exm "NoAnswer" "Unbalanced" false, .exm "NoAnswer" "Shut" false, .exm "NoAnswer" "Short" false, .exm "NoAnswer" "BadText" false]
def fa5 : List He.Fa := [.exm "NoAnswer" "NoAnswer" true]
def fa : List He.Fa := fa0 ++ fa1 ++ fa2 ++ fa3 ++ fa4 ++ fa5
def tf : List He.Defn := [("Table", some "__init__"), ("Table", some "is_rising"), ("best_split", none), ("split_days", none), ("day_pay", none), ("Slip", some "sum_of"), ("piece_pay", none), ("_law_slips", none), ("law", none)]
abbrev R : PySem.W.OpenRow := PySem.W.OpenLaw.row PySem.Challenge.rw_wagehall_k05_withheld_and_paid
def exB (K : PySem.W.Frag) : Bool := decide ((tf.map fun p => (He.cT K p).2).Nodup) && He.tupB K "RULES" ((["down", "up", "half up", "half even", "half down"] : List Str).map He.Dv.str)
abbrev hk : PySem.W.Hook := hookY 5 fa fn [] tf exB
def ob (s : PySem.W.SharedT) : hk.α := obsY 5 fa fn [] tf exB (HandSHeadRun.getT s)
theorem ob_eq (s : PySem.W.SharedT) : ob s = hk.obs s.abs := obsY_eq (HandSHeadRun.getT_eq s)
def nm0 : List PySem.Str := ["WageFault", "BadMoney", "BadDay", "BadRule", "Unbalanced", "Shut", "Short", "BadText", "NoAnswer", "part", "add", "less", "times", "over", "order", "rounded", "Table", "over_year", "at_end", "for_two", "best_split", "capped", "credits_used", "edge_jump", "worse_off", "gap_of", "split_days", "by_minutes", "day_pay", "Slip"]
def nm1 : List PySem.Str := ["made", "gross_for", "net_of", "part_time", "raised", "piece_pay", "bonus", "least_paid", "is_even", "_law_dice", "_law_roll", "_law_rounds", "_law_told", "_law_least", "_law_withheld", "_law_shares", "_law_slips", "_law_year", "RULES"]
def names : List PySem.Str := nm0 ++ nm1
theorem run (w : World) : HandSHeadRun.RunEq R (PySem.W.view R.prog [55]) hk ob 20000 names w := by
  intro os
  kernel_rfl
end Pr
set_option Elab.async false
set_option linter.all false
namespace Pr
open PySem PySem.Spec PyProof.Rows L2 DL
def raisable : List String := ["BadMoney", "BadDay", "BadRule", "Shut", "NoAnswer"]
def tellers : List (String × Str) := [("BadMoney", "money"), ("BadDay", "day"), ("BadRule", "rule"), ("Unbalanced", "unbalanced"), ("Shut", "shut"), ("Short", "short"), ("BadText", "text"), ("NoAnswer", "no answer")]
/-- _law_dice: slots 0 cell -/
def f__law_dice : DS :=
  (dSeq (dIfS (dB (dChain ltD ltD (dOp subD (dC (.int 0)) (dC (.int 10))) (dVar 0) (dC (.int 10))))
  (dRet (dLst (daCons (dBlt absD (daCons (dVar 0) daNil)) (daCons (dC (.int 0)) (daCons (dC (.int 2)) daNil)))))
  dNext)
  (dRet (dLst (daCons (dVar 0) (daCons (dOp addD (dC (.int 1)) (dOp modD (dBlt intD (daCons (dVar 0) daNil)) (dC (.int 1009)))) (daCons (dBlt intD (daCons (dOp geD (dVar 0) (dOp powD (dC (.int 10)) (dC (.int 18)))) daNil)) daNil))))))
def M__law_dice : DF := runD 1 f__law_dice
/-- _law_rounds: slots 0 script, 1 most, 2 cells, 3 cell -/
def f__law_rounds (M__law_dice : DF) : DS :=
  (dSeq (dAsg (dSl (dVar 0) dpNone (dpSome (dVar 1))) (gN 2))
  (dSeq (dIfS (dB (dOp eqD (dVar 2) (dLst daNil)))
  (dAsg (dLst (daCons (dC (.int 0)) daNil)) (gN 2))
  dNext)
  (dRet (dLc (diSeq (dVar 2)) (gN 3) dYes (dCall 1 M__law_dice (daCons (dVar 3) daNil)) [3]))))
def M__law_rounds : DF := runD 4 (f__law_rounds M__law_dice)
/-- _law_withheld: slots 0 steps, 1 much, 2 found, 3 k, 4 high -/
def f__law_withheld : DS :=
  (dSeq (dAsg (dC (.int 0)) (gN 2))
  (dSeq (dFor (diRange1 (dBlt lenD (daCons (dVar 0) daNil))) (gN 3)
  (dSeq (dAsg (dIf (dB (dOp ltD (dOp addD (dVar 3) (dC (.int 1))) (dBlt lenD (daCons (dVar 0) daNil)))) (dOp ixD (dOp ixD (dVar 0) (dOp addD (dVar 3) (dC (.int 1)))) (dC (.int 0))) (dBlt maxD (daCons (dVar 1) (daCons (dOp ixD (dOp ixD (dVar 0) (dVar 3)) (dC (.int 0))) daNil)))) (gN 4))
  (dAsg (dOp addD (dVar 2) (dOp mulD (dOp mulD (dBlt maxD (daCons (dC (.int 0)) (daCons (dOp subD (dBlt minD (daCons (dVar 1) (daCons (dVar 4) daNil))) (dOp ixD (dOp ixD (dVar 0) (dVar 3)) (dC (.int 0)))) daNil))) (dOp ixD (dOp ixD (dOp ixD (dVar 0) (dVar 3)) (dC (.int 1))) (dC (.int 0)))) (dOp fdivD (dC (.int 20)) (dOp ixD (dOp ixD (dOp ixD (dVar 0) (dVar 3)) (dC (.int 1))) (dC (.int 1)))))) (gN 2))))
  (dRet (dVar 2))))
def M__law_withheld : DF := runD 5 f__law_withheld
/-- _law_roll: slots 0 dice, 1 many, 2 found -/
def f__law_roll : DS :=
  (dSeq (dIfS (dOrT (dB (dOp eqD (dOp ixD (dVar 0) (dC (.int 2))) (dC (.int 2)))) (dAndT (dB (dOp eqD (dOp ixD (dVar 0) (dC (.int 2))) (dC (.int 1)))) (dB (dOp gtD (dOp ixD (dVar 0) (dC (.int 0))) (dC (.int 0))))))
  (dSeq (dAsg (dOp modD (dBlt intD (daCons (dOp ixD (dVar 0) (dC (.int 0))) daNil)) (dVar 1)) (gN 2))
  (dSeq (dAsg (dOp fdivD (dOp ixD (dVar 0) (dC (.int 0))) (dVar 1)) (gIx (dVar 0) (dC (.int 0))))
  (dRet (dVar 2))))
  dNext)
  (dSeq (dAsg (dC (.int 0)) (gIx (dVar 0) (dC (.int 2))))
  (dSeq (dAsg (dOp modD (dBlt intD (daCons (dOp addD (dOp addD (dOp mulD (dOp ixD (dVar 0) (dC (.int 0))) (dC (.int 48271))) (dOp mulD (dOp ixD (dVar 0) (dC (.int 1))) (dC (.int 69621)))) (dC (.int 11))) daNil)) (dC (.int 2147483647))) (gIx (dVar 0) (dC (.int 0))))
  (dSeq (dAsg (dOp addD (dOp ixD (dVar 0) (dC (.int 1))) (dC (.int 1))) (gIx (dVar 0) (dC (.int 1))))
  (dRet (dOp modD (dBlt intD (daCons (dOp addD (dOp fdivD (dOp ixD (dVar 0) (dC (.int 0))) (dC (.int 7))) (dOp ixD (dVar 0) (dC (.int 0)))) daNil)) (dVar 1)))))))
def M__law_roll : DF := runD 3 f__law_roll
/-- rounded: slots 0 a, 1 rule, 2 sign, 3 whole, 4 rest, 5 up -/
def f_rounded : DS :=
  (dSeq (dIfS (dB (dOp notInD (dVar 1) (dC (.tup [.str "down", .str "up", .str "half up", .str "half even", .str "half down"]))))
  (dRaise "BadRule")
  dNext)
  (dSeq (dAsg (dIf (dB (dOp ltD (dOp ixD (dVar 0) (dC (.int 0))) (dC (.int 0)))) (dUn negD (dC (.int 1))) (dC (.int 1))) (gN 2))
  (dSeq (dPar2 3 4 (daCons (dOp fdivD (dBlt absD (daCons (dOp ixD (dVar 0) (dC (.int 0))) daNil)) (dOp ixD (dVar 0) (dC (.int 1)))) (daCons (dOp modD (dBlt absD (daCons (dOp ixD (dVar 0) (dC (.int 0))) daNil)) (dOp ixD (dVar 0) (dC (.int 1)))) daNil)))
  (dSeq (dAsg (dOrV (dAndV (dOp eqD (dVar 1) (dC (.str "up"))) (dOp gtD (dVar 4) (dC (.int 0)))) (dAndV (dOp gtD (dOp mulD (dC (.int 2)) (dVar 4)) (dOp ixD (dVar 0) (dC (.int 1)))) (dOp eqD (dSl (dVar 1) dpNone (dpSome (dC (.int 4)))) (dC (.str "half"))))) (gN 5))
  (dSeq (dIfS (dAndT (dB (dOp eqD (dOp mulD (dC (.int 2)) (dVar 4)) (dOp ixD (dVar 0) (dC (.int 1))))) (dB (dOp eqD (dSl (dVar 1) dpNone (dpSome (dC (.int 4)))) (dC (.str "half")))))
  (dAsg (dOrV (dOp eqD (dVar 1) (dC (.str "half up"))) (dAndV (dOp eqD (dVar 1) (dC (.str "half even"))) (dOp eqD (dOp modD (dVar 3) (dC (.int 2))) (dC (.int 1))))) (gN 5))
  dNext)
  (dRet (dOp mulD (dVar 2) (dOp addD (dVar 3) (dBlt intD (daCons (dVar 5) daNil))))))))))
def M_rounded : DF := runD 6 f_rounded
/-- part: slots 0 top, 1 bottom, 2 a, 3 b, 4 sign -/
def f_part : DS :=
  (dSeq (dIfS (dB (dOp eqD (dVar 1) (dC (.int 0))))
  (dRaise "BadRule")
  dNext)
  (dSeq (dPar2 2 3 (daCons (dBlt absD (daCons (dVar 0) daNil)) (daCons (dBlt absD (daCons (dVar 1) daNil)) daNil)))
  (dSeq (whileD (dB (dOp neD (dVar 3) (dC (.int 0)))) (dPar2 2 3 (daCons (dVar 3) (daCons (dOp modD (dVar 2) (dVar 3)) daNil))) fuel)
  (dSeq (dAsg (dIf (dB (dOp gtD (dVar 1) (dC (.int 0)))) (dC (.int 1)) (dUn negD (dC (.int 1)))) (gN 4))
  (dSeq (dAsg (dBlt maxD (daCons (dVar 2) (daCons (dC (.int 1)) daNil))) (gN 2))
  (dRet (dTup (daCons (dOp fdivD (dOp mulD (dVar 4) (dVar 0)) (dVar 2)) (daCons (dOp fdivD (dBlt absD (daCons (dVar 1) daNil)) (dVar 2)) daNil)))))))))
def M_part : DF := runD 5 f_part
/-- add: slots 0 a, 1 b -/
def f_add (M_part : DF) : DS :=
  (dRet (dCall 2 M_part (daCons (dOp addD (dOp mulD (dOp ixD (dVar 0) (dC (.int 0))) (dOp ixD (dVar 1) (dC (.int 1)))) (dOp mulD (dOp ixD (dVar 1) (dC (.int 0))) (dOp ixD (dVar 0) (dC (.int 1))))) (daCons (dOp mulD (dOp ixD (dVar 0) (dC (.int 1))) (dOp ixD (dVar 1) (dC (.int 1)))) daNil))))
def M_add : DF := runD 2 (f_add M_part)
/-- times: slots 0 a, 1 b -/
def f_times (M_part : DF) : DS :=
  (dRet (dCall 2 M_part (daCons (dOp mulD (dOp ixD (dVar 0) (dC (.int 0))) (dOp ixD (dVar 1) (dC (.int 0)))) (daCons (dOp mulD (dOp ixD (dVar 0) (dC (.int 1))) (dOp ixD (dVar 1) (dC (.int 1)))) daNil))))
def M_times : DF := runD 2 (f_times M_part)
/-- Table_exact: slots 0 self, 1 much, 2 found, 3 k, 4 low, 5 one, 6 high, 7 within -/
def f_Table_exact (M_times : DF) (M_add : DF) : DS :=
  (dSeq (dAsg (dTup (daCons (dC (.int 0)) (daCons (dC (.int 1)) daNil))) (gN 2))
  (dSeq (dFor (diEnum (dFld ["Table"] "steps" (dVar 0))) (gT 2 (gsCons (gN 3) (gsCons (gT 2 (gsCons (gN 4) (gsCons (gN 5) gsNil))) gsNil)))
  (dSeq (dAsg (dIf (dB (dOp ltD (dOp addD (dVar 3) (dC (.int 1))) (dBlt lenD (daCons (dFld ["Table"] "steps" (dVar 0)) daNil)))) (dOp ixD (dOp ixD (dFld ["Table"] "steps" (dVar 0)) (dOp addD (dVar 3) (dC (.int 1)))) (dC (.int 0))) (dC .non)) (gN 6))
  (dSeq (dAsg (dBlt maxD (daCons (dC (.int 0)) (daCons (dOp subD (dIf (dB (dOp isND (dVar 6) (dC .non))) (dVar 1) (dBlt minD (daCons (dVar 1) (daCons (dVar 6) daNil)))) (dVar 4)) daNil))) (gN 7))
  (dAsg (dCall 2 M_add (daCons (dVar 2) (daCons (dCall 2 M_times (daCons (dTup (daCons (dVar 7) (daCons (dC (.int 1)) daNil))) (daCons (dVar 5) daNil))) daNil))) (gN 2)))))
  (dRet (dVar 2))))
def M_Table_exact : DF := runD 8 (f_Table_exact M_times M_add)
/-- Table_withheld: slots 0 self, 1 much, 2 rule -/
def f_Table_withheld (M_Table_exact : DF) (M_rounded : DF) : DS :=
  (dRet (dCall 2 M_rounded (daCons (dMeth "Table" "exact" 2 M_Table_exact (dVar 0) (daCons (dVar 1) daNil)) (daCons (dVar 2) daNil))))
def M_Table_withheld : DF := runD 3 (f_Table_withheld M_Table_exact M_rounded)
/-- Table_back: slots 0 self, 1 left, 2 rule, 3 most, 4 low, 5 high, 6 middle -/
def f_Table_back (M_Table_withheld : DF) : DS :=
  (dSeq (dIfS (dB (dOp ltD (dOp subD (dVar 3) (dMeth "Table" "withheld" 3 M_Table_withheld (dVar 0) (daCons (dVar 3) (daCons (dVar 2) daNil)))) (dVar 1)))
  (dRaise "NoAnswer")
  dNext)
  (dSeq (dPar2 4 5 (daCons (dUn negD (dC (.int 1))) (daCons (dVar 3) daNil)))
  (dSeq (whileD (dB (dOp gtD (dOp subD (dVar 5) (dVar 4)) (dC (.int 1)))) (dSeq (dAsg (dOp fdivD (dOp addD (dVar 4) (dVar 5)) (dC (.int 2))) (gN 6))
  (dIfS (dB (dOp geD (dOp subD (dVar 6) (dMeth "Table" "withheld" 3 M_Table_withheld (dVar 0) (daCons (dVar 6) (daCons (dVar 2) daNil)))) (dVar 1)))
  (dAsg (dVar 6) (gN 5))
  (dAsg (dVar 6) (gN 4)))) fuel)
  (dRet (dVar 5)))))
def M_Table_back : DF := runD 7 (f_Table_back M_Table_withheld)
/-- edge_jump: slots 0 table, 1 notch, 2 much, 3 rule, 4 low, 5 taken -/
def f_edge_jump (M_Table_withheld : DF) : DS :=
  (dSeq (dAsg (dVar 1) (gT 2 (gsCons (gN 4) (gsCons (gN 5) gsNil))))
  (dRet (dOp subD (dOp subD (dVar 2) (dMeth "Table" "withheld" 3 M_Table_withheld (dVar 0) (daCons (dVar 2) (daCons (dVar 3) daNil)))) (dIf (dB (dOp geD (dVar 2) (dVar 4))) (dVar 5) (dC (.int 0))))))
def M_edge_jump : DF := runD 6 (f_edge_jump M_Table_withheld)
/-- worse_off: slots 0 table, 1 notch, 2 rule, 3 most, 4 found, 5 much -/
def f_worse_off (M_edge_jump : DF) : DS :=
  (dSeq (dAsg (dLst daNil) (gN 4))
  (dSeq (dFor (diRange2 (dC (.int 1)) (dOp addD (dVar 3) (dC (.int 1)))) (gN 5)
  (dIfS (dB (dOp ltD (dCall 4 M_edge_jump (daCons (dVar 0) (daCons (dVar 1) (daCons (dVar 5) (daCons (dVar 2) daNil))))) (dCall 4 M_edge_jump (daCons (dVar 0) (daCons (dVar 1) (daCons (dOp subD (dVar 5) (dC (.int 1))) (daCons (dVar 2) daNil)))))))
  (dDrop (dApp (dVar 4) (dVar 5)))
  dNext))
  (dRet (dBlt tupleD (daCons (dVar 4) daNil)))))
def M_worse_off : DF := runD 6 (f_worse_off M_edge_jump)
/-- Table___init__: slots 0 self, 1 steps, 2 low, 3 one, 4 a, 5 b -/
def f_Table___init__ : DS :=
  (dSeq (dIfS (dOrT (dB (dOp eqD (dBlt lenD (daCons (dVar 1) daNil)) (dC (.int 0)))) (dOrT (dB (dOp neD (dOp ixD (dOp ixD (dVar 1) (dC (.int 0))) (dC (.int 0))) (dC (.int 0)))) (dB (dAnyX (diZip (dVar 1) (dSl (dVar 1) (dpSome (dC (.int 1))) dpNone)) (gT 2 (gsCons (gN 4) (gsCons (gN 5) gsNil))) dYes (dOp geD (dOp ixD (dVar 4) (dC (.int 0))) (dOp ixD (dVar 5) (dC (.int 0)))) [4, 5]))))
  (dRaise "BadRule")
  dNext)
  (dSeq (dIfS (dB (dAnyX (diSeq (dVar 1)) (gT 2 (gsCons (gN 2) (gsCons (gN 3) gsNil))) dYes (dUn notD (dChain leD ltD (dC (.int 0)) (dOp ixD (dVar 3) (dC (.int 0))) (dOp ixD (dVar 3) (dC (.int 1))))) [2, 3]))
  (dRaise "BadRule")
  dNext)
  (dPutF ["Table"] "steps" (dVar 0) (dBlt tupleD (daCons (dVar 1) daNil)))))
def M_Table___init__ : DF := runD 6 f_Table___init__
/-- order: slots 0 a, 1 b, 2 gap -/
def f_order : DS :=
  (dSeq (dAsg (dOp subD (dOp mulD (dOp ixD (dVar 0) (dC (.int 0))) (dOp ixD (dVar 1) (dC (.int 1)))) (dOp mulD (dOp ixD (dVar 1) (dC (.int 0))) (dOp ixD (dVar 0) (dC (.int 1))))) (gN 2))
  (dRet (dOp subD (dOp gtD (dVar 2) (dC (.int 0))) (dOp ltD (dVar 2) (dC (.int 0))))))
def M_order : DF := runD 3 f_order
/-- Table_is_rising: slots 0 self, 1 a, 2 b -/
def f_Table_is_rising (M_order : DF) : DS :=
  (dRet (dAllX (diZip (dFld ["Table"] "steps" (dVar 0)) (dSl (dFld ["Table"] "steps" (dVar 0)) (dpSome (dC (.int 1))) dpNone)) (gT 2 (gsCons (gN 1) (gsCons (gN 2) gsNil))) dYes (dOp leD (dCall 2 M_order (daCons (dOp ixD (dVar 1) (dC (.int 1))) (daCons (dOp ixD (dVar 2) (dC (.int 1))) daNil))) (dC (.int 0))) [1, 2]))
def M_Table_is_rising : DF := runD 3 (f_Table_is_rising M_order)
/-- Table_at_edge: slots 0 self, 1 much, 2 found, 3 low, 4 one -/
def f_Table_at_edge : DS :=
  (dSeq (dAsg (dTup (daCons (dC (.int 0)) (daCons (dC (.int 1)) daNil))) (gN 2))
  (dSeq (dFor (diSeq (dFld ["Table"] "steps" (dVar 0))) (gT 2 (gsCons (gN 3) (gsCons (gN 4) gsNil)))
  (dIfS (dB (dOp geD (dVar 1) (dVar 3)))
  (dAsg (dVar 4) (gN 2))
  dNext))
  (dRet (dVar 2))))
def M_Table_at_edge : DF := runD 5 f_Table_at_edge
/-- over: slots 0 a, 1 b -/
def f_over (M_part : DF) : DS :=
  (dRet (dCall 2 M_part (daCons (dOp mulD (dOp ixD (dVar 0) (dC (.int 0))) (dOp ixD (dVar 1) (dC (.int 1)))) (daCons (dOp mulD (dOp ixD (dVar 0) (dC (.int 1))) (dOp ixD (dVar 1) (dC (.int 0)))) daNil))))
def M_over : DF := runD 2 (f_over M_part)
/-- Table_mean: slots 0 self, 1 much -/
def f_Table_mean (M_Table_exact : DF) (M_over : DF) : DS :=
  (dRet (dIf (dB (dOp leD (dVar 1) (dC (.int 0)))) (dTup (daCons (dC (.int 0)) (daCons (dC (.int 1)) daNil))) (dCall 2 M_over (daCons (dMeth "Table" "exact" 2 M_Table_exact (dVar 0) (daCons (dVar 1) daNil)) (daCons (dTup (daCons (dVar 1) (daCons (dC (.int 1)) daNil))) daNil)))))
def M_Table_mean : DF := runD 2 (f_Table_mean M_Table_exact M_over)
/-- over_year: slots 0 table, 1 pays, 2 times_in_year, 3 rule, 4 found, 5 so_far, 6 done, 7 k, 8 pay, 9 year, 10 due -/
def f_over_year (M_part : DF) (M_Table_exact : DF) (M_times : DF) (M_rounded : DF) : DS :=
  (dSeq (dPar3 4 5 6 (daCons (dLst daNil) (daCons (dC (.int 0)) (daCons (dC (.int 0)) daNil))))
  (dSeq (dFor (diEnum (dVar 1)) (gT 2 (gsCons (gN 7) (gsCons (gN 8) gsNil)))
  (dSeq (dAug 5 iaddD (dVar 8))
  (dSeq (dAsg (dOp fdivD (dOp mulD (dVar 5) (dVar 2)) (dOp addD (dVar 7) (dC (.int 1)))) (gN 9))
  (dSeq (dAsg (dCall 2 M_rounded (daCons (dCall 2 M_times (daCons (dMeth "Table" "exact" 2 M_Table_exact (dVar 0) (daCons (dVar 9) daNil)) (daCons (dCall 2 M_part (daCons (dOp addD (dVar 7) (dC (.int 1))) (daCons (dVar 2) daNil))) daNil))) (daCons (dVar 3) daNil))) (gN 10))
  (dSeq (dDrop (dApp (dVar 4) (dOp subD (dVar 10) (dVar 6))))
  (dAsg (dVar 10) (gN 6)))))))
  (dRet (dBlt tupleD (daCons (dVar 4) daNil)))))
def M_over_year : DF := runD 11 (f_over_year M_part M_Table_exact M_times M_rounded)
/-- best_split: slots 0 table, 1 whole, 2 parts_there, 3 rule, 4 rows, 5 turn, 6 row, 7 left, 8 k, 9 one -/
def f_best_split (M_Table_withheld : DF) : DS :=
  (dSeq (dIfS (dOrT (dNotT (dB (dChain ltD ltD (dC (.int 0)) (dVar 2) (dC (.int 5))))) (dNotT (dB (dChain leD leD (dC (.int 0)) (dVar 1) (dC (.int 100))))))
  (dRaise "BadRule")
  dNext)
  (dSeq (dAsg (dLst (daCons (dTup (daCons (dTup daNil) (daCons (dVar 1) daNil))) daNil)) (gN 4))
  (dSeq (dFor (diRange1 (dOp subD (dVar 2) (dC (.int 1)))) (gN 5)
  (dAsg (dLc2 (diSeq (dVar 4)) (gT 2 (gsCons (gN 6) (gsCons (gN 7) gsNil))) dYes (diRange2 (dIf (dB (dOp neD (dVar 6) (dTup daNil))) (dOp ixD (dVar 6) (dUn negD (dC (.int 1)))) (dC (.int 0))) (dOp addD (dVar 7) (dC (.int 1)))) (gN 8) dYes (dTup (daCons (dOp addD (dVar 6) (dTup (daCons (dVar 8) daNil))) (daCons (dOp subD (dVar 7) (dVar 8)) daNil))) [6, 7, 8] [8]) (gN 4)))
  (dSeq (dAsg (dLc (diSeq (dVar 4)) (gT 2 (gsCons (gN 6) (gsCons (gN 7) gsNil))) (dOrT (dB (dOp eqD (dVar 6) (dTup daNil))) (dB (dOp geD (dVar 7) (dOp ixD (dVar 6) (dUn negD (dC (.int 1))))))) (dOp addD (dVar 6) (dTup (daCons (dVar 7) daNil))) [6, 7]) (gN 4))
  (dRet (dBlt minT (daCons (dLc (diSeq (dVar 4)) (gN 6) dYes (dTup (daCons (dSumX (diSeq (dVar 6)) (gN 9) dYes (dMeth "Table" "withheld" 3 M_Table_withheld (dVar 0) (daCons (dVar 9) (daCons (dVar 3) daNil))) [9]) (daCons (dVar 6) daNil))) [6]) daNil)))))))
def M_best_split : DF := runD 10 (f_best_split M_Table_withheld)
/-- capped: slots 0 much, 1 one, 2 floor, 3 ceiling, 4 rule -/
def f_capped (M_times : DF) (M_rounded : DF) : DS :=
  (dSeq (dIfS (dB (dOp gtD (dVar 2) (dVar 3)))
  (dRaise "BadRule")
  dNext)
  (dRet (dCall 2 M_rounded (daCons (dCall 2 M_times (daCons (dTup (daCons (dBlt maxD (daCons (dC (.int 0)) (daCons (dOp subD (dBlt minD (daCons (dVar 0) (daCons (dVar 3) daNil))) (dVar 2)) daNil))) (daCons (dC (.int 1)) daNil))) (daCons (dVar 1) daNil))) (daCons (dVar 4) daNil)))))
def M_capped : DF := runD 5 (f_capped M_times M_rounded)
/-- at_end: slots 0 table, 1 pays, 2 taken, 3 rule -/
def f_at_end (M_Table_withheld : DF) : DS :=
  (dRet (dOp subD (dMeth "Table" "withheld" 3 M_Table_withheld (dVar 0) (daCons (dBlt sumLT (daCons (dVar 1) daNil)) (daCons (dVar 3) daNil))) (dBlt sumLT (daCons (dVar 2) daNil))))
def M_at_end : DF := runD 4 (f_at_end M_Table_withheld)
/-- for_two: slots 0 table, 1 one, 2 other, 3 rule -/
def f_for_two (M_Table_exact : DF) (M_rounded : DF) : DS :=
  (dRet (dOp mulD (dC (.int 2)) (dCall 2 M_rounded (daCons (dMeth "Table" "exact" 2 M_Table_exact (dVar 0) (daCons (dOp fdivD (dOp addD (dVar 1) (dVar 2)) (dC (.int 2))) daNil)) (daCons (dVar 3) daNil)))))
def M_for_two : DF := runD 4 (f_for_two M_Table_exact M_rounded)
/-- credits_used: slots 0 due, 1 credits_there, 2 left, 3 used, 4 one, 5 much -/
def f_credits_used : DS :=
  (dSeq (dPar2 2 3 (daCons (dVar 0) (daCons (dLst daNil) daNil)))
  (dSeq (dFor (diSeq (dVar 1)) (gN 4)
  (dSeq (dAsg (dBlt maxD (daCons (dC (.int 0)) (daCons (dBlt minD (daCons (dVar 2) (daCons (dVar 4) daNil))) daNil))) (gN 5))
  (dSeq (dDrop (dApp (dVar 3) (dVar 5)))
  (dAug 2 isubD (dVar 5)))))
  (dRet (dTup (daCons (dVar 2) (daCons (dBlt tupleD (daCons (dVar 3) daNil)) daNil))))))
def M_credits_used : DF := runD 6 f_credits_used
/-- _law_year: slots 0 dice, 1 table, 2 steps, 3 much, 4 left, 5 pays, 6 many, 7 taken, 8 whole, 9 least, 10 row, 11 k -/
def f__law_year (M_credits_used : DF) (M_capped : DF) (M_for_two : DF) (M__law_withheld : DF) (M_best_split : DF) (M__law_roll : DF) (M_at_end : DF) (M_Table_withheld : DF) (M_over_year : DF) : DS :=
  (dSeq (dPar2 5 6 (daCons (dLc (diRange1 (dC (.int 6))) (gN 11) dYes (dCall 2 M__law_roll (daCons (dVar 0) (daCons (dC (.int 40)) daNil))) [11]) (daCons (dC (.int 6)) daNil)))
  (dSeq (dAsg (dCall 4 M_over_year (daCons (dVar 1) (daCons (dVar 5) (daCons (dVar 6) (daCons (dC (.str "half up")) daNil))))) (gN 7))
  (dSeq (dIfS (dOrT (dB (dOp neD (dBlt sumLT (daCons (dVar 7) daNil)) (dMeth "Table" "withheld" 3 M_Table_withheld (dVar 1) (daCons (dBlt sumLT (daCons (dVar 5) daNil)) (daCons (dC (.str "half up")) daNil))))) (dB (dOp neD (dCall 4 M_at_end (daCons (dVar 1) (daCons (dVar 5) (daCons (dVar 7) (daCons (dC (.str "half up")) daNil))))) (dC (.int 0)))))
  (dRet (dC (.bl false)))
  dNext)
  (dSeq (dAsg (dCall 2 M__law_roll (daCons (dVar 0) (daCons (dC (.int 40)) daNil))) (gN 8))
  (dSeq (dAsg (dCall 4 M_best_split (daCons (dVar 1) (daCons (dVar 8) (daCons (dC (.int 2)) (daCons (dC (.str "down")) daNil))))) (gT 2 (gsCons (gN 9) (gsCons (gN 10) gsNil))))
  (dSeq (dIfS (dB (dOp neD (dVar 9) (dBlt minT (daCons (dLc (diRange1 (dOp addD (dVar 8) (dC (.int 1)))) (gN 11) dYes (dOp addD (dOp fdivD (dCall 2 M__law_withheld (daCons (dVar 2) (daCons (dVar 11) daNil))) (dC (.int 20))) (dOp fdivD (dCall 2 M__law_withheld (daCons (dVar 2) (daCons (dOp subD (dVar 8) (dVar 11)) daNil))) (dC (.int 20)))) [11]) daNil))))
  (dRet (dC (.bl false)))
  dNext)
  (dSeq (dIfS (dB (dOp neD (dBlt sumLT (daCons (dVar 10) daNil)) (dVar 8)))
  (dRet (dC (.bl false)))
  dNext)
  (dSeq (dIfS (dB (dOp neD (dOp modD (dCall 4 M_for_two (daCons (dVar 1) (daCons (dVar 3) (daCons (dVar 4) (daCons (dC (.str "half up")) daNil))))) (dC (.int 2))) (dC (.int 0))))
  (dRet (dC (.bl false)))
  dNext)
  (dSeq (dIfS (dB (dOp neD (dCall 5 M_capped (daCons (dVar 3) (daCons (dTup (daCons (dC (.int 1)) (daCons (dC (.int 10)) daNil))) (daCons (dC (.int 20)) (daCons (dC (.int 90)) (daCons (dC (.str "down")) daNil)))))) (dOp fdivD (dBlt maxD (daCons (dC (.int 0)) (daCons (dOp subD (dBlt minD (daCons (dVar 3) (daCons (dC (.int 90)) daNil))) (dC (.int 20))) daNil))) (dC (.int 10)))))
  (dRet (dC (.bl false)))
  dNext)
  (dSeq (dIfS (dOrT (dB (dOp neD (dCall 2 M_credits_used (daCons (dC (.int 10)) (daCons (dTup (daCons (dC (.int 3)) (daCons (dC (.int 5)) (daCons (dC (.int 9)) daNil)))) daNil))) (dTup (daCons (dC (.int 0)) (daCons (dTup (daCons (dC (.int 3)) (daCons (dC (.int 5)) (daCons (dC (.int 2)) daNil)))) daNil))))) (dB (dOp neD (dCall 2 M_credits_used (daCons (dC (.int 4)) (daCons (dTup (daCons (dC (.int 3)) (daCons (dC (.int 5)) (daCons (dC (.int 9)) daNil)))) daNil))) (dTup (daCons (dC (.int 0)) (daCons (dTup (daCons (dC (.int 3)) (daCons (dC (.int 1)) (daCons (dC (.int 0)) daNil)))) daNil))))))
  (dRet (dC (.bl false)))
  dNext)
  (dRet (dC (.bl true)))))))))))))
def M__law_year : DF := runD 12 (f__law_year M_credits_used M_capped M_for_two M__law_withheld M_best_split M__law_roll M_at_end M_Table_withheld M_over_year)
/-- Slip___init__: slots 0 self -/
def f_Slip___init__ : DS :=
  (dPutF ["Slip"] "lines" (dVar 0) (dLst daNil))
def M_Slip___init__ : DF := runD 1 f_Slip___init__
/-- Slip_sum_of: slots 0 self, 1 sort, 2 name, 3 mine, 4 count -/
def f_Slip_sum_of : DS :=
  (dRet (dSumX (diSeq (dFld ["Slip"] "lines" (dVar 0))) (gT 3 (gsCons (gN 2) (gsCons (gN 3) (gsCons (gN 4) gsNil)))) (dB (dOp eqD (dVar 3) (dVar 1))) (dVar 4) [2, 3, 4]))
def M_Slip_sum_of : DF := runD 5 f_Slip_sum_of
/-- Slip_line: slots 0 self, 1 name, 2 sort, 3 count, 4 one -/
def f_Slip_line : DS :=
  (dSeq (dIfS (dOrT (dB (dOp notInD (dVar 2) (dTup (daCons (dC (.str "pay")) (daCons (dC (.str "free")) (daCons (dC (.str "held")) daNil)))))) (dOrT (dB (dOp ltD (dVar 3) (dC (.int 0)))) (dB (dOp inD (dVar 1) (dLc (diSeq (dFld ["Slip"] "lines" (dVar 0))) (gN 4) dYes (dOp ixD (dVar 4) (dC (.int 0))) [4])))))
  (dRaise "BadRule")
  dNext)
  (dDrop (dApp (dFld ["Slip"] "lines" (dVar 0)) (dTup (daCons (dVar 1) (daCons (dVar 2) (daCons (dVar 3) daNil)))))))
def M_Slip_line : DF := runD 5 f_Slip_line
/-- made: slots 0 pays, 1 free, 2 table, 3 funds, 4 slip, 5 name, 6 count, 7 base, 8 much, 9 ceiling -/
def f_made (M_Slip_line : DF) (M_times : DF) (M_rounded : DF) (M_Table_withheld : DF) (M_Slip_sum_of : DF) (M_Slip___init__ : DF) : DS :=
  (dSeq (dAsg (dMake "Slip" 1 M_Slip___init__ daNil) (gN 4))
  (dSeq (dFor (diSeq (dVar 0)) (gT 2 (gsCons (gN 5) (gsCons (gN 6) gsNil)))
  (dDrop (dMeth "Slip" "line" 4 M_Slip_line (dVar 4) (daCons (dVar 5) (daCons (dC (.str "pay")) (daCons (dVar 6) daNil))))))
  (dSeq (dFor (diSeq (dVar 1)) (gT 2 (gsCons (gN 5) (gsCons (gN 6) gsNil)))
  (dDrop (dMeth "Slip" "line" 4 M_Slip_line (dVar 4) (daCons (dVar 5) (daCons (dC (.str "free")) (daCons (dVar 6) daNil))))))
  (dSeq (dAsg (dMeth "Slip" "sum_of" 2 M_Slip_sum_of (dVar 4) (daCons (dC (.str "pay")) daNil)) (gN 7))
  (dSeq (dDrop (dMeth "Slip" "line" 4 M_Slip_line (dVar 4) (daCons (dC (.str "withheld")) (daCons (dC (.str "held")) (daCons (dMeth "Table" "withheld" 3 M_Table_withheld (dVar 2) (daCons (dVar 7) (daCons (dC (.str "down")) daNil))) daNil)))))
  (dSeq (dFor (diSeq (dVar 3)) (gT 3 (gsCons (gN 5) (gsCons (gN 8) (gsCons (gN 9) gsNil))))
  (dDrop (dMeth "Slip" "line" 4 M_Slip_line (dVar 4) (daCons (dVar 5) (daCons (dC (.str "held")) (daCons (dCall 2 M_rounded (daCons (dCall 2 M_times (daCons (dTup (daCons (dBlt minD (daCons (dVar 7) (daCons (dVar 9) daNil))) (daCons (dC (.int 1)) daNil))) (daCons (dVar 8) daNil))) (daCons (dC (.str "half up")) daNil))) daNil))))))
  (dRet (dVar 4))))))))
def M_made : DF := runD 10 (f_made M_Slip_line M_times M_rounded M_Table_withheld M_Slip_sum_of M_Slip___init__)
/-- Slip_gross: slots 0 self -/
def f_Slip_gross (M_Slip_sum_of : DF) : DS :=
  (dRet (dOp addD (dMeth "Slip" "sum_of" 2 M_Slip_sum_of (dVar 0) (daCons (dC (.str "pay")) daNil)) (dMeth "Slip" "sum_of" 2 M_Slip_sum_of (dVar 0) (daCons (dC (.str "free")) daNil))))
def M_Slip_gross : DF := runD 1 (f_Slip_gross M_Slip_sum_of)
/-- Slip_net: slots 0 self -/
def f_Slip_net (M_Slip_gross : DF) (M_Slip_sum_of : DF) : DS :=
  (dRet (dOp subD (dMeth "Slip" "gross" 1 M_Slip_gross (dVar 0) daNil) (dMeth "Slip" "sum_of" 2 M_Slip_sum_of (dVar 0) (daCons (dC (.str "held")) daNil))))
def M_Slip_net : DF := runD 1 (f_Slip_net M_Slip_gross M_Slip_sum_of)
/-- net_of: slots 0 pay, 1 table, 2 funds -/
def f_net_of (M_made : DF) (M_Slip_net : DF) : DS :=
  (dRet (dMeth "Slip" "net" 1 M_Slip_net (dCall 4 M_made (daCons (dTup (daCons (dTup (daCons (dC (.str "pay")) (daCons (dVar 0) daNil))) daNil)) (daCons (dTup daNil) (daCons (dVar 1) (daCons (dVar 2) daNil))))) daNil))
def M_net_of : DF := runD 3 (f_net_of M_made M_Slip_net)
/-- gross_for: slots 0 net, 1 table, 2 funds, 3 most, 4 pay, 5 gap -/
def f_gross_for (M_net_of : DF) : DS :=
  (dSeq (dAsg (dBlt maxD (daCons (dC (.int 0)) (daCons (dVar 0) daNil))) (gN 4))
  (dSeq (whileD (dB (dOp leD (dVar 4) (dVar 3))) (dSeq (dAsg (dOp subD (dVar 0) (dCall 3 M_net_of (daCons (dVar 4) (daCons (dVar 1) (daCons (dVar 2) daNil))))) (gN 5))
  (dSeq (dIfS (dB (dOp leD (dVar 5) (dC (.int 0))))
  (dRet (dVar 4))
  dNext)
  (dAug 4 iaddD (dBlt maxD (daCons (dC (.int 1)) (daCons (dOp subD (dOp subD (dVar 5) (dBlt lenD (daCons (dVar 2) daNil))) (dC (.int 1))) daNil)))))) fuel)
  (dRaise "NoAnswer")))
def M_gross_for : DF := runD 6 (f_gross_for M_net_of)
/-- Slip_hold: slots 0 self, 1 asks, 2 floor, 3 found, 4 name, 5 count, 6 much -/
def f_Slip_hold (M_Slip_line : DF) (M_Slip_net : DF) : DS :=
  (dSeq (dAsg (dLst daNil) (gN 3))
  (dSeq (dFor (diSeq (dVar 1)) (gT 2 (gsCons (gN 4) (gsCons (gN 5) gsNil)))
  (dSeq (dAsg (dBlt maxD (daCons (dC (.int 0)) (daCons (dBlt minD (daCons (dVar 5) (daCons (dOp subD (dMeth "Slip" "net" 1 M_Slip_net (dVar 0) daNil) (dVar 2)) daNil))) daNil))) (gN 6))
  (dSeq (dIfS (dB (dOp gtD (dVar 6) (dC (.int 0))))
  (dDrop (dMeth "Slip" "line" 4 M_Slip_line (dVar 0) (daCons (dVar 4) (daCons (dC (.str "held")) (daCons (dVar 6) daNil)))))
  dNext)
  (dDrop (dApp (dVar 3) (dOp subD (dVar 5) (dVar 6)))))))
  (dRet (dBlt tupleD (daCons (dVar 3) daNil)))))
def M_Slip_hold : DF := runD 7 (f_Slip_hold M_Slip_line M_Slip_net)
/-- bonus: slots 0 counts, 1 goals, 2 pool, 3 rule, 4 past, 5 whole, 6 found, 7 left, 8 one, 9 much, 10 count, 11 goal -/
def f_bonus (M_part : DF) (M_rounded : DF) : DS :=
  (dSeq (dAsg (dLc (diZip (dVar 0) (dVar 1)) (gT 2 (gsCons (gN 10) (gsCons (gN 11) gsNil))) dYes (dBlt maxD (daCons (dC (.int 0)) (daCons (dOp subD (dVar 10) (dVar 11)) daNil))) [10, 11]) (gN 4))
  (dSeq (dAsg (dBlt sumLT (daCons (dVar 4) daNil)) (gN 5))
  (dSeq (dIfS (dB (dOp eqD (dVar 5) (dC (.int 0))))
  (dRet (dOp mulD (dTup (daCons (dC (.int 0)) daNil)) (dBlt lenD (daCons (dVar 4) daNil))))
  dNext)
  (dSeq (dPar2 6 7 (daCons (dLst daNil) (daCons (dVar 2) daNil)))
  (dSeq (dFor (diSeq (dVar 4)) (gN 8)
  (dSeq (dAsg (dBlt minD (daCons (dVar 7) (daCons (dCall 2 M_rounded (daCons (dCall 2 M_part (daCons (dOp mulD (dVar 2) (dVar 8)) (daCons (dVar 5) daNil))) (daCons (dVar 3) daNil))) daNil))) (gN 9))
  (dSeq (dDrop (dApp (dVar 6) (dVar 9)))
  (dAug 7 isubD (dVar 9)))))
  (dRet (dBlt tupleD (daCons (dVar 6) daNil))))))))
def M_bonus : DF := runD 12 (f_bonus M_part M_rounded)
/-- is_even: slots 0 rates, 1 work, 2 slack, 3 k, 4 j, 5 low, 6 high -/
def f_is_even (M_times : DF) (M_order : DF) : DS :=
  (dSeq (dFor (diRange1 (dBlt lenD (daCons (dVar 0) daNil))) (gN 3)
  (dFor (diRange1 (dVar 3)) (gN 4)
  (dIfS (dB (dOp eqD (dOp ixD (dVar 1) (dVar 4)) (dOp ixD (dVar 1) (dVar 3))))
  (dSeq (dPar2 5 6 (daCons (dBlt minD (daCons (dOp ixD (dVar 0) (dVar 4)) (daCons (dOp ixD (dVar 0) (dVar 3)) daNil))) (daCons (dBlt maxD (daCons (dOp ixD (dVar 0) (dVar 4)) (daCons (dOp ixD (dVar 0) (dVar 3)) daNil))) daNil)))
  (dIfS (dB (dOp gtD (dCall 2 M_order (daCons (dTup (daCons (dOp subD (dVar 6) (dVar 5)) (daCons (dC (.int 1)) daNil))) (daCons (dCall 2 M_times (daCons (dTup (daCons (dVar 5) (daCons (dC (.int 1)) daNil))) (daCons (dVar 2) daNil))) daNil))) (dC (.int 0))))
  (dRet (dTup (daCons (dVar 4) (daCons (dVar 3) daNil))))
  dNext))
  dNext)))
  (dRet (dC .non)))
def M_is_even : DF := runD 7 (f_is_even M_times M_order)
/-- by_minutes: slots 0 minutes, 1 rate, 2 much -/
def f_by_minutes (M_part : DF) (M_times : DF) (M_rounded : DF) : DS :=
  (dSeq (dIfS (dOrT (dB (dOp ltD (dVar 0) (dC (.int 0)))) (dB (dOp ltD (dVar 1) (dC (.int 0)))))
  (dRaise "BadRule")
  dNext)
  (dRet (dCall 2 M_rounded (daCons (dCall 2 M_times (daCons (dCall 2 M_part (daCons (dOp mulD (dVar 0) (dVar 1)) (daCons (dC (.int 60)) daNil))) (daCons (dVar 2) daNil))) (daCons (dC (.str "half up")) daNil)))))
def M_by_minutes : DF := runD 3 (f_by_minutes M_part M_times M_rounded)
/-- split_days: slots 0 minutes, 1 day_bounds, 2 found, 3 low, 4 high, 5 one -/
def f_split_days : DS :=
  (dSeq (dIfS (dOrT (dB (dOp neD (dBlt listD (daCons (dVar 1) daNil)) (dBlt sortedD (daCons (dVar 1) daNil)))) (dB (dAnyX (diSeq (dVar 1)) (gN 5) dYes (dOp ltD (dVar 5) (dC (.int 0))) [5])))
  (dRaise "BadRule")
  dNext)
  (dSeq (dPar2 2 3 (daCons (dLst daNil) (daCons (dC (.int 0)) daNil)))
  (dSeq (dFor (diSeq (dVar 1)) (gN 4)
  (dSeq (dDrop (dApp (dVar 2) (dBlt maxD (daCons (dC (.int 0)) (daCons (dOp subD (dBlt minD (daCons (dVar 0) (daCons (dVar 4) daNil))) (dVar 3)) daNil)))))
  (dAsg (dVar 4) (gN 3))))
  (dRet (dOp addD (dBlt tupleD (daCons (dVar 2) daNil)) (dTup (daCons (dBlt maxD (daCons (dC (.int 0)) (daCons (dOp subD (dVar 0) (dVar 3)) daNil))) daNil)))))))
def M_split_days : DF := runD 6 f_split_days
/-- day_pay: slots 0 minutes, 1 rate, 2 bounds, 3 parts_there, 4 one, 5 much -/
def f_day_pay (M_split_days : DF) (M_by_minutes : DF) : DS :=
  (dSeq (dIfS (dB (dOp neD (dBlt lenD (daCons (dVar 3) daNil)) (dOp addD (dBlt lenD (daCons (dVar 2) daNil)) (dC (.int 1)))))
  (dRaise "BadRule")
  dNext)
  (dRet (dSumX (diZip (dCall 2 M_split_days (daCons (dVar 0) (daCons (dVar 2) daNil))) (dVar 3)) (gT 2 (gsCons (gN 4) (gsCons (gN 5) gsNil))) dYes (dCall 3 M_by_minutes (daCons (dVar 4) (daCons (dVar 1) (daCons (dVar 5) daNil)))) [4, 5])))
def M_day_pay : DF := runD 6 (f_day_pay M_split_days M_by_minutes)
/-- part_time: slots 0 count, 1 days_worked, 2 days_due, 3 rule -/
def f_part_time (M_part : DF) (M_rounded : DF) : DS :=
  (dSeq (dIfS (dOrT (dNotT (dB (dChain leD leD (dC (.int 0)) (dVar 1) (dVar 2)))) (dB (dOp ltD (dVar 2) (dC (.int 1)))))
  (dRaise "BadRule")
  dNext)
  (dRet (dCall 2 M_rounded (daCons (dCall 2 M_part (daCons (dOp mulD (dVar 0) (dVar 1)) (daCons (dVar 2) daNil))) (daCons (dVar 3) daNil)))))
def M_part_time : DF := runD 4 (f_part_time M_part M_rounded)
/-- raised: slots 0 count, 1 steps, 2 found, 3 kind, 4 much -/
def f_raised (M_times : DF) (M_rounded : DF) : DS :=
  (dSeq (dAsg (dLst (daCons (dVar 0) daNil)) (gN 2))
  (dSeq (dFor (diSeq (dVar 1)) (gT 2 (gsCons (gN 3) (gsCons (gN 4) gsNil)))
  (dIfS (dB (dOp eqD (dVar 3) (dC (.str "part"))))
  (dDrop (dApp (dVar 2) (dCall 2 M_rounded (daCons (dCall 2 M_times (daCons (dTup (daCons (dOp ixD (dVar 2) (dUn negD (dC (.int 1)))) (daCons (dC (.int 1)) daNil))) (daCons (dTup (daCons (dOp addD (dOp ixD (dVar 4) (dC (.int 0))) (dOp ixD (dVar 4) (dC (.int 1)))) (daCons (dOp ixD (dVar 4) (dC (.int 1))) daNil))) daNil))) (daCons (dC (.str "half up")) daNil)))))
  (dIfS (dB (dOp eqD (dVar 3) (dC (.str "by"))))
  (dDrop (dApp (dVar 2) (dOp addD (dOp ixD (dVar 2) (dUn negD (dC (.int 1)))) (dVar 4))))
  (dRaise "BadRule"))))
  (dRet (dBlt tupleD (daCons (dVar 2) daNil)))))
def M_raised : DF := runD 5 (f_raised M_times M_rounded)
/-- piece_pay: slots 0 pieces, 1 steps, 2 found, 3 k, 4 low, 5 much, 6 high, 7 a, 8 b -/
def f_piece_pay : DS :=
  (dSeq (dIfS (dOrT (dB (dOp eqD (dBlt lenD (daCons (dVar 1) daNil)) (dC (.int 0)))) (dOrT (dB (dOp neD (dOp ixD (dOp ixD (dVar 1) (dC (.int 0))) (dC (.int 0))) (dC (.int 0)))) (dB (dAnyX (diZip (dVar 1) (dSl (dVar 1) (dpSome (dC (.int 1))) dpNone)) (gT 2 (gsCons (gN 7) (gsCons (gN 8) gsNil))) dYes (dOp geD (dOp ixD (dVar 7) (dC (.int 0))) (dOp ixD (dVar 8) (dC (.int 0)))) [7, 8]))))
  (dRaise "BadRule")
  dNext)
  (dSeq (dAsg (dC (.int 0)) (gN 2))
  (dSeq (dFor (diEnum (dVar 1)) (gT 2 (gsCons (gN 3) (gsCons (gT 2 (gsCons (gN 4) (gsCons (gN 5) gsNil))) gsNil)))
  (dSeq (dAsg (dIf (dB (dOp ltD (dOp addD (dVar 3) (dC (.int 1))) (dBlt lenD (daCons (dVar 1) daNil)))) (dOp ixD (dOp ixD (dVar 1) (dOp addD (dVar 3) (dC (.int 1)))) (dC (.int 0))) (dVar 0)) (gN 6))
  (dAug 2 iaddD (dOp mulD (dBlt maxD (daCons (dC (.int 0)) (daCons (dOp subD (dBlt minD (daCons (dVar 0) (daCons (dVar 6) daNil))) (dVar 4)) daNil))) (dVar 5)))))
  (dRet (dVar 2)))))
def M_piece_pay : DF := runD 9 f_piece_pay
/-- least_paid: slots 0 rates, 1 least, 2 found, 3 rate -/
def f_least_paid : DS :=
  (dSeq (dAsg (dBlt tupleD (daCons (dLc (diSeq (dVar 0)) (gN 3) dYes (dBlt maxD (daCons (dVar 3) (daCons (dVar 1) daNil))) [3]) daNil)) (gN 2))
  (dRet (dTup (daCons (dVar 2) (daCons (dOp subD (dBlt sumLT (daCons (dVar 2) daNil)) (dBlt sumLT (daCons (dVar 0) daNil))) daNil)))))
def M_least_paid : DF := runD 4 f_least_paid
/-- _law_shares: slots 0 dice, 1 counts, 2 goals, 3 pool, 4 shares, 5 k -/
def f__law_shares (M_is_even : DF) (M_least_paid : DF) (M_piece_pay : DF) (M_raised : DF) (M_part_time : DF) (M_day_pay : DF) (M_by_minutes : DF) (M_bonus : DF) (M__law_roll : DF) : DS :=
  (dSeq (dAsg (dTup (daCons (dLc (diRange1 (dC (.int 3))) (gN 5) dYes (dCall 2 M__law_roll (daCons (dVar 0) (daCons (dC (.int 20)) daNil))) [5]) (daCons (dLst (daCons (dC (.int 5)) (daCons (dC (.int 5)) (daCons (dC (.int 5)) daNil)))) (daCons (dCall 2 M__law_roll (daCons (dVar 0) (daCons (dC (.int 90)) daNil))) daNil)))) (gT 3 (gsCons (gN 1) (gsCons (gN 2) (gsCons (gN 3) gsNil)))))
  (dSeq (dAsg (dCall 4 M_bonus (daCons (dVar 1) (daCons (dVar 2) (daCons (dVar 3) (daCons (dC (.str "half up")) daNil))))) (gN 4))
  (dSeq (dIfS (dOrT (dB (dOp gtD (dBlt sumLT (daCons (dVar 4) daNil)) (dVar 3))) (dB (dOp neD (dLc (diRange1 (dC (.int 3))) (gN 5) (dAndT (dB (dOp leD (dOp ixD (dVar 1) (dVar 5)) (dC (.int 5)))) (dB (dOp neD (dOp ixD (dVar 4) (dVar 5)) (dC (.int 0))))) (dVar 5) [5]) (dLst daNil))))
  (dRet (dC (.bl false)))
  dNext)
  (dSeq (dIfS (dOrT (dB (dOp neD (dCall 3 M_by_minutes (daCons (dC (.int 90)) (daCons (dC (.int 20)) (daCons (dTup (daCons (dC (.int 3)) (daCons (dC (.int 2)) daNil))) daNil)))) (dC (.int 45)))) (dB (dOp neD (dCall 4 M_day_pay (daCons (dC (.int 600)) (daCons (dC (.int 12)) (daCons (dTup (daCons (dC (.int 480)) daNil)) (daCons (dTup (daCons (dTup (daCons (dC (.int 1)) (daCons (dC (.int 1)) daNil))) (daCons (dTup (daCons (dC (.int 3)) (daCons (dC (.int 2)) daNil))) daNil))) daNil))))) (dOp addD (dC (.int 96)) (dC (.int 36))))))
  (dRet (dC (.bl false)))
  dNext)
  (dSeq (dIfS (dOrT (dB (dOp neD (dCall 4 M_part_time (daCons (dC (.int 100)) (daCons (dC (.int 1)) (daCons (dC (.int 3)) (daCons (dC (.str "down")) daNil))))) (dC (.int 33)))) (dB (dOp neD (dCall 2 M_raised (daCons (dC (.int 100)) (daCons (dTup (daCons (dTup (daCons (dC (.str "part")) (daCons (dTup (daCons (dC (.int 1)) (daCons (dC (.int 10)) daNil))) daNil))) (daCons (dTup (daCons (dC (.str "by")) (daCons (dC (.int 5)) daNil))) daNil))) daNil))) (dTup (daCons (dC (.int 100)) (daCons (dC (.int 110)) (daCons (dC (.int 115)) daNil)))))))
  (dRet (dC (.bl false)))
  dNext)
  (dSeq (dIfS (dOrT (dB (dOp neD (dCall 2 M_piece_pay (daCons (dC (.int 25)) (daCons (dTup (daCons (dTup (daCons (dC (.int 0)) (daCons (dC (.int 2)) daNil))) (daCons (dTup (daCons (dC (.int 10)) (daCons (dC (.int 3)) daNil))) daNil))) daNil))) (dOp addD (dC (.int 20)) (dC (.int 45))))) (dB (dOp neD (dCall 2 M_least_paid (daCons (dTup (daCons (dC (.int 5)) (daCons (dC (.int 9)) daNil))) (daCons (dC (.int 7)) daNil))) (dTup (daCons (dTup (daCons (dC (.int 7)) (daCons (dC (.int 9)) daNil))) (daCons (dC (.int 2)) daNil))))))
  (dRet (dC (.bl false)))
  dNext)
  (dSeq (dIfS (dB (dOp neD (dCall 3 M_is_even (daCons (dTup (daCons (dC (.int 10)) (daCons (dC (.int 11)) (daCons (dC (.int 20)) daNil)))) (daCons (dTup (daCons (dC (.str "a")) (daCons (dC (.str "a")) (daCons (dC (.str "b")) daNil)))) (daCons (dTup (daCons (dC (.int 1)) (daCons (dC (.int 20)) daNil))) daNil)))) (dTup (daCons (dC (.int 0)) (daCons (dC (.int 1)) daNil)))))
  (dRet (dC (.bl false)))
  dNext)
  (dSeq (dIfS (dB (dOp notND (dCall 3 M_is_even (daCons (dTup (daCons (dC (.int 10)) (daCons (dC (.int 11)) daNil))) (daCons (dTup (daCons (dC (.str "a")) (daCons (dC (.str "a")) daNil))) (daCons (dTup (daCons (dC (.int 1)) (daCons (dC (.int 5)) daNil))) daNil)))) (dC .non)))
  (dRet (dC (.bl false)))
  dNext)
  (dRet (dC (.bl true)))))))))))
def M__law_shares : DF := runD 6 (f__law_shares M_is_even M_least_paid M_piece_pay M_raised M_part_time M_day_pay M_by_minutes M_bonus M__law_roll)
/-- _law_slips: slots 0 dice, 1 table, 2 much, 3 funds, 4 slip, 5 held, 6 goal, 7 pay, 8 simple_slip, 9 there, 10 floor, 11 asks, 12 lacks, 13 one, 14 name, 15 ceiling -/
def f__law_slips (M_Slip_line : DF) (M__law_shares : DF) (M_Slip_net : DF) (M_Slip_hold : DF) (M__law_roll : DF) (M_Slip___init__ : DF) (M_net_of : DF) (M_gross_for : DF) (M_Slip_sum_of : DF) (M_Slip_gross : DF) (M_Table_withheld : DF) (M_made : DF) : DS :=
  (dSeq (dAsg (dTup (daCons (dTup (daCons (dC (.str "f")) (daCons (dTup (daCons (dC (.int 1)) (daCons (dC (.int 10)) daNil))) (daCons (dC (.int 90)) daNil)))) (daCons (dTup (daCons (dC (.str "g")) (daCons (dTup (daCons (dOp addD (dC (.int 1)) (dCall 2 M__law_roll (daCons (dVar 0) (daCons (dC (.int 3)) daNil)))) (daCons (dC (.int 20)) daNil))) (daCons (dC (.int 500)) daNil)))) daNil))) (gN 3))
  (dSeq (dAsg (dCall 4 M_made (daCons (dTup (daCons (dTup (daCons (dC (.str "pay")) (daCons (dVar 2) daNil))) daNil)) (daCons (dTup (daCons (dTup (daCons (dC (.str "trip")) (daCons (dC (.int 7)) daNil))) daNil)) (daCons (dVar 1) (daCons (dVar 3) daNil))))) (gN 4))
  (dSeq (dAsg (dOp addD (dMeth "Table" "withheld" 3 M_Table_withheld (dVar 1) (daCons (dVar 2) (daCons (dC (.str "down")) daNil))) (dBlt sumLT (daCons (dLc (diSeq (dVar 3)) (gT 3 (gsCons (gN 14) (gsCons (gN 13) (gsCons (gN 15) gsNil)))) dYes (dOp fdivD (dOp addD (dOp mulD (dOp mulD (dC (.int 2)) (dBlt minD (daCons (dVar 2) (daCons (dVar 15) daNil)))) (dOp ixD (dVar 13) (dC (.int 0)))) (dOp ixD (dVar 13) (dC (.int 1)))) (dOp mulD (dC (.int 2)) (dOp ixD (dVar 13) (dC (.int 1))))) [14, 13, 15]) daNil))) (gN 5))
  (dSeq (dIfS (dOrT (dB (dOp neD (dMeth "Slip" "gross" 1 M_Slip_gross (dVar 4) daNil) (dOp addD (dVar 2) (dC (.int 7))))) (dOrT (dB (dOp neD (dMeth "Slip" "net" 1 M_Slip_net (dVar 4) daNil) (dOp subD (dOp addD (dVar 2) (dC (.int 7))) (dVar 5)))) (dB (dOp neD (dMeth "Slip" "sum_of" 2 M_Slip_sum_of (dVar 4) (daCons (dC (.str "held")) daNil)) (dVar 5)))))
  (dRet (dC (.bl false)))
  dNext)
  (dSeq (dIfS (dB (dOp neD (dCall 3 M_net_of (daCons (dVar 2) (daCons (dVar 1) (daCons (dVar 3) daNil)))) (dOp subD (dVar 2) (dVar 5))))
  (dRet (dC (.bl false)))
  dNext)
  (dSeq (dAsg (dCall 2 M__law_roll (daCons (dVar 0) (daCons (dC (.int 80)) daNil))) (gN 6))
  (dSeq (dAsg (dCall 4 M_gross_for (daCons (dVar 6) (daCons (dVar 1) (daCons (dVar 3) (daCons (dC (.int 900)) daNil))))) (gN 7))
  (dSeq (dIfS (dB (dOp ltD (dCall 3 M_net_of (daCons (dVar 7) (daCons (dVar 1) (daCons (dVar 3) daNil)))) (dVar 6)))
  (dRet (dC (.bl false)))
  dNext)
  (dSeq (dIfS (dB (dOp neD (dLc (diRange2 (dVar 6) (dVar 7)) (gN 13) (dB (dOp geD (dCall 3 M_net_of (daCons (dVar 13) (daCons (dVar 1) (daCons (dVar 3) daNil)))) (dVar 6))) (dVar 13) [13]) (dLst daNil)))
  (dRet (dC (.bl false)))
  dNext)
  (dSeq (dAsg (dMake "Slip" 1 M_Slip___init__ daNil) (gN 8))
  (dSeq (dDrop (dMeth "Slip" "line" 4 M_Slip_line (dVar 8) (daCons (dC (.str "pay")) (daCons (dC (.str "pay")) (daCons (dOp addD (dC (.int 50)) (dCall 2 M__law_roll (daCons (dVar 0) (daCons (dC (.int 50)) daNil)))) daNil)))))
  (dSeq (dPar2 9 10 (daCons (dMeth "Slip" "net" 1 M_Slip_net (dVar 8) daNil) (daCons (dC (.int 40)) daNil)))
  (dSeq (dAsg (dTup (daCons (dTup (daCons (dC (.str "one")) (daCons (dCall 2 M__law_roll (daCons (dVar 0) (daCons (dC (.int 40)) daNil))) daNil))) (daCons (dTup (daCons (dC (.str "two")) (daCons (dCall 2 M__law_roll (daCons (dVar 0) (daCons (dC (.int 40)) daNil))) daNil))) daNil))) (gN 11))
  (dSeq (dAsg (dMeth "Slip" "hold" 3 M_Slip_hold (dVar 8) (daCons (dVar 11) (daCons (dVar 10) daNil))) (gN 12))
  (dSeq (dIfS (dB (dOp neD (dMeth "Slip" "net" 1 M_Slip_net (dVar 8) daNil) (dBlt maxD (daCons (dVar 10) (daCons (dOp subD (dOp subD (dVar 9) (dOp ixD (dOp ixD (dVar 11) (dC (.int 0))) (dC (.int 1)))) (dOp ixD (dOp ixD (dVar 11) (dC (.int 1))) (dC (.int 1)))) daNil)))))
  (dRet (dC (.bl false)))
  dNext)
  (dSeq (dIfS (dB (dOp neD (dOp ixD (dVar 12) (dC (.int 0))) (dBlt maxD (daCons (dC (.int 0)) (daCons (dOp subD (dOp ixD (dOp ixD (dVar 11) (dC (.int 0))) (dC (.int 1))) (dOp subD (dVar 9) (dVar 10))) daNil)))))
  (dRet (dC (.bl false)))
  dNext)
  (dSeq (dIfS (dB (dOp neD (dBlt sumLT (daCons (dVar 12) daNil)) (dBlt maxD (daCons (dC (.int 0)) (daCons (dOp subD (dOp addD (dOp ixD (dOp ixD (dVar 11) (dC (.int 0))) (dC (.int 1))) (dOp ixD (dOp ixD (dVar 11) (dC (.int 1))) (dC (.int 1)))) (dOp subD (dVar 9) (dVar 10))) daNil)))))
  (dRet (dC (.bl false)))
  dNext)
  (dSeq (dIfS (dNotT (dB (dCall 1 M__law_shares (daCons (dVar 0) daNil))))
  (dRet (dC (.bl false)))
  dNext)
  (dRet (dOp eqD (dTold raisable tellers (dMeth "Slip" "line" 4 M_Slip_line (dVar 8) (daCons (dC (.str "pay")) (daCons (dC (.str "pay")) (daCons (dC (.int 1)) daNil))))) (dC (.str "rule"))))))))))))))))))))))
def M__law_slips : DF := runD 16 (f__law_slips M_Slip_line M__law_shares M_Slip_net M_Slip_hold M__law_roll M_Slip___init__ M_net_of M_gross_for M_Slip_sum_of M_Slip_gross M_Table_withheld M_made)
/-- _law_least: slots 0 top, 1 bottom, 2 a, 3 b -/
def f__law_least : DS :=
  (dSeq (dPar2 2 3 (daCons (dBlt absD (daCons (dVar 0) daNil)) (daCons (dVar 1) daNil)))
  (dSeq (whileD (dB (dOp neD (dVar 3) (dC (.int 0)))) (dPar2 2 3 (daCons (dVar 3) (daCons (dOp modD (dVar 2) (dVar 3)) daNil))) fuel)
  (dSeq (dAsg (dBlt maxD (daCons (dVar 2) (daCons (dC (.int 1)) daNil))) (gN 2))
  (dRet (dTup (daCons (dOp fdivD (dVar 0) (dVar 2)) (daCons (dOp fdivD (dVar 1) (dVar 2)) daNil)))))))
def M__law_least : DF := runD 4 f__law_least
/-- less: slots 0 a, 1 b -/
def f_less (M_part : DF) : DS :=
  (dRet (dCall 2 M_part (daCons (dOp subD (dOp mulD (dOp ixD (dVar 0) (dC (.int 0))) (dOp ixD (dVar 1) (dC (.int 1)))) (dOp mulD (dOp ixD (dVar 1) (dC (.int 0))) (dOp ixD (dVar 0) (dC (.int 1))))) (daCons (dOp mulD (dOp ixD (dVar 0) (dC (.int 1))) (dOp ixD (dVar 1) (dC (.int 1)))) daNil))))
def M_less : DF := runD 2 (f_less M_part)
/-- gap_of: slots 0 table, 1 much, 2 rule -/
def f_gap_of (M_Table_exact : DF) (M_Table_withheld : DF) (M_less : DF) : DS :=
  (dRet (dCall 2 M_less (daCons (dTup (daCons (dMeth "Table" "withheld" 3 M_Table_withheld (dVar 0) (daCons (dVar 1) (daCons (dVar 2) daNil))) (daCons (dC (.int 1)) daNil))) (daCons (dMeth "Table" "exact" 2 M_Table_exact (dVar 0) (daCons (dVar 1) daNil)) daNil))))
def M_gap_of : DF := runD 3 (f_gap_of M_Table_exact M_Table_withheld M_less)
/-- Table_scaled: slots 0 self, 1 many, 2 low, 3 one -/
def f_Table_scaled (M_Table___init__ : DF) : DS :=
  (dSeq (dIfS (dB (dOp ltD (dVar 1) (dC (.int 1))))
  (dRaise "BadRule")
  dNext)
  (dRet (dMake "Table" 2 M_Table___init__ (daCons (dBlt tupleD (daCons (dLc (diSeq (dFld ["Table"] "steps" (dVar 0))) (gT 2 (gsCons (gN 2) (gsCons (gN 3) gsNil))) dYes (dTup (daCons (dOp mulD (dVar 2) (dVar 1)) (daCons (dVar 3) daNil))) [2, 3]) daNil)) daNil))))
def M_Table_scaled : DF := runD 4 (f_Table_scaled M_Table___init__)
/-- law: slots 0 script, 1 dice, 2 a, 3 b, 4 steps, 5 table, 6 much, 7 twentieths, 8 left, 9 back, 10 good, 11 bad, 12 jumps, 13 one, 14 low -/
def f_law (M__law_rounds : DF) (M_best_split : DF) (M_Table_back : DF) (M_Table___init__ : DF) (M_edge_jump : DF) (M_worse_off : DF) (M__law_slips : DF) (M__law_year : DF) (M_gap_of : DF) (M_Table_scaled : DF) (M_Table_exact : DF) (M__law_least : DF) (M__law_withheld : DF) (M__law_roll : DF) (M_Table_mean : DF) (M_Table_at_edge : DF) (M_Table_is_rising : DF) (M_Table_withheld : DF) (M_part : DF) : DS :=
  (dSeq (dFor (diSeq (dCall 2 M__law_rounds (daCons (dVar 0) (daCons (dC (.int 3)) daNil)))) (gN 1)
  (dSeq (dPar2 2 3 (daCons (dOp addD (dC (.int 10)) (dCall 2 M__law_roll (daCons (dVar 1) (daCons (dC (.int 40)) daNil)))) (daCons (dOp addD (dC (.int 60)) (dCall 2 M__law_roll (daCons (dVar 1) (daCons (dC (.int 60)) daNil)))) daNil)))
  (dSeq (dAsg (dTup (daCons (dTup (daCons (dC (.int 0)) (daCons (dTup (daCons (dC (.int 0)) (daCons (dC (.int 1)) daNil))) daNil))) (daCons (dTup (daCons (dVar 2) (daCons (dCall 2 M_part (daCons (dOp addD (dC (.int 1)) (dCall 2 M__law_roll (daCons (dVar 1) (daCons (dC (.int 5)) daNil)))) (daCons (dC (.int 20)) daNil))) daNil))) (daCons (dTup (daCons (dVar 3) (daCons (dCall 2 M_part (daCons (dOp addD (dC (.int 6)) (dCall 2 M__law_roll (daCons (dVar 1) (daCons (dC (.int 6)) daNil)))) (daCons (dC (.int 20)) daNil))) daNil))) daNil)))) (gN 4))
  (dSeq (dAsg (dTup (daCons (dMake "Table" 2 M_Table___init__ (daCons (dVar 4) daNil)) (daCons (dCall 2 M__law_roll (daCons (dVar 1) (daCons (dC (.int 200)) daNil))) daNil))) (gT 2 (gsCons (gN 5) (gsCons (gN 6) gsNil))))
  (dSeq (dAsg (dCall 2 M__law_withheld (daCons (dVar 4) (daCons (dVar 6) daNil))) (gN 7))
  (dSeq (dIfS (dOrT (dB (dOp neD (dMeth "Table" "exact" 2 M_Table_exact (dVar 5) (daCons (dVar 6) daNil)) (dCall 2 M__law_least (daCons (dVar 7) (daCons (dC (.int 20)) daNil))))) (dB (dOp neD (dMeth "Table" "withheld" 3 M_Table_withheld (dVar 5) (daCons (dVar 6) (daCons (dC (.str "down")) daNil))) (dOp fdivD (dVar 7) (dC (.int 20))))))
  (dRet (dC (.bl false)))
  dNext)
  (dSeq (dIfS (dNotT (dB (dMeth "Table" "is_rising" 1 M_Table_is_rising (dVar 5) daNil)))
  (dRet (dC (.bl false)))
  dNext)
  (dSeq (dIfS (dB (dOp neD (dMeth "Table" "at_edge" 2 M_Table_at_edge (dVar 5) (daCons (dVar 6) daNil)) (dOp ixD (dLc (diSeq (dVar 4)) (gT 2 (gsCons (gN 14) (gsCons (gN 13) gsNil))) (dB (dOp leD (dVar 14) (dVar 6))) (dVar 13) [14, 13]) (dOp subD (dBlt lenD (daCons (dLc (diSeq (dVar 4)) (gT 2 (gsCons (gN 14) (gsCons (gN 13) gsNil))) (dB (dOp leD (dVar 14) (dVar 6))) (dVar 14) [14, 13]) daNil)) (dC (.int 1))))))
  (dRet (dC (.bl false)))
  dNext)
  (dSeq (dIfS (dB (dOp neD (dMeth "Table" "mean" 2 M_Table_mean (dVar 5) (daCons (dVar 6) daNil)) (dIf (dB (dOp gtD (dVar 6) (dC (.int 0)))) (dCall 2 M__law_least (daCons (dVar 7) (daCons (dOp mulD (dC (.int 20)) (dVar 6)) daNil))) (dTup (daCons (dC (.int 0)) (daCons (dC (.int 1)) daNil))))))
  (dRet (dC (.bl false)))
  dNext)
  (dSeq (dAsg (dCall 2 M__law_roll (daCons (dVar 1) (daCons (dC (.int 120)) daNil))) (gN 8))
  (dSeq (dAsg (dMeth "Table" "back" 4 M_Table_back (dVar 5) (daCons (dVar 8) (daCons (dC (.str "down")) (daCons (dC (.int 900)) daNil)))) (gN 9))
  (dSeq (dAsg (dLc (diRange2 (dBlt maxD (daCons (dC (.int 0)) (daCons (dOp subD (dVar 9) (dC (.int 9))) daNil))) (dOp addD (dVar 9) (dC (.int 1)))) (gN 13) (dB (dOp geD (dOp subD (dVar 13) (dOp fdivD (dCall 2 M__law_withheld (daCons (dVar 4) (daCons (dVar 13) daNil))) (dC (.int 20)))) (dVar 8))) (dVar 13) [13]) (gN 10))
  (dSeq (dIfS (dOrT (dB (dOp neD (dVar 10) (dLst (daCons (dVar 9) daNil)))) (dB (dOp neD (dMeth "Table" "exact" 2 M_Table_exact (dMeth "Table" "scaled" 2 M_Table_scaled (dVar 5) (daCons (dC (.int 3)) daNil)) (daCons (dOp mulD (dC (.int 3)) (dVar 6)) daNil)) (dCall 2 M__law_least (daCons (dOp mulD (dC (.int 3)) (dVar 7)) (daCons (dC (.int 20)) daNil))))))
  (dRet (dC (.bl false)))
  dNext)
  (dSeq (dIfS (dB (dOp gtD (dOp ixD (dCall 3 M_gap_of (daCons (dVar 5) (daCons (dVar 6) (daCons (dC (.str "down")) daNil)))) (dC (.int 0))) (dC (.int 0))))
  (dRet (dC (.bl false)))
  dNext)
  (dSeq (dIfS (dNotT (dB (dCall 5 M__law_year (daCons (dVar 1) (daCons (dVar 5) (daCons (dVar 4) (daCons (dVar 6) (daCons (dVar 8) daNil))))))))
  (dRet (dC (.bl false)))
  dNext)
  (dSeq (dIfS (dNotT (dB (dCall 3 M__law_slips (daCons (dVar 1) (daCons (dVar 5) (daCons (dVar 6) daNil))))))
  (dRet (dC (.bl false)))
  dNext)
  (dSeq (dAsg (dCall 4 M_worse_off (daCons (dVar 5) (daCons (dTup (daCons (dC (.int 50)) (daCons (dC (.int 7)) daNil))) (daCons (dC (.str "down")) (daCons (dC (.int 56)) daNil))))) (gN 11))
  (dSeq (dAsg (dLc (diRange1 (dC (.int 57))) (gN 13) dYes (dCall 4 M_edge_jump (daCons (dVar 5) (daCons (dTup (daCons (dC (.int 50)) (daCons (dC (.int 7)) daNil))) (daCons (dVar 13) (daCons (dC (.str "down")) daNil))))) [13]) (gN 12))
  (dSeq (dIfS (dOrT (dB (dOp neD (dBlt listD (daCons (dVar 11) daNil)) (dLc (diRange2 (dC (.int 1)) (dC (.int 57))) (gN 13) (dB (dOp ltD (dOp ixD (dVar 12) (dVar 13)) (dOp ixD (dVar 12) (dOp subD (dVar 13) (dC (.int 1)))))) (dVar 13) [13]))) (dB (dOp notInD (dC (.int 50)) (dVar 11))))
  (dRet (dC (.bl false)))
  dNext)
  (dSeq (dIfS (dB (dOp neD (dTold raisable tellers (dMake "Table" 2 M_Table___init__ (daCons (dTup (daCons (dTup (daCons (dC (.int 1)) (daCons (dTup (daCons (dC (.int 0)) (daCons (dC (.int 1)) daNil))) daNil))) daNil)) daNil))) (dC (.str "rule"))))
  (dRet (dC (.bl false)))
  dNext)
  (dSeq (dIfS (dB (dOp neD (dTold raisable tellers (dMake "Table" 2 M_Table___init__ (daCons (dTup (daCons (dTup (daCons (dC (.int 0)) (daCons (dTup (daCons (dC (.int 1)) (daCons (dC (.int 1)) daNil))) daNil))) daNil)) daNil))) (dC (.str "rule"))))
  (dRet (dC (.bl false)))
  dNext)
  (dSeq (dIfS (dB (dOp neD (dTold raisable tellers (dMeth "Table" "back" 4 M_Table_back (dVar 5) (daCons (dC (.int 900)) (daCons (dC (.str "down")) (daCons (dC (.int 10)) daNil))))) (dC (.str "no answer"))))
  (dRet (dC (.bl false)))
  dNext)
  (dIfS (dB (dOp neD (dTold raisable tellers (dCall 4 M_best_split (daCons (dVar 5) (daCons (dC (.int 999)) (daCons (dC (.int 2)) (daCons (dC (.str "down")) daNil)))))) (dC (.str "rule"))))
  (dRet (dC (.bl false)))
  dNext)))))))))))))))))))))))
  (dRet (dC (.bl true))))
def M_law : DF := runD 15 (f_law M__law_rounds M_best_split M_Table_back M_Table___init__ M_edge_jump M_worse_off M__law_slips M__law_year M_gap_of M_Table_scaled M_Table_exact M__law_least M__law_withheld M__law_roll M_Table_mean M_Table_at_edge M_Table_is_rising M_Table_withheld M_part)
end Pr
set_option Elab.async false
set_option linter.all false
set_option maxRecDepth 100000
set_option maxHeartbeats 4000000
namespace Pr
open PySem PySem.Spec PyProof.Rows L2 DL
def GK (K : PySem.W.Frag) : Gx := ⟨fun c => He.ga K (Str.ofString c), [((He.cT K ("Table", some "__init__")).2, (("Table.__init__" : Str) ++ (".<locals>." : Str)) ++ ("<genexpr>" : Str)), ((He.cT K ("Table", some "is_rising")).2, (("Table.is_rising" : Str) ++ (".<locals>." : Str)) ++ ("<genexpr>" : Str)), ((He.cT K ("best_split", none)).2, (("best_split" : Str) ++ (".<locals>." : Str)) ++ ("<genexpr>" : Str)), ((He.cT K ("split_days", none)).2, (("split_days" : Str) ++ (".<locals>." : Str)) ++ ("<genexpr>" : Str)), ((He.cT K ("day_pay", none)).2, (("day_pay" : Str) ++ (".<locals>." : Str)) ++ ("<genexpr>" : Str)), ((He.cT K ("Slip", some "sum_of")).2, (("Slip.sum_of" : Str) ++ (".<locals>." : Str)) ++ ("<genexpr>" : Str)), ((He.cT K ("piece_pay", none)).2, (("piece_pay" : Str) ++ (".<locals>." : Str)) ++ ("<genexpr>" : Str)), ((He.cT K ("_law_slips", none)).2, (("_law_slips" : Str) ++ (".<locals>." : Str)) ++ ("<lambda>" : Str)), ((He.cT K ("law", none)).2, (("law" : Str) ++ (".<locals>." : Str)) ++ ("<lambda>" : Str))]⟩
theorem code_is {K : PySem.W.Frag} {p : Str × Option Str} {cdv : Value} {qual : Str} (hl : ∃ (oc : Value) (od : Option Addr) (osl : Array (Option Value)) (fd : FuncData), K.lookup (He.fAd K p) = some ⟨oc, od, .func fd, osl⟩ ∧ fd.code = cdv) (hcd : PySem.W.codeIn K cdv qual = true) : cdv = .ref (He.cT K p).1 := by
  obtain ⟨oc, od, osl, fd, lk, e⟩ := hl
  obtain ⟨x, ex⟩ := He.codeIn_ref hcd
  have z := He.codeOf_eq lk (e.trans ex)
  rw [ex]
  exact congrArg Value.ref z.symm
theorem sc__law_told : FnScope ["what"] ["what"] (defScope s__law_told) := ⟨rfl, rfl, rfl, by decide +kernel, rfl, by decide +kernel, by decide +kernel⟩
abbrev N__law_dice : List Str := ["cell"]
theorem sc__law_dice : FnScope N__law_dice ["cell"] (defScope s__law_dice) := ⟨rfl, rfl, rfl, by decide +kernel, rfl, by decide +kernel, by decide +kernel⟩
abbrev N__law_rounds : List Str := ["script", "most", "cells", "cell"]
theorem sc__law_rounds : FnScope N__law_rounds ["script", "most"] (defScope s__law_rounds) := ⟨rfl, rfl, rfl, by decide +kernel, rfl, by decide +kernel, by decide +kernel⟩
abbrev N__law_withheld : List Str := ["steps", "much", "found", "k", "high"]
theorem sc__law_withheld : FnScope N__law_withheld ["steps", "much"] (defScope s__law_withheld) := ⟨rfl, rfl, rfl, by decide +kernel, rfl, by decide +kernel, by decide +kernel⟩
abbrev N__law_roll : List Str := ["dice", "many", "found"]
theorem sc__law_roll : FnScope N__law_roll ["dice", "many"] (defScope s__law_roll) := ⟨rfl, rfl, rfl, by decide +kernel, rfl, by decide +kernel, by decide +kernel⟩
abbrev N_rounded : List Str := ["a", "rule", "sign", "whole", "rest", "up"]
theorem sc_rounded : FnScope N_rounded ["a", "rule"] (defScope s_rounded) := ⟨rfl, rfl, rfl, by decide +kernel, rfl, by decide +kernel, by decide +kernel⟩
abbrev N_part : List Str := ["top", "bottom", "a", "b", "sign"]
theorem sc_part : FnScope N_part ["top", "bottom"] (defScope s_part) := ⟨rfl, rfl, rfl, by decide +kernel, rfl, by decide +kernel, by decide +kernel⟩
abbrev N_add : List Str := ["a", "b"]
theorem sc_add : FnScope N_add ["a", "b"] (defScope s_add) := ⟨rfl, rfl, rfl, by decide +kernel, rfl, by decide +kernel, by decide +kernel⟩
abbrev N_times : List Str := ["a", "b"]
theorem sc_times : FnScope N_times ["a", "b"] (defScope s_times) := ⟨rfl, rfl, rfl, by decide +kernel, rfl, by decide +kernel, by decide +kernel⟩
abbrev N_Table_exact : List Str := ["self", "much", "found", "k", "low", "one", "high", "within"]
theorem sc_Table_exact : FnScope N_Table_exact ["self", "much"] (defScope s_Table_exact) := ⟨rfl, rfl, rfl, by decide +kernel, rfl, by decide +kernel, by decide +kernel⟩
abbrev N_Table_withheld : List Str := ["self", "much", "rule"]
theorem sc_Table_withheld : FnScope N_Table_withheld ["self", "much", "rule"] (defScope s_Table_withheld) := ⟨rfl, rfl, rfl, by decide +kernel, rfl, by decide +kernel, by decide +kernel⟩
abbrev N_Table_back : List Str := ["self", "left", "rule", "most", "low", "high", "middle"]
theorem sc_Table_back : FnScope N_Table_back ["self", "left", "rule", "most"] (defScope s_Table_back) := ⟨rfl, rfl, rfl, by decide +kernel, rfl, by decide +kernel, by decide +kernel⟩
abbrev N_edge_jump : List Str := ["table", "notch", "much", "rule", "low", "taken"]
theorem sc_edge_jump : FnScope N_edge_jump ["table", "notch", "much", "rule"] (defScope s_edge_jump) := ⟨rfl, rfl, rfl, by decide +kernel, rfl, by decide +kernel, by decide +kernel⟩
abbrev N_worse_off : List Str := ["table", "notch", "rule", "most", "found", "much"]
theorem sc_worse_off : FnScope N_worse_off ["table", "notch", "rule", "most"] (defScope s_worse_off) := ⟨rfl, rfl, rfl, by decide +kernel, rfl, by decide +kernel, by decide +kernel⟩
abbrev N_Table___init__ : List Str := ["self", "steps", "low", "one", "a", "b"]
theorem sc_Table___init__ : FnScope N_Table___init__ ["self", "steps"] (defScope s_Table___init__) := ⟨rfl, rfl, rfl, by decide +kernel, rfl, by decide +kernel, by decide +kernel⟩
abbrev N_order : List Str := ["a", "b", "gap"]
theorem sc_order : FnScope N_order ["a", "b"] (defScope s_order) := ⟨rfl, rfl, rfl, by decide +kernel, rfl, by decide +kernel, by decide +kernel⟩
abbrev N_Table_is_rising : List Str := ["self", "a", "b"]
theorem sc_Table_is_rising : FnScope N_Table_is_rising ["self"] (defScope s_Table_is_rising) := ⟨rfl, rfl, rfl, by decide +kernel, rfl, by decide +kernel, by decide +kernel⟩
abbrev N_Table_at_edge : List Str := ["self", "much", "found", "low", "one"]
theorem sc_Table_at_edge : FnScope N_Table_at_edge ["self", "much"] (defScope s_Table_at_edge) := ⟨rfl, rfl, rfl, by decide +kernel, rfl, by decide +kernel, by decide +kernel⟩
abbrev N_over : List Str := ["a", "b"]
theorem sc_over : FnScope N_over ["a", "b"] (defScope s_over) := ⟨rfl, rfl, rfl, by decide +kernel, rfl, by decide +kernel, by decide +kernel⟩
abbrev N_Table_mean : List Str := ["self", "much"]
theorem sc_Table_mean : FnScope N_Table_mean ["self", "much"] (defScope s_Table_mean) := ⟨rfl, rfl, rfl, by decide +kernel, rfl, by decide +kernel, by decide +kernel⟩
abbrev N_over_year : List Str := ["table", "pays", "times_in_year", "rule", "found", "so_far", "done", "k", "pay", "year", "due"]
theorem sc_over_year : FnScope N_over_year ["table", "pays", "times_in_year", "rule"] (defScope s_over_year) := ⟨rfl, rfl, rfl, by decide +kernel, rfl, by decide +kernel, by decide +kernel⟩
abbrev N_best_split : List Str := ["table", "whole", "parts_there", "rule", "rows", "turn", "row", "left", "k", "one"]
theorem sc_best_split : FnScope N_best_split ["table", "whole", "parts_there", "rule"] (defScope s_best_split) := ⟨rfl, rfl, rfl, by decide +kernel, rfl, by decide +kernel, by decide +kernel⟩
abbrev N_capped : List Str := ["much", "one", "floor", "ceiling", "rule"]
theorem sc_capped : FnScope N_capped ["much", "one", "floor", "ceiling", "rule"] (defScope s_capped) := ⟨rfl, rfl, rfl, by decide +kernel, rfl, by decide +kernel, by decide +kernel⟩
abbrev N_at_end : List Str := ["table", "pays", "taken", "rule"]
theorem sc_at_end : FnScope N_at_end ["table", "pays", "taken", "rule"] (defScope s_at_end) := ⟨rfl, rfl, rfl, by decide +kernel, rfl, by decide +kernel, by decide +kernel⟩
abbrev N_for_two : List Str := ["table", "one", "other", "rule"]
theorem sc_for_two : FnScope N_for_two ["table", "one", "other", "rule"] (defScope s_for_two) := ⟨rfl, rfl, rfl, by decide +kernel, rfl, by decide +kernel, by decide +kernel⟩
abbrev N_credits_used : List Str := ["due", "credits_there", "left", "used", "one", "much"]
theorem sc_credits_used : FnScope N_credits_used ["due", "credits_there"] (defScope s_credits_used) := ⟨rfl, rfl, rfl, by decide +kernel, rfl, by decide +kernel, by decide +kernel⟩
abbrev N__law_year : List Str := ["dice", "table", "steps", "much", "left", "pays", "many", "taken", "whole", "least", "row", "k"]
theorem sc__law_year : FnScope N__law_year ["dice", "table", "steps", "much", "left"] (defScope s__law_year) := ⟨rfl, rfl, rfl, by decide +kernel, rfl, by decide +kernel, by decide +kernel⟩
abbrev N_Slip___init__ : List Str := ["self"]
theorem sc_Slip___init__ : FnScope N_Slip___init__ ["self"] (defScope s_Slip___init__) := ⟨rfl, rfl, rfl, by decide +kernel, rfl, by decide +kernel, by decide +kernel⟩
abbrev N_Slip_sum_of : List Str := ["self", "sort", "name", "mine", "count"]
theorem sc_Slip_sum_of : FnScope N_Slip_sum_of ["self", "sort"] (defScope s_Slip_sum_of) := ⟨rfl, rfl, rfl, by decide +kernel, rfl, by decide +kernel, by decide +kernel⟩
abbrev N_Slip_line : List Str := ["self", "name", "sort", "count", "one"]
theorem sc_Slip_line : FnScope N_Slip_line ["self", "name", "sort", "count"] (defScope s_Slip_line) := ⟨rfl, rfl, rfl, by decide +kernel, rfl, by decide +kernel, by decide +kernel⟩
abbrev N_made : List Str := ["pays", "free", "table", "funds", "slip", "name", "count", "base", "much", "ceiling"]
theorem sc_made : FnScope N_made ["pays", "free", "table", "funds"] (defScope s_made) := ⟨rfl, rfl, rfl, by decide +kernel, rfl, by decide +kernel, by decide +kernel⟩
abbrev N_Slip_gross : List Str := ["self"]
theorem sc_Slip_gross : FnScope N_Slip_gross ["self"] (defScope s_Slip_gross) := ⟨rfl, rfl, rfl, by decide +kernel, rfl, by decide +kernel, by decide +kernel⟩
abbrev N_Slip_net : List Str := ["self"]
theorem sc_Slip_net : FnScope N_Slip_net ["self"] (defScope s_Slip_net) := ⟨rfl, rfl, rfl, by decide +kernel, rfl, by decide +kernel, by decide +kernel⟩
abbrev N_net_of : List Str := ["pay", "table", "funds"]
theorem sc_net_of : FnScope N_net_of ["pay", "table", "funds"] (defScope s_net_of) := ⟨rfl, rfl, rfl, by decide +kernel, rfl, by decide +kernel, by decide +kernel⟩
abbrev N_gross_for : List Str := ["net", "table", "funds", "most", "pay", "gap"]
theorem sc_gross_for : FnScope N_gross_for ["net", "table", "funds", "most"] (defScope s_gross_for) := ⟨rfl, rfl, rfl, by decide +kernel, rfl, by decide +kernel, by decide +kernel⟩
abbrev N_Slip_hold : List Str := ["self", "asks", "floor", "found", "name", "count", "much"]
theorem sc_Slip_hold : FnScope N_Slip_hold ["self", "asks", "floor"] (defScope s_Slip_hold) := ⟨rfl, rfl, rfl, by decide +kernel, rfl, by decide +kernel, by decide +kernel⟩
abbrev N_bonus : List Str := ["counts", "goals", "pool", "rule", "past", "whole", "found", "left", "one", "much", "count", "goal"]
theorem sc_bonus : FnScope N_bonus ["counts", "goals", "pool", "rule"] (defScope s_bonus) := ⟨rfl, rfl, rfl, by decide +kernel, rfl, by decide +kernel, by decide +kernel⟩
abbrev N_is_even : List Str := ["rates", "work", "slack", "k", "j", "low", "high"]
theorem sc_is_even : FnScope N_is_even ["rates", "work", "slack"] (defScope s_is_even) := ⟨rfl, rfl, rfl, by decide +kernel, rfl, by decide +kernel, by decide +kernel⟩
abbrev N_by_minutes : List Str := ["minutes", "rate", "much"]
theorem sc_by_minutes : FnScope N_by_minutes ["minutes", "rate", "much"] (defScope s_by_minutes) := ⟨rfl, rfl, rfl, by decide +kernel, rfl, by decide +kernel, by decide +kernel⟩
abbrev N_split_days : List Str := ["minutes", "day_bounds", "found", "low", "high", "one"]
theorem sc_split_days : FnScope N_split_days ["minutes", "day_bounds"] (defScope s_split_days) := ⟨rfl, rfl, rfl, by decide +kernel, rfl, by decide +kernel, by decide +kernel⟩
abbrev N_day_pay : List Str := ["minutes", "rate", "bounds", "parts_there", "one", "much"]
theorem sc_day_pay : FnScope N_day_pay ["minutes", "rate", "bounds", "parts_there"] (defScope s_day_pay) := ⟨rfl, rfl, rfl, by decide +kernel, rfl, by decide +kernel, by decide +kernel⟩
abbrev N_part_time : List Str := ["count", "days_worked", "days_due", "rule"]
theorem sc_part_time : FnScope N_part_time ["count", "days_worked", "days_due", "rule"] (defScope s_part_time) := ⟨rfl, rfl, rfl, by decide +kernel, rfl, by decide +kernel, by decide +kernel⟩
abbrev N_raised : List Str := ["count", "steps", "found", "kind", "much"]
theorem sc_raised : FnScope N_raised ["count", "steps"] (defScope s_raised) := ⟨rfl, rfl, rfl, by decide +kernel, rfl, by decide +kernel, by decide +kernel⟩
abbrev N_piece_pay : List Str := ["pieces", "steps", "found", "k", "low", "much", "high", "a", "b"]
theorem sc_piece_pay : FnScope N_piece_pay ["pieces", "steps"] (defScope s_piece_pay) := ⟨rfl, rfl, rfl, by decide +kernel, rfl, by decide +kernel, by decide +kernel⟩
abbrev N_least_paid : List Str := ["rates", "least", "found", "rate"]
theorem sc_least_paid : FnScope N_least_paid ["rates", "least"] (defScope s_least_paid) := ⟨rfl, rfl, rfl, by decide +kernel, rfl, by decide +kernel, by decide +kernel⟩
abbrev N__law_shares : List Str := ["dice", "counts", "goals", "pool", "shares", "k"]
theorem sc__law_shares : FnScope N__law_shares ["dice"] (defScope s__law_shares) := ⟨rfl, rfl, rfl, by decide +kernel, rfl, by decide +kernel, by decide +kernel⟩
abbrev N__law_slips : List Str := ["dice", "table", "much", "funds", "slip", "held", "goal", "pay", "simple_slip", "there", "floor", "asks", "lacks", "one", "name", "ceiling"]
theorem sc__law_slips : FnScope N__law_slips ["dice", "table", "much"] (defScope s__law_slips) := ⟨rfl, rfl, rfl, by decide +kernel, rfl, by decide +kernel, by decide +kernel⟩
abbrev N__law_least : List Str := ["top", "bottom", "a", "b"]
theorem sc__law_least : FnScope N__law_least ["top", "bottom"] (defScope s__law_least) := ⟨rfl, rfl, rfl, by decide +kernel, rfl, by decide +kernel, by decide +kernel⟩
abbrev N_less : List Str := ["a", "b"]
theorem sc_less : FnScope N_less ["a", "b"] (defScope s_less) := ⟨rfl, rfl, rfl, by decide +kernel, rfl, by decide +kernel, by decide +kernel⟩
abbrev N_gap_of : List Str := ["table", "much", "rule"]
theorem sc_gap_of : FnScope N_gap_of ["table", "much", "rule"] (defScope s_gap_of) := ⟨rfl, rfl, rfl, by decide +kernel, rfl, by decide +kernel, by decide +kernel⟩
abbrev N_Table_scaled : List Str := ["self", "many", "low", "one"]
theorem sc_Table_scaled : FnScope N_Table_scaled ["self", "many"] (defScope s_Table_scaled) := ⟨rfl, rfl, rfl, by decide +kernel, rfl, by decide +kernel, by decide +kernel⟩
abbrev N_law : List Str := ["script", "dice", "a", "b", "steps", "table", "much", "twentieths", "left", "back", "good", "bad", "jumps", "one", "low"]
theorem sc_law : FnScope N_law ["script"] (defScope s_law) := ⟨rfl, rfl, rfl, by decide +kernel, rfl, by decide +kernel, by decide +kernel⟩
section
variable {P : Program} {w : World} {K : PySem.W.Frag} {mg : Str → Option Value} {base h0 : Heap} (KX : K.In h0) (Gn : h0.Ns mainGlobals mg) (c : He.SaysD fa fn K)
include KX Gn c
theorem g_WageFault : mg "WageFault" = some (.ref ((GK K).cA "WageFault")) := He.glo_ok KX Gn (c.fact 0 (f := .glo "WageFault") rfl)
theorem g_BadMoney : mg "BadMoney" = some (.ref ((GK K).cA "BadMoney")) := He.glo_ok KX Gn (c.fact 1 (f := .glo "BadMoney") rfl)
theorem g_BadDay : mg "BadDay" = some (.ref ((GK K).cA "BadDay")) := He.glo_ok KX Gn (c.fact 2 (f := .glo "BadDay") rfl)
theorem g_BadRule : mg "BadRule" = some (.ref ((GK K).cA "BadRule")) := He.glo_ok KX Gn (c.fact 3 (f := .glo "BadRule") rfl)
theorem g_Unbalanced : mg "Unbalanced" = some (.ref ((GK K).cA "Unbalanced")) := He.glo_ok KX Gn (c.fact 4 (f := .glo "Unbalanced") rfl)
theorem g_Shut : mg "Shut" = some (.ref ((GK K).cA "Shut")) := He.glo_ok KX Gn (c.fact 5 (f := .glo "Shut") rfl)
theorem g_Short : mg "Short" = some (.ref ((GK K).cA "Short")) := He.glo_ok KX Gn (c.fact 6 (f := .glo "Short") rfl)
theorem g_BadText : mg "BadText" = some (.ref ((GK K).cA "BadText")) := He.glo_ok KX Gn (c.fact 7 (f := .glo "BadText") rfl)
theorem g_NoAnswer : mg "NoAnswer" = some (.ref ((GK K).cA "NoAnswer")) := He.glo_ok KX Gn (c.fact 8 (f := .glo "NoAnswer") rfl)
theorem g_part : mg "part" = some (.ref ((GK K).cA "part")) := He.glo_ok KX Gn (c.fact 9 (f := .glo "part") rfl)
theorem g_add : mg "add" = some (.ref ((GK K).cA "add")) := He.glo_ok KX Gn (c.fact 10 (f := .glo "add") rfl)
theorem g_less : mg "less" = some (.ref ((GK K).cA "less")) := He.glo_ok KX Gn (c.fact 11 (f := .glo "less") rfl)
theorem g_times : mg "times" = some (.ref ((GK K).cA "times")) := He.glo_ok KX Gn (c.fact 12 (f := .glo "times") rfl)
theorem g_over : mg "over" = some (.ref ((GK K).cA "over")) := He.glo_ok KX Gn (c.fact 13 (f := .glo "over") rfl)
theorem g_order : mg "order" = some (.ref ((GK K).cA "order")) := He.glo_ok KX Gn (c.fact 14 (f := .glo "order") rfl)
theorem g_rounded : mg "rounded" = some (.ref ((GK K).cA "rounded")) := He.glo_ok KX Gn (c.fact 15 (f := .glo "rounded") rfl)
theorem g_Table : mg "Table" = some (.ref ((GK K).cA "Table")) := He.glo_ok KX Gn (c.fact 16 (f := .glo "Table") rfl)
theorem g_over_year : mg "over_year" = some (.ref ((GK K).cA "over_year")) := He.glo_ok KX Gn (c.fact 17 (f := .glo "over_year") rfl)
theorem g_at_end : mg "at_end" = some (.ref ((GK K).cA "at_end")) := He.glo_ok KX Gn (c.fact 18 (f := .glo "at_end") rfl)
theorem g_for_two : mg "for_two" = some (.ref ((GK K).cA "for_two")) := He.glo_ok KX Gn (c.fact 19 (f := .glo "for_two") rfl)
theorem g_best_split : mg "best_split" = some (.ref ((GK K).cA "best_split")) := He.glo_ok KX Gn (c.fact 20 (f := .glo "best_split") rfl)
theorem g_capped : mg "capped" = some (.ref ((GK K).cA "capped")) := He.glo_ok KX Gn (c.fact 21 (f := .glo "capped") rfl)
theorem g_credits_used : mg "credits_used" = some (.ref ((GK K).cA "credits_used")) := He.glo_ok KX Gn (c.fact 22 (f := .glo "credits_used") rfl)
theorem g_edge_jump : mg "edge_jump" = some (.ref ((GK K).cA "edge_jump")) := He.glo_ok KX Gn (c.fact 23 (f := .glo "edge_jump") rfl)
theorem g_worse_off : mg "worse_off" = some (.ref ((GK K).cA "worse_off")) := He.glo_ok KX Gn (c.fact 24 (f := .glo "worse_off") rfl)
theorem g_gap_of : mg "gap_of" = some (.ref ((GK K).cA "gap_of")) := He.glo_ok KX Gn (c.fact 25 (f := .glo "gap_of") rfl)
theorem g_split_days : mg "split_days" = some (.ref ((GK K).cA "split_days")) := He.glo_ok KX Gn (c.fact 26 (f := .glo "split_days") rfl)
theorem g_by_minutes : mg "by_minutes" = some (.ref ((GK K).cA "by_minutes")) := He.glo_ok KX Gn (c.fact 27 (f := .glo "by_minutes") rfl)
theorem g_day_pay : mg "day_pay" = some (.ref ((GK K).cA "day_pay")) := He.glo_ok KX Gn (c.fact 28 (f := .glo "day_pay") rfl)
theorem g_Slip : mg "Slip" = some (.ref ((GK K).cA "Slip")) := He.glo_ok KX Gn (c.fact 29 (f := .glo "Slip") rfl)
theorem g_made : mg "made" = some (.ref ((GK K).cA "made")) := He.glo_ok KX Gn (c.fact 30 (f := .glo "made") rfl)
theorem g_gross_for : mg "gross_for" = some (.ref ((GK K).cA "gross_for")) := He.glo_ok KX Gn (c.fact 31 (f := .glo "gross_for") rfl)
theorem g_net_of : mg "net_of" = some (.ref ((GK K).cA "net_of")) := He.glo_ok KX Gn (c.fact 32 (f := .glo "net_of") rfl)
theorem g_part_time : mg "part_time" = some (.ref ((GK K).cA "part_time")) := He.glo_ok KX Gn (c.fact 33 (f := .glo "part_time") rfl)
theorem g_raised : mg "raised" = some (.ref ((GK K).cA "raised")) := He.glo_ok KX Gn (c.fact 34 (f := .glo "raised") rfl)
theorem g_piece_pay : mg "piece_pay" = some (.ref ((GK K).cA "piece_pay")) := He.glo_ok KX Gn (c.fact 35 (f := .glo "piece_pay") rfl)
theorem g_bonus : mg "bonus" = some (.ref ((GK K).cA "bonus")) := He.glo_ok KX Gn (c.fact 36 (f := .glo "bonus") rfl)
theorem g_least_paid : mg "least_paid" = some (.ref ((GK K).cA "least_paid")) := He.glo_ok KX Gn (c.fact 37 (f := .glo "least_paid") rfl)
theorem g_is_even : mg "is_even" = some (.ref ((GK K).cA "is_even")) := He.glo_ok KX Gn (c.fact 38 (f := .glo "is_even") rfl)
theorem g__law_dice : mg "_law_dice" = some (.ref ((GK K).cA "_law_dice")) := He.glo_ok KX Gn (c.fact 39 (f := .glo "_law_dice") rfl)
theorem g__law_roll : mg "_law_roll" = some (.ref ((GK K).cA "_law_roll")) := He.glo_ok KX Gn (c.fact 40 (f := .glo "_law_roll") rfl)
theorem g__law_rounds : mg "_law_rounds" = some (.ref ((GK K).cA "_law_rounds")) := He.glo_ok KX Gn (c.fact 41 (f := .glo "_law_rounds") rfl)
theorem g__law_told : mg "_law_told" = some (.ref ((GK K).cA "_law_told")) := He.glo_ok KX Gn (c.fact 42 (f := .glo "_law_told") rfl)
theorem g__law_least : mg "_law_least" = some (.ref ((GK K).cA "_law_least")) := He.glo_ok KX Gn (c.fact 43 (f := .glo "_law_least") rfl)
theorem g__law_withheld : mg "_law_withheld" = some (.ref ((GK K).cA "_law_withheld")) := He.glo_ok KX Gn (c.fact 44 (f := .glo "_law_withheld") rfl)
theorem g__law_shares : mg "_law_shares" = some (.ref ((GK K).cA "_law_shares")) := He.glo_ok KX Gn (c.fact 45 (f := .glo "_law_shares") rfl)
theorem g__law_slips : mg "_law_slips" = some (.ref ((GK K).cA "_law_slips")) := He.glo_ok KX Gn (c.fact 46 (f := .glo "_law_slips") rfl)
theorem g__law_year : mg "_law_year" = some (.ref ((GK K).cA "_law_year")) := He.glo_ok KX Gn (c.fact 47 (f := .glo "_law_year") rfl)
theorem g_law : mg "law" = some (.ref ((GK K).cA "law")) := He.glo_ok KX Gn (c.fact 48 (f := .glo "law") rfl)
theorem g_RULES : mg "RULES" = some (.ref ((GK K).cA "RULES")) := He.glo_ok KX Gn (c.fact 49 (f := .glo "RULES") rfl)
theorem z_abs : mg "abs" = none := He.free_ok KX Gn (c.fact 50 (f := .free "abs") rfl)
theorem z_all : mg "all" = none := He.free_ok KX Gn (c.fact 51 (f := .free "all") rfl)
theorem z_any : mg "any" = none := He.free_ok KX Gn (c.fact 52 (f := .free "any") rfl)
theorem z_enumerate : mg "enumerate" = none := He.free_ok KX Gn (c.fact 53 (f := .free "enumerate") rfl)
theorem z_int : mg "int" = none := He.free_ok KX Gn (c.fact 54 (f := .free "int") rfl)
theorem z_len : mg "len" = none := He.free_ok KX Gn (c.fact 55 (f := .free "len") rfl)
theorem z_list : mg "list" = none := He.free_ok KX Gn (c.fact 56 (f := .free "list") rfl)
theorem z_max : mg "max" = none := He.free_ok KX Gn (c.fact 57 (f := .free "max") rfl)
theorem z_min : mg "min" = none := He.free_ok KX Gn (c.fact 58 (f := .free "min") rfl)
theorem z_range : mg "range" = none := He.free_ok KX Gn (c.fact 59 (f := .free "range") rfl)
theorem z_sorted : mg "sorted" = none := He.free_ok KX Gn (c.fact 60 (f := .free "sorted") rfl)
theorem z_sum : mg "sum" = none := He.free_ok KX Gn (c.fact 61 (f := .free "sum") rfl)
theorem z_tuple : mg "tuple" = none := He.free_ok KX Gn (c.fact 62 (f := .free "tuple") rfl)
theorem z_zip : mg "zip" = none := He.free_ok KX Gn (c.fact 63 (f := .free "zip") rfl)
theorem cl_Table : Cls K ((GK K).cA "Table") := He.cls_ok (c.fact 64 (f := .cls "Table") rfl)
theorem mk_Table : Mk K ((GK K).cA "Table") (He.fAd K ("Table", some "__init__")) := He.mkr_ok (c.fact 65 (f := .mkr "Table") rfl)
theorem mt_Table_exact : Meth K ((GK K).cA "Table") "exact" (He.fAd K ("Table", some "exact")) := He.meth_ok (c.fact 67 (f := .meth "Table" "exact") rfl)
theorem mt_Table_withheld : Meth K ((GK K).cA "Table") "withheld" (He.fAd K ("Table", some "withheld")) := He.meth_ok (c.fact 68 (f := .meth "Table" "withheld") rfl)
theorem mt_Table_at_edge : Meth K ((GK K).cA "Table") "at_edge" (He.fAd K ("Table", some "at_edge")) := He.meth_ok (c.fact 69 (f := .meth "Table" "at_edge") rfl)
theorem mt_Table_mean : Meth K ((GK K).cA "Table") "mean" (He.fAd K ("Table", some "mean")) := He.meth_ok (c.fact 70 (f := .meth "Table" "mean") rfl)
theorem mt_Table_back : Meth K ((GK K).cA "Table") "back" (He.fAd K ("Table", some "back")) := He.meth_ok (c.fact 71 (f := .meth "Table" "back") rfl)
theorem mt_Table_is_rising : Meth K ((GK K).cA "Table") "is_rising" (He.fAd K ("Table", some "is_rising")) := He.meth_ok (c.fact 72 (f := .meth "Table" "is_rising") rfl)
theorem mt_Table_scaled : Meth K ((GK K).cA "Table") "scaled" (He.fAd K ("Table", some "scaled")) := He.meth_ok (c.fact 73 (f := .meth "Table" "scaled") rfl)
theorem cl_Slip : Cls K ((GK K).cA "Slip") := He.cls_ok (c.fact 74 (f := .cls "Slip") rfl)
theorem mk_Slip : Mk K ((GK K).cA "Slip") (He.fAd K ("Slip", some "__init__")) := He.mkr_ok (c.fact 75 (f := .mkr "Slip") rfl)
theorem mt_Slip_line : Meth K ((GK K).cA "Slip") "line" (He.fAd K ("Slip", some "line")) := He.meth_ok (c.fact 77 (f := .meth "Slip" "line") rfl)
theorem mt_Slip_sum_of : Meth K ((GK K).cA "Slip") "sum_of" (He.fAd K ("Slip", some "sum_of")) := He.meth_ok (c.fact 78 (f := .meth "Slip" "sum_of") rfl)
theorem mt_Slip_gross : Meth K ((GK K).cA "Slip") "gross" (He.fAd K ("Slip", some "gross")) := He.meth_ok (c.fact 79 (f := .meth "Slip" "gross") rfl)
theorem mt_Slip_net : Meth K ((GK K).cA "Slip") "net" (He.fAd K ("Slip", some "net")) := He.meth_ok (c.fact 80 (f := .meth "Slip" "net") rfl)
theorem mt_Slip_hold : Meth K ((GK K).cA "Slip") "hold" (He.fAd K ("Slip", some "hold")) := He.meth_ok (c.fact 81 (f := .meth "Slip" "hold") rfl)
theorem fl_steps : ∀ x ∈ ["Table"], Cls K ((GK K).cA x) ∧ NoAttr K ((GK K).cA x) "steps" := by
  refine List.forall_mem_cons.mpr ⟨⟨cl_Table KX Gn c, He.noat_ok (c.fact 66 (f := .noat "Table" "steps") rfl)⟩, (fun _ h => nomatch h)⟩
theorem fl_lines : ∀ x ∈ ["Slip"], Cls K ((GK K).cA x) ∧ NoAttr K ((GK K).cA x) "lines" := by
  refine List.forall_mem_cons.mpr ⟨⟨cl_Slip KX Gn c, He.noat_ok (c.fact 76 (f := .noat "Slip" "lines") rfl)⟩, (fun _ h => nomatch h)⟩
theorem x_BadMoney : PySem.W.excIn K ((GK K).cA "BadMoney") He.veBase "ValueError.__new__" = true ∧ PySem.W.keepIn K (.ref ((GK K).cA "BadMoney")) = true ∧ PySem.W.subIn K (.ref ((GK K).cA "BadMoney")) (.type "BaseException") = some true ∧ PySem.W.typeIn K (.ref ((GK K).cA "BadMoney")) = some (.type "type") := He.exc_ok (c.fact 84 (f := .exc "BadMoney") rfl)
theorem x_BadDay : PySem.W.excIn K ((GK K).cA "BadDay") He.veBase "ValueError.__new__" = true ∧ PySem.W.keepIn K (.ref ((GK K).cA "BadDay")) = true ∧ PySem.W.subIn K (.ref ((GK K).cA "BadDay")) (.type "BaseException") = some true ∧ PySem.W.typeIn K (.ref ((GK K).cA "BadDay")) = some (.type "type") := He.exc_ok (c.fact 86 (f := .exc "BadDay") rfl)
theorem x_BadRule : PySem.W.excIn K ((GK K).cA "BadRule") He.veBase "ValueError.__new__" = true ∧ PySem.W.keepIn K (.ref ((GK K).cA "BadRule")) = true ∧ PySem.W.subIn K (.ref ((GK K).cA "BadRule")) (.type "BaseException") = some true ∧ PySem.W.typeIn K (.ref ((GK K).cA "BadRule")) = some (.type "type") := He.exc_ok (c.fact 88 (f := .exc "BadRule") rfl)
theorem x_Shut : PySem.W.excIn K ((GK K).cA "Shut") He.veBase "ValueError.__new__" = true ∧ PySem.W.keepIn K (.ref ((GK K).cA "Shut")) = true ∧ PySem.W.subIn K (.ref ((GK K).cA "Shut")) (.type "BaseException") = some true ∧ PySem.W.typeIn K (.ref ((GK K).cA "Shut")) = some (.type "type") := He.exc_ok (c.fact 91 (f := .exc "Shut") rfl)
theorem x_NoAnswer : PySem.W.excIn K ((GK K).cA "NoAnswer") He.veBase "ValueError.__new__" = true ∧ PySem.W.keepIn K (.ref ((GK K).cA "NoAnswer")) = true ∧ PySem.W.subIn K (.ref ((GK K).cA "NoAnswer")) (.type "BaseException") = some true ∧ PySem.W.typeIn K (.ref ((GK K).cA "NoAnswer")) = some (.type "type") := He.exc_ok (c.fact 95 (f := .exc "NoAnswer") rfl)
theorem exall : ∀ e ∈ raisable, ∀ q ∈ tellers, PySem.W.exmOne K (.ref ((GK K).cA e)) (.ref ((GK K).cA q.1)) = some (subB e q.1) := by
  unfold raisable tellers
  exact List.forall_mem_cons.mpr ⟨List.forall_mem_cons.mpr ⟨by rw [show subB "BadMoney" "BadMoney" = true from by decide]; exact He.exm_ok (c.fact 107 (f := .exm "BadMoney" "BadMoney" true) rfl), List.forall_mem_cons.mpr ⟨by rw [show subB "BadMoney" "BadDay" = false from by decide]; exact He.exm_ok (c.fact 108 (f := .exm "BadMoney" "BadDay" false) rfl), List.forall_mem_cons.mpr ⟨by rw [show subB "BadMoney" "BadRule" = false from by decide]; exact He.exm_ok (c.fact 109 (f := .exm "BadMoney" "BadRule" false) rfl), List.forall_mem_cons.mpr ⟨by rw [show subB "BadMoney" "Unbalanced" = false from by decide]; exact He.exm_ok (c.fact 110 (f := .exm "BadMoney" "Unbalanced" false) rfl), List.forall_mem_cons.mpr ⟨by rw [show subB "BadMoney" "Shut" = false from by decide]; exact He.exm_ok (c.fact 111 (f := .exm "BadMoney" "Shut" false) rfl), List.forall_mem_cons.mpr ⟨by rw [show subB "BadMoney" "Short" = false from by decide]; exact He.exm_ok (c.fact 112 (f := .exm "BadMoney" "Short" false) rfl), List.forall_mem_cons.mpr ⟨by rw [show subB "BadMoney" "BadText" = false from by decide]; exact He.exm_ok (c.fact 113 (f := .exm "BadMoney" "BadText" false) rfl), List.forall_mem_cons.mpr ⟨by rw [show subB "BadMoney" "NoAnswer" = false from by decide]; exact He.exm_ok (c.fact 114 (f := .exm "BadMoney" "NoAnswer" false) rfl), (fun _ h => nomatch h)⟩⟩⟩⟩⟩⟩⟩⟩, List.forall_mem_cons.mpr ⟨List.forall_mem_cons.mpr ⟨by rw [show subB "BadDay" "BadMoney" = false from by decide]; exact He.exm_ok (c.fact 116 (f := .exm "BadDay" "BadMoney" false) rfl), List.forall_mem_cons.mpr ⟨by rw [show subB "BadDay" "BadDay" = true from by decide]; exact He.exm_ok (c.fact 117 (f := .exm "BadDay" "BadDay" true) rfl), List.forall_mem_cons.mpr ⟨by rw [show subB "BadDay" "BadRule" = false from by decide]; exact He.exm_ok (c.fact 118 (f := .exm "BadDay" "BadRule" false) rfl), List.forall_mem_cons.mpr ⟨by rw [show subB "BadDay" "Unbalanced" = false from by decide]; exact He.exm_ok (c.fact 119 (f := .exm "BadDay" "Unbalanced" false) rfl), List.forall_mem_cons.mpr ⟨by rw [show subB "BadDay" "Shut" = false from by decide]; exact He.exm_ok (c.fact 120 (f := .exm "BadDay" "Shut" false) rfl), List.forall_mem_cons.mpr ⟨by rw [show subB "BadDay" "Short" = false from by decide]; exact He.exm_ok (c.fact 121 (f := .exm "BadDay" "Short" false) rfl), List.forall_mem_cons.mpr ⟨by rw [show subB "BadDay" "BadText" = false from by decide]; exact He.exm_ok (c.fact 122 (f := .exm "BadDay" "BadText" false) rfl), List.forall_mem_cons.mpr ⟨by rw [show subB "BadDay" "NoAnswer" = false from by decide]; exact He.exm_ok (c.fact 123 (f := .exm "BadDay" "NoAnswer" false) rfl), (fun _ h => nomatch h)⟩⟩⟩⟩⟩⟩⟩⟩, List.forall_mem_cons.mpr ⟨List.forall_mem_cons.mpr ⟨by rw [show subB "BadRule" "BadMoney" = false from by decide]; exact He.exm_ok (c.fact 125 (f := .exm "BadRule" "BadMoney" false) rfl), List.forall_mem_cons.mpr ⟨by rw [show subB "BadRule" "BadDay" = false from by decide]; exact He.exm_ok (c.fact 126 (f := .exm "BadRule" "BadDay" false) rfl), List.forall_mem_cons.mpr ⟨by rw [show subB "BadRule" "BadRule" = true from by decide]; exact He.exm_ok (c.fact 127 (f := .exm "BadRule" "BadRule" true) rfl), List.forall_mem_cons.mpr ⟨by rw [show subB "BadRule" "Unbalanced" = false from by decide]; exact He.exm_ok (c.fact 128 (f := .exm "BadRule" "Unbalanced" false) rfl), List.forall_mem_cons.mpr ⟨by rw [show subB "BadRule" "Shut" = false from by decide]; exact He.exm_ok (c.fact 129 (f := .exm "BadRule" "Shut" false) rfl), List.forall_mem_cons.mpr ⟨by rw [show subB "BadRule" "Short" = false from by decide]; exact He.exm_ok (c.fact 130 (f := .exm "BadRule" "Short" false) rfl), List.forall_mem_cons.mpr ⟨by rw [show subB "BadRule" "BadText" = false from by decide]; exact He.exm_ok (c.fact 131 (f := .exm "BadRule" "BadText" false) rfl), List.forall_mem_cons.mpr ⟨by rw [show subB "BadRule" "NoAnswer" = false from by decide]; exact He.exm_ok (c.fact 132 (f := .exm "BadRule" "NoAnswer" false) rfl), (fun _ h => nomatch h)⟩⟩⟩⟩⟩⟩⟩⟩, List.forall_mem_cons.mpr ⟨List.forall_mem_cons.mpr ⟨by rw [show subB "Shut" "BadMoney" = false from by decide]; exact He.exm_ok (c.fact 134 (f := .exm "Shut" "BadMoney" false) rfl), List.forall_mem_cons.mpr ⟨by rw [show subB "Shut" "BadDay" = false from by decide]; exact He.exm_ok (c.fact 135 (f := .exm "Shut" "BadDay" false) rfl), List.forall_mem_cons.mpr ⟨by rw [show subB "Shut" "BadRule" = false from by decide]; exact He.exm_ok (c.fact 136 (f := .exm "Shut" "BadRule" false) rfl), List.forall_mem_cons.mpr ⟨by rw [show subB "Shut" "Unbalanced" = false from by decide]; exact He.exm_ok (c.fact 137 (f := .exm "Shut" "Unbalanced" false) rfl), List.forall_mem_cons.mpr ⟨by rw [show subB "Shut" "Shut" = true from by decide]; exact He.exm_ok (c.fact 138 (f := .exm "Shut" "Shut" true) rfl), List.forall_mem_cons.mpr ⟨by rw [show subB "Shut" "Short" = false from by decide]; exact He.exm_ok (c.fact 139 (f := .exm "Shut" "Short" false) rfl), List.forall_mem_cons.mpr ⟨by rw [show subB "Shut" "BadText" = false from by decide]; exact He.exm_ok (c.fact 140 (f := .exm "Shut" "BadText" false) rfl), List.forall_mem_cons.mpr ⟨by rw [show subB "Shut" "NoAnswer" = false from by decide]; exact He.exm_ok (c.fact 141 (f := .exm "Shut" "NoAnswer" false) rfl), (fun _ h => nomatch h)⟩⟩⟩⟩⟩⟩⟩⟩, List.forall_mem_cons.mpr ⟨List.forall_mem_cons.mpr ⟨by rw [show subB "NoAnswer" "BadMoney" = false from by decide]; exact He.exm_ok (c.fact 143 (f := .exm "NoAnswer" "BadMoney" false) rfl), List.forall_mem_cons.mpr ⟨by rw [show subB "NoAnswer" "BadDay" = false from by decide]; exact He.exm_ok (c.fact 144 (f := .exm "NoAnswer" "BadDay" false) rfl), List.forall_mem_cons.mpr ⟨by rw [show subB "NoAnswer" "BadRule" = false from by decide]; exact He.exm_ok (c.fact 145 (f := .exm "NoAnswer" "BadRule" false) rfl), List.forall_mem_cons.mpr ⟨by rw [show subB "NoAnswer" "Unbalanced" = false from by decide]; exact He.exm_ok (c.fact 146 (f := .exm "NoAnswer" "Unbalanced" false) rfl), List.forall_mem_cons.mpr ⟨by rw [show subB "NoAnswer" "Shut" = false from by decide]; exact He.exm_ok (c.fact 147 (f := .exm "NoAnswer" "Shut" false) rfl), List.forall_mem_cons.mpr ⟨by rw [show subB "NoAnswer" "Short" = false from by decide]; exact He.exm_ok (c.fact 148 (f := .exm "NoAnswer" "Short" false) rfl), List.forall_mem_cons.mpr ⟨by rw [show subB "NoAnswer" "BadText" = false from by decide]; exact He.exm_ok (c.fact 149 (f := .exm "NoAnswer" "BadText" false) rfl), List.forall_mem_cons.mpr ⟨by rw [show subB "NoAnswer" "NoAnswer" = true from by decide]; exact He.exm_ok (c.fact 150 (f := .exm "NoAnswer" "NoAnswer" true) rfl), (fun _ h => nomatch h)⟩⟩⟩⟩⟩⟩⟩⟩, (fun _ h => nomatch h)⟩⟩⟩⟩⟩
theorem fn__law_dice  : FnD P w K mg base (GK K) 1 (He.fAd K ("_law_dice", none)) 1 (runD 1 (f__law_dice)) := by
  obtain ⟨fd, F0⟩ := c.def_ 42 (d := d__law_dice) rfl
  have F : FunD K "_law_dice" "_law_dice" (defArgs s__law_dice) (defBody s__law_dice) (defScope s__law_dice) [] [] (He.fAd K ("_law_dice", none)) fd := F0
  have b : Binds K fd ["cell"] [] := F.bindsN fun _ _ _ _ _ _ us hl => match us, hl with | [_], _ => rfl
  exact fnD_of F sc__law_dice b fun cdv A outer s H E hl hcd hr => (jss_cons (js_if (jt_chain jop_lt jop_lt (je_op jop_sub je_int je_int) (je_var 0) je_int)
  (jss_one (js_ret (je_lst (ja_cons (je_blt jb_abs (z_abs KX Gn c) boot_abs (ja_cons (je_var 0) ja_nil)) (ja_cons je_int (ja_cons je_int ja_nil))))))
  jss_nil)
  (jss_one (js_ret (je_lst (ja_cons (je_var 0) (ja_cons (je_op jop_add je_int (je_op jop_mod (je_bty jb_int (z_int KX Gn c) boot_int (ja_cons (je_var 0) ja_nil)) je_int)) (ja_cons (je_bty jb_int (z_int KX Gn c) boot_int (ja_cons (je_cmp jop_ge (je_var 0) (je_op jop_pow je_int je_int)) ja_nil)) ja_nil)))))))
theorem fn__law_rounds {M__law_dice : DF} (h__law_dice : FnD P w K mg base (GK K) 1 (He.fAd K ("_law_dice", none)) 1 M__law_dice) : FnD P w K mg base (GK K) 2 (He.fAd K ("_law_rounds", none)) 2 (runD 4 (f__law_rounds M__law_dice)) := by
  obtain ⟨fd, F0⟩ := c.def_ 44 (d := d__law_rounds) rfl
  have F : FunD K "_law_rounds" "_law_rounds" (defArgs s__law_rounds) (defBody s__law_rounds) (defScope s__law_rounds) [] [] (He.fAd K ("_law_rounds", none)) fd := F0
  have b : Binds K fd ["script", "most"] [] := F.bindsN fun _ _ _ _ _ _ us hl => match us, hl with | [_, _], _ => rfl
  exact fnD_of F sc__law_rounds b fun cdv A outer s H E hl hcd hr => (jss_cons (js_set 2 sc__law_rounds.nd (je_slice (je_var 0) jp_none (jp_some (je_var 1))))
  (jss_cons (js_if (jt_cmp (jop_eq hr.units) (je_var 2) (je_lst ja_nil))
  (jss_one (js_set 2 sc__law_rounds.nd (je_lst (ja_cons je_int ja_nil))))
  jss_nil)
  (jss_one (js_ret (je_lc rfl sc__law_rounds.nd (blkOk_by (own := [("cell", 3)]) (N := N__law_rounds) (sc := defScope s__law_rounds) (by decide +kernel)) (ji_seq (je_var 2)) (fun _ _ _ _ _ => (jgv_name 3 sc__law_rounds.nd (by decide))) (fun _ _ _ _ _ => jts_nil) (fun _ _ _ _ _ => (je_call h__law_dice takes0 (hr.mono (by decide)) (g__law_dice KX Gn c) (ja_cons (je_var 3) ja_nil))))))))
theorem fn__law_withheld  : FnD P w K mg base (GK K) 1 (He.fAd K ("_law_withheld", none)) 2 (runD 5 (f__law_withheld)) := by
  obtain ⟨fd, F0⟩ := c.def_ 47 (d := d__law_withheld) rfl
  have F : FunD K "_law_withheld" "_law_withheld" (defArgs s__law_withheld) (defBody s__law_withheld) (defScope s__law_withheld) [] [] (He.fAd K ("_law_withheld", none)) fd := F0
  have b : Binds K fd ["steps", "much"] [] := F.bindsN fun _ _ _ _ _ _ us hl => match us, hl with | [_, _], _ => rfl
  exact fnD_of F sc__law_withheld b fun cdv A outer s H E hl hcd hr => (jss_cons (js_set 2 sc__law_withheld.nd je_int)
  (jss_cons (js_for (passes_of rfl) rfl (ji_range1 (z_range KX Gn c) (je_blt jb_len (z_len KX Gn c) boot_len (ja_cons (je_var 0) ja_nil))) (jg_name 3 sc__law_withheld.nd)
  (jss_cons (js_set 4 sc__law_withheld.nd (je_if (jt_cmp jop_lt (je_op jop_add (je_var 3) je_int) (je_blt jb_len (z_len KX Gn c) boot_len (ja_cons (je_var 0) ja_nil))) (je_ix (je_ix (je_var 0) (je_op jop_add (je_var 3) je_int)) je_int) (je_blt (jb_max rfl) (z_max KX Gn c) boot_max (ja_cons (je_var 1) (ja_cons (je_ix (je_ix (je_var 0) (je_var 3)) je_int) ja_nil)))))
  (jss_one (js_set 2 sc__law_withheld.nd (je_op jop_add (je_var 2) (je_op jop_mul (je_op jop_mul (je_blt (jb_max rfl) (z_max KX Gn c) boot_max (ja_cons je_int (ja_cons (je_op jop_sub (je_blt (jb_min rfl) (z_min KX Gn c) boot_min (ja_cons (je_var 1) (ja_cons (je_var 4) ja_nil))) (je_ix (je_ix (je_var 0) (je_var 3)) je_int)) ja_nil))) (je_ix (je_ix (je_ix (je_var 0) (je_var 3)) je_int) je_int)) (je_op jop_fdiv je_int (je_ix (je_ix (je_ix (je_var 0) (je_var 3)) je_int) je_int))))))))
  (jss_one (js_ret (je_var 2)))))
theorem fn__law_roll  : FnD P w K mg base (GK K) 1 (He.fAd K ("_law_roll", none)) 2 (runD 3 (f__law_roll)) := by
  obtain ⟨fd, F0⟩ := c.def_ 43 (d := d__law_roll) rfl
  have F : FunD K "_law_roll" "_law_roll" (defArgs s__law_roll) (defBody s__law_roll) (defScope s__law_roll) [] [] (He.fAd K ("_law_roll", none)) fd := F0
  have b : Binds K fd ["dice", "many"] [] := F.bindsN fun _ _ _ _ _ _ us hl => match us, hl with | [_, _], _ => rfl
  exact fnD_of F sc__law_roll b fun cdv A outer s H E hl hcd hr => (jss_cons (js_if (jt_of (jw_or (jt_cmp (jop_eq hr.units) (je_ix (je_var 0) je_int) je_int) (jw_or1 (jt_of (jw_and (jt_cmp (jop_eq hr.units) (je_ix (je_var 0) je_int) je_int) (jw_and1 (jt_cmp jop_gt (je_ix (je_var 0) je_int) je_int)))))))
  (jss_cons (js_set 2 sc__law_roll.nd (je_op jop_mod (je_bty jb_int (z_int KX Gn c) boot_int (ja_cons (je_ix (je_var 0) je_int) ja_nil)) (je_var 1)))
  (jss_cons (js_asg (je_op jop_fdiv (je_ix (je_var 0) je_int) (je_var 1)) (jg_ix (je_var 0) je_int))
  (jss_one (js_ret (je_var 2)))))
  jss_nil)
  (jss_cons (js_asg je_int (jg_ix (je_var 0) je_int))
  (jss_cons (js_asg (je_op jop_mod (je_bty jb_int (z_int KX Gn c) boot_int (ja_cons (je_op jop_add (je_op jop_add (je_op jop_mul (je_ix (je_var 0) je_int) je_int) (je_op jop_mul (je_ix (je_var 0) je_int) je_int)) je_int) ja_nil)) je_int) (jg_ix (je_var 0) je_int))
  (jss_cons (js_asg (je_op jop_add (je_ix (je_var 0) je_int) je_int) (jg_ix (je_var 0) je_int))
  (jss_one (js_ret (je_op jop_mod (je_bty jb_int (z_int KX Gn c) boot_int (ja_cons (je_op jop_add (je_op jop_fdiv (je_ix (je_var 0) je_int) je_int) (je_ix (je_var 0) je_int)) ja_nil)) (je_var 1))))))))
theorem fn_rounded  (tup_RULES : He.tupB K "RULES" ((["down", "up", "half up", "half even", "half down"] : List Str).map He.Dv.str) = true) : FnD P w K mg base (GK K) 1 (He.fAd K ("rounded", none)) 2 (runD 6 (f_rounded)) := by
  obtain ⟨fd, F0⟩ := c.def_ 6 (d := d_rounded) rfl
  have F : FunD K "rounded" "rounded" (defArgs s_rounded) (defBody s_rounded) (defScope s_rounded) [] [] (He.fAd K ("rounded", none)) fd := F0
  have b : Binds K fd ["a", "rule"] [] := F.bindsN fun _ _ _ _ _ _ us hl => match us, hl with | [_, _], _ => rfl
  exact fnD_of F sc_rounded b fun cdv A outer s H E hl hcd hr => (jss_cons (js_if (jt_cmp jop_notIn (je_var 1) (je_globT (zs := ["down", "up", "half up", "half even", "half down"]) (g_RULES KX Gn c) tup_RULES))
  (jss_one (js_raise (c := "BadRule") rfl (takes_of rfl rfl rfl rfl) PySem.F.excBase_ValueError (x_BadRule KX Gn c).1 (g_BadRule KX Gn c) (x_BadRule KX Gn c).2.1 (raises_own (x_BadRule KX Gn c).2.2.1 (x_BadRule KX Gn c).2.2.2)))
  jss_nil)
  (jss_cons (js_set 2 sc_rounded.nd (je_if (jt_cmp jop_lt (je_ix (je_var 0) je_int) je_int) (je_neg je_int) je_int))
  (jss_cons (js_par2 3 4 rfl sc_rounded.nd (ja_cons (je_op jop_fdiv (je_blt jb_abs (z_abs KX Gn c) boot_abs (ja_cons (je_ix (je_var 0) je_int) ja_nil)) (je_ix (je_var 0) je_int)) (ja_cons (je_op jop_mod (je_blt jb_abs (z_abs KX Gn c) boot_abs (ja_cons (je_ix (je_var 0) je_int) ja_nil)) (je_ix (je_var 0) je_int)) ja_nil)))
  (jss_cons (js_set 5 sc_rounded.nd (je_or (je_and (je_cmp (jop_eq hr.units) (je_var 1) je_str) (je_one (je_cmp jop_gt (je_var 4) je_int))) (je_one (je_and (je_cmp jop_gt (je_op jop_mul je_int (je_var 4)) (je_ix (je_var 0) je_int)) (je_one (je_cmp (jop_eq hr.units) (je_slice (je_var 1) jp_none (jp_some je_int)) je_str))))))
  (jss_cons (js_if (jt_of (jw_and (jt_cmp (jop_eq hr.units) (je_op jop_mul je_int (je_var 4)) (je_ix (je_var 0) je_int)) (jw_and1 (jt_cmp (jop_eq hr.units) (je_slice (je_var 1) jp_none (jp_some je_int)) je_str))))
  (jss_one (js_set 5 sc_rounded.nd (je_or (je_cmp (jop_eq hr.units) (je_var 1) je_str) (je_one (je_and (je_cmp (jop_eq hr.units) (je_var 1) je_str) (je_one (je_cmp (jop_eq hr.units) (je_op jop_mod (je_var 3) je_int) je_int)))))))
  jss_nil)
  (jss_one (js_ret (je_op jop_mul (je_var 2) (je_op jop_add (je_var 3) (je_bty jb_int (z_int KX Gn c) boot_int (ja_cons (je_var 5) ja_nil)))))))))))
theorem fn_part  : FnD P w K mg base (GK K) 1 (He.fAd K ("part", none)) 2 (runD 5 (f_part)) := by
  obtain ⟨fd, F0⟩ := c.def_ 0 (d := d_part) rfl
  have F : FunD K "part" "part" (defArgs s_part) (defBody s_part) (defScope s_part) [] [] (He.fAd K ("part", none)) fd := F0
  have b : Binds K fd ["top", "bottom"] [] := F.bindsN fun _ _ _ _ _ _ us hl => match us, hl with | [_, _], _ => rfl
  exact fnD_of F sc_part b fun cdv A outer s H E hl hcd hr => (jss_cons (js_if (jt_cmp (jop_eq hr.units) (je_var 1) je_int)
  (jss_one (js_raise (c := "BadRule") rfl (takes_of rfl rfl rfl rfl) PySem.F.excBase_ValueError (x_BadRule KX Gn c).1 (g_BadRule KX Gn c) (x_BadRule KX Gn c).2.1 (raises_own (x_BadRule KX Gn c).2.2.1 (x_BadRule KX Gn c).2.2.2)))
  jss_nil)
  (jss_cons (js_par2 2 3 rfl sc_part.nd (ja_cons (je_blt jb_abs (z_abs KX Gn c) boot_abs (ja_cons (je_var 0) ja_nil)) (ja_cons (je_blt jb_abs (z_abs KX Gn c) boot_abs (ja_cons (je_var 1) ja_nil)) ja_nil)))
  (jss_cons (js_while (passes_of rfl) (jt_cmp (jop_ne hr.units) (je_var 3) je_int) (jss_one (js_par2 2 3 rfl sc_part.nd (ja_cons (je_var 3) (ja_cons (je_op jop_mod (je_var 2) (je_var 3)) ja_nil)))))
  (jss_cons (js_set 4 sc_part.nd (je_if (jt_cmp jop_gt (je_var 1) je_int) je_int (je_neg je_int)))
  (jss_cons (js_set 2 sc_part.nd (je_blt (jb_max rfl) (z_max KX Gn c) boot_max (ja_cons (je_var 2) (ja_cons je_int ja_nil))))
  (jss_one (js_ret (je_tup (ja_cons (je_op jop_fdiv (je_op jop_mul (je_var 4) (je_var 0)) (je_var 2)) (ja_cons (je_op jop_fdiv (je_blt jb_abs (z_abs KX Gn c) boot_abs (ja_cons (je_var 1) ja_nil)) (je_var 2)) ja_nil))))))))))
theorem fn_add {M_part : DF} (h_part : FnD P w K mg base (GK K) 1 (He.fAd K ("part", none)) 2 M_part) : FnD P w K mg base (GK K) 2 (He.fAd K ("add", none)) 2 (runD 2 (f_add M_part)) := by
  obtain ⟨fd, F0⟩ := c.def_ 1 (d := d_add) rfl
  have F : FunD K "add" "add" (defArgs s_add) (defBody s_add) (defScope s_add) [] [] (He.fAd K ("add", none)) fd := F0
  have b : Binds K fd ["a", "b"] [] := F.bindsN fun _ _ _ _ _ _ us hl => match us, hl with | [_, _], _ => rfl
  exact fnD_of F sc_add b fun cdv A outer s H E hl hcd hr => (jss_one (js_ret (je_call h_part (takes_of rfl rfl rfl rfl) (hr.mono (by decide)) (g_part KX Gn c) (ja_cons (je_op jop_add (je_op jop_mul (je_ix (je_var 0) je_int) (je_ix (je_var 1) je_int)) (je_op jop_mul (je_ix (je_var 1) je_int) (je_ix (je_var 0) je_int))) (ja_cons (je_op jop_mul (je_ix (je_var 0) je_int) (je_ix (je_var 1) je_int)) ja_nil)))))
theorem fn_times {M_part : DF} (h_part : FnD P w K mg base (GK K) 1 (He.fAd K ("part", none)) 2 M_part) : FnD P w K mg base (GK K) 2 (He.fAd K ("times", none)) 2 (runD 2 (f_times M_part)) := by
  obtain ⟨fd, F0⟩ := c.def_ 3 (d := d_times) rfl
  have F : FunD K "times" "times" (defArgs s_times) (defBody s_times) (defScope s_times) [] [] (He.fAd K ("times", none)) fd := F0
  have b : Binds K fd ["a", "b"] [] := F.bindsN fun _ _ _ _ _ _ us hl => match us, hl with | [_, _], _ => rfl
  exact fnD_of F sc_times b fun cdv A outer s H E hl hcd hr => (jss_one (js_ret (je_call h_part (takes_of rfl rfl rfl rfl) (hr.mono (by decide)) (g_part KX Gn c) (ja_cons (je_op jop_mul (je_ix (je_var 0) je_int) (je_ix (je_var 1) je_int)) (ja_cons (je_op jop_mul (je_ix (je_var 0) je_int) (je_ix (je_var 1) je_int)) ja_nil)))))
theorem fn_Table_exact {M_times : DF} (h_times : FnD P w K mg base (GK K) 2 (He.fAd K ("times", none)) 2 M_times) {M_add : DF} (h_add : FnD P w K mg base (GK K) 2 (He.fAd K ("add", none)) 2 M_add) : FnD P w K mg base (GK K) 3 (He.fAd K ("Table", some "exact")) 2 (runD 8 (f_Table_exact M_times M_add)) := by
  obtain ⟨fd, F0⟩ := c.def_ 8 (d := d_Table_exact) rfl
  have F : FunD K "exact" "Table.exact" (defArgs s_Table_exact) (defBody s_Table_exact) (defScope s_Table_exact) [] [] (He.fAd K ("Table", some "exact")) fd := F0
  have b : Binds K fd ["self", "much"] [] := F.bindsN fun _ _ _ _ _ _ us hl => match us, hl with | [_, _], _ => rfl
  exact fnD_of F sc_Table_exact b fun cdv A outer s H E hl hcd hr => (jss_cons (js_set 2 sc_Table_exact.nd (je_tup (ja_cons je_int (ja_cons je_int ja_nil))))
  (jss_cons (js_for (passes_of rfl) rfl (ji_enum (z_enumerate KX Gn c) (je_fld (fl_steps KX Gn c) (je_var 0))) (jg_tup rfl (jgs_cons (jg_name 3 sc_Table_exact.nd) (jgs_cons (jg_tup rfl (jgs_cons (jg_name 4 sc_Table_exact.nd) (jgs_cons (jg_name 5 sc_Table_exact.nd) jgs_nil))) jgs_nil)))
  (jss_cons (js_set 6 sc_Table_exact.nd (je_if (jt_cmp jop_lt (je_op jop_add (je_var 3) je_int) (je_blt jb_len (z_len KX Gn c) boot_len (ja_cons (je_fld (fl_steps KX Gn c) (je_var 0)) ja_nil))) (je_ix (je_ix (je_fld (fl_steps KX Gn c) (je_var 0)) (je_op jop_add (je_var 3) je_int)) je_int) je_non))
  (jss_cons (js_set 7 sc_Table_exact.nd (je_blt (jb_max rfl) (z_max KX Gn c) boot_max (ja_cons je_int (ja_cons (je_op jop_sub (je_if (jt_cmp jop_isN (je_var 6) je_non) (je_var 1) (je_blt (jb_min rfl) (z_min KX Gn c) boot_min (ja_cons (je_var 1) (ja_cons (je_var 6) ja_nil)))) (je_var 4)) ja_nil))))
  (jss_one (js_set 2 sc_Table_exact.nd (je_call h_add (takes_of rfl rfl rfl rfl) (hr.mono (by decide)) (g_add KX Gn c) (ja_cons (je_var 2) (ja_cons (je_call h_times (takes_of rfl rfl rfl rfl) (hr.mono (by decide)) (g_times KX Gn c) (ja_cons (je_tup (ja_cons (je_var 7) (ja_cons je_int ja_nil))) (ja_cons (je_var 5) ja_nil))) ja_nil))))))))
  (jss_one (js_ret (je_var 2)))))
theorem fn_Table_withheld {M_Table_exact : DF} (h_Table_exact : FnD P w K mg base (GK K) 3 (He.fAd K ("Table", some "exact")) 2 M_Table_exact) {M_rounded : DF} (h_rounded : FnD P w K mg base (GK K) 1 (He.fAd K ("rounded", none)) 2 M_rounded) : FnD P w K mg base (GK K) 4 (He.fAd K ("Table", some "withheld")) 3 (runD 3 (f_Table_withheld M_Table_exact M_rounded)) := by
  obtain ⟨fd, F0⟩ := c.def_ 9 (d := d_Table_withheld) rfl
  have F : FunD K "withheld" "Table.withheld" (defArgs s_Table_withheld) (defBody s_Table_withheld) (defScope s_Table_withheld) [] [] (He.fAd K ("Table", some "withheld")) fd := F0
  have b : Binds K fd ["self", "much", "rule"] [] := F.bindsN fun _ _ _ _ _ _ us hl => match us, hl with | [_, _, _], _ => rfl
  exact fnD_of F sc_Table_withheld b fun cdv A outer s H E hl hcd hr => (jss_one (js_ret (je_call h_rounded (takes_of rfl rfl rfl rfl) (hr.mono (by decide)) (g_rounded KX Gn c) (ja_cons (je_meth (c := "Table") h_Table_exact (takes_of rfl rfl rfl rfl) (hr.mono (by decide)) (cl_Table KX Gn c) (mt_Table_exact KX Gn c) (je_var 0) (ja_cons (je_var 1) ja_nil)) (ja_cons (je_var 2) ja_nil)))))
theorem fn_Table_back {M_Table_withheld : DF} (h_Table_withheld : FnD P w K mg base (GK K) 4 (He.fAd K ("Table", some "withheld")) 3 M_Table_withheld) : FnD P w K mg base (GK K) 5 (He.fAd K ("Table", some "back")) 4 (runD 7 (f_Table_back M_Table_withheld)) := by
  obtain ⟨fd, F0⟩ := c.def_ 12 (d := d_Table_back) rfl
  have F : FunD K "back" "Table.back" (defArgs s_Table_back) (defBody s_Table_back) (defScope s_Table_back) [] [] (He.fAd K ("Table", some "back")) fd := F0
  have b : Binds K fd ["self", "left", "rule", "most"] [] := F.bindsN fun _ _ _ _ _ _ us hl => match us, hl with | [_, _, _, _], _ => rfl
  exact fnD_of F sc_Table_back b fun cdv A outer s H E hl hcd hr => (jss_cons (js_if (jt_cmp jop_lt (je_op jop_sub (je_var 3) (je_meth (c := "Table") h_Table_withheld (takes_of rfl rfl rfl rfl) (hr.mono (by decide)) (cl_Table KX Gn c) (mt_Table_withheld KX Gn c) (je_var 0) (ja_cons (je_var 3) (ja_cons (je_var 2) ja_nil)))) (je_var 1))
  (jss_one (js_raise (c := "NoAnswer") rfl (takes_of rfl rfl rfl rfl) PySem.F.excBase_ValueError (x_NoAnswer KX Gn c).1 (g_NoAnswer KX Gn c) (x_NoAnswer KX Gn c).2.1 (raises_own (x_NoAnswer KX Gn c).2.2.1 (x_NoAnswer KX Gn c).2.2.2)))
  jss_nil)
  (jss_cons (js_par2 4 5 rfl sc_Table_back.nd (ja_cons (je_neg je_int) (ja_cons (je_var 3) ja_nil)))
  (jss_cons (js_while (passes_of rfl) (jt_cmp jop_gt (je_op jop_sub (je_var 5) (je_var 4)) je_int) (jss_cons (js_set 6 sc_Table_back.nd (je_op jop_fdiv (je_op jop_add (je_var 4) (je_var 5)) je_int))
  (jss_one (js_if (jt_cmp jop_ge (je_op jop_sub (je_var 6) (je_meth (c := "Table") h_Table_withheld (takes_of rfl rfl rfl rfl) (hr.mono (by decide)) (cl_Table KX Gn c) (mt_Table_withheld KX Gn c) (je_var 0) (ja_cons (je_var 6) (ja_cons (je_var 2) ja_nil)))) (je_var 1))
  (jss_one (js_set 5 sc_Table_back.nd (je_var 6)))
  (jss_one (js_set 4 sc_Table_back.nd (je_var 6)))))))
  (jss_one (js_ret (je_var 5))))))
theorem fn_edge_jump {M_Table_withheld : DF} (h_Table_withheld : FnD P w K mg base (GK K) 4 (He.fAd K ("Table", some "withheld")) 3 M_Table_withheld) : FnD P w K mg base (GK K) 5 (He.fAd K ("edge_jump", none)) 4 (runD 6 (f_edge_jump M_Table_withheld)) := by
  obtain ⟨fd, F0⟩ := c.def_ 21 (d := d_edge_jump) rfl
  have F : FunD K "edge_jump" "edge_jump" (defArgs s_edge_jump) (defBody s_edge_jump) (defScope s_edge_jump) [] [] (He.fAd K ("edge_jump", none)) fd := F0
  have b : Binds K fd ["table", "notch", "much", "rule"] [] := F.bindsN fun _ _ _ _ _ _ us hl => match us, hl with | [_, _, _, _], _ => rfl
  exact fnD_of F sc_edge_jump b fun cdv A outer s H E hl hcd hr => (jss_cons (js_asg (je_var 1) (jg_tup rfl (jgs_cons (jg_name 4 sc_edge_jump.nd) (jgs_cons (jg_name 5 sc_edge_jump.nd) jgs_nil))))
  (jss_one (js_ret (je_op jop_sub (je_op jop_sub (je_var 2) (je_meth (c := "Table") h_Table_withheld (takes_of rfl rfl rfl rfl) (hr.mono (by decide)) (cl_Table KX Gn c) (mt_Table_withheld KX Gn c) (je_var 0) (ja_cons (je_var 2) (ja_cons (je_var 3) ja_nil)))) (je_if (jt_cmp jop_ge (je_var 2) (je_var 4)) (je_var 5) je_int)))))
theorem fn_worse_off {M_edge_jump : DF} (h_edge_jump : FnD P w K mg base (GK K) 5 (He.fAd K ("edge_jump", none)) 4 M_edge_jump) : FnD P w K mg base (GK K) 6 (He.fAd K ("worse_off", none)) 4 (runD 6 (f_worse_off M_edge_jump)) := by
  obtain ⟨fd, F0⟩ := c.def_ 22 (d := d_worse_off) rfl
  have F : FunD K "worse_off" "worse_off" (defArgs s_worse_off) (defBody s_worse_off) (defScope s_worse_off) [] [] (He.fAd K ("worse_off", none)) fd := F0
  have b : Binds K fd ["table", "notch", "rule", "most"] [] := F.bindsN fun _ _ _ _ _ _ us hl => match us, hl with | [_, _, _, _], _ => rfl
  exact fnD_of F sc_worse_off b fun cdv A outer s H E hl hcd hr => (jss_cons (js_set 4 sc_worse_off.nd (je_lst ja_nil))
  (jss_cons (js_for (passes_of rfl) rfl (ji_range2 (z_range KX Gn c) je_int (je_op jop_add (je_var 3) je_int)) (jg_name 5 sc_worse_off.nd)
  (jss_one (js_if (jt_cmp jop_lt (je_call h_edge_jump (takes_of rfl rfl rfl rfl) (hr.mono (by decide)) (g_edge_jump KX Gn c) (ja_cons (je_var 0) (ja_cons (je_var 1) (ja_cons (je_var 5) (ja_cons (je_var 2) ja_nil))))) (je_call h_edge_jump (takes_of rfl rfl rfl rfl) (hr.mono (by decide)) (g_edge_jump KX Gn c) (ja_cons (je_var 0) (ja_cons (je_var 1) (ja_cons (je_op jop_sub (je_var 5) je_int) (ja_cons (je_var 2) ja_nil))))))
  (jss_one (js_expr (je_app (je_var 4) (je_var 5))))
  jss_nil)))
  (jss_one (js_ret (je_bty jb_tuple (z_tuple KX Gn c) boot_tuple (ja_cons (je_var 4) ja_nil))))))
theorem fn_Table___init__  (tb : ∀ p ∈ tf, LamX.TabB base mg (He.cT K p).1 (He.cT K p).2) (nd2 : (tf.map fun p => (He.cT K p).2).Nodup) : FnD P w K mg base (GK K) 4 (He.fAd K ("Table", some "__init__")) 2 (runD 6 (f_Table___init__)) := by
  obtain ⟨fd, F0⟩ := c.def_ 7 (d := d_Table___init__) rfl
  have F : FunD K "__init__" "Table.__init__" (defArgs s_Table___init__) (defBody s_Table___init__) (defScope s_Table___init__) [] [] (He.fAd K ("Table", some "__init__")) fd := F0
  have b : Binds K fd ["self", "steps"] [] := F.bindsN fun _ _ _ _ _ _ us hl => match us, hl with | [_, _], _ => rfl
  obtain ⟨fdT, FT0⟩ := c.def_ 45 (d := d__law_told) rfl
  have FT : FunD K "_law_told" "_law_told" (defArgs s__law_told) (defBody s__law_told) (defScope s__law_told) [] [] (He.fAd K ("_law_told", none)) fdT := FT0
  have bT : Binds K fdT ["what"] [] := FT.bindsN fun _ _ _ _ _ _ us hl => match us, hl with | [_], _ => rfl
  have kT := FT.kp
  obtain ⟨ocT, odT, dVT, kVT, docT, pmT, anT, cdT, ctT, oslT, rfl, lkT, hcT, _, _⟩ := FT.ex
  have hu : ∀ p ∈ (GK K).T, p.1 = (He.cT K ("Table", some "__init__")).2 → p.2 = (("Table.__init__" : Str) ++ (".<locals>." : Str)) ++ ("<genexpr>" : Str) := by
    have n2 := nd2
    simp only [tf, List.map_cons, List.map_nil, List.nodup_cons, List.mem_cons, List.not_mem_nil, or_false, not_or] at n2
    intro p hp e
    simp only [GK, List.mem_cons, List.not_mem_nil, or_false] at hp
    rcases hp with rfl | rfl | rfl | rfl | rfl | rfl | rfl | rfl | rfl
    · rfl
    · exfalso; simp_all
    · exfalso; simp_all
    · exfalso; simp_all
    · exfalso; simp_all
    · exfalso; simp_all
    · exfalso; simp_all
    · exfalso; simp_all
    · exfalso; simp_all
  refine fnD_of F sc_Table___init__ b fun cdv A outer s H E hl hcd hr => ?_
  have ec := code_is (p := ("Table", some "__init__")) hl hcd
  subst ec
  exact (jss_cons (js_if (jt_of (jw_or (jt_cmp (jop_eq hr.units) (je_blt jb_len (z_len KX Gn c) boot_len (ja_cons (je_var 1) ja_nil)) je_int) (jw_or (jt_cmp (jop_ne hr.units) (je_ix (je_ix (je_var 1) je_int) je_int) je_int) (jw_or1 (jt_val (je_anyX (k := 0) (c := (He.cT K ("Table", some "__init__")).1) (P := (He.cT K ("Table", some "__init__")).2) (hr.mono (by decide)) (z_any KX Gn c) (tb ("Table", some "__init__") (List.Mem.head _)) rfl (List.Mem.head _) hu sc_Table___init__.nd (genB_by (N := N_Table___init__) (sc := defScope s_Table___init__) (own := [("a", 4), ("b", 5)]) (by decide +kernel)) (ji_zip (z_zip KX Gn c) (je_var 1) (je_slice (je_var 1) (jp_some je_int) jp_none)) (fun _ _ _ _ hrg => (jgv_tup rfl (jgsv_cons (jgv_name 4 sc_Table___init__.nd (by decide)) (jgsv_cons (jgv_name 5 sc_Table___init__.nd (by decide)) jgsv_nil)))) (fun _ _ _ _ hrg => jts_nil) (fun _ _ _ _ hrg => (je_cmp jop_ge (je_ix (je_var 4) je_int) (je_ix (je_var 5) je_int)))))))))
  (jss_one (js_raise (c := "BadRule") rfl (takes_of rfl rfl rfl rfl) PySem.F.excBase_ValueError (x_BadRule KX Gn c).1 (g_BadRule KX Gn c) (x_BadRule KX Gn c).2.1 (raises_own (x_BadRule KX Gn c).2.2.1 (x_BadRule KX Gn c).2.2.2)))
  jss_nil)
  (jss_cons (js_if (jt_val (je_anyX (k := 0) (c := (He.cT K ("Table", some "__init__")).1) (P := (He.cT K ("Table", some "__init__")).2) (hr.mono (by decide)) (z_any KX Gn c) (tb ("Table", some "__init__") (List.Mem.head _)) rfl (List.Mem.head _) hu sc_Table___init__.nd (genB_by (N := N_Table___init__) (sc := defScope s_Table___init__) (own := [("low", 2), ("one", 3)]) (by decide +kernel)) (ji_seq (je_var 1)) (fun _ _ _ _ hrg => (jgv_tup rfl (jgsv_cons (jgv_name 2 sc_Table___init__.nd (by decide)) (jgsv_cons (jgv_name 3 sc_Table___init__.nd (by decide)) jgsv_nil)))) (fun _ _ _ _ hrg => jts_nil) (fun _ _ _ _ hrg => (je_not (je_chain jop_le jop_lt je_int (je_ix (je_var 3) je_int) (je_ix (je_var 3) je_int))))))
  (jss_one (js_raise (c := "BadRule") rfl (takes_of rfl rfl rfl rfl) PySem.F.excBase_ValueError (x_BadRule KX Gn c).1 (g_BadRule KX Gn c) (x_BadRule KX Gn c).2.1 (raises_own (x_BadRule KX Gn c).2.2.1 (x_BadRule KX Gn c).2.2.2)))
  jss_nil)
  (jss_one (js_fld (fl_steps KX Gn c) (je_var 0) (je_bty jb_tuple (z_tuple KX Gn c) boot_tuple (ja_cons (je_var 1) ja_nil))))))
theorem fn_order  : FnD P w K mg base (GK K) 1 (He.fAd K ("order", none)) 2 (runD 3 (f_order)) := by
  obtain ⟨fd, F0⟩ := c.def_ 5 (d := d_order) rfl
  have F : FunD K "order" "order" (defArgs s_order) (defBody s_order) (defScope s_order) [] [] (He.fAd K ("order", none)) fd := F0
  have b : Binds K fd ["a", "b"] [] := F.bindsN fun _ _ _ _ _ _ us hl => match us, hl with | [_, _], _ => rfl
  exact fnD_of F sc_order b fun cdv A outer s H E hl hcd hr => (jss_cons (js_set 2 sc_order.nd (je_op jop_sub (je_op jop_mul (je_ix (je_var 0) je_int) (je_ix (je_var 1) je_int)) (je_op jop_mul (je_ix (je_var 1) je_int) (je_ix (je_var 0) je_int))))
  (jss_one (js_ret (je_op jop_sub (je_cmp jop_gt (je_var 2) je_int) (je_cmp jop_lt (je_var 2) je_int)))))
theorem fn_Table_is_rising {M_order : DF} (h_order : FnD P w K mg base (GK K) 1 (He.fAd K ("order", none)) 2 M_order) (tb : ∀ p ∈ tf, LamX.TabB base mg (He.cT K p).1 (He.cT K p).2) (nd2 : (tf.map fun p => (He.cT K p).2).Nodup) : FnD P w K mg base (GK K) 5 (He.fAd K ("Table", some "is_rising")) 1 (runD 3 (f_Table_is_rising M_order)) := by
  obtain ⟨fd, F0⟩ := c.def_ 13 (d := d_Table_is_rising) rfl
  have F : FunD K "is_rising" "Table.is_rising" (defArgs s_Table_is_rising) (defBody s_Table_is_rising) (defScope s_Table_is_rising) [] [] (He.fAd K ("Table", some "is_rising")) fd := F0
  have b : Binds K fd ["self"] [] := F.bindsN fun _ _ _ _ _ _ us hl => match us, hl with | [_], _ => rfl
  obtain ⟨fdT, FT0⟩ := c.def_ 45 (d := d__law_told) rfl
  have FT : FunD K "_law_told" "_law_told" (defArgs s__law_told) (defBody s__law_told) (defScope s__law_told) [] [] (He.fAd K ("_law_told", none)) fdT := FT0
  have bT : Binds K fdT ["what"] [] := FT.bindsN fun _ _ _ _ _ _ us hl => match us, hl with | [_], _ => rfl
  have kT := FT.kp
  obtain ⟨ocT, odT, dVT, kVT, docT, pmT, anT, cdT, ctT, oslT, rfl, lkT, hcT, _, _⟩ := FT.ex
  have hu : ∀ p ∈ (GK K).T, p.1 = (He.cT K ("Table", some "is_rising")).2 → p.2 = (("Table.is_rising" : Str) ++ (".<locals>." : Str)) ++ ("<genexpr>" : Str) := by
    have n2 := nd2
    simp only [tf, List.map_cons, List.map_nil, List.nodup_cons, List.mem_cons, List.not_mem_nil, or_false, not_or] at n2
    intro p hp e
    simp only [GK, List.mem_cons, List.not_mem_nil, or_false] at hp
    rcases hp with rfl | rfl | rfl | rfl | rfl | rfl | rfl | rfl | rfl
    · exfalso; simp_all
    · rfl
    · exfalso; simp_all
    · exfalso; simp_all
    · exfalso; simp_all
    · exfalso; simp_all
    · exfalso; simp_all
    · exfalso; simp_all
    · exfalso; simp_all
  refine fnD_of F sc_Table_is_rising b fun cdv A outer s H E hl hcd hr => ?_
  have ec := code_is (p := ("Table", some "is_rising")) hl hcd
  subst ec
  exact (jss_one (js_ret (je_allX (k := 1) (c := (He.cT K ("Table", some "is_rising")).1) (P := (He.cT K ("Table", some "is_rising")).2) (hr.mono (by decide)) (z_all KX Gn c) (tb ("Table", some "is_rising") (List.Mem.tail _ (List.Mem.head _))) rfl (List.Mem.tail _ (List.Mem.head _)) hu sc_Table_is_rising.nd (genB_by (N := N_Table_is_rising) (sc := defScope s_Table_is_rising) (own := [("a", 1), ("b", 2)]) (by decide +kernel)) (ji_zip (z_zip KX Gn c) (je_fld (fl_steps KX Gn c) (je_var 0)) (je_slice (je_fld (fl_steps KX Gn c) (je_var 0)) (jp_some je_int) jp_none)) (fun _ _ _ _ hrg => (jgv_tup rfl (jgsv_cons (jgv_name 1 sc_Table_is_rising.nd (by decide)) (jgsv_cons (jgv_name 2 sc_Table_is_rising.nd (by decide)) jgsv_nil)))) (fun _ _ _ _ hrg => jts_nil) (fun _ _ _ _ hrg => (je_cmp jop_le (je_call h_order takes0 (hrg.mono (by decide)) (g_order KX Gn c) (ja_cons (je_ix (je_var 1) je_int) (ja_cons (je_ix (je_var 2) je_int) ja_nil))) je_int)))))
theorem fn_Table_at_edge  : FnD P w K mg base (GK K) 1 (He.fAd K ("Table", some "at_edge")) 2 (runD 5 (f_Table_at_edge)) := by
  obtain ⟨fd, F0⟩ := c.def_ 10 (d := d_Table_at_edge) rfl
  have F : FunD K "at_edge" "Table.at_edge" (defArgs s_Table_at_edge) (defBody s_Table_at_edge) (defScope s_Table_at_edge) [] [] (He.fAd K ("Table", some "at_edge")) fd := F0
  have b : Binds K fd ["self", "much"] [] := F.bindsN fun _ _ _ _ _ _ us hl => match us, hl with | [_, _], _ => rfl
  exact fnD_of F sc_Table_at_edge b fun cdv A outer s H E hl hcd hr => (jss_cons (js_set 2 sc_Table_at_edge.nd (je_tup (ja_cons je_int (ja_cons je_int ja_nil))))
  (jss_cons (js_for (passes_of rfl) rfl (ji_seq (je_fld (fl_steps KX Gn c) (je_var 0))) (jg_tup rfl (jgs_cons (jg_name 3 sc_Table_at_edge.nd) (jgs_cons (jg_name 4 sc_Table_at_edge.nd) jgs_nil)))
  (jss_one (js_if (jt_cmp jop_ge (je_var 1) (je_var 3))
  (jss_one (js_set 2 sc_Table_at_edge.nd (je_var 4)))
  jss_nil)))
  (jss_one (js_ret (je_var 2)))))
theorem fn_over {M_part : DF} (h_part : FnD P w K mg base (GK K) 1 (He.fAd K ("part", none)) 2 M_part) : FnD P w K mg base (GK K) 2 (He.fAd K ("over", none)) 2 (runD 2 (f_over M_part)) := by
  obtain ⟨fd, F0⟩ := c.def_ 4 (d := d_over) rfl
  have F : FunD K "over" "over" (defArgs s_over) (defBody s_over) (defScope s_over) [] [] (He.fAd K ("over", none)) fd := F0
  have b : Binds K fd ["a", "b"] [] := F.bindsN fun _ _ _ _ _ _ us hl => match us, hl with | [_, _], _ => rfl
  exact fnD_of F sc_over b fun cdv A outer s H E hl hcd hr => (jss_one (js_ret (je_call h_part (takes_of rfl rfl rfl rfl) (hr.mono (by decide)) (g_part KX Gn c) (ja_cons (je_op jop_mul (je_ix (je_var 0) je_int) (je_ix (je_var 1) je_int)) (ja_cons (je_op jop_mul (je_ix (je_var 0) je_int) (je_ix (je_var 1) je_int)) ja_nil)))))
theorem fn_Table_mean {M_Table_exact : DF} (h_Table_exact : FnD P w K mg base (GK K) 3 (He.fAd K ("Table", some "exact")) 2 M_Table_exact) {M_over : DF} (h_over : FnD P w K mg base (GK K) 2 (He.fAd K ("over", none)) 2 M_over) : FnD P w K mg base (GK K) 4 (He.fAd K ("Table", some "mean")) 2 (runD 2 (f_Table_mean M_Table_exact M_over)) := by
  obtain ⟨fd, F0⟩ := c.def_ 11 (d := d_Table_mean) rfl
  have F : FunD K "mean" "Table.mean" (defArgs s_Table_mean) (defBody s_Table_mean) (defScope s_Table_mean) [] [] (He.fAd K ("Table", some "mean")) fd := F0
  have b : Binds K fd ["self", "much"] [] := F.bindsN fun _ _ _ _ _ _ us hl => match us, hl with | [_, _], _ => rfl
  exact fnD_of F sc_Table_mean b fun cdv A outer s H E hl hcd hr => (jss_one (js_ret (je_if (jt_cmp jop_le (je_var 1) je_int) (je_tup (ja_cons je_int (ja_cons je_int ja_nil))) (je_call h_over (takes_of rfl rfl rfl rfl) (hr.mono (by decide)) (g_over KX Gn c) (ja_cons (je_meth (c := "Table") h_Table_exact (takes_of rfl rfl rfl rfl) (hr.mono (by decide)) (cl_Table KX Gn c) (mt_Table_exact KX Gn c) (je_var 0) (ja_cons (je_var 1) ja_nil)) (ja_cons (je_tup (ja_cons (je_var 1) (ja_cons je_int ja_nil))) ja_nil))))))
theorem fn_over_year {M_part : DF} (h_part : FnD P w K mg base (GK K) 1 (He.fAd K ("part", none)) 2 M_part) {M_Table_exact : DF} (h_Table_exact : FnD P w K mg base (GK K) 3 (He.fAd K ("Table", some "exact")) 2 M_Table_exact) {M_times : DF} (h_times : FnD P w K mg base (GK K) 2 (He.fAd K ("times", none)) 2 M_times) {M_rounded : DF} (h_rounded : FnD P w K mg base (GK K) 1 (He.fAd K ("rounded", none)) 2 M_rounded) : FnD P w K mg base (GK K) 4 (He.fAd K ("over_year", none)) 4 (runD 11 (f_over_year M_part M_Table_exact M_times M_rounded)) := by
  obtain ⟨fd, F0⟩ := c.def_ 15 (d := d_over_year) rfl
  have F : FunD K "over_year" "over_year" (defArgs s_over_year) (defBody s_over_year) (defScope s_over_year) [] [] (He.fAd K ("over_year", none)) fd := F0
  have b : Binds K fd ["table", "pays", "times_in_year", "rule"] [] := F.bindsN fun _ _ _ _ _ _ us hl => match us, hl with | [_, _, _, _], _ => rfl
  exact fnD_of F sc_over_year b fun cdv A outer s H E hl hcd hr => (jss_cons (js_par3 4 5 6 rfl sc_over_year.nd (ja_cons (je_lst ja_nil) (ja_cons je_int (ja_cons je_int ja_nil))))
  (jss_cons (js_for (passes_of rfl) rfl (ji_enum (z_enumerate KX Gn c) (je_var 1)) (jg_tup rfl (jgs_cons (jg_name 7 sc_over_year.nd) (jgs_cons (jg_name 8 sc_over_year.nd) jgs_nil)))
  (jss_cons (js_aug 5 sc_over_year.nd jip_add (je_var 8))
  (jss_cons (js_set 9 sc_over_year.nd (je_op jop_fdiv (je_op jop_mul (je_var 5) (je_var 2)) (je_op jop_add (je_var 7) je_int)))
  (jss_cons (js_set 10 sc_over_year.nd (je_call h_rounded (takes_of rfl rfl rfl rfl) (hr.mono (by decide)) (g_rounded KX Gn c) (ja_cons (je_call h_times (takes_of rfl rfl rfl rfl) (hr.mono (by decide)) (g_times KX Gn c) (ja_cons (je_meth (c := "Table") h_Table_exact (takes_of rfl rfl rfl rfl) (hr.mono (by decide)) (cl_Table KX Gn c) (mt_Table_exact KX Gn c) (je_var 0) (ja_cons (je_var 9) ja_nil)) (ja_cons (je_call h_part (takes_of rfl rfl rfl rfl) (hr.mono (by decide)) (g_part KX Gn c) (ja_cons (je_op jop_add (je_var 7) je_int) (ja_cons (je_var 2) ja_nil))) ja_nil))) (ja_cons (je_var 3) ja_nil))))
  (jss_cons (js_expr (je_app (je_var 4) (je_op jop_sub (je_var 10) (je_var 6))))
  (jss_one (js_set 6 sc_over_year.nd (je_var 10))))))))
  (jss_one (js_ret (je_bty jb_tuple (z_tuple KX Gn c) boot_tuple (ja_cons (je_var 4) ja_nil))))))
theorem fn_best_split {M_Table_withheld : DF} (h_Table_withheld : FnD P w K mg base (GK K) 4 (He.fAd K ("Table", some "withheld")) 3 M_Table_withheld) (tb : ∀ p ∈ tf, LamX.TabB base mg (He.cT K p).1 (He.cT K p).2) (nd2 : (tf.map fun p => (He.cT K p).2).Nodup) : FnD P w K mg base (GK K) 8 (He.fAd K ("best_split", none)) 4 (runD 10 (f_best_split M_Table_withheld)) := by
  obtain ⟨fd, F0⟩ := c.def_ 18 (d := d_best_split) rfl
  have F : FunD K "best_split" "best_split" (defArgs s_best_split) (defBody s_best_split) (defScope s_best_split) [] [] (He.fAd K ("best_split", none)) fd := F0
  have b : Binds K fd ["table", "whole", "parts_there", "rule"] [] := F.bindsN fun _ _ _ _ _ _ us hl => match us, hl with | [_, _, _, _], _ => rfl
  obtain ⟨fdT, FT0⟩ := c.def_ 45 (d := d__law_told) rfl
  have FT : FunD K "_law_told" "_law_told" (defArgs s__law_told) (defBody s__law_told) (defScope s__law_told) [] [] (He.fAd K ("_law_told", none)) fdT := FT0
  have bT : Binds K fdT ["what"] [] := FT.bindsN fun _ _ _ _ _ _ us hl => match us, hl with | [_], _ => rfl
  have kT := FT.kp
  obtain ⟨ocT, odT, dVT, kVT, docT, pmT, anT, cdT, ctT, oslT, rfl, lkT, hcT, _, _⟩ := FT.ex
  have hu : ∀ p ∈ (GK K).T, p.1 = (He.cT K ("best_split", none)).2 → p.2 = (("best_split" : Str) ++ (".<locals>." : Str)) ++ ("<genexpr>" : Str) := by
    have n2 := nd2
    simp only [tf, List.map_cons, List.map_nil, List.nodup_cons, List.mem_cons, List.not_mem_nil, or_false, not_or] at n2
    intro p hp e
    simp only [GK, List.mem_cons, List.not_mem_nil, or_false] at hp
    rcases hp with rfl | rfl | rfl | rfl | rfl | rfl | rfl | rfl | rfl
    · exfalso; simp_all
    · exfalso; simp_all
    · rfl
    · exfalso; simp_all
    · exfalso; simp_all
    · exfalso; simp_all
    · exfalso; simp_all
    · exfalso; simp_all
    · exfalso; simp_all
  refine fnD_of F sc_best_split b fun cdv A outer s H E hl hcd hr => ?_
  have ec := code_is (p := ("best_split", none)) hl hcd
  subst ec
  exact (jss_cons (js_if (jt_of (jw_or (jt_not (jt_chain jop_lt jop_lt je_int (je_var 2) je_int)) (jw_or1 (jt_not (jt_chain jop_le jop_le je_int (je_var 1) je_int)))))
  (jss_one (js_raise (c := "BadRule") rfl (takes_of rfl rfl rfl rfl) PySem.F.excBase_ValueError (x_BadRule KX Gn c).1 (g_BadRule KX Gn c) (x_BadRule KX Gn c).2.1 (raises_own (x_BadRule KX Gn c).2.2.1 (x_BadRule KX Gn c).2.2.2)))
  jss_nil)
  (jss_cons (js_set 4 sc_best_split.nd (je_lst (ja_cons (je_tup (ja_cons (je_tup ja_nil) (ja_cons (je_var 1) ja_nil))) ja_nil)))
  (jss_cons (js_for (passes_of rfl) rfl (ji_range1 (z_range KX Gn c) (je_op jop_sub (je_var 2) je_int)) (jg_name 5 sc_best_split.nd)
  (jss_one (js_setLc2 4 (vs1 := [8]) rfl sc_best_split.nd (blkOk_by (own := [("row", 6), ("left", 7), ("k", 8)]) (N := N_best_split) (sc := defScope s_best_split) (by decide +kernel)) (by decide) (ji_seq (je_var 4)) (fun _ _ _ _ _ => (jgv_tup rfl (jgsv_cons (jgv_name 6 sc_best_split.nd (by decide)) (jgsv_cons (jgv_name 7 sc_best_split.nd (by decide)) jgsv_nil)))) (fun _ _ _ _ _ => jts_nil) (fun _ _ _ _ _ => (ji_range2 (z_range KX Gn c) (je_if (jt_cmp (jop_ne hr.units) (je_var 6) (je_tup ja_nil)) (je_ix (je_var 6) (je_neg je_int)) je_int) (je_op jop_add (je_var 7) je_int))) (fun _ _ _ _ _ => (jgv_name 8 sc_best_split.nd (by decide))) (fun _ _ _ _ _ => jts_nil) (fun _ _ _ _ _ => (je_tup (ja_cons (je_op jop_add (je_var 6) (je_tup (ja_cons (je_var 8) ja_nil))) (ja_cons (je_op jop_sub (je_var 7) (je_var 8)) ja_nil)))) (sw_true rfl rfl rfl (by decide +kernel)))))
  (jss_cons (js_setLc 4 rfl sc_best_split.nd (blkOk_by (own := [("row", 6), ("left", 7)]) (N := N_best_split) (sc := defScope s_best_split) (by decide +kernel)) (ji_seq (je_var 4)) (fun _ _ _ _ _ => (jgv_tup rfl (jgsv_cons (jgv_name 6 sc_best_split.nd (by decide)) (jgsv_cons (jgv_name 7 sc_best_split.nd (by decide)) jgsv_nil)))) (fun _ _ _ _ _ => (jts_one (jt_of (jw_or (jt_cmp (jop_eq hr.units) (je_var 6) (je_tup ja_nil)) (jw_or1 (jt_cmp jop_ge (je_var 7) (je_ix (je_var 6) (je_neg je_int)))))))) (fun _ _ _ _ _ => (je_op jop_add (je_var 6) (je_tup (ja_cons (je_var 7) ja_nil)))) (sw_true rfl rfl rfl (by decide +kernel)))
  (jss_one (js_ret (je_blt (jb_minT rfl hr.units) (z_min KX Gn c) boot_min (ja_cons (je_lc rfl sc_best_split.nd (blkOk_by (own := [("row", 6)]) (N := N_best_split) (sc := defScope s_best_split) (by decide +kernel)) (ji_seq (je_var 4)) (fun _ _ _ _ _ => (jgv_name 6 sc_best_split.nd (by decide))) (fun _ _ _ _ _ => jts_nil) (fun _ _ _ _ _ => (je_tup (ja_cons (je_sumX (k := 4) (c := (He.cT K ("best_split", none)).1) (P := (He.cT K ("best_split", none)).2) (hr.mono (by decide)) (z_sum KX Gn c) (tb ("best_split", none) (List.Mem.tail _ (List.Mem.tail _ (List.Mem.head _)))) rfl (List.Mem.tail _ (List.Mem.tail _ (List.Mem.head _))) hu sc_best_split.nd (genB_by (N := N_best_split) (sc := _) (own := [("one", 9)]) (by kernel_rfl)) (ji_seq (je_var 6)) (fun _ _ _ _ hrg => (jgv_name 9 sc_best_split.nd (by decide))) (fun _ _ _ _ hrg => jts_nil) (fun _ _ _ _ hrg => (je_meth (c := "Table") h_Table_withheld takes0 (hrg.mono (by decide)) (cl_Table KX Gn c) (mt_Table_withheld KX Gn c) (je_var 0) (ja_cons (je_var 9) (ja_cons (je_var 3) ja_nil))))) (ja_cons (je_var 6) ja_nil))))) ja_nil))))))))
theorem fn_capped {M_times : DF} (h_times : FnD P w K mg base (GK K) 2 (He.fAd K ("times", none)) 2 M_times) {M_rounded : DF} (h_rounded : FnD P w K mg base (GK K) 1 (He.fAd K ("rounded", none)) 2 M_rounded) : FnD P w K mg base (GK K) 3 (He.fAd K ("capped", none)) 5 (runD 5 (f_capped M_times M_rounded)) := by
  obtain ⟨fd, F0⟩ := c.def_ 19 (d := d_capped) rfl
  have F : FunD K "capped" "capped" (defArgs s_capped) (defBody s_capped) (defScope s_capped) [] [] (He.fAd K ("capped", none)) fd := F0
  have b : Binds K fd ["much", "one", "floor", "ceiling", "rule"] [] := F.bindsN fun _ _ _ _ _ _ us hl => match us, hl with | [_, _, _, _, _], _ => rfl
  exact fnD_of F sc_capped b fun cdv A outer s H E hl hcd hr => (jss_cons (js_if (jt_cmp jop_gt (je_var 2) (je_var 3))
  (jss_one (js_raise (c := "BadRule") rfl (takes_of rfl rfl rfl rfl) PySem.F.excBase_ValueError (x_BadRule KX Gn c).1 (g_BadRule KX Gn c) (x_BadRule KX Gn c).2.1 (raises_own (x_BadRule KX Gn c).2.2.1 (x_BadRule KX Gn c).2.2.2)))
  jss_nil)
  (jss_one (js_ret (je_call h_rounded (takes_of rfl rfl rfl rfl) (hr.mono (by decide)) (g_rounded KX Gn c) (ja_cons (je_call h_times (takes_of rfl rfl rfl rfl) (hr.mono (by decide)) (g_times KX Gn c) (ja_cons (je_tup (ja_cons (je_blt (jb_max rfl) (z_max KX Gn c) boot_max (ja_cons je_int (ja_cons (je_op jop_sub (je_blt (jb_min rfl) (z_min KX Gn c) boot_min (ja_cons (je_var 0) (ja_cons (je_var 3) ja_nil))) (je_var 2)) ja_nil))) (ja_cons je_int ja_nil))) (ja_cons (je_var 1) ja_nil))) (ja_cons (je_var 4) ja_nil))))))
theorem fn_at_end {M_Table_withheld : DF} (h_Table_withheld : FnD P w K mg base (GK K) 4 (He.fAd K ("Table", some "withheld")) 3 M_Table_withheld) : FnD P w K mg base (GK K) 5 (He.fAd K ("at_end", none)) 4 (runD 4 (f_at_end M_Table_withheld)) := by
  obtain ⟨fd, F0⟩ := c.def_ 16 (d := d_at_end) rfl
  have F : FunD K "at_end" "at_end" (defArgs s_at_end) (defBody s_at_end) (defScope s_at_end) [] [] (He.fAd K ("at_end", none)) fd := F0
  have b : Binds K fd ["table", "pays", "taken", "rule"] [] := F.bindsN fun _ _ _ _ _ _ us hl => match us, hl with | [_, _, _, _], _ => rfl
  exact fnD_of F sc_at_end b fun cdv A outer s H E hl hcd hr => (jss_one (js_ret (je_op jop_sub (je_meth (c := "Table") h_Table_withheld (takes_of rfl rfl rfl rfl) (hr.mono (by decide)) (cl_Table KX Gn c) (mt_Table_withheld KX Gn c) (je_var 0) (ja_cons (je_blt (jb_sumT rfl) (z_sum KX Gn c) PyProof.Rows.boot_sum (ja_cons (je_var 1) ja_nil)) (ja_cons (je_var 3) ja_nil))) (je_blt (jb_sumT rfl) (z_sum KX Gn c) PyProof.Rows.boot_sum (ja_cons (je_var 2) ja_nil)))))
theorem fn_for_two {M_Table_exact : DF} (h_Table_exact : FnD P w K mg base (GK K) 3 (He.fAd K ("Table", some "exact")) 2 M_Table_exact) {M_rounded : DF} (h_rounded : FnD P w K mg base (GK K) 1 (He.fAd K ("rounded", none)) 2 M_rounded) : FnD P w K mg base (GK K) 4 (He.fAd K ("for_two", none)) 4 (runD 4 (f_for_two M_Table_exact M_rounded)) := by
  obtain ⟨fd, F0⟩ := c.def_ 17 (d := d_for_two) rfl
  have F : FunD K "for_two" "for_two" (defArgs s_for_two) (defBody s_for_two) (defScope s_for_two) [] [] (He.fAd K ("for_two", none)) fd := F0
  have b : Binds K fd ["table", "one", "other", "rule"] [] := F.bindsN fun _ _ _ _ _ _ us hl => match us, hl with | [_, _, _, _], _ => rfl
  exact fnD_of F sc_for_two b fun cdv A outer s H E hl hcd hr => (jss_one (js_ret (je_op jop_mul je_int (je_call h_rounded (takes_of rfl rfl rfl rfl) (hr.mono (by decide)) (g_rounded KX Gn c) (ja_cons (je_meth (c := "Table") h_Table_exact (takes_of rfl rfl rfl rfl) (hr.mono (by decide)) (cl_Table KX Gn c) (mt_Table_exact KX Gn c) (je_var 0) (ja_cons (je_op jop_fdiv (je_op jop_add (je_var 1) (je_var 2)) je_int) ja_nil)) (ja_cons (je_var 3) ja_nil))))))
theorem fn_credits_used  : FnD P w K mg base (GK K) 1 (He.fAd K ("credits_used", none)) 2 (runD 6 (f_credits_used)) := by
  obtain ⟨fd, F0⟩ := c.def_ 20 (d := d_credits_used) rfl
  have F : FunD K "credits_used" "credits_used" (defArgs s_credits_used) (defBody s_credits_used) (defScope s_credits_used) [] [] (He.fAd K ("credits_used", none)) fd := F0
  have b : Binds K fd ["due", "credits_there"] [] := F.bindsN fun _ _ _ _ _ _ us hl => match us, hl with | [_, _], _ => rfl
  exact fnD_of F sc_credits_used b fun cdv A outer s H E hl hcd hr => (jss_cons (js_par2 2 3 rfl sc_credits_used.nd (ja_cons (je_var 0) (ja_cons (je_lst ja_nil) ja_nil)))
  (jss_cons (js_for (passes_of rfl) rfl (ji_seq (je_var 1)) (jg_name 4 sc_credits_used.nd)
  (jss_cons (js_set 5 sc_credits_used.nd (je_blt (jb_max rfl) (z_max KX Gn c) boot_max (ja_cons je_int (ja_cons (je_blt (jb_min rfl) (z_min KX Gn c) boot_min (ja_cons (je_var 2) (ja_cons (je_var 4) ja_nil))) ja_nil))))
  (jss_cons (js_expr (je_app (je_var 3) (je_var 5)))
  (jss_one (js_aug 2 sc_credits_used.nd jip_sub (je_var 5))))))
  (jss_one (js_ret (je_tup (ja_cons (je_var 2) (ja_cons (je_bty jb_tuple (z_tuple KX Gn c) boot_tuple (ja_cons (je_var 3) ja_nil)) ja_nil)))))))
theorem fn__law_year {M_credits_used : DF} (h_credits_used : FnD P w K mg base (GK K) 1 (He.fAd K ("credits_used", none)) 2 M_credits_used) {M_capped : DF} (h_capped : FnD P w K mg base (GK K) 3 (He.fAd K ("capped", none)) 5 M_capped) {M_for_two : DF} (h_for_two : FnD P w K mg base (GK K) 4 (He.fAd K ("for_two", none)) 4 M_for_two) {M__law_withheld : DF} (h__law_withheld : FnD P w K mg base (GK K) 1 (He.fAd K ("_law_withheld", none)) 2 M__law_withheld) {M_best_split : DF} (h_best_split : FnD P w K mg base (GK K) 8 (He.fAd K ("best_split", none)) 4 M_best_split) {M__law_roll : DF} (h__law_roll : FnD P w K mg base (GK K) 1 (He.fAd K ("_law_roll", none)) 2 M__law_roll) {M_at_end : DF} (h_at_end : FnD P w K mg base (GK K) 5 (He.fAd K ("at_end", none)) 4 M_at_end) {M_Table_withheld : DF} (h_Table_withheld : FnD P w K mg base (GK K) 4 (He.fAd K ("Table", some "withheld")) 3 M_Table_withheld) {M_over_year : DF} (h_over_year : FnD P w K mg base (GK K) 4 (He.fAd K ("over_year", none)) 4 M_over_year) : FnD P w K mg base (GK K) 9 (He.fAd K ("_law_year", none)) 5 (runD 12 (f__law_year M_credits_used M_capped M_for_two M__law_withheld M_best_split M__law_roll M_at_end M_Table_withheld M_over_year)) := by
  obtain ⟨fd, F0⟩ := c.def_ 50 (d := d__law_year) rfl
  have F : FunD K "_law_year" "_law_year" (defArgs s__law_year) (defBody s__law_year) (defScope s__law_year) [] [] (He.fAd K ("_law_year", none)) fd := F0
  have b : Binds K fd ["dice", "table", "steps", "much", "left"] [] := F.bindsN fun _ _ _ _ _ _ us hl => match us, hl with | [_, _, _, _, _], _ => rfl
  exact fnD_of F sc__law_year b fun cdv A outer s H E hl hcd hr => (jss_cons (js_par2 5 6 rfl sc__law_year.nd (ja_cons (je_lc rfl sc__law_year.nd (blkOk_by (own := [("k", 11)]) (N := N__law_year) (sc := defScope s__law_year) (by decide +kernel)) (ji_range1 (z_range KX Gn c) je_int) (fun _ _ _ _ _ => (jgv_name 11 sc__law_year.nd (by decide))) (fun _ _ _ _ _ => jts_nil) (fun _ _ _ _ _ => (je_call h__law_roll takes0 (hr.mono (by decide)) (g__law_roll KX Gn c) (ja_cons (je_var 0) (ja_cons je_int ja_nil))))) (ja_cons je_int ja_nil)))
  (jss_cons (js_set 7 sc__law_year.nd (je_call h_over_year (takes_of rfl rfl rfl rfl) (hr.mono (by decide)) (g_over_year KX Gn c) (ja_cons (je_var 1) (ja_cons (je_var 5) (ja_cons (je_var 6) (ja_cons je_str ja_nil))))))
  (jss_cons (js_if (jt_of (jw_or (jt_cmp (jop_ne hr.units) (je_blt (jb_sumT rfl) (z_sum KX Gn c) PyProof.Rows.boot_sum (ja_cons (je_var 7) ja_nil)) (je_meth (c := "Table") h_Table_withheld (takes_of rfl rfl rfl rfl) (hr.mono (by decide)) (cl_Table KX Gn c) (mt_Table_withheld KX Gn c) (je_var 1) (ja_cons (je_blt (jb_sumT rfl) (z_sum KX Gn c) PyProof.Rows.boot_sum (ja_cons (je_var 5) ja_nil)) (ja_cons je_str ja_nil)))) (jw_or1 (jt_cmp (jop_ne hr.units) (je_call h_at_end (takes_of rfl rfl rfl rfl) (hr.mono (by decide)) (g_at_end KX Gn c) (ja_cons (je_var 1) (ja_cons (je_var 5) (ja_cons (je_var 7) (ja_cons je_str ja_nil))))) je_int))))
  (jss_one (js_ret je_bl))
  jss_nil)
  (jss_cons (js_set 8 sc__law_year.nd (je_call h__law_roll (takes_of rfl rfl rfl rfl) (hr.mono (by decide)) (g__law_roll KX Gn c) (ja_cons (je_var 0) (ja_cons je_int ja_nil))))
  (jss_cons (js_asg (je_call h_best_split (takes_of rfl rfl rfl rfl) (hr.mono (by decide)) (g_best_split KX Gn c) (ja_cons (je_var 1) (ja_cons (je_var 8) (ja_cons je_int (ja_cons je_str ja_nil))))) (jg_tup rfl (jgs_cons (jg_name 9 sc__law_year.nd) (jgs_cons (jg_name 10 sc__law_year.nd) jgs_nil))))
  (jss_cons (js_if (jt_cmp (jop_ne hr.units) (je_var 9) (je_blt (jb_minT rfl hr.units) (z_min KX Gn c) boot_min (ja_cons (je_lc rfl sc__law_year.nd (blkOk_by (own := [("k", 11)]) (N := N__law_year) (sc := defScope s__law_year) (by decide +kernel)) (ji_range1 (z_range KX Gn c) (je_op jop_add (je_var 8) je_int)) (fun _ _ _ _ _ => (jgv_name 11 sc__law_year.nd (by decide))) (fun _ _ _ _ _ => jts_nil) (fun _ _ _ _ _ => (je_op jop_add (je_op jop_fdiv (je_call h__law_withheld takes0 (hr.mono (by decide)) (g__law_withheld KX Gn c) (ja_cons (je_var 2) (ja_cons (je_var 11) ja_nil))) je_int) (je_op jop_fdiv (je_call h__law_withheld takes0 (hr.mono (by decide)) (g__law_withheld KX Gn c) (ja_cons (je_var 2) (ja_cons (je_op jop_sub (je_var 8) (je_var 11)) ja_nil))) je_int)))) ja_nil)))
  (jss_one (js_ret je_bl))
  jss_nil)
  (jss_cons (js_if (jt_cmp (jop_ne hr.units) (je_blt (jb_sumT rfl) (z_sum KX Gn c) PyProof.Rows.boot_sum (ja_cons (je_var 10) ja_nil)) (je_var 8))
  (jss_one (js_ret je_bl))
  jss_nil)
  (jss_cons (js_if (jt_cmp (jop_ne hr.units) (je_op jop_mod (je_call h_for_two (takes_of rfl rfl rfl rfl) (hr.mono (by decide)) (g_for_two KX Gn c) (ja_cons (je_var 1) (ja_cons (je_var 3) (ja_cons (je_var 4) (ja_cons je_str ja_nil))))) je_int) je_int)
  (jss_one (js_ret je_bl))
  jss_nil)
  (jss_cons (js_if (jt_cmp (jop_ne hr.units) (je_call h_capped (takes_of rfl rfl rfl rfl) (hr.mono (by decide)) (g_capped KX Gn c) (ja_cons (je_var 3) (ja_cons (je_tup (ja_cons je_int (ja_cons je_int ja_nil))) (ja_cons je_int (ja_cons je_int (ja_cons je_str ja_nil)))))) (je_op jop_fdiv (je_blt (jb_max rfl) (z_max KX Gn c) boot_max (ja_cons je_int (ja_cons (je_op jop_sub (je_blt (jb_min rfl) (z_min KX Gn c) boot_min (ja_cons (je_var 3) (ja_cons je_int ja_nil))) je_int) ja_nil))) je_int))
  (jss_one (js_ret je_bl))
  jss_nil)
  (jss_cons (js_if (jt_of (jw_or (jt_cmp (jop_ne hr.units) (je_call h_credits_used (takes_of rfl rfl rfl rfl) (hr.mono (by decide)) (g_credits_used KX Gn c) (ja_cons je_int (ja_cons (je_tup (ja_cons je_int (ja_cons je_int (ja_cons je_int ja_nil)))) ja_nil))) (je_tup (ja_cons je_int (ja_cons (je_tup (ja_cons je_int (ja_cons je_int (ja_cons je_int ja_nil)))) ja_nil)))) (jw_or1 (jt_cmp (jop_ne hr.units) (je_call h_credits_used (takes_of rfl rfl rfl rfl) (hr.mono (by decide)) (g_credits_used KX Gn c) (ja_cons je_int (ja_cons (je_tup (ja_cons je_int (ja_cons je_int (ja_cons je_int ja_nil)))) ja_nil))) (je_tup (ja_cons je_int (ja_cons (je_tup (ja_cons je_int (ja_cons je_int (ja_cons je_int ja_nil)))) ja_nil)))))))
  (jss_one (js_ret je_bl))
  jss_nil)
  (jss_one (js_ret je_bl))))))))))))
theorem fn_Slip___init__  : FnD P w K mg base (GK K) 1 (He.fAd K ("Slip", some "__init__")) 1 (runD 1 (f_Slip___init__)) := by
  obtain ⟨fd, F0⟩ := c.def_ 27 (d := d_Slip___init__) rfl
  have F : FunD K "__init__" "Slip.__init__" (defArgs s_Slip___init__) (defBody s_Slip___init__) (defScope s_Slip___init__) [] [] (He.fAd K ("Slip", some "__init__")) fd := F0
  have b : Binds K fd ["self"] [] := F.bindsN fun _ _ _ _ _ _ us hl => match us, hl with | [_], _ => rfl
  exact fnD_of F sc_Slip___init__ b fun cdv A outer s H E hl hcd hr => (jss_one (js_fld (fl_lines KX Gn c) (je_var 0) (je_lst ja_nil)))
theorem fn_Slip_sum_of  (tb : ∀ p ∈ tf, LamX.TabB base mg (He.cT K p).1 (He.cT K p).2) (nd2 : (tf.map fun p => (He.cT K p).2).Nodup) : FnD P w K mg base (GK K) 4 (He.fAd K ("Slip", some "sum_of")) 2 (runD 5 (f_Slip_sum_of)) := by
  obtain ⟨fd, F0⟩ := c.def_ 29 (d := d_Slip_sum_of) rfl
  have F : FunD K "sum_of" "Slip.sum_of" (defArgs s_Slip_sum_of) (defBody s_Slip_sum_of) (defScope s_Slip_sum_of) [] [] (He.fAd K ("Slip", some "sum_of")) fd := F0
  have b : Binds K fd ["self", "sort"] [] := F.bindsN fun _ _ _ _ _ _ us hl => match us, hl with | [_, _], _ => rfl
  obtain ⟨fdT, FT0⟩ := c.def_ 45 (d := d__law_told) rfl
  have FT : FunD K "_law_told" "_law_told" (defArgs s__law_told) (defBody s__law_told) (defScope s__law_told) [] [] (He.fAd K ("_law_told", none)) fdT := FT0
  have bT : Binds K fdT ["what"] [] := FT.bindsN fun _ _ _ _ _ _ us hl => match us, hl with | [_], _ => rfl
  have kT := FT.kp
  obtain ⟨ocT, odT, dVT, kVT, docT, pmT, anT, cdT, ctT, oslT, rfl, lkT, hcT, _, _⟩ := FT.ex
  have hu : ∀ p ∈ (GK K).T, p.1 = (He.cT K ("Slip", some "sum_of")).2 → p.2 = (("Slip.sum_of" : Str) ++ (".<locals>." : Str)) ++ ("<genexpr>" : Str) := by
    have n2 := nd2
    simp only [tf, List.map_cons, List.map_nil, List.nodup_cons, List.mem_cons, List.not_mem_nil, or_false, not_or] at n2
    intro p hp e
    simp only [GK, List.mem_cons, List.not_mem_nil, or_false] at hp
    rcases hp with rfl | rfl | rfl | rfl | rfl | rfl | rfl | rfl | rfl
    · exfalso; simp_all
    · exfalso; simp_all
    · exfalso; simp_all
    · exfalso; simp_all
    · exfalso; simp_all
    · rfl
    · exfalso; simp_all
    · exfalso; simp_all
    · exfalso; simp_all
  refine fnD_of F sc_Slip_sum_of b fun cdv A outer s H E hl hcd hr => ?_
  have ec := code_is (p := ("Slip", some "sum_of")) hl hcd
  subst ec
  exact (jss_one (js_ret (je_sumX (k := 0) (c := (He.cT K ("Slip", some "sum_of")).1) (P := (He.cT K ("Slip", some "sum_of")).2) (hr.mono (by decide)) (z_sum KX Gn c) (tb ("Slip", some "sum_of") (List.Mem.tail _ (List.Mem.tail _ (List.Mem.tail _ (List.Mem.tail _ (List.Mem.tail _ (List.Mem.head _))))))) rfl (List.Mem.tail _ (List.Mem.tail _ (List.Mem.tail _ (List.Mem.tail _ (List.Mem.tail _ (List.Mem.head _)))))) hu sc_Slip_sum_of.nd (genB_by (N := N_Slip_sum_of) (sc := defScope s_Slip_sum_of) (own := [("name", 2), ("mine", 3), ("count", 4)]) (by decide +kernel)) (ji_seq (je_fld (fl_lines KX Gn c) (je_var 0))) (fun _ _ _ _ hrg => (jgv_tup rfl (jgsv_cons (jgv_name 2 sc_Slip_sum_of.nd (by decide)) (jgsv_cons (jgv_name 3 sc_Slip_sum_of.nd (by decide)) (jgsv_cons (jgv_name 4 sc_Slip_sum_of.nd (by decide)) jgsv_nil))))) (fun _ _ _ _ hrg => (jts_one (jt_cmp (jop_eq hrg.units) (je_var 3) (je_var 1)))) (fun _ _ _ _ hrg => (je_var 4)))))
theorem fn_Slip_line  : FnD P w K mg base (GK K) 1 (He.fAd K ("Slip", some "line")) 4 (runD 5 (f_Slip_line)) := by
  obtain ⟨fd, F0⟩ := c.def_ 28 (d := d_Slip_line) rfl
  have F : FunD K "line" "Slip.line" (defArgs s_Slip_line) (defBody s_Slip_line) (defScope s_Slip_line) [] [] (He.fAd K ("Slip", some "line")) fd := F0
  have b : Binds K fd ["self", "name", "sort", "count"] [] := F.bindsN fun _ _ _ _ _ _ us hl => match us, hl with | [_, _, _, _], _ => rfl
  exact fnD_of F sc_Slip_line b fun cdv A outer s H E hl hcd hr => (jss_cons (js_if (jt_of (jw_or (jt_cmp jop_notIn (je_var 2) (je_tup (ja_cons je_str (ja_cons je_str (ja_cons je_str ja_nil))))) (jw_or (jt_cmp jop_lt (je_var 3) je_int) (jw_or1 (jt_cmp jop_in (je_var 1) (je_lc rfl sc_Slip_line.nd (blkOk_by (own := [("one", 4)]) (N := N_Slip_line) (sc := defScope s_Slip_line) (by decide +kernel)) (ji_seq (je_fld (fl_lines KX Gn c) (je_var 0))) (fun _ _ _ _ _ => (jgv_name 4 sc_Slip_line.nd (by decide))) (fun _ _ _ _ _ => jts_nil) (fun _ _ _ _ _ => (je_ix (je_var 4) je_int))))))))
  (jss_one (js_raise (c := "BadRule") rfl (takes_of rfl rfl rfl rfl) PySem.F.excBase_ValueError (x_BadRule KX Gn c).1 (g_BadRule KX Gn c) (x_BadRule KX Gn c).2.1 (raises_own (x_BadRule KX Gn c).2.2.1 (x_BadRule KX Gn c).2.2.2)))
  jss_nil)
  (jss_one (js_expr (je_app (je_fld (fl_lines KX Gn c) (je_var 0)) (je_tup (ja_cons (je_var 1) (ja_cons (je_var 2) (ja_cons (je_var 3) ja_nil))))))))
theorem fn_made {M_Slip_line : DF} (h_Slip_line : FnD P w K mg base (GK K) 1 (He.fAd K ("Slip", some "line")) 4 M_Slip_line) {M_times : DF} (h_times : FnD P w K mg base (GK K) 2 (He.fAd K ("times", none)) 2 M_times) {M_rounded : DF} (h_rounded : FnD P w K mg base (GK K) 1 (He.fAd K ("rounded", none)) 2 M_rounded) {M_Table_withheld : DF} (h_Table_withheld : FnD P w K mg base (GK K) 4 (He.fAd K ("Table", some "withheld")) 3 M_Table_withheld) {M_Slip_sum_of : DF} (h_Slip_sum_of : FnD P w K mg base (GK K) 4 (He.fAd K ("Slip", some "sum_of")) 2 M_Slip_sum_of) {M_Slip___init__ : DF} (h_Slip___init__ : FnD P w K mg base (GK K) 1 (He.fAd K ("Slip", some "__init__")) 1 M_Slip___init__) : FnD P w K mg base (GK K) 5 (He.fAd K ("made", none)) 4 (runD 10 (f_made M_Slip_line M_times M_rounded M_Table_withheld M_Slip_sum_of M_Slip___init__)) := by
  obtain ⟨fd, F0⟩ := c.def_ 33 (d := d_made) rfl
  have F : FunD K "made" "made" (defArgs s_made) (defBody s_made) (defScope s_made) [] [] (He.fAd K ("made", none)) fd := F0
  have b : Binds K fd ["pays", "free", "table", "funds"] [] := F.bindsN fun _ _ _ _ _ _ us hl => match us, hl with | [_, _, _, _], _ => rfl
  exact fnD_of F sc_made b fun cdv A outer s H E hl hcd hr => (jss_cons (js_set 4 sc_made.nd (je_make0 (c := "Slip") h_Slip___init__ (mk_Slip KX Gn c) (takes_of rfl rfl rfl rfl) (hr.mono (by decide)) (g_Slip KX Gn c)))
  (jss_cons (js_for (passes_of rfl) rfl (ji_seq (je_var 0)) (jg_tup rfl (jgs_cons (jg_name 5 sc_made.nd) (jgs_cons (jg_name 6 sc_made.nd) jgs_nil)))
  (jss_one (js_expr (je_meth (c := "Slip") h_Slip_line (takes_of rfl rfl rfl rfl) (hr.mono (by decide)) (cl_Slip KX Gn c) (mt_Slip_line KX Gn c) (je_var 4) (ja_cons (je_var 5) (ja_cons je_str (ja_cons (je_var 6) ja_nil)))))))
  (jss_cons (js_for (passes_of rfl) rfl (ji_seq (je_var 1)) (jg_tup rfl (jgs_cons (jg_name 5 sc_made.nd) (jgs_cons (jg_name 6 sc_made.nd) jgs_nil)))
  (jss_one (js_expr (je_meth (c := "Slip") h_Slip_line (takes_of rfl rfl rfl rfl) (hr.mono (by decide)) (cl_Slip KX Gn c) (mt_Slip_line KX Gn c) (je_var 4) (ja_cons (je_var 5) (ja_cons je_str (ja_cons (je_var 6) ja_nil)))))))
  (jss_cons (js_set 7 sc_made.nd (je_meth (c := "Slip") h_Slip_sum_of (takes_of rfl rfl rfl rfl) (hr.mono (by decide)) (cl_Slip KX Gn c) (mt_Slip_sum_of KX Gn c) (je_var 4) (ja_cons je_str ja_nil)))
  (jss_cons (js_expr (je_meth (c := "Slip") h_Slip_line (takes_of rfl rfl rfl rfl) (hr.mono (by decide)) (cl_Slip KX Gn c) (mt_Slip_line KX Gn c) (je_var 4) (ja_cons je_str (ja_cons je_str (ja_cons (je_meth (c := "Table") h_Table_withheld (takes_of rfl rfl rfl rfl) (hr.mono (by decide)) (cl_Table KX Gn c) (mt_Table_withheld KX Gn c) (je_var 2) (ja_cons (je_var 7) (ja_cons je_str ja_nil))) ja_nil)))))
  (jss_cons (js_for (passes_of rfl) rfl (ji_seq (je_var 3)) (jg_tup rfl (jgs_cons (jg_name 5 sc_made.nd) (jgs_cons (jg_name 8 sc_made.nd) (jgs_cons (jg_name 9 sc_made.nd) jgs_nil))))
  (jss_one (js_expr (je_meth (c := "Slip") h_Slip_line (takes_of rfl rfl rfl rfl) (hr.mono (by decide)) (cl_Slip KX Gn c) (mt_Slip_line KX Gn c) (je_var 4) (ja_cons (je_var 5) (ja_cons je_str (ja_cons (je_call h_rounded (takes_of rfl rfl rfl rfl) (hr.mono (by decide)) (g_rounded KX Gn c) (ja_cons (je_call h_times (takes_of rfl rfl rfl rfl) (hr.mono (by decide)) (g_times KX Gn c) (ja_cons (je_tup (ja_cons (je_blt (jb_min rfl) (z_min KX Gn c) boot_min (ja_cons (je_var 7) (ja_cons (je_var 9) ja_nil))) (ja_cons je_int ja_nil))) (ja_cons (je_var 8) ja_nil))) (ja_cons je_str ja_nil))) ja_nil)))))))
  (jss_one (js_ret (je_var 4)))))))))
theorem fn_Slip_gross {M_Slip_sum_of : DF} (h_Slip_sum_of : FnD P w K mg base (GK K) 4 (He.fAd K ("Slip", some "sum_of")) 2 M_Slip_sum_of) : FnD P w K mg base (GK K) 5 (He.fAd K ("Slip", some "gross")) 1 (runD 1 (f_Slip_gross M_Slip_sum_of)) := by
  obtain ⟨fd, F0⟩ := c.def_ 30 (d := d_Slip_gross) rfl
  have F : FunD K "gross" "Slip.gross" (defArgs s_Slip_gross) (defBody s_Slip_gross) (defScope s_Slip_gross) [] [] (He.fAd K ("Slip", some "gross")) fd := F0
  have b : Binds K fd ["self"] [] := F.bindsN fun _ _ _ _ _ _ us hl => match us, hl with | [_], _ => rfl
  exact fnD_of F sc_Slip_gross b fun cdv A outer s H E hl hcd hr => (jss_one (js_ret (je_op jop_add (je_meth (c := "Slip") h_Slip_sum_of (takes_of rfl rfl rfl rfl) (hr.mono (by decide)) (cl_Slip KX Gn c) (mt_Slip_sum_of KX Gn c) (je_var 0) (ja_cons je_str ja_nil)) (je_meth (c := "Slip") h_Slip_sum_of (takes_of rfl rfl rfl rfl) (hr.mono (by decide)) (cl_Slip KX Gn c) (mt_Slip_sum_of KX Gn c) (je_var 0) (ja_cons je_str ja_nil)))))
theorem fn_Slip_net {M_Slip_gross : DF} (h_Slip_gross : FnD P w K mg base (GK K) 5 (He.fAd K ("Slip", some "gross")) 1 M_Slip_gross) {M_Slip_sum_of : DF} (h_Slip_sum_of : FnD P w K mg base (GK K) 4 (He.fAd K ("Slip", some "sum_of")) 2 M_Slip_sum_of) : FnD P w K mg base (GK K) 6 (He.fAd K ("Slip", some "net")) 1 (runD 1 (f_Slip_net M_Slip_gross M_Slip_sum_of)) := by
  obtain ⟨fd, F0⟩ := c.def_ 31 (d := d_Slip_net) rfl
  have F : FunD K "net" "Slip.net" (defArgs s_Slip_net) (defBody s_Slip_net) (defScope s_Slip_net) [] [] (He.fAd K ("Slip", some "net")) fd := F0
  have b : Binds K fd ["self"] [] := F.bindsN fun _ _ _ _ _ _ us hl => match us, hl with | [_], _ => rfl
  exact fnD_of F sc_Slip_net b fun cdv A outer s H E hl hcd hr => (jss_one (js_ret (je_op jop_sub (je_meth0 (c := "Slip") h_Slip_gross (takes_of rfl rfl rfl rfl) (hr.mono (by decide)) (cl_Slip KX Gn c) (mt_Slip_gross KX Gn c) (je_var 0)) (je_meth (c := "Slip") h_Slip_sum_of (takes_of rfl rfl rfl rfl) (hr.mono (by decide)) (cl_Slip KX Gn c) (mt_Slip_sum_of KX Gn c) (je_var 0) (ja_cons je_str ja_nil)))))
theorem fn_net_of {M_made : DF} (h_made : FnD P w K mg base (GK K) 5 (He.fAd K ("made", none)) 4 M_made) {M_Slip_net : DF} (h_Slip_net : FnD P w K mg base (GK K) 6 (He.fAd K ("Slip", some "net")) 1 M_Slip_net) : FnD P w K mg base (GK K) 7 (He.fAd K ("net_of", none)) 3 (runD 3 (f_net_of M_made M_Slip_net)) := by
  obtain ⟨fd, F0⟩ := c.def_ 35 (d := d_net_of) rfl
  have F : FunD K "net_of" "net_of" (defArgs s_net_of) (defBody s_net_of) (defScope s_net_of) [] [] (He.fAd K ("net_of", none)) fd := F0
  have b : Binds K fd ["pay", "table", "funds"] [] := F.bindsN fun _ _ _ _ _ _ us hl => match us, hl with | [_, _, _], _ => rfl
  exact fnD_of F sc_net_of b fun cdv A outer s H E hl hcd hr => (jss_one (js_ret (je_meth0 (c := "Slip") h_Slip_net (takes_of rfl rfl rfl rfl) (hr.mono (by decide)) (cl_Slip KX Gn c) (mt_Slip_net KX Gn c) (je_call h_made (takes_of rfl rfl rfl rfl) (hr.mono (by decide)) (g_made KX Gn c) (ja_cons (je_tup (ja_cons (je_tup (ja_cons je_str (ja_cons (je_var 0) ja_nil))) ja_nil)) (ja_cons (je_tup ja_nil) (ja_cons (je_var 1) (ja_cons (je_var 2) ja_nil))))))))
theorem fn_gross_for {M_net_of : DF} (h_net_of : FnD P w K mg base (GK K) 7 (He.fAd K ("net_of", none)) 3 M_net_of) : FnD P w K mg base (GK K) 8 (He.fAd K ("gross_for", none)) 4 (runD 6 (f_gross_for M_net_of)) := by
  obtain ⟨fd, F0⟩ := c.def_ 34 (d := d_gross_for) rfl
  have F : FunD K "gross_for" "gross_for" (defArgs s_gross_for) (defBody s_gross_for) (defScope s_gross_for) [] [] (He.fAd K ("gross_for", none)) fd := F0
  have b : Binds K fd ["net", "table", "funds", "most"] [] := F.bindsN fun _ _ _ _ _ _ us hl => match us, hl with | [_, _, _, _], _ => rfl
  exact fnD_of F sc_gross_for b fun cdv A outer s H E hl hcd hr => (jss_cons (js_set 4 sc_gross_for.nd (je_blt (jb_max rfl) (z_max KX Gn c) boot_max (ja_cons je_int (ja_cons (je_var 0) ja_nil))))
  (jss_cons (js_while (passes_of rfl) (jt_cmp jop_le (je_var 4) (je_var 3)) (jss_cons (js_set 5 sc_gross_for.nd (je_op jop_sub (je_var 0) (je_call h_net_of (takes_of rfl rfl rfl rfl) (hr.mono (by decide)) (g_net_of KX Gn c) (ja_cons (je_var 4) (ja_cons (je_var 1) (ja_cons (je_var 2) ja_nil))))))
  (jss_cons (js_if (jt_cmp jop_le (je_var 5) je_int)
  (jss_one (js_ret (je_var 4)))
  jss_nil)
  (jss_one (js_aug 4 sc_gross_for.nd jip_add (je_blt (jb_max rfl) (z_max KX Gn c) boot_max (ja_cons je_int (ja_cons (je_op jop_sub (je_op jop_sub (je_var 5) (je_blt jb_len (z_len KX Gn c) boot_len (ja_cons (je_var 2) ja_nil))) je_int) ja_nil))))))))
  (jss_one (js_raise (c := "NoAnswer") rfl (takes_of rfl rfl rfl rfl) PySem.F.excBase_ValueError (x_NoAnswer KX Gn c).1 (g_NoAnswer KX Gn c) (x_NoAnswer KX Gn c).2.1 (raises_own (x_NoAnswer KX Gn c).2.2.1 (x_NoAnswer KX Gn c).2.2.2)))))
theorem fn_Slip_hold {M_Slip_line : DF} (h_Slip_line : FnD P w K mg base (GK K) 1 (He.fAd K ("Slip", some "line")) 4 M_Slip_line) {M_Slip_net : DF} (h_Slip_net : FnD P w K mg base (GK K) 6 (He.fAd K ("Slip", some "net")) 1 M_Slip_net) : FnD P w K mg base (GK K) 7 (He.fAd K ("Slip", some "hold")) 3 (runD 7 (f_Slip_hold M_Slip_line M_Slip_net)) := by
  obtain ⟨fd, F0⟩ := c.def_ 32 (d := d_Slip_hold) rfl
  have F : FunD K "hold" "Slip.hold" (defArgs s_Slip_hold) (defBody s_Slip_hold) (defScope s_Slip_hold) [] [] (He.fAd K ("Slip", some "hold")) fd := F0
  have b : Binds K fd ["self", "asks", "floor"] [] := F.bindsN fun _ _ _ _ _ _ us hl => match us, hl with | [_, _, _], _ => rfl
  exact fnD_of F sc_Slip_hold b fun cdv A outer s H E hl hcd hr => (jss_cons (js_set 3 sc_Slip_hold.nd (je_lst ja_nil))
  (jss_cons (js_for (passes_of rfl) rfl (ji_seq (je_var 1)) (jg_tup rfl (jgs_cons (jg_name 4 sc_Slip_hold.nd) (jgs_cons (jg_name 5 sc_Slip_hold.nd) jgs_nil)))
  (jss_cons (js_set 6 sc_Slip_hold.nd (je_blt (jb_max rfl) (z_max KX Gn c) boot_max (ja_cons je_int (ja_cons (je_blt (jb_min rfl) (z_min KX Gn c) boot_min (ja_cons (je_var 5) (ja_cons (je_op jop_sub (je_meth0 (c := "Slip") h_Slip_net (takes_of rfl rfl rfl rfl) (hr.mono (by decide)) (cl_Slip KX Gn c) (mt_Slip_net KX Gn c) (je_var 0)) (je_var 2)) ja_nil))) ja_nil))))
  (jss_cons (js_if (jt_cmp jop_gt (je_var 6) je_int)
  (jss_one (js_expr (je_meth (c := "Slip") h_Slip_line (takes_of rfl rfl rfl rfl) (hr.mono (by decide)) (cl_Slip KX Gn c) (mt_Slip_line KX Gn c) (je_var 0) (ja_cons (je_var 4) (ja_cons je_str (ja_cons (je_var 6) ja_nil))))))
  jss_nil)
  (jss_one (js_expr (je_app (je_var 3) (je_op jop_sub (je_var 5) (je_var 6))))))))
  (jss_one (js_ret (je_bty jb_tuple (z_tuple KX Gn c) boot_tuple (ja_cons (je_var 3) ja_nil))))))
theorem fn_bonus {M_part : DF} (h_part : FnD P w K mg base (GK K) 1 (He.fAd K ("part", none)) 2 M_part) {M_rounded : DF} (h_rounded : FnD P w K mg base (GK K) 1 (He.fAd K ("rounded", none)) 2 M_rounded) : FnD P w K mg base (GK K) 2 (He.fAd K ("bonus", none)) 4 (runD 12 (f_bonus M_part M_rounded)) := by
  obtain ⟨fd, F0⟩ := c.def_ 39 (d := d_bonus) rfl
  have F : FunD K "bonus" "bonus" (defArgs s_bonus) (defBody s_bonus) (defScope s_bonus) [] [] (He.fAd K ("bonus", none)) fd := F0
  have b : Binds K fd ["counts", "goals", "pool", "rule"] [] := F.bindsN fun _ _ _ _ _ _ us hl => match us, hl with | [_, _, _, _], _ => rfl
  exact fnD_of F sc_bonus b fun cdv A outer s H E hl hcd hr => (jss_cons (js_setLc 4 rfl sc_bonus.nd (blkOk_by (own := [("count", 10), ("goal", 11)]) (N := N_bonus) (sc := defScope s_bonus) (by decide +kernel)) (ji_zip (z_zip KX Gn c) (je_var 0) (je_var 1)) (fun _ _ _ _ _ => (jgv_tup rfl (jgsv_cons (jgv_name 10 sc_bonus.nd (by decide)) (jgsv_cons (jgv_name 11 sc_bonus.nd (by decide)) jgsv_nil)))) (fun _ _ _ _ _ => jts_nil) (fun _ _ _ _ _ => (je_blt (jb_max rfl) (z_max KX Gn c) boot_max (ja_cons je_int (ja_cons (je_op jop_sub (je_var 10) (je_var 11)) ja_nil)))) (sw_true rfl rfl rfl (by decide +kernel)))
  (jss_cons (js_set 5 sc_bonus.nd (je_blt (jb_sumT rfl) (z_sum KX Gn c) PyProof.Rows.boot_sum (ja_cons (je_var 4) ja_nil)))
  (jss_cons (js_if (jt_cmp (jop_eq hr.units) (je_var 5) je_int)
  (jss_one (js_ret (je_op jop_mul (je_tup (ja_cons je_int ja_nil)) (je_blt jb_len (z_len KX Gn c) boot_len (ja_cons (je_var 4) ja_nil)))))
  jss_nil)
  (jss_cons (js_par2 6 7 rfl sc_bonus.nd (ja_cons (je_lst ja_nil) (ja_cons (je_var 2) ja_nil)))
  (jss_cons (js_for (passes_of rfl) rfl (ji_seq (je_var 4)) (jg_name 8 sc_bonus.nd)
  (jss_cons (js_set 9 sc_bonus.nd (je_blt (jb_min rfl) (z_min KX Gn c) boot_min (ja_cons (je_var 7) (ja_cons (je_call h_rounded (takes_of rfl rfl rfl rfl) (hr.mono (by decide)) (g_rounded KX Gn c) (ja_cons (je_call h_part (takes_of rfl rfl rfl rfl) (hr.mono (by decide)) (g_part KX Gn c) (ja_cons (je_op jop_mul (je_var 2) (je_var 8)) (ja_cons (je_var 5) ja_nil))) (ja_cons (je_var 3) ja_nil))) ja_nil))))
  (jss_cons (js_expr (je_app (je_var 6) (je_var 9)))
  (jss_one (js_aug 7 sc_bonus.nd jip_sub (je_var 9))))))
  (jss_one (js_ret (je_bty jb_tuple (z_tuple KX Gn c) boot_tuple (ja_cons (je_var 6) ja_nil)))))))))
theorem fn_is_even {M_times : DF} (h_times : FnD P w K mg base (GK K) 2 (He.fAd K ("times", none)) 2 M_times) {M_order : DF} (h_order : FnD P w K mg base (GK K) 1 (He.fAd K ("order", none)) 2 M_order) : FnD P w K mg base (GK K) 3 (He.fAd K ("is_even", none)) 3 (runD 7 (f_is_even M_times M_order)) := by
  obtain ⟨fd, F0⟩ := c.def_ 41 (d := d_is_even) rfl
  have F : FunD K "is_even" "is_even" (defArgs s_is_even) (defBody s_is_even) (defScope s_is_even) [] [] (He.fAd K ("is_even", none)) fd := F0
  have b : Binds K fd ["rates", "work", "slack"] [] := F.bindsN fun _ _ _ _ _ _ us hl => match us, hl with | [_, _, _], _ => rfl
  exact fnD_of F sc_is_even b fun cdv A outer s H E hl hcd hr => (jss_cons (js_for (passes_of rfl) rfl (ji_range1 (z_range KX Gn c) (je_blt jb_len (z_len KX Gn c) boot_len (ja_cons (je_var 0) ja_nil))) (jg_name 3 sc_is_even.nd)
  (jss_one (js_for (passes_of rfl) rfl (ji_range1 (z_range KX Gn c) (je_var 3)) (jg_name 4 sc_is_even.nd)
  (jss_one (js_if (jt_cmp (jop_eq hr.units) (je_ix (je_var 1) (je_var 4)) (je_ix (je_var 1) (je_var 3)))
  (jss_cons (js_par2 5 6 rfl sc_is_even.nd (ja_cons (je_blt (jb_min rfl) (z_min KX Gn c) boot_min (ja_cons (je_ix (je_var 0) (je_var 4)) (ja_cons (je_ix (je_var 0) (je_var 3)) ja_nil))) (ja_cons (je_blt (jb_max rfl) (z_max KX Gn c) boot_max (ja_cons (je_ix (je_var 0) (je_var 4)) (ja_cons (je_ix (je_var 0) (je_var 3)) ja_nil))) ja_nil)))
  (jss_one (js_if (jt_cmp jop_gt (je_call h_order (takes_of rfl rfl rfl rfl) (hr.mono (by decide)) (g_order KX Gn c) (ja_cons (je_tup (ja_cons (je_op jop_sub (je_var 6) (je_var 5)) (ja_cons je_int ja_nil))) (ja_cons (je_call h_times (takes_of rfl rfl rfl rfl) (hr.mono (by decide)) (g_times KX Gn c) (ja_cons (je_tup (ja_cons (je_var 5) (ja_cons je_int ja_nil))) (ja_cons (je_var 2) ja_nil))) ja_nil))) je_int)
  (jss_one (js_ret (je_tup (ja_cons (je_var 4) (ja_cons (je_var 3) ja_nil)))))
  jss_nil)))
  jss_nil)))))
  (jss_one (js_ret je_non)))
theorem fn_by_minutes {M_part : DF} (h_part : FnD P w K mg base (GK K) 1 (He.fAd K ("part", none)) 2 M_part) {M_times : DF} (h_times : FnD P w K mg base (GK K) 2 (He.fAd K ("times", none)) 2 M_times) {M_rounded : DF} (h_rounded : FnD P w K mg base (GK K) 1 (He.fAd K ("rounded", none)) 2 M_rounded) : FnD P w K mg base (GK K) 3 (He.fAd K ("by_minutes", none)) 3 (runD 3 (f_by_minutes M_part M_times M_rounded)) := by
  obtain ⟨fd, F0⟩ := c.def_ 25 (d := d_by_minutes) rfl
  have F : FunD K "by_minutes" "by_minutes" (defArgs s_by_minutes) (defBody s_by_minutes) (defScope s_by_minutes) [] [] (He.fAd K ("by_minutes", none)) fd := F0
  have b : Binds K fd ["minutes", "rate", "much"] [] := F.bindsN fun _ _ _ _ _ _ us hl => match us, hl with | [_, _, _], _ => rfl
  exact fnD_of F sc_by_minutes b fun cdv A outer s H E hl hcd hr => (jss_cons (js_if (jt_of (jw_or (jt_cmp jop_lt (je_var 0) je_int) (jw_or1 (jt_cmp jop_lt (je_var 1) je_int))))
  (jss_one (js_raise (c := "BadRule") rfl (takes_of rfl rfl rfl rfl) PySem.F.excBase_ValueError (x_BadRule KX Gn c).1 (g_BadRule KX Gn c) (x_BadRule KX Gn c).2.1 (raises_own (x_BadRule KX Gn c).2.2.1 (x_BadRule KX Gn c).2.2.2)))
  jss_nil)
  (jss_one (js_ret (je_call h_rounded (takes_of rfl rfl rfl rfl) (hr.mono (by decide)) (g_rounded KX Gn c) (ja_cons (je_call h_times (takes_of rfl rfl rfl rfl) (hr.mono (by decide)) (g_times KX Gn c) (ja_cons (je_call h_part (takes_of rfl rfl rfl rfl) (hr.mono (by decide)) (g_part KX Gn c) (ja_cons (je_op jop_mul (je_var 0) (je_var 1)) (ja_cons je_int ja_nil))) (ja_cons (je_var 2) ja_nil))) (ja_cons je_str ja_nil))))))
theorem fn_split_days  (tb : ∀ p ∈ tf, LamX.TabB base mg (He.cT K p).1 (He.cT K p).2) (nd2 : (tf.map fun p => (He.cT K p).2).Nodup) : FnD P w K mg base (GK K) 4 (He.fAd K ("split_days", none)) 2 (runD 6 (f_split_days)) := by
  obtain ⟨fd, F0⟩ := c.def_ 24 (d := d_split_days) rfl
  have F : FunD K "split_days" "split_days" (defArgs s_split_days) (defBody s_split_days) (defScope s_split_days) [] [] (He.fAd K ("split_days", none)) fd := F0
  have b : Binds K fd ["minutes", "day_bounds"] [] := F.bindsN fun _ _ _ _ _ _ us hl => match us, hl with | [_, _], _ => rfl
  obtain ⟨fdT, FT0⟩ := c.def_ 45 (d := d__law_told) rfl
  have FT : FunD K "_law_told" "_law_told" (defArgs s__law_told) (defBody s__law_told) (defScope s__law_told) [] [] (He.fAd K ("_law_told", none)) fdT := FT0
  have bT : Binds K fdT ["what"] [] := FT.bindsN fun _ _ _ _ _ _ us hl => match us, hl with | [_], _ => rfl
  have kT := FT.kp
  obtain ⟨ocT, odT, dVT, kVT, docT, pmT, anT, cdT, ctT, oslT, rfl, lkT, hcT, _, _⟩ := FT.ex
  have hu : ∀ p ∈ (GK K).T, p.1 = (He.cT K ("split_days", none)).2 → p.2 = (("split_days" : Str) ++ (".<locals>." : Str)) ++ ("<genexpr>" : Str) := by
    have n2 := nd2
    simp only [tf, List.map_cons, List.map_nil, List.nodup_cons, List.mem_cons, List.not_mem_nil, or_false, not_or] at n2
    intro p hp e
    simp only [GK, List.mem_cons, List.not_mem_nil, or_false] at hp
    rcases hp with rfl | rfl | rfl | rfl | rfl | rfl | rfl | rfl | rfl
    · exfalso; simp_all
    · exfalso; simp_all
    · exfalso; simp_all
    · rfl
    · exfalso; simp_all
    · exfalso; simp_all
    · exfalso; simp_all
    · exfalso; simp_all
    · exfalso; simp_all
  refine fnD_of F sc_split_days b fun cdv A outer s H E hl hcd hr => ?_
  have ec := code_is (p := ("split_days", none)) hl hcd
  subst ec
  exact (jss_cons (js_if (jt_of (jw_or (jt_cmp (jop_ne hr.units) (je_bty jb_list (z_list KX Gn c) boot_list (ja_cons (je_var 1) ja_nil)) (je_blt jb_sorted (z_sorted KX Gn c) PyProof.Rows.boot_sorted (ja_cons (je_var 1) ja_nil))) (jw_or1 (jt_val (je_anyX (k := 0) (c := (He.cT K ("split_days", none)).1) (P := (He.cT K ("split_days", none)).2) (hr.mono (by decide)) (z_any KX Gn c) (tb ("split_days", none) (List.Mem.tail _ (List.Mem.tail _ (List.Mem.tail _ (List.Mem.head _))))) rfl (List.Mem.tail _ (List.Mem.tail _ (List.Mem.tail _ (List.Mem.head _)))) hu sc_split_days.nd (genB_by (N := N_split_days) (sc := defScope s_split_days) (own := [("one", 5)]) (by decide +kernel)) (ji_seq (je_var 1)) (fun _ _ _ _ hrg => (jgv_name 5 sc_split_days.nd (by decide))) (fun _ _ _ _ hrg => jts_nil) (fun _ _ _ _ hrg => (je_cmp jop_lt (je_var 5) je_int)))))))
  (jss_one (js_raise (c := "BadRule") rfl (takes_of rfl rfl rfl rfl) PySem.F.excBase_ValueError (x_BadRule KX Gn c).1 (g_BadRule KX Gn c) (x_BadRule KX Gn c).2.1 (raises_own (x_BadRule KX Gn c).2.2.1 (x_BadRule KX Gn c).2.2.2)))
  jss_nil)
  (jss_cons (js_par2 2 3 rfl sc_split_days.nd (ja_cons (je_lst ja_nil) (ja_cons je_int ja_nil)))
  (jss_cons (js_for (passes_of rfl) rfl (ji_seq (je_var 1)) (jg_name 4 sc_split_days.nd)
  (jss_cons (js_expr (je_app (je_var 2) (je_blt (jb_max rfl) (z_max KX Gn c) boot_max (ja_cons je_int (ja_cons (je_op jop_sub (je_blt (jb_min rfl) (z_min KX Gn c) boot_min (ja_cons (je_var 0) (ja_cons (je_var 4) ja_nil))) (je_var 3)) ja_nil)))))
  (jss_one (js_set 3 sc_split_days.nd (je_var 4)))))
  (jss_one (js_ret (je_op jop_add (je_bty jb_tuple (z_tuple KX Gn c) boot_tuple (ja_cons (je_var 2) ja_nil)) (je_tup (ja_cons (je_blt (jb_max rfl) (z_max KX Gn c) boot_max (ja_cons je_int (ja_cons (je_op jop_sub (je_var 0) (je_var 3)) ja_nil))) ja_nil))))))))
theorem fn_day_pay {M_split_days : DF} (h_split_days : FnD P w K mg base (GK K) 4 (He.fAd K ("split_days", none)) 2 M_split_days) {M_by_minutes : DF} (h_by_minutes : FnD P w K mg base (GK K) 3 (He.fAd K ("by_minutes", none)) 3 M_by_minutes) (tb : ∀ p ∈ tf, LamX.TabB base mg (He.cT K p).1 (He.cT K p).2) (nd2 : (tf.map fun p => (He.cT K p).2).Nodup) : FnD P w K mg base (GK K) 7 (He.fAd K ("day_pay", none)) 4 (runD 6 (f_day_pay M_split_days M_by_minutes)) := by
  obtain ⟨fd, F0⟩ := c.def_ 26 (d := d_day_pay) rfl
  have F : FunD K "day_pay" "day_pay" (defArgs s_day_pay) (defBody s_day_pay) (defScope s_day_pay) [] [] (He.fAd K ("day_pay", none)) fd := F0
  have b : Binds K fd ["minutes", "rate", "bounds", "parts_there"] [] := F.bindsN fun _ _ _ _ _ _ us hl => match us, hl with | [_, _, _, _], _ => rfl
  obtain ⟨fdT, FT0⟩ := c.def_ 45 (d := d__law_told) rfl
  have FT : FunD K "_law_told" "_law_told" (defArgs s__law_told) (defBody s__law_told) (defScope s__law_told) [] [] (He.fAd K ("_law_told", none)) fdT := FT0
  have bT : Binds K fdT ["what"] [] := FT.bindsN fun _ _ _ _ _ _ us hl => match us, hl with | [_], _ => rfl
  have kT := FT.kp
  obtain ⟨ocT, odT, dVT, kVT, docT, pmT, anT, cdT, ctT, oslT, rfl, lkT, hcT, _, _⟩ := FT.ex
  have hu : ∀ p ∈ (GK K).T, p.1 = (He.cT K ("day_pay", none)).2 → p.2 = (("day_pay" : Str) ++ (".<locals>." : Str)) ++ ("<genexpr>" : Str) := by
    have n2 := nd2
    simp only [tf, List.map_cons, List.map_nil, List.nodup_cons, List.mem_cons, List.not_mem_nil, or_false, not_or] at n2
    intro p hp e
    simp only [GK, List.mem_cons, List.not_mem_nil, or_false] at hp
    rcases hp with rfl | rfl | rfl | rfl | rfl | rfl | rfl | rfl | rfl
    · exfalso; simp_all
    · exfalso; simp_all
    · exfalso; simp_all
    · exfalso; simp_all
    · rfl
    · exfalso; simp_all
    · exfalso; simp_all
    · exfalso; simp_all
    · exfalso; simp_all
  refine fnD_of F sc_day_pay b fun cdv A outer s H E hl hcd hr => ?_
  have ec := code_is (p := ("day_pay", none)) hl hcd
  subst ec
  exact (jss_cons (js_if (jt_cmp (jop_ne hr.units) (je_blt jb_len (z_len KX Gn c) boot_len (ja_cons (je_var 3) ja_nil)) (je_op jop_add (je_blt jb_len (z_len KX Gn c) boot_len (ja_cons (je_var 2) ja_nil)) je_int))
  (jss_one (js_raise (c := "BadRule") rfl (takes_of rfl rfl rfl rfl) PySem.F.excBase_ValueError (x_BadRule KX Gn c).1 (g_BadRule KX Gn c) (x_BadRule KX Gn c).2.1 (raises_own (x_BadRule KX Gn c).2.2.1 (x_BadRule KX Gn c).2.2.2)))
  jss_nil)
  (jss_one (js_ret (je_sumX (k := 3) (c := (He.cT K ("day_pay", none)).1) (P := (He.cT K ("day_pay", none)).2) (hr.mono (by decide)) (z_sum KX Gn c) (tb ("day_pay", none) (List.Mem.tail _ (List.Mem.tail _ (List.Mem.tail _ (List.Mem.tail _ (List.Mem.head _)))))) rfl (List.Mem.tail _ (List.Mem.tail _ (List.Mem.tail _ (List.Mem.tail _ (List.Mem.head _))))) hu sc_day_pay.nd (genB_by (N := N_day_pay) (sc := defScope s_day_pay) (own := [("one", 4), ("much", 5)]) (by decide +kernel)) (ji_zip (z_zip KX Gn c) (je_call h_split_days (takes_of rfl rfl rfl rfl) (hr.mono (by decide)) (g_split_days KX Gn c) (ja_cons (je_var 0) (ja_cons (je_var 2) ja_nil))) (je_var 3)) (fun _ _ _ _ hrg => (jgv_tup rfl (jgsv_cons (jgv_name 4 sc_day_pay.nd (by decide)) (jgsv_cons (jgv_name 5 sc_day_pay.nd (by decide)) jgsv_nil)))) (fun _ _ _ _ hrg => jts_nil) (fun _ _ _ _ hrg => (je_call h_by_minutes takes0 (hrg.mono (by decide)) (g_by_minutes KX Gn c) (ja_cons (je_var 4) (ja_cons (je_var 1) (ja_cons (je_var 5) ja_nil)))))))))
theorem fn_part_time {M_part : DF} (h_part : FnD P w K mg base (GK K) 1 (He.fAd K ("part", none)) 2 M_part) {M_rounded : DF} (h_rounded : FnD P w K mg base (GK K) 1 (He.fAd K ("rounded", none)) 2 M_rounded) : FnD P w K mg base (GK K) 2 (He.fAd K ("part_time", none)) 4 (runD 4 (f_part_time M_part M_rounded)) := by
  obtain ⟨fd, F0⟩ := c.def_ 36 (d := d_part_time) rfl
  have F : FunD K "part_time" "part_time" (defArgs s_part_time) (defBody s_part_time) (defScope s_part_time) [] [] (He.fAd K ("part_time", none)) fd := F0
  have b : Binds K fd ["count", "days_worked", "days_due", "rule"] [] := F.bindsN fun _ _ _ _ _ _ us hl => match us, hl with | [_, _, _, _], _ => rfl
  exact fnD_of F sc_part_time b fun cdv A outer s H E hl hcd hr => (jss_cons (js_if (jt_of (jw_or (jt_not (jt_chain jop_le jop_le je_int (je_var 1) (je_var 2))) (jw_or1 (jt_cmp jop_lt (je_var 2) je_int))))
  (jss_one (js_raise (c := "BadRule") rfl (takes_of rfl rfl rfl rfl) PySem.F.excBase_ValueError (x_BadRule KX Gn c).1 (g_BadRule KX Gn c) (x_BadRule KX Gn c).2.1 (raises_own (x_BadRule KX Gn c).2.2.1 (x_BadRule KX Gn c).2.2.2)))
  jss_nil)
  (jss_one (js_ret (je_call h_rounded (takes_of rfl rfl rfl rfl) (hr.mono (by decide)) (g_rounded KX Gn c) (ja_cons (je_call h_part (takes_of rfl rfl rfl rfl) (hr.mono (by decide)) (g_part KX Gn c) (ja_cons (je_op jop_mul (je_var 0) (je_var 1)) (ja_cons (je_var 2) ja_nil))) (ja_cons (je_var 3) ja_nil))))))
theorem fn_raised {M_times : DF} (h_times : FnD P w K mg base (GK K) 2 (He.fAd K ("times", none)) 2 M_times) {M_rounded : DF} (h_rounded : FnD P w K mg base (GK K) 1 (He.fAd K ("rounded", none)) 2 M_rounded) : FnD P w K mg base (GK K) 3 (He.fAd K ("raised", none)) 2 (runD 5 (f_raised M_times M_rounded)) := by
  obtain ⟨fd, F0⟩ := c.def_ 37 (d := d_raised) rfl
  have F : FunD K "raised" "raised" (defArgs s_raised) (defBody s_raised) (defScope s_raised) [] [] (He.fAd K ("raised", none)) fd := F0
  have b : Binds K fd ["count", "steps"] [] := F.bindsN fun _ _ _ _ _ _ us hl => match us, hl with | [_, _], _ => rfl
  exact fnD_of F sc_raised b fun cdv A outer s H E hl hcd hr => (jss_cons (js_set 2 sc_raised.nd (je_lst (ja_cons (je_var 0) ja_nil)))
  (jss_cons (js_for (passes_of rfl) rfl (ji_seq (je_var 1)) (jg_tup rfl (jgs_cons (jg_name 3 sc_raised.nd) (jgs_cons (jg_name 4 sc_raised.nd) jgs_nil)))
  (jss_one (js_if (jt_cmp (jop_eq hr.units) (je_var 3) je_str)
  (jss_one (js_expr (je_app (je_var 2) (je_call h_rounded (takes_of rfl rfl rfl rfl) (hr.mono (by decide)) (g_rounded KX Gn c) (ja_cons (je_call h_times (takes_of rfl rfl rfl rfl) (hr.mono (by decide)) (g_times KX Gn c) (ja_cons (je_tup (ja_cons (je_ix (je_var 2) (je_neg je_int)) (ja_cons je_int ja_nil))) (ja_cons (je_tup (ja_cons (je_op jop_add (je_ix (je_var 4) je_int) (je_ix (je_var 4) je_int)) (ja_cons (je_ix (je_var 4) je_int) ja_nil))) ja_nil))) (ja_cons je_str ja_nil))))))
  (jss_one (js_if (jt_cmp (jop_eq hr.units) (je_var 3) je_str)
  (jss_one (js_expr (je_app (je_var 2) (je_op jop_add (je_ix (je_var 2) (je_neg je_int)) (je_var 4)))))
  (jss_one (js_raise (c := "BadRule") rfl (takes_of rfl rfl rfl rfl) PySem.F.excBase_ValueError (x_BadRule KX Gn c).1 (g_BadRule KX Gn c) (x_BadRule KX Gn c).2.1 (raises_own (x_BadRule KX Gn c).2.2.1 (x_BadRule KX Gn c).2.2.2))))))))
  (jss_one (js_ret (je_bty jb_tuple (z_tuple KX Gn c) boot_tuple (ja_cons (je_var 2) ja_nil))))))
theorem fn_piece_pay  (tb : ∀ p ∈ tf, LamX.TabB base mg (He.cT K p).1 (He.cT K p).2) (nd2 : (tf.map fun p => (He.cT K p).2).Nodup) : FnD P w K mg base (GK K) 4 (He.fAd K ("piece_pay", none)) 2 (runD 9 (f_piece_pay)) := by
  obtain ⟨fd, F0⟩ := c.def_ 38 (d := d_piece_pay) rfl
  have F : FunD K "piece_pay" "piece_pay" (defArgs s_piece_pay) (defBody s_piece_pay) (defScope s_piece_pay) [] [] (He.fAd K ("piece_pay", none)) fd := F0
  have b : Binds K fd ["pieces", "steps"] [] := F.bindsN fun _ _ _ _ _ _ us hl => match us, hl with | [_, _], _ => rfl
  obtain ⟨fdT, FT0⟩ := c.def_ 45 (d := d__law_told) rfl
  have FT : FunD K "_law_told" "_law_told" (defArgs s__law_told) (defBody s__law_told) (defScope s__law_told) [] [] (He.fAd K ("_law_told", none)) fdT := FT0
  have bT : Binds K fdT ["what"] [] := FT.bindsN fun _ _ _ _ _ _ us hl => match us, hl with | [_], _ => rfl
  have kT := FT.kp
  obtain ⟨ocT, odT, dVT, kVT, docT, pmT, anT, cdT, ctT, oslT, rfl, lkT, hcT, _, _⟩ := FT.ex
  have hu : ∀ p ∈ (GK K).T, p.1 = (He.cT K ("piece_pay", none)).2 → p.2 = (("piece_pay" : Str) ++ (".<locals>." : Str)) ++ ("<genexpr>" : Str) := by
    have n2 := nd2
    simp only [tf, List.map_cons, List.map_nil, List.nodup_cons, List.mem_cons, List.not_mem_nil, or_false, not_or] at n2
    intro p hp e
    simp only [GK, List.mem_cons, List.not_mem_nil, or_false] at hp
    rcases hp with rfl | rfl | rfl | rfl | rfl | rfl | rfl | rfl | rfl
    · exfalso; simp_all
    · exfalso; simp_all
    · exfalso; simp_all
    · exfalso; simp_all
    · exfalso; simp_all
    · exfalso; simp_all
    · rfl
    · exfalso; simp_all
    · exfalso; simp_all
  refine fnD_of F sc_piece_pay b fun cdv A outer s H E hl hcd hr => ?_
  have ec := code_is (p := ("piece_pay", none)) hl hcd
  subst ec
  exact (jss_cons (js_if (jt_of (jw_or (jt_cmp (jop_eq hr.units) (je_blt jb_len (z_len KX Gn c) boot_len (ja_cons (je_var 1) ja_nil)) je_int) (jw_or (jt_cmp (jop_ne hr.units) (je_ix (je_ix (je_var 1) je_int) je_int) je_int) (jw_or1 (jt_val (je_anyX (k := 0) (c := (He.cT K ("piece_pay", none)).1) (P := (He.cT K ("piece_pay", none)).2) (hr.mono (by decide)) (z_any KX Gn c) (tb ("piece_pay", none) (List.Mem.tail _ (List.Mem.tail _ (List.Mem.tail _ (List.Mem.tail _ (List.Mem.tail _ (List.Mem.tail _ (List.Mem.head _)))))))) rfl (List.Mem.tail _ (List.Mem.tail _ (List.Mem.tail _ (List.Mem.tail _ (List.Mem.tail _ (List.Mem.tail _ (List.Mem.head _))))))) hu sc_piece_pay.nd (genB_by (N := N_piece_pay) (sc := defScope s_piece_pay) (own := [("a", 7), ("b", 8)]) (by decide +kernel)) (ji_zip (z_zip KX Gn c) (je_var 1) (je_slice (je_var 1) (jp_some je_int) jp_none)) (fun _ _ _ _ hrg => (jgv_tup rfl (jgsv_cons (jgv_name 7 sc_piece_pay.nd (by decide)) (jgsv_cons (jgv_name 8 sc_piece_pay.nd (by decide)) jgsv_nil)))) (fun _ _ _ _ hrg => jts_nil) (fun _ _ _ _ hrg => (je_cmp jop_ge (je_ix (je_var 7) je_int) (je_ix (je_var 8) je_int)))))))))
  (jss_one (js_raise (c := "BadRule") rfl (takes_of rfl rfl rfl rfl) PySem.F.excBase_ValueError (x_BadRule KX Gn c).1 (g_BadRule KX Gn c) (x_BadRule KX Gn c).2.1 (raises_own (x_BadRule KX Gn c).2.2.1 (x_BadRule KX Gn c).2.2.2)))
  jss_nil)
  (jss_cons (js_set 2 sc_piece_pay.nd je_int)
  (jss_cons (js_for (passes_of rfl) rfl (ji_enum (z_enumerate KX Gn c) (je_var 1)) (jg_tup rfl (jgs_cons (jg_name 3 sc_piece_pay.nd) (jgs_cons (jg_tup rfl (jgs_cons (jg_name 4 sc_piece_pay.nd) (jgs_cons (jg_name 5 sc_piece_pay.nd) jgs_nil))) jgs_nil)))
  (jss_cons (js_set 6 sc_piece_pay.nd (je_if (jt_cmp jop_lt (je_op jop_add (je_var 3) je_int) (je_blt jb_len (z_len KX Gn c) boot_len (ja_cons (je_var 1) ja_nil))) (je_ix (je_ix (je_var 1) (je_op jop_add (je_var 3) je_int)) je_int) (je_var 0)))
  (jss_one (js_aug 2 sc_piece_pay.nd jip_add (je_op jop_mul (je_blt (jb_max rfl) (z_max KX Gn c) boot_max (ja_cons je_int (ja_cons (je_op jop_sub (je_blt (jb_min rfl) (z_min KX Gn c) boot_min (ja_cons (je_var 0) (ja_cons (je_var 6) ja_nil))) (je_var 4)) ja_nil))) (je_var 5))))))
  (jss_one (js_ret (je_var 2))))))
theorem fn_least_paid  : FnD P w K mg base (GK K) 1 (He.fAd K ("least_paid", none)) 2 (runD 4 (f_least_paid)) := by
  obtain ⟨fd, F0⟩ := c.def_ 40 (d := d_least_paid) rfl
  have F : FunD K "least_paid" "least_paid" (defArgs s_least_paid) (defBody s_least_paid) (defScope s_least_paid) [] [] (He.fAd K ("least_paid", none)) fd := F0
  have b : Binds K fd ["rates", "least"] [] := F.bindsN fun _ _ _ _ _ _ us hl => match us, hl with | [_, _], _ => rfl
  exact fnD_of F sc_least_paid b fun cdv A outer s H E hl hcd hr => (jss_cons (js_set 2 sc_least_paid.nd (je_bty jb_tuple (z_tuple KX Gn c) boot_tuple (ja_cons (je_lc rfl sc_least_paid.nd (blkOk_by (own := [("rate", 3)]) (N := N_least_paid) (sc := defScope s_least_paid) (by decide +kernel)) (ji_seq (je_var 0)) (fun _ _ _ _ _ => (jgv_name 3 sc_least_paid.nd (by decide))) (fun _ _ _ _ _ => jts_nil) (fun _ _ _ _ _ => (je_blt (jb_max rfl) (z_max KX Gn c) boot_max (ja_cons (je_var 3) (ja_cons (je_var 1) ja_nil))))) ja_nil)))
  (jss_one (js_ret (je_tup (ja_cons (je_var 2) (ja_cons (je_op jop_sub (je_blt (jb_sumT rfl) (z_sum KX Gn c) PyProof.Rows.boot_sum (ja_cons (je_var 2) ja_nil)) (je_blt (jb_sumT rfl) (z_sum KX Gn c) PyProof.Rows.boot_sum (ja_cons (je_var 0) ja_nil))) ja_nil))))))
theorem fn__law_shares {M_is_even : DF} (h_is_even : FnD P w K mg base (GK K) 3 (He.fAd K ("is_even", none)) 3 M_is_even) {M_least_paid : DF} (h_least_paid : FnD P w K mg base (GK K) 1 (He.fAd K ("least_paid", none)) 2 M_least_paid) {M_piece_pay : DF} (h_piece_pay : FnD P w K mg base (GK K) 4 (He.fAd K ("piece_pay", none)) 2 M_piece_pay) {M_raised : DF} (h_raised : FnD P w K mg base (GK K) 3 (He.fAd K ("raised", none)) 2 M_raised) {M_part_time : DF} (h_part_time : FnD P w K mg base (GK K) 2 (He.fAd K ("part_time", none)) 4 M_part_time) {M_day_pay : DF} (h_day_pay : FnD P w K mg base (GK K) 7 (He.fAd K ("day_pay", none)) 4 M_day_pay) {M_by_minutes : DF} (h_by_minutes : FnD P w K mg base (GK K) 3 (He.fAd K ("by_minutes", none)) 3 M_by_minutes) {M_bonus : DF} (h_bonus : FnD P w K mg base (GK K) 2 (He.fAd K ("bonus", none)) 4 M_bonus) {M__law_roll : DF} (h__law_roll : FnD P w K mg base (GK K) 1 (He.fAd K ("_law_roll", none)) 2 M__law_roll) : FnD P w K mg base (GK K) 8 (He.fAd K ("_law_shares", none)) 1 (runD 6 (f__law_shares M_is_even M_least_paid M_piece_pay M_raised M_part_time M_day_pay M_by_minutes M_bonus M__law_roll)) := by
  obtain ⟨fd, F0⟩ := c.def_ 48 (d := d__law_shares) rfl
  have F : FunD K "_law_shares" "_law_shares" (defArgs s__law_shares) (defBody s__law_shares) (defScope s__law_shares) [] [] (He.fAd K ("_law_shares", none)) fd := F0
  have b : Binds K fd ["dice"] [] := F.bindsN fun _ _ _ _ _ _ us hl => match us, hl with | [_], _ => rfl
  exact fnD_of F sc__law_shares b fun cdv A outer s H E hl hcd hr => (jss_cons (js_asg (je_tup (ja_cons (je_lc rfl sc__law_shares.nd (blkOk_by (own := [("k", 5)]) (N := N__law_shares) (sc := defScope s__law_shares) (by decide +kernel)) (ji_range1 (z_range KX Gn c) je_int) (fun _ _ _ _ _ => (jgv_name 5 sc__law_shares.nd (by decide))) (fun _ _ _ _ _ => jts_nil) (fun _ _ _ _ _ => (je_call h__law_roll takes0 (hr.mono (by decide)) (g__law_roll KX Gn c) (ja_cons (je_var 0) (ja_cons je_int ja_nil))))) (ja_cons (je_lst (ja_cons je_int (ja_cons je_int (ja_cons je_int ja_nil)))) (ja_cons (je_call h__law_roll (takes_of rfl rfl rfl rfl) (hr.mono (by decide)) (g__law_roll KX Gn c) (ja_cons (je_var 0) (ja_cons je_int ja_nil))) ja_nil)))) (jg_tup rfl (jgs_cons (jg_name 1 sc__law_shares.nd) (jgs_cons (jg_name 2 sc__law_shares.nd) (jgs_cons (jg_name 3 sc__law_shares.nd) jgs_nil)))))
  (jss_cons (js_set 4 sc__law_shares.nd (je_call h_bonus (takes_of rfl rfl rfl rfl) (hr.mono (by decide)) (g_bonus KX Gn c) (ja_cons (je_var 1) (ja_cons (je_var 2) (ja_cons (je_var 3) (ja_cons je_str ja_nil))))))
  (jss_cons (js_if (jt_of (jw_or (jt_cmp jop_gt (je_blt (jb_sumT rfl) (z_sum KX Gn c) PyProof.Rows.boot_sum (ja_cons (je_var 4) ja_nil)) (je_var 3)) (jw_or1 (jt_cmp (jop_ne hr.units) (je_lc rfl sc__law_shares.nd (blkOk_by (own := [("k", 5)]) (N := N__law_shares) (sc := defScope s__law_shares) (by decide +kernel)) (ji_range1 (z_range KX Gn c) je_int) (fun _ _ _ _ _ => (jgv_name 5 sc__law_shares.nd (by decide))) (fun _ _ _ _ _ => (jts_one (jt_of (jw_and (jt_cmp jop_le (je_ix (je_var 1) (je_var 5)) je_int) (jw_and1 (jt_cmp (jop_ne hr.units) (je_ix (je_var 4) (je_var 5)) je_int)))))) (fun _ _ _ _ _ => (je_var 5))) (je_lst ja_nil)))))
  (jss_one (js_ret je_bl))
  jss_nil)
  (jss_cons (js_if (jt_of (jw_or (jt_cmp (jop_ne hr.units) (je_call h_by_minutes (takes_of rfl rfl rfl rfl) (hr.mono (by decide)) (g_by_minutes KX Gn c) (ja_cons je_int (ja_cons je_int (ja_cons (je_tup (ja_cons je_int (ja_cons je_int ja_nil))) ja_nil)))) je_int) (jw_or1 (jt_cmp (jop_ne hr.units) (je_call h_day_pay (takes_of rfl rfl rfl rfl) (hr.mono (by decide)) (g_day_pay KX Gn c) (ja_cons je_int (ja_cons je_int (ja_cons (je_tup (ja_cons je_int ja_nil)) (ja_cons (je_tup (ja_cons (je_tup (ja_cons je_int (ja_cons je_int ja_nil))) (ja_cons (je_tup (ja_cons je_int (ja_cons je_int ja_nil))) ja_nil))) ja_nil))))) (je_op jop_add je_int je_int)))))
  (jss_one (js_ret je_bl))
  jss_nil)
  (jss_cons (js_if (jt_of (jw_or (jt_cmp (jop_ne hr.units) (je_call h_part_time (takes_of rfl rfl rfl rfl) (hr.mono (by decide)) (g_part_time KX Gn c) (ja_cons je_int (ja_cons je_int (ja_cons je_int (ja_cons je_str ja_nil))))) je_int) (jw_or1 (jt_cmp (jop_ne hr.units) (je_call h_raised (takes_of rfl rfl rfl rfl) (hr.mono (by decide)) (g_raised KX Gn c) (ja_cons je_int (ja_cons (je_tup (ja_cons (je_tup (ja_cons je_str (ja_cons (je_tup (ja_cons je_int (ja_cons je_int ja_nil))) ja_nil))) (ja_cons (je_tup (ja_cons je_str (ja_cons je_int ja_nil))) ja_nil))) ja_nil))) (je_tup (ja_cons je_int (ja_cons je_int (ja_cons je_int ja_nil))))))))
  (jss_one (js_ret je_bl))
  jss_nil)
  (jss_cons (js_if (jt_of (jw_or (jt_cmp (jop_ne hr.units) (je_call h_piece_pay (takes_of rfl rfl rfl rfl) (hr.mono (by decide)) (g_piece_pay KX Gn c) (ja_cons je_int (ja_cons (je_tup (ja_cons (je_tup (ja_cons je_int (ja_cons je_int ja_nil))) (ja_cons (je_tup (ja_cons je_int (ja_cons je_int ja_nil))) ja_nil))) ja_nil))) (je_op jop_add je_int je_int)) (jw_or1 (jt_cmp (jop_ne hr.units) (je_call h_least_paid (takes_of rfl rfl rfl rfl) (hr.mono (by decide)) (g_least_paid KX Gn c) (ja_cons (je_tup (ja_cons je_int (ja_cons je_int ja_nil))) (ja_cons je_int ja_nil))) (je_tup (ja_cons (je_tup (ja_cons je_int (ja_cons je_int ja_nil))) (ja_cons je_int ja_nil)))))))
  (jss_one (js_ret je_bl))
  jss_nil)
  (jss_cons (js_if (jt_cmp (jop_ne hr.units) (je_call h_is_even (takes_of rfl rfl rfl rfl) (hr.mono (by decide)) (g_is_even KX Gn c) (ja_cons (je_tup (ja_cons je_int (ja_cons je_int (ja_cons je_int ja_nil)))) (ja_cons (je_tup (ja_cons je_str (ja_cons je_str (ja_cons je_str ja_nil)))) (ja_cons (je_tup (ja_cons je_int (ja_cons je_int ja_nil))) ja_nil)))) (je_tup (ja_cons je_int (ja_cons je_int ja_nil))))
  (jss_one (js_ret je_bl))
  jss_nil)
  (jss_cons (js_if (jt_cmp jop_notN (je_call h_is_even (takes_of rfl rfl rfl rfl) (hr.mono (by decide)) (g_is_even KX Gn c) (ja_cons (je_tup (ja_cons je_int (ja_cons je_int ja_nil))) (ja_cons (je_tup (ja_cons je_str (ja_cons je_str ja_nil))) (ja_cons (je_tup (ja_cons je_int (ja_cons je_int ja_nil))) ja_nil)))) je_non)
  (jss_one (js_ret je_bl))
  jss_nil)
  (jss_one (js_ret je_bl))))))))))
theorem fn__law_slips {M_Slip_line : DF} (h_Slip_line : FnD P w K mg base (GK K) 1 (He.fAd K ("Slip", some "line")) 4 M_Slip_line) {M__law_shares : DF} (h__law_shares : FnD P w K mg base (GK K) 8 (He.fAd K ("_law_shares", none)) 1 M__law_shares) {M_Slip_net : DF} (h_Slip_net : FnD P w K mg base (GK K) 6 (He.fAd K ("Slip", some "net")) 1 M_Slip_net) {M_Slip_hold : DF} (h_Slip_hold : FnD P w K mg base (GK K) 7 (He.fAd K ("Slip", some "hold")) 3 M_Slip_hold) {M__law_roll : DF} (h__law_roll : FnD P w K mg base (GK K) 1 (He.fAd K ("_law_roll", none)) 2 M__law_roll) {M_Slip___init__ : DF} (h_Slip___init__ : FnD P w K mg base (GK K) 1 (He.fAd K ("Slip", some "__init__")) 1 M_Slip___init__) {M_net_of : DF} (h_net_of : FnD P w K mg base (GK K) 7 (He.fAd K ("net_of", none)) 3 M_net_of) {M_gross_for : DF} (h_gross_for : FnD P w K mg base (GK K) 8 (He.fAd K ("gross_for", none)) 4 M_gross_for) {M_Slip_sum_of : DF} (h_Slip_sum_of : FnD P w K mg base (GK K) 4 (He.fAd K ("Slip", some "sum_of")) 2 M_Slip_sum_of) {M_Slip_gross : DF} (h_Slip_gross : FnD P w K mg base (GK K) 5 (He.fAd K ("Slip", some "gross")) 1 M_Slip_gross) {M_Table_withheld : DF} (h_Table_withheld : FnD P w K mg base (GK K) 4 (He.fAd K ("Table", some "withheld")) 3 M_Table_withheld) {M_made : DF} (h_made : FnD P w K mg base (GK K) 5 (He.fAd K ("made", none)) 4 M_made) (tb : ∀ p ∈ tf, LamX.TabB base mg (He.cT K p).1 (He.cT K p).2) (nd2 : (tf.map fun p => (He.cT K p).2).Nodup) : FnD P w K mg base (GK K) 9 (He.fAd K ("_law_slips", none)) 3 (runD 16 (f__law_slips M_Slip_line M__law_shares M_Slip_net M_Slip_hold M__law_roll M_Slip___init__ M_net_of M_gross_for M_Slip_sum_of M_Slip_gross M_Table_withheld M_made)) := by
  obtain ⟨fd, F0⟩ := c.def_ 49 (d := d__law_slips) rfl
  have F : FunD K "_law_slips" "_law_slips" (defArgs s__law_slips) (defBody s__law_slips) (defScope s__law_slips) [] [] (He.fAd K ("_law_slips", none)) fd := F0
  have b : Binds K fd ["dice", "table", "much"] [] := F.bindsN fun _ _ _ _ _ _ us hl => match us, hl with | [_, _, _], _ => rfl
  obtain ⟨fdT, FT0⟩ := c.def_ 45 (d := d__law_told) rfl
  have FT : FunD K "_law_told" "_law_told" (defArgs s__law_told) (defBody s__law_told) (defScope s__law_told) [] [] (He.fAd K ("_law_told", none)) fdT := FT0
  have bT : Binds K fdT ["what"] [] := FT.bindsN fun _ _ _ _ _ _ us hl => match us, hl with | [_], _ => rfl
  have kT := FT.kp
  obtain ⟨ocT, odT, dVT, kVT, docT, pmT, anT, cdT, ctT, oslT, rfl, lkT, hcT, _, _⟩ := FT.ex
  have hu : ∀ p ∈ (GK K).T, p.1 = (He.cT K ("_law_slips", none)).2 → p.2 = (("_law_slips" : Str) ++ (".<locals>." : Str)) ++ ("<lambda>" : Str) := by
    have n2 := nd2
    simp only [tf, List.map_cons, List.map_nil, List.nodup_cons, List.mem_cons, List.not_mem_nil, or_false, not_or] at n2
    intro p hp e
    simp only [GK, List.mem_cons, List.not_mem_nil, or_false] at hp
    rcases hp with rfl | rfl | rfl | rfl | rfl | rfl | rfl | rfl | rfl
    · exfalso; simp_all
    · exfalso; simp_all
    · exfalso; simp_all
    · exfalso; simp_all
    · exfalso; simp_all
    · exfalso; simp_all
    · exfalso; simp_all
    · rfl
    · exfalso; simp_all
  refine fnD_of F sc__law_slips b fun cdv A outer s H E hl hcd hr => ?_
  have ec := code_is (p := ("_law_slips", none)) hl hcd
  subst ec
  exact (jss_cons (js_set 3 sc__law_slips.nd (je_tup (ja_cons (je_tup (ja_cons je_str (ja_cons (je_tup (ja_cons je_int (ja_cons je_int ja_nil))) (ja_cons je_int ja_nil)))) (ja_cons (je_tup (ja_cons je_str (ja_cons (je_tup (ja_cons (je_op jop_add je_int (je_call h__law_roll (takes_of rfl rfl rfl rfl) (hr.mono (by decide)) (g__law_roll KX Gn c) (ja_cons (je_var 0) (ja_cons je_int ja_nil)))) (ja_cons je_int ja_nil))) (ja_cons je_int ja_nil)))) ja_nil))))
  (jss_cons (js_set 4 sc__law_slips.nd (je_call h_made (takes_of rfl rfl rfl rfl) (hr.mono (by decide)) (g_made KX Gn c) (ja_cons (je_tup (ja_cons (je_tup (ja_cons je_str (ja_cons (je_var 2) ja_nil))) ja_nil)) (ja_cons (je_tup (ja_cons (je_tup (ja_cons je_str (ja_cons je_int ja_nil))) ja_nil)) (ja_cons (je_var 1) (ja_cons (je_var 3) ja_nil))))))
  (jss_cons (js_set 5 sc__law_slips.nd (je_op jop_add (je_meth (c := "Table") h_Table_withheld (takes_of rfl rfl rfl rfl) (hr.mono (by decide)) (cl_Table KX Gn c) (mt_Table_withheld KX Gn c) (je_var 1) (ja_cons (je_var 2) (ja_cons je_str ja_nil))) (je_blt (jb_sumT rfl) (z_sum KX Gn c) PyProof.Rows.boot_sum (ja_cons (je_lc rfl sc__law_slips.nd (blkOk_by (own := [("name", 14), ("one", 13), ("ceiling", 15)]) (N := N__law_slips) (sc := defScope s__law_slips) (by decide +kernel)) (ji_seq (je_var 3)) (fun _ _ _ _ _ => (jgv_tup rfl (jgsv_cons (jgv_name 14 sc__law_slips.nd (by decide)) (jgsv_cons (jgv_name 13 sc__law_slips.nd (by decide)) (jgsv_cons (jgv_name 15 sc__law_slips.nd (by decide)) jgsv_nil))))) (fun _ _ _ _ _ => jts_nil) (fun _ _ _ _ _ => (je_op jop_fdiv (je_op jop_add (je_op jop_mul (je_op jop_mul je_int (je_blt (jb_min rfl) (z_min KX Gn c) boot_min (ja_cons (je_var 2) (ja_cons (je_var 15) ja_nil)))) (je_ix (je_var 13) je_int)) (je_ix (je_var 13) je_int)) (je_op jop_mul je_int (je_ix (je_var 13) je_int))))) ja_nil))))
  (jss_cons (js_if (jt_of (jw_or (jt_cmp (jop_ne hr.units) (je_meth0 (c := "Slip") h_Slip_gross (takes_of rfl rfl rfl rfl) (hr.mono (by decide)) (cl_Slip KX Gn c) (mt_Slip_gross KX Gn c) (je_var 4)) (je_op jop_add (je_var 2) je_int)) (jw_or (jt_cmp (jop_ne hr.units) (je_meth0 (c := "Slip") h_Slip_net (takes_of rfl rfl rfl rfl) (hr.mono (by decide)) (cl_Slip KX Gn c) (mt_Slip_net KX Gn c) (je_var 4)) (je_op jop_sub (je_op jop_add (je_var 2) je_int) (je_var 5))) (jw_or1 (jt_cmp (jop_ne hr.units) (je_meth (c := "Slip") h_Slip_sum_of (takes_of rfl rfl rfl rfl) (hr.mono (by decide)) (cl_Slip KX Gn c) (mt_Slip_sum_of KX Gn c) (je_var 4) (ja_cons je_str ja_nil)) (je_var 5))))))
  (jss_one (js_ret je_bl))
  jss_nil)
  (jss_cons (js_if (jt_cmp (jop_ne hr.units) (je_call h_net_of (takes_of rfl rfl rfl rfl) (hr.mono (by decide)) (g_net_of KX Gn c) (ja_cons (je_var 2) (ja_cons (je_var 1) (ja_cons (je_var 3) ja_nil)))) (je_op jop_sub (je_var 2) (je_var 5)))
  (jss_one (js_ret je_bl))
  jss_nil)
  (jss_cons (js_set 6 sc__law_slips.nd (je_call h__law_roll (takes_of rfl rfl rfl rfl) (hr.mono (by decide)) (g__law_roll KX Gn c) (ja_cons (je_var 0) (ja_cons je_int ja_nil))))
  (jss_cons (js_set 7 sc__law_slips.nd (je_call h_gross_for (takes_of rfl rfl rfl rfl) (hr.mono (by decide)) (g_gross_for KX Gn c) (ja_cons (je_var 6) (ja_cons (je_var 1) (ja_cons (je_var 3) (ja_cons je_int ja_nil))))))
  (jss_cons (js_if (jt_cmp jop_lt (je_call h_net_of (takes_of rfl rfl rfl rfl) (hr.mono (by decide)) (g_net_of KX Gn c) (ja_cons (je_var 7) (ja_cons (je_var 1) (ja_cons (je_var 3) ja_nil)))) (je_var 6))
  (jss_one (js_ret je_bl))
  jss_nil)
  (jss_cons (js_if (jt_cmp (jop_ne hr.units) (je_lc rfl sc__law_slips.nd (blkOk_by (own := [("one", 13)]) (N := N__law_slips) (sc := defScope s__law_slips) (by decide +kernel)) (ji_range2 (z_range KX Gn c) (je_var 6) (je_var 7)) (fun _ _ _ _ _ => (jgv_name 13 sc__law_slips.nd (by decide))) (fun _ _ _ _ _ => (jts_one (jt_cmp jop_ge (je_call h_net_of takes0 (hr.mono (by decide)) (g_net_of KX Gn c) (ja_cons (je_var 13) (ja_cons (je_var 1) (ja_cons (je_var 3) ja_nil)))) (je_var 6)))) (fun _ _ _ _ _ => (je_var 13))) (je_lst ja_nil))
  (jss_one (js_ret je_bl))
  jss_nil)
  (jss_cons (js_set 8 sc__law_slips.nd (je_make0 (c := "Slip") h_Slip___init__ (mk_Slip KX Gn c) (takes_of rfl rfl rfl rfl) (hr.mono (by decide)) (g_Slip KX Gn c)))
  (jss_cons (js_expr (je_meth (c := "Slip") h_Slip_line (takes_of rfl rfl rfl rfl) (hr.mono (by decide)) (cl_Slip KX Gn c) (mt_Slip_line KX Gn c) (je_var 8) (ja_cons je_str (ja_cons je_str (ja_cons (je_op jop_add je_int (je_call h__law_roll (takes_of rfl rfl rfl rfl) (hr.mono (by decide)) (g__law_roll KX Gn c) (ja_cons (je_var 0) (ja_cons je_int ja_nil)))) ja_nil)))))
  (jss_cons (js_par2 9 10 rfl sc__law_slips.nd (ja_cons (je_meth0 (c := "Slip") h_Slip_net (takes_of rfl rfl rfl rfl) (hr.mono (by decide)) (cl_Slip KX Gn c) (mt_Slip_net KX Gn c) (je_var 8)) (ja_cons je_int ja_nil)))
  (jss_cons (js_set 11 sc__law_slips.nd (je_tup (ja_cons (je_tup (ja_cons je_str (ja_cons (je_call h__law_roll (takes_of rfl rfl rfl rfl) (hr.mono (by decide)) (g__law_roll KX Gn c) (ja_cons (je_var 0) (ja_cons je_int ja_nil))) ja_nil))) (ja_cons (je_tup (ja_cons je_str (ja_cons (je_call h__law_roll (takes_of rfl rfl rfl rfl) (hr.mono (by decide)) (g__law_roll KX Gn c) (ja_cons (je_var 0) (ja_cons je_int ja_nil))) ja_nil))) ja_nil))))
  (jss_cons (js_set 12 sc__law_slips.nd (je_meth (c := "Slip") h_Slip_hold (takes_of rfl rfl rfl rfl) (hr.mono (by decide)) (cl_Slip KX Gn c) (mt_Slip_hold KX Gn c) (je_var 8) (ja_cons (je_var 11) (ja_cons (je_var 10) ja_nil))))
  (jss_cons (js_if (jt_cmp (jop_ne hr.units) (je_meth0 (c := "Slip") h_Slip_net (takes_of rfl rfl rfl rfl) (hr.mono (by decide)) (cl_Slip KX Gn c) (mt_Slip_net KX Gn c) (je_var 8)) (je_blt (jb_max rfl) (z_max KX Gn c) boot_max (ja_cons (je_var 10) (ja_cons (je_op jop_sub (je_op jop_sub (je_var 9) (je_ix (je_ix (je_var 11) je_int) je_int)) (je_ix (je_ix (je_var 11) je_int) je_int)) ja_nil))))
  (jss_one (js_ret je_bl))
  jss_nil)
  (jss_cons (js_if (jt_cmp (jop_ne hr.units) (je_ix (je_var 12) je_int) (je_blt (jb_max rfl) (z_max KX Gn c) boot_max (ja_cons je_int (ja_cons (je_op jop_sub (je_ix (je_ix (je_var 11) je_int) je_int) (je_op jop_sub (je_var 9) (je_var 10))) ja_nil))))
  (jss_one (js_ret je_bl))
  jss_nil)
  (jss_cons (js_if (jt_cmp (jop_ne hr.units) (je_blt (jb_sumT rfl) (z_sum KX Gn c) PyProof.Rows.boot_sum (ja_cons (je_var 12) ja_nil)) (je_blt (jb_max rfl) (z_max KX Gn c) boot_max (ja_cons je_int (ja_cons (je_op jop_sub (je_op jop_add (je_ix (je_ix (je_var 11) je_int) je_int) (je_ix (je_ix (je_var 11) je_int) je_int)) (je_op jop_sub (je_var 9) (je_var 10))) ja_nil))))
  (jss_one (js_ret je_bl))
  jss_nil)
  (jss_cons (js_if (jt_not (jt_val (je_call h__law_shares (takes_of rfl rfl rfl rfl) (hr.mono (by decide)) (g__law_shares KX Gn c) (ja_cons (je_var 0) ja_nil))))
  (jss_one (js_ret je_bl))
  jss_nil)
  (jss_one (js_ret (je_cmp (jop_eq hr.units) (je_told (k := 1) (rs := raisable) (cs := tellers) (g__law_told KX Gn c) kT lkT hcT bT sc__law_told rfl (Or.inl rfl) (fun _ => rfl) (.cons rfl (g_BadMoney KX Gn c) (by decide) (.cons rfl (g_BadDay KX Gn c) (by decide) (.cons rfl (g_BadRule KX Gn c) (by decide) (.cons rfl (g_Unbalanced KX Gn c) (by decide) (.cons rfl (g_Shut KX Gn c) (by decide) (.cons rfl (g_Short KX Gn c) (by decide) (.cons rfl (g_BadText KX Gn c) (by decide) (.cons rfl (g_NoAnswer KX Gn c) (by decide) (.nil))))))))) (exall KX Gn c) (tb ("_law_slips", none) (List.Mem.tail _ (List.Mem.tail _ (List.Mem.tail _ (List.Mem.tail _ (List.Mem.tail _ (List.Mem.tail _ (List.Mem.tail _ (List.Mem.head _))))))))) rfl (List.Mem.tail _ (List.Mem.tail _ (List.Mem.tail _ (List.Mem.tail _ (List.Mem.tail _ (List.Mem.tail _ (List.Mem.tail _ (List.Mem.head _)))))))) hu (hr.mono (by decide)) (LamX.lamS_by (sc := defScope s__law_slips) (by decide +kernel)) rfl (fun _ _ _ _ _ => rfl) (fun A2 outer2 s2 H2 E2 f2 c2 hr2 => (je_meth (c := "Slip") h_Slip_line lam_takes (hr2.mono (by decide)) (cl_Slip KX Gn c) (mt_Slip_line KX Gn c) (je_var 8) (ja_cons je_str (ja_cons je_str (ja_cons je_int ja_nil)))))) je_str)))))))))))))))))))))
theorem fn__law_least  : FnD P w K mg base (GK K) 1 (He.fAd K ("_law_least", none)) 2 (runD 4 (f__law_least)) := by
  obtain ⟨fd, F0⟩ := c.def_ 46 (d := d__law_least) rfl
  have F : FunD K "_law_least" "_law_least" (defArgs s__law_least) (defBody s__law_least) (defScope s__law_least) [] [] (He.fAd K ("_law_least", none)) fd := F0
  have b : Binds K fd ["top", "bottom"] [] := F.bindsN fun _ _ _ _ _ _ us hl => match us, hl with | [_, _], _ => rfl
  exact fnD_of F sc__law_least b fun cdv A outer s H E hl hcd hr => (jss_cons (js_par2 2 3 rfl sc__law_least.nd (ja_cons (je_blt jb_abs (z_abs KX Gn c) boot_abs (ja_cons (je_var 0) ja_nil)) (ja_cons (je_var 1) ja_nil)))
  (jss_cons (js_while (passes_of rfl) (jt_cmp (jop_ne hr.units) (je_var 3) je_int) (jss_one (js_par2 2 3 rfl sc__law_least.nd (ja_cons (je_var 3) (ja_cons (je_op jop_mod (je_var 2) (je_var 3)) ja_nil)))))
  (jss_cons (js_set 2 sc__law_least.nd (je_blt (jb_max rfl) (z_max KX Gn c) boot_max (ja_cons (je_var 2) (ja_cons je_int ja_nil))))
  (jss_one (js_ret (je_tup (ja_cons (je_op jop_fdiv (je_var 0) (je_var 2)) (ja_cons (je_op jop_fdiv (je_var 1) (je_var 2)) ja_nil))))))))
theorem fn_less {M_part : DF} (h_part : FnD P w K mg base (GK K) 1 (He.fAd K ("part", none)) 2 M_part) : FnD P w K mg base (GK K) 2 (He.fAd K ("less", none)) 2 (runD 2 (f_less M_part)) := by
  obtain ⟨fd, F0⟩ := c.def_ 2 (d := d_less) rfl
  have F : FunD K "less" "less" (defArgs s_less) (defBody s_less) (defScope s_less) [] [] (He.fAd K ("less", none)) fd := F0
  have b : Binds K fd ["a", "b"] [] := F.bindsN fun _ _ _ _ _ _ us hl => match us, hl with | [_, _], _ => rfl
  exact fnD_of F sc_less b fun cdv A outer s H E hl hcd hr => (jss_one (js_ret (je_call h_part (takes_of rfl rfl rfl rfl) (hr.mono (by decide)) (g_part KX Gn c) (ja_cons (je_op jop_sub (je_op jop_mul (je_ix (je_var 0) je_int) (je_ix (je_var 1) je_int)) (je_op jop_mul (je_ix (je_var 1) je_int) (je_ix (je_var 0) je_int))) (ja_cons (je_op jop_mul (je_ix (je_var 0) je_int) (je_ix (je_var 1) je_int)) ja_nil)))))
theorem fn_gap_of {M_Table_exact : DF} (h_Table_exact : FnD P w K mg base (GK K) 3 (He.fAd K ("Table", some "exact")) 2 M_Table_exact) {M_Table_withheld : DF} (h_Table_withheld : FnD P w K mg base (GK K) 4 (He.fAd K ("Table", some "withheld")) 3 M_Table_withheld) {M_less : DF} (h_less : FnD P w K mg base (GK K) 2 (He.fAd K ("less", none)) 2 M_less) : FnD P w K mg base (GK K) 5 (He.fAd K ("gap_of", none)) 3 (runD 3 (f_gap_of M_Table_exact M_Table_withheld M_less)) := by
  obtain ⟨fd, F0⟩ := c.def_ 23 (d := d_gap_of) rfl
  have F : FunD K "gap_of" "gap_of" (defArgs s_gap_of) (defBody s_gap_of) (defScope s_gap_of) [] [] (He.fAd K ("gap_of", none)) fd := F0
  have b : Binds K fd ["table", "much", "rule"] [] := F.bindsN fun _ _ _ _ _ _ us hl => match us, hl with | [_, _, _], _ => rfl
  exact fnD_of F sc_gap_of b fun cdv A outer s H E hl hcd hr => (jss_one (js_ret (je_call h_less (takes_of rfl rfl rfl rfl) (hr.mono (by decide)) (g_less KX Gn c) (ja_cons (je_tup (ja_cons (je_meth (c := "Table") h_Table_withheld (takes_of rfl rfl rfl rfl) (hr.mono (by decide)) (cl_Table KX Gn c) (mt_Table_withheld KX Gn c) (je_var 0) (ja_cons (je_var 1) (ja_cons (je_var 2) ja_nil))) (ja_cons je_int ja_nil))) (ja_cons (je_meth (c := "Table") h_Table_exact (takes_of rfl rfl rfl rfl) (hr.mono (by decide)) (cl_Table KX Gn c) (mt_Table_exact KX Gn c) (je_var 0) (ja_cons (je_var 1) ja_nil)) ja_nil)))))
theorem fn_Table_scaled {M_Table___init__ : DF} (h_Table___init__ : FnD P w K mg base (GK K) 4 (He.fAd K ("Table", some "__init__")) 2 M_Table___init__) : FnD P w K mg base (GK K) 6 (He.fAd K ("Table", some "scaled")) 2 (runD 4 (f_Table_scaled M_Table___init__)) := by
  obtain ⟨fd, F0⟩ := c.def_ 14 (d := d_Table_scaled) rfl
  have F : FunD K "scaled" "Table.scaled" (defArgs s_Table_scaled) (defBody s_Table_scaled) (defScope s_Table_scaled) [] [] (He.fAd K ("Table", some "scaled")) fd := F0
  have b : Binds K fd ["self", "many"] [] := F.bindsN fun _ _ _ _ _ _ us hl => match us, hl with | [_, _], _ => rfl
  exact fnD_of F sc_Table_scaled b fun cdv A outer s H E hl hcd hr => (jss_cons (js_if (jt_cmp jop_lt (je_var 1) je_int)
  (jss_one (js_raise (c := "BadRule") rfl (takes_of rfl rfl rfl rfl) PySem.F.excBase_ValueError (x_BadRule KX Gn c).1 (g_BadRule KX Gn c) (x_BadRule KX Gn c).2.1 (raises_own (x_BadRule KX Gn c).2.2.1 (x_BadRule KX Gn c).2.2.2)))
  jss_nil)
  (jss_one (js_ret (je_make (c := "Table") h_Table___init__ (mk_Table KX Gn c) (takes_of rfl rfl rfl rfl) (hr.mono (by decide)) (g_Table KX Gn c) (ja_cons (je_bty jb_tuple (z_tuple KX Gn c) boot_tuple (ja_cons (je_lc rfl sc_Table_scaled.nd (blkOk_by (own := [("low", 2), ("one", 3)]) (N := N_Table_scaled) (sc := defScope s_Table_scaled) (by decide +kernel)) (ji_seq (je_fld (fl_steps KX Gn c) (je_var 0))) (fun _ _ _ _ _ => (jgv_tup rfl (jgsv_cons (jgv_name 2 sc_Table_scaled.nd (by decide)) (jgsv_cons (jgv_name 3 sc_Table_scaled.nd (by decide)) jgsv_nil)))) (fun _ _ _ _ _ => jts_nil) (fun _ _ _ _ _ => (je_tup (ja_cons (je_op jop_mul (je_var 2) (je_var 1)) (ja_cons (je_var 3) ja_nil))))) ja_nil)) ja_nil)))))
theorem fn_law {M__law_rounds : DF} (h__law_rounds : FnD P w K mg base (GK K) 2 (He.fAd K ("_law_rounds", none)) 2 M__law_rounds) {M_best_split : DF} (h_best_split : FnD P w K mg base (GK K) 8 (He.fAd K ("best_split", none)) 4 M_best_split) {M_Table_back : DF} (h_Table_back : FnD P w K mg base (GK K) 5 (He.fAd K ("Table", some "back")) 4 M_Table_back) {M_Table___init__ : DF} (h_Table___init__ : FnD P w K mg base (GK K) 4 (He.fAd K ("Table", some "__init__")) 2 M_Table___init__) {M_edge_jump : DF} (h_edge_jump : FnD P w K mg base (GK K) 5 (He.fAd K ("edge_jump", none)) 4 M_edge_jump) {M_worse_off : DF} (h_worse_off : FnD P w K mg base (GK K) 6 (He.fAd K ("worse_off", none)) 4 M_worse_off) {M__law_slips : DF} (h__law_slips : FnD P w K mg base (GK K) 9 (He.fAd K ("_law_slips", none)) 3 M__law_slips) {M__law_year : DF} (h__law_year : FnD P w K mg base (GK K) 9 (He.fAd K ("_law_year", none)) 5 M__law_year) {M_gap_of : DF} (h_gap_of : FnD P w K mg base (GK K) 5 (He.fAd K ("gap_of", none)) 3 M_gap_of) {M_Table_scaled : DF} (h_Table_scaled : FnD P w K mg base (GK K) 6 (He.fAd K ("Table", some "scaled")) 2 M_Table_scaled) {M_Table_exact : DF} (h_Table_exact : FnD P w K mg base (GK K) 3 (He.fAd K ("Table", some "exact")) 2 M_Table_exact) {M__law_least : DF} (h__law_least : FnD P w K mg base (GK K) 1 (He.fAd K ("_law_least", none)) 2 M__law_least) {M__law_withheld : DF} (h__law_withheld : FnD P w K mg base (GK K) 1 (He.fAd K ("_law_withheld", none)) 2 M__law_withheld) {M__law_roll : DF} (h__law_roll : FnD P w K mg base (GK K) 1 (He.fAd K ("_law_roll", none)) 2 M__law_roll) {M_Table_mean : DF} (h_Table_mean : FnD P w K mg base (GK K) 4 (He.fAd K ("Table", some "mean")) 2 M_Table_mean) {M_Table_at_edge : DF} (h_Table_at_edge : FnD P w K mg base (GK K) 1 (He.fAd K ("Table", some "at_edge")) 2 M_Table_at_edge) {M_Table_is_rising : DF} (h_Table_is_rising : FnD P w K mg base (GK K) 5 (He.fAd K ("Table", some "is_rising")) 1 M_Table_is_rising) {M_Table_withheld : DF} (h_Table_withheld : FnD P w K mg base (GK K) 4 (He.fAd K ("Table", some "withheld")) 3 M_Table_withheld) {M_part : DF} (h_part : FnD P w K mg base (GK K) 1 (He.fAd K ("part", none)) 2 M_part) (tb : ∀ p ∈ tf, LamX.TabB base mg (He.cT K p).1 (He.cT K p).2) (nd2 : (tf.map fun p => (He.cT K p).2).Nodup) {fd : FuncData} (F : FunD K "law" "law" (defArgs s_law) (defBody s_law) (defScope s_law) [] [] (He.fAd K ("law", none)) fd) : FnOk P w K mg base (L2.CX P w) 11 (He.fAd K ("law", none)) fd ["script"] (spD K (GK K) 1 (runD 15 (f_law M__law_rounds M_best_split M_Table_back M_Table___init__ M_edge_jump M_worse_off M__law_slips M__law_year M_gap_of M_Table_scaled M_Table_exact M__law_least M__law_withheld M__law_roll M_Table_mean M_Table_at_edge M_Table_is_rising M_Table_withheld M_part))) := by
  obtain ⟨fdT, FT0⟩ := c.def_ 45 (d := d__law_told) rfl
  have FT : FunD K "_law_told" "_law_told" (defArgs s__law_told) (defBody s__law_told) (defScope s__law_told) [] [] (He.fAd K ("_law_told", none)) fdT := FT0
  have bT : Binds K fdT ["what"] [] := FT.bindsN fun _ _ _ _ _ _ us hl => match us, hl with | [_], _ => rfl
  have kT := FT.kp
  obtain ⟨ocT, odT, dVT, kVT, docT, pmT, anT, cdT, ctT, oslT, rfl, lkT, hcT, _, _⟩ := FT.ex
  have hu : ∀ p ∈ (GK K).T, p.1 = (He.cT K ("law", none)).2 → p.2 = (("law" : Str) ++ (".<locals>." : Str)) ++ ("<lambda>" : Str) := by
    have n2 := nd2
    simp only [tf, List.map_cons, List.map_nil, List.nodup_cons, List.mem_cons, List.not_mem_nil, or_false, not_or] at n2
    intro p hp e
    simp only [GK, List.mem_cons, List.not_mem_nil, or_false] at hp
    rcases hp with rfl | rfl | rfl | rfl | rfl | rfl | rfl | rfl | rfl
    · exfalso; simp_all
    · exfalso; simp_all
    · exfalso; simp_all
    · exfalso; simp_all
    · exfalso; simp_all
    · exfalso; simp_all
    · exfalso; simp_all
    · exfalso; simp_all
    · rfl
  refine fnOk_of F sc_law fun cdv A outer s H E hl hcd hr => ?_
  have ec := code_is (p := ("law", none)) hl hcd
  subst ec
  exact (jss_cons (js_for (passes_of rfl) rfl (ji_seq (je_call h__law_rounds (takes_of rfl rfl rfl rfl) (hr.mono (by decide)) (g__law_rounds KX Gn c) (ja_cons (je_var 0) (ja_cons je_int ja_nil)))) (jg_name 1 sc_law.nd)
  (jss_cons (js_par2 2 3 rfl sc_law.nd (ja_cons (je_op jop_add je_int (je_call h__law_roll (takes_of rfl rfl rfl rfl) (hr.mono (by decide)) (g__law_roll KX Gn c) (ja_cons (je_var 1) (ja_cons je_int ja_nil)))) (ja_cons (je_op jop_add je_int (je_call h__law_roll (takes_of rfl rfl rfl rfl) (hr.mono (by decide)) (g__law_roll KX Gn c) (ja_cons (je_var 1) (ja_cons je_int ja_nil)))) ja_nil)))
  (jss_cons (js_set 4 sc_law.nd (je_tup (ja_cons (je_tup (ja_cons je_int (ja_cons (je_tup (ja_cons je_int (ja_cons je_int ja_nil))) ja_nil))) (ja_cons (je_tup (ja_cons (je_var 2) (ja_cons (je_call h_part (takes_of rfl rfl rfl rfl) (hr.mono (by decide)) (g_part KX Gn c) (ja_cons (je_op jop_add je_int (je_call h__law_roll (takes_of rfl rfl rfl rfl) (hr.mono (by decide)) (g__law_roll KX Gn c) (ja_cons (je_var 1) (ja_cons je_int ja_nil)))) (ja_cons je_int ja_nil))) ja_nil))) (ja_cons (je_tup (ja_cons (je_var 3) (ja_cons (je_call h_part (takes_of rfl rfl rfl rfl) (hr.mono (by decide)) (g_part KX Gn c) (ja_cons (je_op jop_add je_int (je_call h__law_roll (takes_of rfl rfl rfl rfl) (hr.mono (by decide)) (g__law_roll KX Gn c) (ja_cons (je_var 1) (ja_cons je_int ja_nil)))) (ja_cons je_int ja_nil))) ja_nil))) ja_nil)))))
  (jss_cons (js_asg (je_tup (ja_cons (je_make (c := "Table") h_Table___init__ (mk_Table KX Gn c) (takes_of rfl rfl rfl rfl) (hr.mono (by decide)) (g_Table KX Gn c) (ja_cons (je_var 4) ja_nil)) (ja_cons (je_call h__law_roll (takes_of rfl rfl rfl rfl) (hr.mono (by decide)) (g__law_roll KX Gn c) (ja_cons (je_var 1) (ja_cons je_int ja_nil))) ja_nil))) (jg_tup rfl (jgs_cons (jg_name 5 sc_law.nd) (jgs_cons (jg_name 6 sc_law.nd) jgs_nil))))
  (jss_cons (js_set 7 sc_law.nd (je_call h__law_withheld (takes_of rfl rfl rfl rfl) (hr.mono (by decide)) (g__law_withheld KX Gn c) (ja_cons (je_var 4) (ja_cons (je_var 6) ja_nil))))
  (jss_cons (js_if (jt_of (jw_or (jt_cmp (jop_ne hr.units) (je_meth (c := "Table") h_Table_exact (takes_of rfl rfl rfl rfl) (hr.mono (by decide)) (cl_Table KX Gn c) (mt_Table_exact KX Gn c) (je_var 5) (ja_cons (je_var 6) ja_nil)) (je_call h__law_least (takes_of rfl rfl rfl rfl) (hr.mono (by decide)) (g__law_least KX Gn c) (ja_cons (je_var 7) (ja_cons je_int ja_nil)))) (jw_or1 (jt_cmp (jop_ne hr.units) (je_meth (c := "Table") h_Table_withheld (takes_of rfl rfl rfl rfl) (hr.mono (by decide)) (cl_Table KX Gn c) (mt_Table_withheld KX Gn c) (je_var 5) (ja_cons (je_var 6) (ja_cons je_str ja_nil))) (je_op jop_fdiv (je_var 7) je_int)))))
  (jss_one (js_ret je_bl))
  jss_nil)
  (jss_cons (js_if (jt_not (jt_val (je_meth0 (c := "Table") h_Table_is_rising (takes_of rfl rfl rfl rfl) (hr.mono (by decide)) (cl_Table KX Gn c) (mt_Table_is_rising KX Gn c) (je_var 5))))
  (jss_one (js_ret je_bl))
  jss_nil)
  (jss_cons (js_if (jt_cmp (jop_ne hr.units) (je_meth (c := "Table") h_Table_at_edge (takes_of rfl rfl rfl rfl) (hr.mono (by decide)) (cl_Table KX Gn c) (mt_Table_at_edge KX Gn c) (je_var 5) (ja_cons (je_var 6) ja_nil)) (je_ix (je_lc rfl sc_law.nd (blkOk_by (own := [("low", 14), ("one", 13)]) (N := N_law) (sc := defScope s_law) (by decide +kernel)) (ji_seq (je_var 4)) (fun _ _ _ _ _ => (jgv_tup rfl (jgsv_cons (jgv_name 14 sc_law.nd (by decide)) (jgsv_cons (jgv_name 13 sc_law.nd (by decide)) jgsv_nil)))) (fun _ _ _ _ _ => (jts_one (jt_cmp jop_le (je_var 14) (je_var 6)))) (fun _ _ _ _ _ => (je_var 13))) (je_op jop_sub (je_blt jb_len (z_len KX Gn c) boot_len (ja_cons (je_lc rfl sc_law.nd (blkOk_by (own := [("low", 14), ("one", 13)]) (N := N_law) (sc := defScope s_law) (by decide +kernel)) (ji_seq (je_var 4)) (fun _ _ _ _ _ => (jgv_tup rfl (jgsv_cons (jgv_name 14 sc_law.nd (by decide)) (jgsv_cons (jgv_name 13 sc_law.nd (by decide)) jgsv_nil)))) (fun _ _ _ _ _ => (jts_one (jt_cmp jop_le (je_var 14) (je_var 6)))) (fun _ _ _ _ _ => (je_var 14))) ja_nil)) je_int)))
  (jss_one (js_ret je_bl))
  jss_nil)
  (jss_cons (js_if (jt_cmp (jop_ne hr.units) (je_meth (c := "Table") h_Table_mean (takes_of rfl rfl rfl rfl) (hr.mono (by decide)) (cl_Table KX Gn c) (mt_Table_mean KX Gn c) (je_var 5) (ja_cons (je_var 6) ja_nil)) (je_if (jt_cmp jop_gt (je_var 6) je_int) (je_call h__law_least (takes_of rfl rfl rfl rfl) (hr.mono (by decide)) (g__law_least KX Gn c) (ja_cons (je_var 7) (ja_cons (je_op jop_mul je_int (je_var 6)) ja_nil))) (je_tup (ja_cons je_int (ja_cons je_int ja_nil)))))
  (jss_one (js_ret je_bl))
  jss_nil)
  (jss_cons (js_set 8 sc_law.nd (je_call h__law_roll (takes_of rfl rfl rfl rfl) (hr.mono (by decide)) (g__law_roll KX Gn c) (ja_cons (je_var 1) (ja_cons je_int ja_nil))))
  (jss_cons (js_set 9 sc_law.nd (je_meth (c := "Table") h_Table_back (takes_of rfl rfl rfl rfl) (hr.mono (by decide)) (cl_Table KX Gn c) (mt_Table_back KX Gn c) (je_var 5) (ja_cons (je_var 8) (ja_cons je_str (ja_cons je_int ja_nil)))))
  (jss_cons (js_setLc 10 rfl sc_law.nd (blkOk_by (own := [("one", 13)]) (N := N_law) (sc := defScope s_law) (by decide +kernel)) (ji_range2 (z_range KX Gn c) (je_blt (jb_max rfl) (z_max KX Gn c) boot_max (ja_cons je_int (ja_cons (je_op jop_sub (je_var 9) je_int) ja_nil))) (je_op jop_add (je_var 9) je_int)) (fun _ _ _ _ _ => (jgv_name 13 sc_law.nd (by decide))) (fun _ _ _ _ _ => (jts_one (jt_cmp jop_ge (je_op jop_sub (je_var 13) (je_op jop_fdiv (je_call h__law_withheld takes0 (hr.mono (by decide)) (g__law_withheld KX Gn c) (ja_cons (je_var 4) (ja_cons (je_var 13) ja_nil))) je_int)) (je_var 8)))) (fun _ _ _ _ _ => (je_var 13)) (sw_true rfl rfl rfl (by decide +kernel)))
  (jss_cons (js_if (jt_of (jw_or (jt_cmp (jop_ne hr.units) (je_var 10) (je_lst (ja_cons (je_var 9) ja_nil))) (jw_or1 (jt_cmp (jop_ne hr.units) (je_meth (c := "Table") h_Table_exact (takes_of rfl rfl rfl rfl) (hr.mono (by decide)) (cl_Table KX Gn c) (mt_Table_exact KX Gn c) (je_meth (c := "Table") h_Table_scaled (takes_of rfl rfl rfl rfl) (hr.mono (by decide)) (cl_Table KX Gn c) (mt_Table_scaled KX Gn c) (je_var 5) (ja_cons je_int ja_nil)) (ja_cons (je_op jop_mul je_int (je_var 6)) ja_nil)) (je_call h__law_least (takes_of rfl rfl rfl rfl) (hr.mono (by decide)) (g__law_least KX Gn c) (ja_cons (je_op jop_mul je_int (je_var 7)) (ja_cons je_int ja_nil)))))))
  (jss_one (js_ret je_bl))
  jss_nil)
  (jss_cons (js_if (jt_cmp jop_gt (je_ix (je_call h_gap_of (takes_of rfl rfl rfl rfl) (hr.mono (by decide)) (g_gap_of KX Gn c) (ja_cons (je_var 5) (ja_cons (je_var 6) (ja_cons je_str ja_nil)))) je_int) je_int)
  (jss_one (js_ret je_bl))
  jss_nil)
  (jss_cons (js_if (jt_not (jt_val (je_call h__law_year (takes_of rfl rfl rfl rfl) (hr.mono (by decide)) (g__law_year KX Gn c) (ja_cons (je_var 1) (ja_cons (je_var 5) (ja_cons (je_var 4) (ja_cons (je_var 6) (ja_cons (je_var 8) ja_nil))))))))
  (jss_one (js_ret je_bl))
  jss_nil)
  (jss_cons (js_if (jt_not (jt_val (je_call h__law_slips (takes_of rfl rfl rfl rfl) (hr.mono (by decide)) (g__law_slips KX Gn c) (ja_cons (je_var 1) (ja_cons (je_var 5) (ja_cons (je_var 6) ja_nil))))))
  (jss_one (js_ret je_bl))
  jss_nil)
  (jss_cons (js_set 11 sc_law.nd (je_call h_worse_off (takes_of rfl rfl rfl rfl) (hr.mono (by decide)) (g_worse_off KX Gn c) (ja_cons (je_var 5) (ja_cons (je_tup (ja_cons je_int (ja_cons je_int ja_nil))) (ja_cons je_str (ja_cons je_int ja_nil))))))
  (jss_cons (js_set 12 sc_law.nd (je_lc rfl sc_law.nd (blkOk_by (own := [("one", 13)]) (N := N_law) (sc := defScope s_law) (by decide +kernel)) (ji_range1 (z_range KX Gn c) je_int) (fun _ _ _ _ _ => (jgv_name 13 sc_law.nd (by decide))) (fun _ _ _ _ _ => jts_nil) (fun _ _ _ _ _ => (je_call h_edge_jump takes0 (hr.mono (by decide)) (g_edge_jump KX Gn c) (ja_cons (je_var 5) (ja_cons (je_tup (ja_cons je_int (ja_cons je_int ja_nil))) (ja_cons (je_var 13) (ja_cons je_str ja_nil))))))))
  (jss_cons (js_if (jt_of (jw_or (jt_cmp (jop_ne hr.units) (je_bty jb_list (z_list KX Gn c) boot_list (ja_cons (je_var 11) ja_nil)) (je_lc rfl sc_law.nd (blkOk_by (own := [("one", 13)]) (N := N_law) (sc := defScope s_law) (by decide +kernel)) (ji_range2 (z_range KX Gn c) je_int je_int) (fun _ _ _ _ _ => (jgv_name 13 sc_law.nd (by decide))) (fun _ _ _ _ _ => (jts_one (jt_cmp jop_lt (je_ix (je_var 12) (je_var 13)) (je_ix (je_var 12) (je_op jop_sub (je_var 13) je_int))))) (fun _ _ _ _ _ => (je_var 13)))) (jw_or1 (jt_cmp jop_notIn je_int (je_var 11)))))
  (jss_one (js_ret je_bl))
  jss_nil)
  (jss_cons (js_if (jt_cmp (jop_ne hr.units) (je_told (k := 5) (rs := raisable) (cs := tellers) (g__law_told KX Gn c) kT lkT hcT bT sc__law_told rfl (Or.inl rfl) (fun _ => rfl) (.cons rfl (g_BadMoney KX Gn c) (by decide) (.cons rfl (g_BadDay KX Gn c) (by decide) (.cons rfl (g_BadRule KX Gn c) (by decide) (.cons rfl (g_Unbalanced KX Gn c) (by decide) (.cons rfl (g_Shut KX Gn c) (by decide) (.cons rfl (g_Short KX Gn c) (by decide) (.cons rfl (g_BadText KX Gn c) (by decide) (.cons rfl (g_NoAnswer KX Gn c) (by decide) (.nil))))))))) (exall KX Gn c) (tb ("law", none) (List.Mem.tail _ (List.Mem.tail _ (List.Mem.tail _ (List.Mem.tail _ (List.Mem.tail _ (List.Mem.tail _ (List.Mem.tail _ (List.Mem.tail _ (List.Mem.head _)))))))))) rfl (List.Mem.tail _ (List.Mem.tail _ (List.Mem.tail _ (List.Mem.tail _ (List.Mem.tail _ (List.Mem.tail _ (List.Mem.tail _ (List.Mem.tail _ (List.Mem.head _))))))))) hu (hr.mono (by decide)) (LamX.lamS_by (sc := defScope s_law) (by decide +kernel)) rfl (fun _ _ _ _ _ => rfl) (fun A2 outer2 s2 H2 E2 f2 c2 hr2 => (je_make (c := "Table") h_Table___init__ (mk_Table KX Gn c) lam_takes (hr2.mono (by decide)) (g_Table KX Gn c) (ja_cons (je_tup (ja_cons (je_tup (ja_cons je_int (ja_cons (je_tup (ja_cons je_int (ja_cons je_int ja_nil))) ja_nil))) ja_nil)) ja_nil)))) je_str)
  (jss_one (js_ret je_bl))
  jss_nil)
  (jss_cons (js_if (jt_cmp (jop_ne hr.units) (je_told (k := 5) (rs := raisable) (cs := tellers) (g__law_told KX Gn c) kT lkT hcT bT sc__law_told rfl (Or.inl rfl) (fun _ => rfl) (.cons rfl (g_BadMoney KX Gn c) (by decide) (.cons rfl (g_BadDay KX Gn c) (by decide) (.cons rfl (g_BadRule KX Gn c) (by decide) (.cons rfl (g_Unbalanced KX Gn c) (by decide) (.cons rfl (g_Shut KX Gn c) (by decide) (.cons rfl (g_Short KX Gn c) (by decide) (.cons rfl (g_BadText KX Gn c) (by decide) (.cons rfl (g_NoAnswer KX Gn c) (by decide) (.nil))))))))) (exall KX Gn c) (tb ("law", none) (List.Mem.tail _ (List.Mem.tail _ (List.Mem.tail _ (List.Mem.tail _ (List.Mem.tail _ (List.Mem.tail _ (List.Mem.tail _ (List.Mem.tail _ (List.Mem.head _)))))))))) rfl (List.Mem.tail _ (List.Mem.tail _ (List.Mem.tail _ (List.Mem.tail _ (List.Mem.tail _ (List.Mem.tail _ (List.Mem.tail _ (List.Mem.tail _ (List.Mem.head _))))))))) hu (hr.mono (by decide)) (LamX.lamS_by (sc := defScope s_law) (by decide +kernel)) rfl (fun _ _ _ _ _ => rfl) (fun A2 outer2 s2 H2 E2 f2 c2 hr2 => (je_make (c := "Table") h_Table___init__ (mk_Table KX Gn c) lam_takes (hr2.mono (by decide)) (g_Table KX Gn c) (ja_cons (je_tup (ja_cons (je_tup (ja_cons je_int (ja_cons (je_tup (ja_cons je_int (ja_cons je_int ja_nil))) ja_nil))) ja_nil)) ja_nil)))) je_str)
  (jss_one (js_ret je_bl))
  jss_nil)
  (jss_cons (js_if (jt_cmp (jop_ne hr.units) (je_told (k := 5) (rs := raisable) (cs := tellers) (g__law_told KX Gn c) kT lkT hcT bT sc__law_told rfl (Or.inl rfl) (fun _ => rfl) (.cons rfl (g_BadMoney KX Gn c) (by decide) (.cons rfl (g_BadDay KX Gn c) (by decide) (.cons rfl (g_BadRule KX Gn c) (by decide) (.cons rfl (g_Unbalanced KX Gn c) (by decide) (.cons rfl (g_Shut KX Gn c) (by decide) (.cons rfl (g_Short KX Gn c) (by decide) (.cons rfl (g_BadText KX Gn c) (by decide) (.cons rfl (g_NoAnswer KX Gn c) (by decide) (.nil))))))))) (exall KX Gn c) (tb ("law", none) (List.Mem.tail _ (List.Mem.tail _ (List.Mem.tail _ (List.Mem.tail _ (List.Mem.tail _ (List.Mem.tail _ (List.Mem.tail _ (List.Mem.tail _ (List.Mem.head _)))))))))) rfl (List.Mem.tail _ (List.Mem.tail _ (List.Mem.tail _ (List.Mem.tail _ (List.Mem.tail _ (List.Mem.tail _ (List.Mem.tail _ (List.Mem.tail _ (List.Mem.head _))))))))) hu (hr.mono (by decide)) (LamX.lamS_by (sc := defScope s_law) (by decide +kernel)) rfl (fun _ _ _ _ _ => rfl) (fun A2 outer2 s2 H2 E2 f2 c2 hr2 => (je_meth (c := "Table") h_Table_back lam_takes (hr2.mono (by decide)) (cl_Table KX Gn c) (mt_Table_back KX Gn c) (je_var 5) (ja_cons je_int (ja_cons je_str (ja_cons je_int ja_nil)))))) je_str)
  (jss_one (js_ret je_bl))
  jss_nil)
  (jss_one (js_if (jt_cmp (jop_ne hr.units) (je_told (k := 8) (rs := raisable) (cs := tellers) (g__law_told KX Gn c) kT lkT hcT bT sc__law_told rfl (Or.inl rfl) (fun _ => rfl) (.cons rfl (g_BadMoney KX Gn c) (by decide) (.cons rfl (g_BadDay KX Gn c) (by decide) (.cons rfl (g_BadRule KX Gn c) (by decide) (.cons rfl (g_Unbalanced KX Gn c) (by decide) (.cons rfl (g_Shut KX Gn c) (by decide) (.cons rfl (g_Short KX Gn c) (by decide) (.cons rfl (g_BadText KX Gn c) (by decide) (.cons rfl (g_NoAnswer KX Gn c) (by decide) (.nil))))))))) (exall KX Gn c) (tb ("law", none) (List.Mem.tail _ (List.Mem.tail _ (List.Mem.tail _ (List.Mem.tail _ (List.Mem.tail _ (List.Mem.tail _ (List.Mem.tail _ (List.Mem.tail _ (List.Mem.head _)))))))))) rfl (List.Mem.tail _ (List.Mem.tail _ (List.Mem.tail _ (List.Mem.tail _ (List.Mem.tail _ (List.Mem.tail _ (List.Mem.tail _ (List.Mem.tail _ (List.Mem.head _))))))))) hu (hr.mono (by decide)) (LamX.lamS_by (sc := defScope s_law) (by decide +kernel)) rfl (fun _ _ _ _ _ => rfl) (fun A2 outer2 s2 H2 E2 f2 c2 hr2 => (je_call h_best_split lam_takes (hr2.mono (by decide)) (g_best_split KX Gn c) (ja_cons (je_var 5) (ja_cons je_int (ja_cons je_int (ja_cons je_str ja_nil))))))) je_str)
  (jss_one (js_ret je_bl))
  jss_nil))))))))))))))))))))))))
  (jss_one (js_ret je_bl)))
end
end Pr
set_option Elab.async false
set_option linter.all false
set_option maxRecDepth 100000
set_option maxHeartbeats 0
namespace Pr
open PySem PySem.Spec PyProof.Rows L2 DL
section
variable {P : Program} {w : World} {K : PySem.W.Frag} {mg : Str → Option Value} {base h0 : Heap}
theorem walk_law (KX : K.In h0) (Gn : h0.Ns mainGlobals mg) (c : He.SaysD fa fn K)
   (tup_RULES : He.tupB K "RULES" ((["down", "up", "half up", "half even", "half down"] : List Str).map He.Dv.str) = true) (tb : ∀ p ∈ tf, LamX.TabB base mg (He.cT K p).1 (He.cT K p).2) (nd2 : (tf.map fun p => (He.cT K p).2).Nodup) {fd : FuncData} (F : FunD K "law" "law" (defArgs s_law) (defBody s_law) (defScope s_law) [] [] (He.fAd K ("law", none)) fd) : FnOk P w K mg base (L2.CX P w) 11 (He.fAd K ("law", none)) fd ["script"] (spD K (GK K) 1 M_law) := by
  have h__law_dice : FnD P w K mg base (GK K) 1 (He.fAd K ("_law_dice", none)) 1 M__law_dice := fn__law_dice KX Gn c
  have h__law_rounds : FnD P w K mg base (GK K) 2 (He.fAd K ("_law_rounds", none)) 2 M__law_rounds := fn__law_rounds KX Gn c h__law_dice
  have h__law_withheld : FnD P w K mg base (GK K) 1 (He.fAd K ("_law_withheld", none)) 2 M__law_withheld := fn__law_withheld KX Gn c
  have h__law_roll : FnD P w K mg base (GK K) 1 (He.fAd K ("_law_roll", none)) 2 M__law_roll := fn__law_roll KX Gn c
  have h_rounded : FnD P w K mg base (GK K) 1 (He.fAd K ("rounded", none)) 2 M_rounded := fn_rounded KX Gn c tup_RULES
  have h_part : FnD P w K mg base (GK K) 1 (He.fAd K ("part", none)) 2 M_part := fn_part KX Gn c
  have h_add : FnD P w K mg base (GK K) 2 (He.fAd K ("add", none)) 2 M_add := fn_add KX Gn c h_part
  have h_times : FnD P w K mg base (GK K) 2 (He.fAd K ("times", none)) 2 M_times := fn_times KX Gn c h_part
  have h_Table_exact : FnD P w K mg base (GK K) 3 (He.fAd K ("Table", some "exact")) 2 M_Table_exact := fn_Table_exact KX Gn c h_times h_add
  have h_Table_withheld : FnD P w K mg base (GK K) 4 (He.fAd K ("Table", some "withheld")) 3 M_Table_withheld := fn_Table_withheld KX Gn c h_Table_exact h_rounded
  have h_Table_back : FnD P w K mg base (GK K) 5 (He.fAd K ("Table", some "back")) 4 M_Table_back := fn_Table_back KX Gn c h_Table_withheld
  have h_edge_jump : FnD P w K mg base (GK K) 5 (He.fAd K ("edge_jump", none)) 4 M_edge_jump := fn_edge_jump KX Gn c h_Table_withheld
  have h_worse_off : FnD P w K mg base (GK K) 6 (He.fAd K ("worse_off", none)) 4 M_worse_off := fn_worse_off KX Gn c h_edge_jump
  have h_Table___init__ : FnD P w K mg base (GK K) 4 (He.fAd K ("Table", some "__init__")) 2 M_Table___init__ := fn_Table___init__ KX Gn c tb nd2
  have h_order : FnD P w K mg base (GK K) 1 (He.fAd K ("order", none)) 2 M_order := fn_order KX Gn c
  have h_Table_is_rising : FnD P w K mg base (GK K) 5 (He.fAd K ("Table", some "is_rising")) 1 M_Table_is_rising := fn_Table_is_rising KX Gn c h_order tb nd2
  have h_Table_at_edge : FnD P w K mg base (GK K) 1 (He.fAd K ("Table", some "at_edge")) 2 M_Table_at_edge := fn_Table_at_edge KX Gn c
  have h_over : FnD P w K mg base (GK K) 2 (He.fAd K ("over", none)) 2 M_over := fn_over KX Gn c h_part
  have h_Table_mean : FnD P w K mg base (GK K) 4 (He.fAd K ("Table", some "mean")) 2 M_Table_mean := fn_Table_mean KX Gn c h_Table_exact h_over
  have h_over_year : FnD P w K mg base (GK K) 4 (He.fAd K ("over_year", none)) 4 M_over_year := fn_over_year KX Gn c h_part h_Table_exact h_times h_rounded
  have h_best_split : FnD P w K mg base (GK K) 8 (He.fAd K ("best_split", none)) 4 M_best_split := fn_best_split KX Gn c h_Table_withheld tb nd2
  have h_capped : FnD P w K mg base (GK K) 3 (He.fAd K ("capped", none)) 5 M_capped := fn_capped KX Gn c h_times h_rounded
  have h_at_end : FnD P w K mg base (GK K) 5 (He.fAd K ("at_end", none)) 4 M_at_end := fn_at_end KX Gn c h_Table_withheld
  have h_for_two : FnD P w K mg base (GK K) 4 (He.fAd K ("for_two", none)) 4 M_for_two := fn_for_two KX Gn c h_Table_exact h_rounded
  have h_credits_used : FnD P w K mg base (GK K) 1 (He.fAd K ("credits_used", none)) 2 M_credits_used := fn_credits_used KX Gn c
  have h__law_year : FnD P w K mg base (GK K) 9 (He.fAd K ("_law_year", none)) 5 M__law_year := fn__law_year KX Gn c h_credits_used h_capped h_for_two h__law_withheld h_best_split h__law_roll h_at_end h_Table_withheld h_over_year
  have h_Slip___init__ : FnD P w K mg base (GK K) 1 (He.fAd K ("Slip", some "__init__")) 1 M_Slip___init__ := fn_Slip___init__ KX Gn c
  have h_Slip_sum_of : FnD P w K mg base (GK K) 4 (He.fAd K ("Slip", some "sum_of")) 2 M_Slip_sum_of := fn_Slip_sum_of KX Gn c tb nd2
  have h_Slip_line : FnD P w K mg base (GK K) 1 (He.fAd K ("Slip", some "line")) 4 M_Slip_line := fn_Slip_line KX Gn c
  have h_made : FnD P w K mg base (GK K) 5 (He.fAd K ("made", none)) 4 M_made := fn_made KX Gn c h_Slip_line h_times h_rounded h_Table_withheld h_Slip_sum_of h_Slip___init__
  have h_Slip_gross : FnD P w K mg base (GK K) 5 (He.fAd K ("Slip", some "gross")) 1 M_Slip_gross := fn_Slip_gross KX Gn c h_Slip_sum_of
  have h_Slip_net : FnD P w K mg base (GK K) 6 (He.fAd K ("Slip", some "net")) 1 M_Slip_net := fn_Slip_net KX Gn c h_Slip_gross h_Slip_sum_of
  have h_net_of : FnD P w K mg base (GK K) 7 (He.fAd K ("net_of", none)) 3 M_net_of := fn_net_of KX Gn c h_made h_Slip_net
  have h_gross_for : FnD P w K mg base (GK K) 8 (He.fAd K ("gross_for", none)) 4 M_gross_for := fn_gross_for KX Gn c h_net_of
  have h_Slip_hold : FnD P w K mg base (GK K) 7 (He.fAd K ("Slip", some "hold")) 3 M_Slip_hold := fn_Slip_hold KX Gn c h_Slip_line h_Slip_net
  have h_bonus : FnD P w K mg base (GK K) 2 (He.fAd K ("bonus", none)) 4 M_bonus := fn_bonus KX Gn c h_part h_rounded
  have h_is_even : FnD P w K mg base (GK K) 3 (He.fAd K ("is_even", none)) 3 M_is_even := fn_is_even KX Gn c h_times h_order
  have h_by_minutes : FnD P w K mg base (GK K) 3 (He.fAd K ("by_minutes", none)) 3 M_by_minutes := fn_by_minutes KX Gn c h_part h_times h_rounded
  have h_split_days : FnD P w K mg base (GK K) 4 (He.fAd K ("split_days", none)) 2 M_split_days := fn_split_days KX Gn c tb nd2
  have h_day_pay : FnD P w K mg base (GK K) 7 (He.fAd K ("day_pay", none)) 4 M_day_pay := fn_day_pay KX Gn c h_split_days h_by_minutes tb nd2
  have h_part_time : FnD P w K mg base (GK K) 2 (He.fAd K ("part_time", none)) 4 M_part_time := fn_part_time KX Gn c h_part h_rounded
  have h_raised : FnD P w K mg base (GK K) 3 (He.fAd K ("raised", none)) 2 M_raised := fn_raised KX Gn c h_times h_rounded
  have h_piece_pay : FnD P w K mg base (GK K) 4 (He.fAd K ("piece_pay", none)) 2 M_piece_pay := fn_piece_pay KX Gn c tb nd2
  have h_least_paid : FnD P w K mg base (GK K) 1 (He.fAd K ("least_paid", none)) 2 M_least_paid := fn_least_paid KX Gn c
  have h__law_shares : FnD P w K mg base (GK K) 8 (He.fAd K ("_law_shares", none)) 1 M__law_shares := fn__law_shares KX Gn c h_is_even h_least_paid h_piece_pay h_raised h_part_time h_day_pay h_by_minutes h_bonus h__law_roll
  have h__law_slips : FnD P w K mg base (GK K) 9 (He.fAd K ("_law_slips", none)) 3 M__law_slips := fn__law_slips KX Gn c h_Slip_line h__law_shares h_Slip_net h_Slip_hold h__law_roll h_Slip___init__ h_net_of h_gross_for h_Slip_sum_of h_Slip_gross h_Table_withheld h_made tb nd2
  have h__law_least : FnD P w K mg base (GK K) 1 (He.fAd K ("_law_least", none)) 2 M__law_least := fn__law_least KX Gn c
  have h_less : FnD P w K mg base (GK K) 2 (He.fAd K ("less", none)) 2 M_less := fn_less KX Gn c h_part
  have h_gap_of : FnD P w K mg base (GK K) 5 (He.fAd K ("gap_of", none)) 3 M_gap_of := fn_gap_of KX Gn c h_Table_exact h_Table_withheld h_less
  have h_Table_scaled : FnD P w K mg base (GK K) 6 (He.fAd K ("Table", some "scaled")) 2 M_Table_scaled := fn_Table_scaled KX Gn c h_Table___init__
  exact fn_law KX Gn c h__law_rounds h_best_split h_Table_back h_Table___init__ h_edge_jump h_worse_off h__law_slips h__law_year h_gap_of h_Table_scaled h_Table_exact h__law_least h__law_withheld h__law_roll h_Table_mean h_Table_at_edge h_Table_is_rising h_Table_withheld h_part tb nd2 F
end
theorem at_law {w : World} {K : PySem.W.Frag} {mg : Str → Option Value} {h : Heap} {ad : Addr} (KX : K.In h) (Gn : h.Ns mainGlobals mg) (hm : mg ("law" : Str) = some (.ref ad)) (c : He.SaysX fa fn [] tf exB w h K)
    (ok : ∀ (ns : List Int) (d : D) (S : Store), ns.length ≤ 63 → (∀ z ∈ ns, Builtin.Int.intBits z ≤ 1048576) → ScriptAt ns d S → ∃ S2, M_law [d] S = .ok (.bl true) S2) : LamX.LawAtS PySem.Challenge.rw_wagehall_k05_withheld_and_paid w K (L2.CX PySem.Challenge.rw_wagehall_k05_withheld_and_paid.prog w) 11 63 "script" mg ad h := by
  have cd := c.t.d
  obtain ⟨fd, F0⟩ := cd.def_ 51 (d := d_law) rfl
  have F : FunD K "law" "law" (defArgs s_law) (defBody s_law) (defScope s_law) [] [] (He.fAd K ("law", none)) fd := F0
  have e := hm.symm.trans (g_law KX Gn cd)
  cases e
  have b := FunD.bindsA (ps := ["script"]) F fun _ _ _ _ _ _ us hl => match us, hl with | [_], _ => rfl
  have more := c.more
  unfold exB at more
  simp only [Bool.and_eq_true] at more
  obtain ⟨nd0, tup_RULES_b⟩ := more
  have nd2 : (tf.map fun p => (He.cT K p).2).Nodup := of_decide_eq_true nd0
  have tup_RULES := tup_RULES_b
  refine ⟨fd, tf.map (He.cT K), spD K (GK K) 1 M_law, fun p hp => ?_, fun p hp => ?_, fun p hp => ?_, fun s v => b s [v] rfl, fun H a ns hl hb hT hS => ?_, fun base KB GB hB => ?_⟩
  · obtain ⟨q, hq, rfl⟩ := List.mem_map.mp hp
    exact c.empty q hq
  · obtain ⟨q, hq, rfl⟩ := List.mem_map.mp hp
    exact c.out q hq
  · obtain ⟨q, hq, rfl⟩ := List.mem_map.mp hp
    exact PySem.W.codeHd_of_K KX (c.hd q hq)
  · refine law_sp (fun p hp => ?_) hS fun d S hs => ok ns d S hl hb hs
    have hp2 : ∃ q ∈ tf, p.1 = (He.cT K q).2 := by
      simp only [GK, List.mem_cons, List.not_mem_nil, or_false] at hp
      rcases hp with rfl | rfl | rfl | rfl | rfl | rfl | rfl | rfl | rfl
      · exact ⟨_, (.head _), rfl⟩
      · exact ⟨_, (.tail _ (.head _)), rfl⟩
      · exact ⟨_, (.tail _ (.tail _ (.head _))), rfl⟩
      · exact ⟨_, (.tail _ (.tail _ (.tail _ (.head _)))), rfl⟩
      · exact ⟨_, (.tail _ (.tail _ (.tail _ (.tail _ (.head _))))), rfl⟩
      · exact ⟨_, (.tail _ (.tail _ (.tail _ (.tail _ (.tail _ (.head _)))))), rfl⟩
      · exact ⟨_, (.tail _ (.tail _ (.tail _ (.tail _ (.tail _ (.tail _ (.head _))))))), rfl⟩
      · exact ⟨_, (.tail _ (.tail _ (.tail _ (.tail _ (.tail _ (.tail _ (.tail _ (.head _)))))))), rfl⟩
      · exact ⟨_, (.tail _ (.tail _ (.tail _ (.tail _ (.tail _ (.tail _ (.tail _ (.tail _ (.head _))))))))), rfl⟩
    obtain ⟨q, hq, e⟩ := hp2
    exact LamX.TabS.nil (e ▸ hT _ (List.mem_map.mpr ⟨q, hq, rfl⟩))
  · exact walk_law (P := PySem.Challenge.rw_wagehall_k05_withheld_and_paid.prog) KX Gn cd tup_RULES (fun p hp => hB _ (List.mem_map.mpr ⟨p, hp, rfl⟩)) nd2 F
end Pr
open PySem PySem.W PySem.Calls PyProof.Rows
theorem holds_it (ok : ∀ (ns : List Int) (d : DL.D) (S : DL.Store), ns.length ≤ 63 → (∀ z ∈ ns, Builtin.Int.intBits z ≤ 1048576) → DL.ScriptAt ns d S → ∃ S2, Pr.M_law [d] S = .ok (.bl true) S2) : PySem.Challenge.rw_wagehall_k05_withheld_and_paid.Holds := by
  w_on; o_law
  refine HandSHeadRun.head_any (r := OpenLaw.row PySem.Challenge.rw_wagehall_k05_withheld_and_paid) (q := view (OpenLaw.row PySem.Challenge.rw_wagehall_k05_withheld_and_paid).prog [55]) (H := Pr.hk) (ob := Pr.ob) (M := 20000) (loose := Pr.names) (d := HandSHeadRun.topDef (OpenLaw.row PySem.Challenge.rw_wagehall_k05_withheld_and_paid).prog 55) (kwd := []) Pr.ob_eq
    (by kernel_rfl) (fun s => by kernel_rfl) Pr.run (by kernel_rfl) (by kernel_rfl) (by kernel_rfl) (by rfl) (by first | assumption | decide +kernel) (by decide +kernel) ⟨rfl, rfl, rfl, rfl, rfl, by decide +kernel⟩ ?hw ?hc
  case hw => w_witness2
  case hc =>
    refine LamX.walk_ofTsE (l := PySem.Challenge.rw_wagehall_k05_withheld_and_paid) (n := 63) (k := 11) (x := "script") (CX := fun w => L2.CX PySem.Challenge.rw_wagehall_k05_withheld_and_paid.prog w) rfl (by decide) (by kernel_rfl) ⟨rfl, by decide, by decide⟩ ?F (fun w H s e s2 z => ?cx)
    case cx =>
      obtain ⟨_, _, _, _, _, _, _, _, _, _, _, _, z⟩ := z
      exact z
    intro w mg ad h Y G hmg0
    obtain ⟨K, KX, c⟩ := Y
    have hmg : mg ("law" : PySem.Str) = some (.ref ad) := by
      have e : (HandSHeadRun.topDef (OpenLaw.row PySem.Challenge.rw_wagehall_k05_withheld_and_paid).prog 55).name = ("law" : PySem.Str) := by kernel_rfl
      rw [← e]
      exact hmg0
    exact ⟨K, KX, Pr.at_law KX G hmg c ok⟩
set_option Elab.async false
set_option linter.all false
set_option maxRecDepth 100000
set_option maxHeartbeats 1000000
/-! DLE: the denotations, evaluated by simp. -/
namespace DL
open PySem PySem.Spec PyProof.Rows L2
theorem bind_congr1 {α β : Type} {o o2 : Out α} {k : α → Store → Out β} (h : o = o2) : o.bind k = o2.bind k := by rw [h]
theorem liftS_congr1 {α : Type} {o o2 : Out α} {ρ : DEnv} {k : α → Store → OutS} (h : o = o2) : liftS o ρ k = liftS o2 ρ k := by rw [h]
def seqS (o : OutS) (g : DS) : OutS := match o with
  | .nx ρ S => g ρ S
  | o => o
theorem seqS_congr1 {o o2 : OutS} {g : DS} (h : o = o2) : seqS o g = seqS o2 g := by rw [h]
@[simp] theorem seqS_nx (ρ : DEnv) (S : Store) (g : DS) : seqS (.nx ρ S) g = g ρ S := rfl
@[simp] theorem seqS_rt (d : D) (S : Store) (g : DS) : seqS (.rt d S) g = .rt d S := rfl
@[simp] theorem seqS_exn (e : Exc) (ρ : DEnv) (S : Store) (g : DS) : seqS (.exn e ρ S) g = .exn e ρ S := rfl
@[simp] theorem seqS_bk (ρ : DEnv) (S : Store) (g : DS) : seqS (.bk ρ S) g = .bk ρ S := rfl
@[simp] theorem seqS_ct (ρ : DEnv) (S : Store) (g : DS) : seqS (.ct ρ S) g = .ct ρ S := rfl
def finS (o : OutS) : Out D := match o with
  | .nx _ S1 => .ok .non S1
  | .rt d S1 => .ok d S1
  | .exn e _ S1 => .exn e S1
  | _ => .bad
@[simp] theorem finS_nx (ρ : DEnv) (S : Store) : finS (.nx ρ S) = .ok .non S := rfl
@[simp] theorem finS_rt (d : D) (S : Store) : finS (.rt d S) = .ok d S := rfl
@[simp] theorem finS_exn (e : Exc) (ρ : DEnv) (S : Store) : finS (.exn e ρ S) = .exn e S := rfl
def asgS (o : OutS) : OutS := match o with
  | .nx ρ S => .nx ρ S
  | .exn e ρ S => .exn e ρ S
  | _ => .bad
@[simp] theorem asgS_nx (ρ : DEnv) (S : Store) : asgS (.nx ρ S) = .nx ρ S := rfl
@[simp] theorem asgS_exn (e : Exc) (ρ : DEnv) (S : Store) : asgS (.exn e ρ S) = .exn e ρ S := rfl
def optV : Option (Option D) → Store → Out D
  | some (some d), S => .ok d S
  | _, _ => .bad
@[simp] theorem optV_some (d : D) (S : Store) : optV (some (some d)) S = .ok d S := rfl
def boolO (x : D) (S : Store) : Out Bool := match x with
  | .bl b => .ok b S
  | _ => .bad
@[simp] theorem boolO_bl (b : Bool) (S : Store) : boolO (.bl b) S = .ok b S := rfl
def fldO (o : Option (String × List (Str × D))) (cs : List String) (f : Str) (S : Store) : Out D := match o with
  | some (c, fs) => if c ∈ cs then (match fs.lookup f with
    | some d => .ok d S
    | none => .bad) else .bad
  | none => .bad
section
variable (ρ : DEnv) (S : Store) (fa fb fc fe fo fi : DE) (ga gb : DT) (fr : DA) (f g : DS)
@[simp] theorem e_runD (n : Nat) (ds : List D) : runD n f ds S = finS (f (startD n ds) S) := rfl
@[simp] theorem e_dVar (i : Nat) : dVar i ρ S = optV ρ[i]? S := by
  unfold dVar optV
  cases h : ρ[i]? with
  | none => rfl
  | some o => cases o <;> rfl
@[simp] theorem e_dC (d : D) : dC d ρ S = .ok d S := rfl
@[simp] theorem e_dOp (o : D2) : dOp o fa fb ρ S = (fa ρ S).bind fun x S1 => (fb ρ S1).bind fun y S2 => optO (o x y S2) := rfl
@[simp] theorem e_dUn (o : D1) : dUn o fa ρ S = (fa ρ S).bind fun x S1 => optO (o x S1) := rfl
@[simp] theorem e_dB : dB fa ρ S = (fa ρ S).bind boolO := rfl
@[simp] theorem e_dAndT : dAndT ga gb ρ S = (ga ρ S).bind fun x S1 => if x = true then gb ρ S1 else .ok false S1 := rfl
@[simp] theorem e_dOrT : dOrT ga gb ρ S = (ga ρ S).bind fun x S1 => if x = true then .ok true S1 else gb ρ S1 := rfl
@[simp] theorem e_dNotT : dNotT ga ρ S = (ga ρ S).bind fun x S1 => .ok (!x) S1 := rfl
@[simp] theorem e_dIf : dIf ga fa fb ρ S = (ga ρ S).bind fun x S1 => if x = true then fa ρ S1 else fb ρ S1 := rfl
@[simp] theorem e_daNil : daNil ρ S = .ok [] S := rfl
@[simp] theorem e_daCons : daCons fa fr ρ S = (fa ρ S).bind fun x S1 => (fr ρ S1).bind fun xs S2 => .ok (x :: xs) S2 := rfl
@[simp] theorem e_dTup : dTup fr ρ S = (fr ρ S).bind fun xs S1 => if xs.length ≤ 1000000 then .ok (.tup xs) S1 else .bad := rfl
@[simp] theorem e_dLst : dLst fr ρ S = (fr ρ S).bind fun xs S1 => if xs.length ≤ 1000000 then .ok (.obj S1.length) (S1 ++ [.lst xs]) else .bad := rfl
@[simp] theorem e_dCall (n : Nat) (F : DF) : dCall n F fr ρ S = (fr ρ S).bind fun ds S1 => if ds.length = n then F ds S1 else .bad := rfl
@[simp] theorem e_dBlt (o : DB) : dBlt o fr ρ S = (fr ρ S).bind fun ds S1 => optO (o ds S1) := rfl
@[simp] theorem e_dNext : dNext ρ S = .nx ρ S := rfl
@[simp] theorem e_dSeq : dSeq f g ρ S = seqS (f ρ S) g := by
  unfold dSeq seqS
  cases f ρ S <;> rfl
@[simp] theorem e_dRaise (c : String) : dRaise c ρ S = .exn ⟨c⟩ ρ S := rfl
@[simp] theorem e_dRet : dRet fe ρ S = liftS (fe ρ S) ρ fun d S1 => .rt d S1 := rfl
@[simp] theorem e_dDrop : dDrop fe ρ S = liftS (fe ρ S) ρ fun _ S1 => .nx ρ S1 := rfl
@[simp] theorem e_dIfS : dIfS ga f g ρ S = liftS (ga ρ S) ρ fun b S1 => if b = true then f ρ S1 else g ρ S1 := rfl
@[simp] theorem e_dAsg (tg : DG) : dAsg fe tg ρ S = liftS (fe ρ S) ρ fun d S1 => asgS (tg d ρ S1) := rfl
@[simp] theorem e_gN (i : Nat) (d : D) : gN i d ρ S = .nx (ρ.set i (some d)) S := rfl
@[simp] theorem e_gsNil : gsNil [] ρ S = .nx ρ S := rfl
@[simp] theorem e_gsCons (g : DG) (gs : DGs) (d : D) (ds : List D) : gsCons g gs (d :: ds) ρ S = seqS (asgS (g d ρ S)) (gs ds) := by
  show (match g d ρ S with
    | .nx ρ1 S1 => gs ds ρ1 S1
    | .exn e ρ1 S1 => .exn e ρ1 S1
    | _ => .bad) = _
  cases h : g d ρ S <;> rfl
def gT_go (o : Option (List D)) (n : Nat) (gs : DGs) (ρ : DEnv) (S : Store) : OutS := match o with
  | some xs => if xs.length = n then gs xs ρ S else .bad
  | none => .bad
@[simp] theorem gT_some (xs : List D) (n : Nat) (gs : DGs) : gT_go (some xs) n gs ρ S = if xs.length = n then gs xs ρ S else .bad := rfl
@[simp] theorem e_gT (n : Nat) (gs : DGs) (d : D) : gT n gs d ρ S = gT_go (seqAt S d) n gs ρ S := rfl
def par2 (i j : Nat) (ρ : DEnv) (ds : List D) (S : Store) : OutS := match ds with
  | [d, e] => .nx ((ρ.set i (some d)).set j (some e)) S
  | _ => .bad
@[simp] theorem par2_two (i j : Nat) (d e : D) : par2 i j ρ [d, e] S = .nx ((ρ.set i (some d)).set j (some e)) S := rfl
@[simp] theorem e_dPar2 (i j : Nat) : dPar2 i j fr ρ S = liftS (fr ρ S) ρ (par2 i j ρ) := rfl
def par3 (i j l : Nat) (ρ : DEnv) (ds : List D) (S : Store) : OutS := match ds with
  | [d, e, g] => .nx (((ρ.set i (some d)).set j (some e)).set l (some g)) S
  | _ => .bad
@[simp] theorem par3_three (i j l : Nat) (d e g : D) : par3 i j l ρ [d, e, g] S = .nx (((ρ.set i (some d)).set j (some e)).set l (some g)) S := rfl
@[simp] theorem e_dPar3 (i j l : Nat) : dPar3 i j l fr ρ S = liftS (fr ρ S) ρ (par3 i j l ρ) := rfl
@[simp] theorem fldO_some (c : String) (fs : List (Str × D)) (cs : List String) (x : Str) : fldO (some (c, fs)) cs x S = if c ∈ cs then (match fs.lookup x with
    | some d => .ok d S
    | none => .bad) else .bad := rfl
@[simp] theorem e_dFld (cs : List String) (x : Str) : dFld cs x fa ρ S = (fa ρ S).bind fun d S1 => fldO (insAt S1 d) cs x S1 := rfl
def methO (c : String) (mt : Str) (n : Nat) (F : DF) (fr : DA) (ρ : DEnv) (S : Store) (x : D) (o : Option (String × List (Str × D))) : Out D := match o with
  | some (c', fs) => if c' = c ∧ fs.lookup mt = none then (fr ρ S).bind fun ds S2 => if ds.length + 1 = n then F (x :: ds) S2 else .bad else .bad
  | none => .bad
@[simp] theorem methO_some (c : String) (mt : Str) (n : Nat) (F : DF) (x : D) (c' : String) (fs : List (Str × D)) : methO c mt n F fr ρ S x (some (c', fs)) = if c' = c ∧ fs.lookup mt = none then (fr ρ S).bind fun ds S2 => if ds.length + 1 = n then F (x :: ds) S2 else .bad else .bad := rfl
@[simp] theorem e_dMeth (c : String) (mt : Str) (n : Nat) (F : DF) : dMeth c mt n F fo fr ρ S = (fo ρ S).bind fun x S1 => methO c mt n F fr ρ S1 x (insAt S1 x) := rfl
def madeO (k : Nat) (r : D) (S : Store) : Out D := match r with
  | .non => .ok (.obj k) S
  | _ => .bad
@[simp] theorem madeO_non (k : Nat) : madeO k .non S = .ok (.obj k) S := rfl
@[simp] theorem e_dMake (c : String) (n : Nat) (F : DF) : dMake c n F fr ρ S = (fr ρ S).bind fun ds S1 => if ds.length + 1 = n then (F (.obj S1.length :: ds) (S1 ++ [.ins c []])).bind (madeO S1.length) else .bad := rfl
def putO (cs : List String) (x : Str) (ρ : DEnv) (S : Store) (d o : D) (q : Option (String × List (Str × D))) : OutS := match o, q with
  | .obj n, some (c, fs) => if c ∈ cs ∧ fs.length < 1000 then .nx ρ (S.set n (.ins c (putD x d fs))) else .bad
  | _, _ => .bad
@[simp] theorem putO_some (cs : List String) (x : Str) (d : D) (n : Nat) (c : String) (fs : List (Str × D)) : putO cs x ρ S d (.obj n) (some (c, fs)) = if c ∈ cs ∧ fs.length < 1000 then .nx ρ (S.set n (.ins c (putD x d fs))) else .bad := rfl
@[simp] theorem e_dPutF (cs : List String) (x : Str) : dPutF cs x fo fe ρ S = liftS (fe ρ S) ρ fun d S1 => liftS (fo ρ S1) ρ fun o S2 => putO cs x ρ S2 d o (insAt S2 o) := rfl
end
/-! ### numbers -/
@[simp] theorem sh_int (i : Int) : SeqAt.shaped (.int i) = true := rfl
@[simp] theorem eqD_int (i j : Int) (S : Store) : eqD (.int i) (.int j) S = some (.bl (decide (i = j)), S) := by
  simp [eqD, D.toPS, D.toP, PyData.eqv]
  cases h : (i == j) <;> simp_all
@[simp] theorem neD_int (i j : Int) (S : Store) : neD (.int i) (.int j) S = some (.bl (!decide (i = j)), S) := by
  simp [neD, D.toPS, D.toP, PyData.eqv]
  cases h : (i == j) <;> simp_all
@[simp] theorem addD_int (i j : Int) (S : Store) : addD (.int i) (.int j) S = some (.int (i + j), S) := rfl
@[simp] theorem subD_int (i j : Int) (S : Store) : subD (.int i) (.int j) S = some (.int (i - j), S) := rfl
@[simp] theorem subD_bl (i j : Bool) (S : Store) : subD (.bl i) (.bl j) S = some (.int (b2 i - b2 j), S) := rfl
@[simp] theorem cmpI_int (p : Int → Int → Bool) (i j : Int) (S : Store) : cmpI p (.int i) (.int j) S = some (.bl (p i j), S) := rfl
@[simp] theorem ixD_tup (xs : List D) (k : Int) (S : Store) : ixD (.tup xs) (.int k) S = (atI xs k).map fun d => (d, S) := rfl
@[simp] theorem negD_int (i : Int) (S : Store) : negD (.int i) S = some (.int (-i), S) := rfl
theorem modD_int {i j : Int} {S : Store} (h : 0 < j) : modD (.int i) (.int j) S = some (.int (i % j), S) := by simp [modD, h]
theorem log2_lt' {a n : Nat} (h : a < 2 ^ n) (hn : 0 < n) : a.log2 < n := by
  by_cases h0 : a = 0
  · subst h0; simpa using hn
  · exact (Nat.log2_lt h0).mpr h
theorem mulD_int {i j : Int} {S : Store} (h1 : i.natAbs < 2 ^ 9000) (h2 : j.natAbs < 2 ^ 9000) : mulD (.int i) (.int j) S = some (.int (i * j), S) := by
  have a := log2_lt' h1 (by decide)
  have b := log2_lt' h2 (by decide)
  exact if_pos (.inr (by omega))
theorem fdivD_int {i j : Int} {S : Store} (h : 0 < j) (h2 : j.natAbs < 2 ^ 9000) : fdivD (.int i) (.int j) S = some (.int (i / j), S) := by
  have b := log2_lt' h2 (by decide)
  exact if_pos ⟨h, b⟩
theorem abs_nat (i : Int) : (if i < 0 then -i else i) = (i.natAbs : Int) := by split <;> omega
@[simp] theorem absD_int (i : Int) (S : Store) : absD [.int i] S = some (.int (i.natAbs : Int), S) := by
  simp only [absD, abs_nat]
@[simp] theorem maxD_int (i j : Int) (S : Store) : maxD [.int i, .int j] S = some (.int (max i j), S) := by
  simp only [maxD]
  congr 3
  split <;> omega
@[simp] theorem minD_int (i j : Int) (S : Store) : minD [.int i, .int j] S = some (.int (min i j), S) := by
  simp only [minD]
  congr 3
  split <;> omega
theorem atI_nat (xs : List D) (j : Nat) : atI xs (j : Int) = xs[j]? := by
  unfold atI ixN
  by_cases h : j < xs.length
  · rw [if_pos (by omega), if_pos (by omega)]; rfl
  · rw [if_pos (by omega), if_neg (by omega), List.getElem?_eq_none (by omega)]; rfl
@[simp] theorem atI_lit (xs : List D) (n : Nat) : atI xs (@OfNat.ofNat Int n instOfNat) = xs[n]? := atI_nat xs n
@[simp] theorem atI_zero (xs : List D) : atI xs 0 = xs[0]? := atI_nat xs 0
@[simp] theorem atI_one (xs : List D) : atI xs 1 = xs[1]? := atI_nat xs 1
end DL
set_option Elab.async false
set_option linter.all false
set_option maxRecDepth 100000
set_option maxHeartbeats 1000000
/-! DLE2: loops, comprehensions, the store, evaluated by simp. -/
namespace DL
open PySem PySem.Spec PyProof.Rows L2
/-! ### for -/
def forK (o : OutS) (k : DS) : OutS := match o with
  | .nx ρ S => k ρ S
  | .ct ρ S => k ρ S
  | .bk ρ S => .nx ρ S
  | o => o
theorem forK_congr1 {o o2 : OutS} {k : DS} (h : o = o2) : forK o k = forK o2 k := by rw [h]
@[simp] theorem forK_nx (ρ : DEnv) (S : Store) (k : DS) : forK (.nx ρ S) k = k ρ S := rfl
@[simp] theorem forK_ct (ρ : DEnv) (S : Store) (k : DS) : forK (.ct ρ S) k = k ρ S := rfl
@[simp] theorem forK_bk (ρ : DEnv) (S : Store) (k : DS) : forK (.bk ρ S) k = .nx ρ S := rfl
@[simp] theorem forK_rt (d : D) (S : Store) (k : DS) : forK (.rt d S) k = .rt d S := rfl
@[simp] theorem forK_exn (e : Exc) (ρ : DEnv) (S : Store) (k : DS) : forK (.exn e ρ S) k = .exn e ρ S := rfl
section
variable (ρ : DEnv) (S : Store) (fa fb fc fe fo : DE) (ga gb : DT) (fr : DA) (f : DS) (tg : DG) (grd : Store → Bool)
@[simp] theorem grdT_eq : grdT S = true := rfl
@[simp] theorem e_dFor (fi : DI) : dFor fi tg f ρ S = liftS (fi ρ S) ρ fun src S1 => forD src.grd tg f src.items ρ S1 := rfl
@[simp] theorem forD_nil : forD grd tg f [] ρ S = if grd S = true then .nx ρ S else .bad := rfl
@[simp] theorem forD_cons (d : D) (ds : List D) : forD grd tg f (d :: ds) ρ S = if grd S = true then forK (seqS (asgS (tg d ρ S)) f) (forD grd tg f ds) else .bad := by
  rw [forD]
  congr 1
  cases tg d ρ S with
  | nx ρ1 S1 =>
    dsimp only [asgS_nx, seqS_nx]
    cases f ρ1 S1 <;> rfl
  | _ => rfl
@[simp] theorem e_diRange1 : diRange1 fe ρ S = (fe ρ S).bind fun d S1 => match d with
  | .int j => if -1000000000000 ≤ j ∧ j ≤ 1000000000000 then .ok ⟨rngD 0 1 j.toNat, grdT⟩ S1 else .bad
  | _ => .bad := rfl
@[simp] theorem e_diRev1 : diRev1 fe ρ S = (fe ρ S).bind fun d S1 => match d with
  | .int j => if -1000000000000 ≤ j ∧ j ≤ 1000000000000 then .ok ⟨rngD (j - 1) (-1) j.toNat, grdT⟩ S1 else .bad
  | _ => .bad := rfl
@[simp] theorem e_diRange2 : diRange2 fa fb ρ S = (fa ρ S).bind fun d S1 => (fb ρ S1).bind fun e S2 => match d, e with
  | .int i, .int j => if (-1000000000000 ≤ i ∧ i ≤ 1000000000000) ∧ -1000000000000 ≤ j ∧ j ≤ 1000000000000 then .ok ⟨rngD i 1 (j - i).toNat, grdT⟩ S2 else .bad
  | _, _ => .bad := rfl
@[simp] theorem e_diSeq : diSeq fe ρ S = (fe ρ S).bind fun d S1 => optO (srcOf d S1) := rfl
@[simp] theorem e_diEnum : diEnum fe ρ S = (fe ρ S).bind fun d S1 => optO (enumOf d S1) := rfl
@[simp] theorem srcOf_tup (xs : List D) : srcOf (.tup xs) S = some (⟨xs, grdT⟩, S) := rfl
@[simp] theorem srcOf_fl (xs : List D) : srcOf (.fl xs) S = some (⟨xs, grdT⟩, S) := rfl
@[simp] theorem srcOf_obj (n : Nat) : srcOf (.obj n) S = (lstAt S n).map fun xs => (⟨xs, grdL n xs⟩, S) := rfl
@[simp] theorem enumOf_tup (xs : List D) : enumOf (.tup xs) S = some (⟨enumL xs, grdT⟩, S) := rfl
@[simp] theorem rngD_zero (lo c : Int) : rngD lo c 0 = [] := rfl
theorem rngD_succ (lo c : Int) (n : Nat) : rngD lo c (n + 1) = .int lo :: rngD (lo + c) c n := by
  unfold rngD
  rw [List.range_succ_eq_map, List.map_cons, List.map_map]
  congr 1
  · simp
  · refine List.map_congr_left fun i _ => ?_
    simp only [Function.comp, D.int.injEq]
    show lo + ((i + 1 : Nat) : Int) * c = lo + c + (i : Int) * c
    rw [Int.natCast_add, Int.add_mul]
    simp; omega
@[simp] theorem rng_1 : rngD 0 1 1 = [.int 0] := rfl
@[simp] theorem rng_2 : rngD 0 1 2 = [.int 0, .int 1] := rfl
@[simp] theorem rng_3 : rngD 0 1 3 = [.int 0, .int 1, .int 2] := rfl
@[simp] theorem rng_4 : rngD 0 1 4 = [.int 0, .int 1, .int 2, .int 3] := rfl
@[simp] theorem rng_5 : rngD 0 1 5 = [.int 0, .int 1, .int 2, .int 3, .int 4] := rfl
@[simp] theorem rev_1 : rngD 0 (-1) 1 = [.int 0] := rfl
@[simp] theorem rev_2 : rngD 1 (-1) 2 = [.int 1, .int 0] := rfl
@[simp] theorem rev_3 : rngD 2 (-1) 3 = [.int 2, .int 1, .int 0] := rfl
@[simp] theorem rev_4 : rngD 3 (-1) 4 = [.int 3, .int 2, .int 1, .int 0] := rfl
/-! ### comprehensions -/
def outU (n : Nat) (k : Store → Out Unit) (y : D) (S : Store) : Out Unit := match lstAt S n with
  | some acc => if acc.length < 1000000 then k (S.set n (.lst (acc ++ [y]))) else .bad
  | none => .bad
theorem outU_some {n : Nat} {k : Store → Out Unit} {y : D} {S : Store} {acc : List D} (h : lstAt S n = some acc) (h2 : acc.length < 1000000) : outU n k y S = k (S.set n (.lst (acc ++ [y]))) := by
  unfold outU
  rw [h]
  exact if_pos h2
/-- what a comprehension's part may end in -/
def lcE {α β : Type} (o : Out α) (k : α → Store → Out β) : Out β := match o with
  | .ok a S => k a S
  | _ => .bad
theorem lcE_congr1 {α β : Type} {o o2 : Out α} {k : α → Store → Out β} (h : o = o2) : lcE o k = lcE o2 k := by rw [h]
@[simp] theorem lcE_ok {α β : Type} (a : α) (S : Store) (k : α → Store → Out β) : lcE (.ok a S) k = k a S := rfl
def lcG {β : Type} (o : OutS) (k : DEnv → Store → Out β) : Out β := match o with
  | .nx ρ S => k ρ S
  | _ => .bad
theorem lcG_congr1 {β : Type} {o o2 : OutS} {k : DEnv → Store → Out β} (h : o = o2) : lcG o k = lcG o2 k := by rw [h]
@[simp] theorem lcG_nx {β : Type} (ρ : DEnv) (S : Store) (k : DEnv → Store → Out β) : lcG (.nx ρ S) k = k ρ S := rfl
@[simp] theorem e_dYes : dYes ρ S = .ok true S := rfl
@[simp] theorem e_dLc (fi : DI) (tt : DT) (vs : List Nat) : dLc fi tg tt fe vs ρ S = (fi ρ S).bind fun src S1 => (lcD src.grd tg tt fe S1.length (wipeD ρ vs) src.items (S1 ++ [.lst []])).bind fun _ S2 => .ok (.obj S1.length) S2 := rfl
@[simp] theorem lcD_nil (tt : DT) (n : Nat) : lcD grd tg tt fe n ρ [] S = if grd S = true then .ok () S else .bad := rfl
@[simp] theorem lcD_cons (tt : DT) (n : Nat) (d : D) (ds : List D) : lcD grd tg tt fe n ρ (d :: ds) S = if grd S = true then lcG (tg d ρ S) (fun ρ1 S1 => lcE (tt ρ1 S1) fun b S2 => if b = true then lcE (fe ρ1 S2) (outU n (lcD grd tg tt fe n ρ ds)) else lcD grd tg tt fe n ρ ds S2) else .bad := by
  rw [lcD]
  congr 1
  cases tg d ρ S with
  | nx ρ1 S1 =>
    dsimp only [lcG_nx]
    cases tt ρ1 S1 with
    | ok b S2 =>
      cases b with
      | true =>
        dsimp only [lcE_ok]
        rw [if_pos rfl]
        cases fe ρ1 S2 <;> rfl
      | false => rfl
    | _ => rfl
  | _ => rfl
@[simp] theorem wipeD_nil : wipeD ρ [] = ρ := rfl
@[simp] theorem wipeD_cons (v : Nat) (vs : List Nat) : wipeD ρ (v :: vs) = (wipeD ρ vs).set v none := rfl
@[simp] theorem e_dLc2 (fi : DI) (tt : DT) (fi1 : DI) (g1 : DG) (tt1 : DT) (vs vs1 : List Nat) : dLc2 fi tg tt fi1 g1 tt1 fe vs vs1 ρ S = (fi ρ S).bind fun src S1 => (lcD2 src.grd tg tt fi1 g1 tt1 fe vs1 S1.length (wipeD ρ vs) src.items (S1 ++ [.lst []])).bind fun _ S2 => .ok (.obj S1.length) S2 := rfl
@[simp] theorem lcD2_nil (tt : DT) (fi1 : DI) (g1 : DG) (tt1 : DT) (vs1 : List Nat) (n : Nat) : lcD2 grd tg tt fi1 g1 tt1 fe vs1 n ρ [] S = if grd S = true then .ok () S else .bad := rfl
@[simp] theorem lcD2_cons (tt : DT) (fi1 : DI) (g1 : DG) (tt1 : DT) (vs1 : List Nat) (n : Nat) (d : D) (ds : List D) : lcD2 grd tg tt fi1 g1 tt1 fe vs1 n ρ (d :: ds) S = if grd S = true then lcG (tg d ρ S) (fun ρ1 S1 => lcE (tt ρ1 S1) fun b S2 => if b = true then lcE (fi1 ρ1 S2) (fun src S3 => (lcD src.grd g1 tt1 fe n (wipeD ρ1 vs1) src.items S3).bind fun _ S4 => lcD2 grd tg tt fi1 g1 tt1 fe vs1 n ρ ds S4) else lcD2 grd tg tt fi1 g1 tt1 fe vs1 n ρ ds S2) else .bad := by
  rw [lcD2]
  congr 1
  cases tg d ρ S with
  | nx ρ1 S1 =>
    dsimp only [lcG_nx]
    cases tt ρ1 S1 with
    | ok b S2 =>
      cases b with
      | true =>
        dsimp only [lcE_ok]
        rw [if_pos rfl]
        cases fi1 ρ1 S2 <;> rfl
      | false => rfl
    | _ => rfl
  | _ => rfl
/-! ### append, slices, augmented -/
def appO (fe : DE) (ρ : DEnv) (n : Nat) (S : Store) : Option (List D) → Out D
  | some _ => (fe ρ S).bind fun d S2 => (match lstAt S2 n with
      | some xs => if xs.length < 1000000 then .ok .non (S2.set n (.lst (xs ++ [d]))) else .bad
      | none => .bad)
  | none => .bad
def app2 (n : Nat) (d : D) (S : Store) : Option (List D) → Out D
  | some xs => if xs.length < 1000000 then .ok .non (S.set n (.lst (xs ++ [d]))) else .bad
  | none => .bad
@[simp] theorem app2_some (n : Nat) (d : D) (xs : List D) : app2 n d S (some xs) = if xs.length < 1000000 then .ok .non (S.set n (.lst (xs ++ [d]))) else .bad := rfl
@[simp] theorem appO_some (n : Nat) (xs : List D) : appO fe ρ n S (some xs) = (fe ρ S).bind fun d S2 => app2 n d S2 (lstAt S2 n) := by
  unfold appO
  congr 1
@[simp] theorem e_dApp : dApp fo fe ρ S = (fo ρ S).bind fun o S1 => match o with
  | .obj n => appO fe ρ n S1 (lstAt S1 n)
  | _ => .bad := by
  unfold dApp
  congr 1
@[simp] theorem e_dSl (fl fh : DP) : dSl fa fl fh ρ S = (fa ρ S).bind fun x S1 => (fl ρ S1).bind fun l S2 => (fh ρ S2).bind fun h S3 => optO (sliceD x l h S3) := rfl
@[simp] theorem e_dpNone : dpNone ρ S = .ok none S := rfl
@[simp] theorem e_dpSome : dpSome fa ρ S = (fa ρ S).bind fun x S1 => match x with
  | .int i => .ok (some i) S1
  | _ => .bad := rfl
def augO (i : Nat) (ρ : DEnv) : Option (D × Store) → OutS
  | some (d, S2) => .nx (ρ.set i (some d)) S2
  | none => .bad
@[simp] theorem augO_some (i : Nat) (d : D) : augO i ρ (some (d, S)) = .nx (ρ.set i (some d)) S := rfl
def augS (i : Nat) (o : D2) (fe : DE) (ρ : DEnv) (S : Store) : Option (Option D) → OutS
  | some (some x) => liftS (fe ρ S) ρ fun y S1 => augO i ρ (o x y S1)
  | _ => .bad
@[simp] theorem augS_some (i : Nat) (o : D2) (x : D) : augS i o fe ρ S (some (some x)) = liftS (fe ρ S) ρ fun y S1 => augO i ρ (o x y S1) := rfl
@[simp] theorem e_dAug (i : Nat) (o : D2) : dAug i o fe ρ S = augS i o fe ρ S ρ[i]? := by
  unfold dAug augS
  cases ρ[i]? with
  | none => rfl
  | some x => cases x with
    | none => rfl
    | some d =>
      dsimp only
      congr 1
end
@[simp] theorem e_tupleD (d : D) (S : Store) : tupleD [d] S = (seqAt S d).map fun xs => (.tup xs, S) := rfl
@[simp] theorem e_listD (d : D) (S : Store) : listD [d] S = (seqAt S d).map fun xs => newO (.lst xs) S := rfl
@[simp] theorem e_lenT (xs : List D) (S : Store) : lenD [.tup xs] S = some (.int xs.length, S) := rfl
@[simp] theorem e_lenO (n : Nat) (S : Store) : lenD [.obj n] S = (lstAt S n).map fun xs => (.int xs.length, S) := rfl
@[simp] theorem e_newO (o : DO) (S : Store) : newO o S = (.obj S.length, S ++ [o]) := rfl
@[simp] theorem e_intD (i : Int) (S : Store) : intD [.int i] S = some (.int i, S) := rfl
@[simp] theorem e_intB (b : Bool) (S : Store) : intD [.bl b] S = some (.int (if b = true then 1 else 0), S) := rfl
/-! ### the store -/
section
variable (S T : Store) (k : Nat)
@[simp] theorem lstAt_cons0 (xs : List D) : lstAt (.lst xs :: T) 0 = some xs := rfl
@[simp] theorem lstAt_consS (o : DO) : lstAt (o :: T) (k + 1) = lstAt T k := rfl
@[simp] theorem lstAt_app : lstAt (S ++ T) (S.length + k) = lstAt T k := by
  unfold lstAt
  rw [List.getElem?_append_right (by omega)]
  simp
@[simp] theorem lstAt_app0 : lstAt (S ++ T) S.length = lstAt T 0 := lstAt_app S T 0
theorem lstAt_old {n : Nat} (h : n < S.length) : lstAt (S ++ T) n = lstAt S n := by
  unfold lstAt
  rw [List.getElem?_append_left h]
theorem lstAt_keep {n : Nat} {xs : List D} (h : lstAt S n = some xs) : lstAt (S ++ T) n = some xs := by
  have hn : n < S.length := by
    by_cases z : n < S.length
    · exact z
    · unfold lstAt at h
      rw [List.getElem?_eq_none (by omega)] at h
      cases h
  rw [lstAt_old S T hn, h]
@[simp] theorem set_app (o : DO) : (S ++ T).set (S.length + k) o = S ++ T.set k o := by
  rw [List.set_append_right _ _ (by omega)]
  simp
@[simp] theorem set_app0 (o : DO) : (S ++ T).set S.length o = S ++ T.set 0 o := set_app S T 0 o
theorem insAt_keep {d : D} {x : String × List (Str × D)} (h : insAt S d = some x) : insAt (S ++ T) d = some x := by
  cases d with
  | obj n =>
    have e : insAt (S ++ T) (.obj n) = insAt S (.obj n) := by
      unfold insAt
      by_cases z : n < S.length
      · dsimp only; rw [List.getElem?_append_left z]
      · exfalso
        unfold insAt at h
        dsimp only at h
        rw [List.getElem?_eq_none (by omega)] at h
        cases h
    rw [e, h]
  | _ => cases h
@[simp] theorem insAt_app : insAt (S ++ T) (.obj (S.length + k)) = insAt T (.obj k) := by
  unfold insAt
  dsimp only
  rw [List.getElem?_append_right (by omega)]
  simp
@[simp] theorem insAt_app0 : insAt (S ++ T) (.obj S.length) = insAt T (.obj 0) := insAt_app S T 0
@[simp] theorem insAt_cons0 (c : String) (fs : List (Str × D)) : insAt (.ins c fs :: T) (.obj 0) = some (c, fs) := rfl
@[simp] theorem insAt_consS (o : DO) : insAt (o :: T) (.obj (k + 1)) = insAt T (.obj k) := rfl
@[simp] theorem seqAt_tup (xs : List D) : seqAt S (.tup xs) = some xs := rfl
@[simp] theorem seqAt_fl (xs : List D) : seqAt S (.fl xs) = some xs := rfl
@[simp] theorem seqAt_obj (n : Nat) : seqAt S (.obj n) = lstAt S n := rfl
end
end DL
set_option Elab.async false
set_option linter.all false
set_option maxRecDepth 100000
set_option maxHeartbeats 1000000
namespace DL
open PySem PySem.Spec PyProof.Rows L2
/-! ### a comprehension whose parts change nothing -/
theorem lcD_map {α : Type} {grd : Store → Bool} {tg : DG} {fe : DE} {ρ : DEnv} {a f : α → D} {S1 : Store} (hg : ∀ X, grd (S1 ++ [.lst X]) = true) : ∀ (xs : List α) (acc : List D), (∀ x ∈ xs, ∀ X, ∃ ρ1, tg (a x) ρ (S1 ++ [.lst X]) = .nx ρ1 (S1 ++ [.lst X]) ∧ fe ρ1 (S1 ++ [.lst X]) = .ok (f x) (S1 ++ [.lst X])) → acc.length + xs.length < 1000000 →
    lcD grd tg dYes fe S1.length ρ (xs.map a) (S1 ++ [.lst acc]) = .ok () (S1 ++ [.lst (acc ++ xs.map f)])
  | [], acc, h, hl => by simp only [List.map_nil, lcD_nil, hg, if_true, List.append_nil]
  | x :: xs, acc, h, hl => by
    obtain ⟨ρ1, h1, h2⟩ := h x List.mem_cons_self acc
    rw [List.length_cons] at hl
    have ih := lcD_map hg xs (acc ++ [f x]) (fun y hy => h y (List.mem_cons_of_mem _ hy)) (by rw [List.length_append, List.length_singleton]; omega)
    have h3 : lstAt (S1 ++ [.lst acc]) S1.length = some acc := by simp
    simp -implicitDefEqProofs only [List.map_cons, lcD_cons, hg, if_true, h1, lcG_nx, e_dYes, lcE_ok, h2]
    rw [outU_some h3 (by omega)]
    simp -implicitDefEqProofs only [set_app0, List.set_cons_zero]
    rw [ih, List.append_assoc, List.singleton_append]
theorem dLc_map {α : Type} {fi : DI} {tg : DG} {fe : DE} {vs : List Nat} {ρ : DEnv} {S S1 : Store} {grd : Store → Bool} (xs : List α) (a f : α → D) (hi : fi ρ S = .ok ⟨xs.map a, grd⟩ S1) (hg : ∀ X, grd (S1 ++ [.lst X]) = true)
    (h : ∀ x ∈ xs, ∀ X, ∃ ρ1, tg (a x) (wipeD ρ vs) (S1 ++ [.lst X]) = .nx ρ1 (S1 ++ [.lst X]) ∧ fe ρ1 (S1 ++ [.lst X]) = .ok (f x) (S1 ++ [.lst X])) (hl : xs.length < 1000000) :
    dLc fi tg dYes fe vs ρ S = .ok (.obj S1.length) (S1 ++ [.lst (xs.map f)]) := by
  rw [e_dLc, hi]
  simp only [Out.bind_ok]
  rw [lcD_map hg xs [] h (by rw [List.length_nil]; omega)]
  simp only [Out.bind_ok, List.nil_append]
/-! ### guards, what a comprehension puts out -/
@[simp] theorem grdL_iff {n : Nat} {xs : List D} {S : Store} : grdL n xs S = true ↔ lstAt S n = some xs := by
  constructor
  · exact grdL_ok
  · intro h
    unfold grdL
    rw [h]
    exact D.beqs_refl xs
def outO (n : Nat) (k : Store → Out Unit) (y : D) (S : Store) : Option (List D) → Out Unit
  | some acc => if acc.length < 1000000 then k (S.set n (.lst (acc ++ [y]))) else .bad
  | none => .bad
@[simp] theorem e_outU (n : Nat) (k : Store → Out Unit) (y : D) (S : Store) : outU n k y S = outO n k y S (lstAt S n) := by
  unfold outU outO
  cases lstAt S n <;> rfl
@[simp] theorem outO_some (n : Nat) (k : Store → Out Unit) (y : D) (S : Store) (acc : List D) : outO n k y S (some acc) = if acc.length < 1000000 then k (S.set n (.lst (acc ++ [y]))) else .bad := rfl
@[simp] theorem addD_tup (xs ys : List D) (S : Store) : addD (.tup xs) (.tup ys) S = if xs.length + ys.length ≤ 1000000 then some (.tup (xs ++ ys), S) else none := rfl
end DL
set_option Elab.async false
set_option linter.all false
set_option maxRecDepth 100000
set_option maxHeartbeats 1000000
namespace DL
open PySem PySem.Spec PyProof.Rows L2
/-! ### told, put at an index -/
theorem told_exn {rs : List String} {cs : List (String × Str)} {f : DE} {ρ : DEnv} {S S1 : Store} {c : String} {t : Str} (h : f ρ S = .exn ⟨c⟩ S1) (hc : c ∈ rs) (hp : pickD cs c = some t) : dTold rs cs f ρ S = .ok (.str t) S1 := by
  unfold dTold
  rw [h]
  dsimp only
  rw [if_pos hc, hp]
theorem told_ok {rs : List String} {cs : List (String × Str)} {f : DE} {ρ : DEnv} {S S1 : Store} {d : D} (h : f ρ S = .ok d S1) : dTold rs cs f ρ S = .ok d S1 := by
  unfold dTold
  rw [h]
def ixPut (d : D) (ρ : DEnv) (n : Nat) (k : Int) (S : Store) : Option (List D) → OutS
  | some xs => (match ixN xs.length k with
    | some j => .nx ρ (S.set n (.lst (xs.set j d)))
    | none => .bad)
  | none => .bad
@[simp] theorem e_gIx (fo fi : DE) (d : D) (ρ : DEnv) (S : Store) : gIx fo fi d ρ S = liftS (fo ρ S) ρ fun o S1 => liftS (fi ρ S1) ρ fun i S2 => match o, i with
  | .obj n, .int k => ixPut d ρ n k S2 (lstAt S2 n)
  | _, _ => .bad := by
  unfold gIx
  congr 1
@[simp] theorem ixPut_some (d : D) (ρ : DEnv) (n : Nat) (k : Int) (S : Store) (xs : List D) : ixPut d ρ n k S (some xs) = (match ixN xs.length k with
    | some j => .nx ρ (S.set n (.lst (xs.set j d)))
    | none => .bad) := rfl
@[simp] theorem e_ixO' (n : Nat) (k : Int) (S : Store) : ixD (.obj n) (.int k) S = ((lstAt S n).bind fun xs => (atI xs k).map fun d => (d, S)) := by
  unfold ixD
  simp only [seqAt_obj]
  cases lstAt S n <;> rfl
/-! ### what stays -/
structure Kp (n : Nat) (S S' : Store) : Prop where
  len : S.length ≤ S'.length
  at_ : ∀ i, i ≠ n → i < S.length → S'[i]? = S[i]?
theorem lt_of_lst {S : Store} {n : Nat} {xs : List D} (h : lstAt S n = some xs) : n < S.length := by
  by_cases z : n < S.length
  · exact z
  · unfold lstAt at h
    rw [List.getElem?_eq_none (by omega)] at h
    cases h
theorem lt_of_ins {S : Store} {n : Nat} {x : String × List (Str × D)} (h : insAt S (.obj n) = some x) : n < S.length := by
  by_cases z : n < S.length
  · exact z
  · unfold insAt at h
    dsimp only at h
    rw [List.getElem?_eq_none (by omega)] at h
    cases h
section
variable {n : Nat} {S S1 S2 T : Store}
theorem Kp.refl : Kp n S S := ⟨Nat.le_refl _, fun _ _ _ => rfl⟩
theorem Kp.trans (a : Kp n S S1) (b : Kp n S1 S2) : Kp n S S2 := ⟨Nat.le_trans a.len b.len, fun i h1 h2 => (b.at_ i h1 (Nat.lt_of_lt_of_le h2 a.len)).trans (a.at_ i h1 h2)⟩
theorem Kp.app : Kp n S (S ++ T) := ⟨by simp, fun i _ h => by rw [List.getElem?_append_left h]⟩
theorem Kp.set {o : DO} : Kp n S (S.set n o) := ⟨by simp, fun i h _ => by rw [List.getElem?_set_ne (Ne.symm h)]⟩
theorem Kp.lst (a : Kp n S S1) {i : Nat} {xs : List D} (hi : i ≠ n) (h : lstAt S i = some xs) : lstAt S1 i = some xs := by
  have := a.at_ i hi (lt_of_lst h)
  unfold lstAt at h ⊢
  rw [this]
  exact h
theorem Kp.ins (a : Kp n S S1) {i : Nat} {x : String × List (Str × D)} (hi : i ≠ n) (h : insAt S (.obj i) = some x) : insAt S1 (.obj i) = some x := by
  have := a.at_ i hi (lt_of_ins h)
  unfold insAt at h ⊢
  dsimp only at h ⊢
  rw [this]
  exact h
theorem lst_set {l acc : List D} (h : lstAt S n = some acc) : lstAt (S.set n (.lst l)) n = some l := by
  unfold lstAt
  rw [List.getElem?_set_self (lt_of_lst h)]
theorem ne_lst_ins {i : Nat} {xs : List D} {x : String × List (Str × D)} (h : lstAt S n = some xs) (q : insAt S (.obj i) = some x) : i ≠ n := by
  rintro rfl
  unfold insAt at q
  unfold lstAt at h
  dsimp only at q
  cases z : S[i]? with
  | none => rw [z] at h; cases h
  | some o => cases o with
    | lst xs => rw [z] at q; cases q
    | ins c fs => rw [z] at h; cases h
end
/-! ### dice -/
def DiceAt (S : Store) (n : Nat) : Prop := ∃ a b f : Int, lstAt S n = some [.int a, .int b, .int f]
theorem DiceAt.app {S T : Store} {n : Nat} (h : DiceAt S n) : DiceAt (S ++ T) n := by
  obtain ⟨a, b, f, h⟩ := h
  exact ⟨a, b, f, lstAt_keep _ _ h⟩
theorem DiceAt.kp {S S1 : Store} {n i : Nat} (h : DiceAt S i) (k : Kp n S S1) (hi : i ≠ n) : DiceAt S1 i := by
  obtain ⟨a, b, f, h⟩ := h
  exact ⟨a, b, f, k.lst hi h⟩
def rollF : DS :=
  (dSeq (dIfS (dOrT (dB (dOp eqD (dOp ixD (dVar 0) (dC (.int 2))) (dC (.int 2)))) (dAndT (dB (dOp eqD (dOp ixD (dVar 0) (dC (.int 2))) (dC (.int 1)))) (dB (dOp gtD (dOp ixD (dVar 0) (dC (.int 0))) (dC (.int 0))))))
  (dSeq (dAsg (dOp modD (dBlt intD (daCons (dOp ixD (dVar 0) (dC (.int 0))) daNil)) (dVar 1)) (gN 2))
  (dSeq (dAsg (dOp fdivD (dOp ixD (dVar 0) (dC (.int 0))) (dVar 1)) (gIx (dVar 0) (dC (.int 0))))
  (dRet (dVar 2))))
  dNext)
  (dSeq (dAsg (dC (.int 0)) (gIx (dVar 0) (dC (.int 2))))
  (dSeq (dAsg (dOp modD (dBlt intD (daCons (dOp addD (dOp addD (dOp mulD (dOp ixD (dVar 0) (dC (.int 0))) (dC (.int 48271))) (dOp mulD (dOp ixD (dVar 0) (dC (.int 1))) (dC (.int 69621)))) (dC (.int 11))) daNil)) (dC (.int 2147483647))) (gIx (dVar 0) (dC (.int 0))))
  (dSeq (dAsg (dOp addD (dOp ixD (dVar 0) (dC (.int 1))) (dC (.int 1))) (gIx (dVar 0) (dC (.int 1))))
  (dRet (dOp modD (dBlt intD (daCons (dOp addD (dOp fdivD (dOp ixD (dVar 0) (dC (.int 0))) (dC (.int 7))) (dOp ixD (dVar 0) (dC (.int 0)))) daNil)) (dVar 1)))))))
theorem mul_small {i j : Int} {S : Store} (h : j.natAbs < 18446744073709551616) : mulD (.int i) (.int j) S = some (.int (i * j), S) := if_pos (.inl (.inr h))
theorem fdiv_small {i j : Int} {S : Store} (h : 0 < j) (h2 : j.natAbs < 18446744073709551616) : fdivD (.int i) (.int j) S = some (.int (i / j), S) := by
  have b := log2_lt' (n := 64) h2 (by decide)
  exact if_pos ⟨h, by omega⟩
@[simp] theorem atI_two (xs : List D) : atI xs 2 = xs[2]? := atI_nat xs 2
@[simp] theorem atI_three (xs : List D) : atI xs 3 = xs[3]? := atI_nat xs 3
@[simp] theorem ixN_30 : ixN 3 0 = some 0 := rfl
@[simp] theorem ixN_31 : ixN 3 1 = some 1 := rfl
@[simp] theorem ixN_32 : ixN 3 2 = some 2 := rfl
theorem set_set {S : Store} {n : Nat} {a b : DO} : (S.set n a).set n b = S.set n b := List.set_set ..
theorem roll_ok {S : Store} {n : Nat} {k : Int} (h : DiceAt S n) (hk : 0 < k) (hk2 : k.natAbs < 18446744073709551616) : ∃ (v : Nat) (S' : Store), (v : Int) < k ∧ runD 3 rollF [.obj n, .int k] S = .ok (.int (v : Int)) S' ∧ Kp n S S' ∧ DiceAt S' n := by
  obtain ⟨a, b, f, h⟩ := h
  have h0 : ∀ (l : List D), lstAt (S.set n (.lst l)) n = some l := fun l => lst_set h
  by_cases c : f = 2 ∨ f = 1 ∧ 0 < a
  · refine ⟨(a % k).toNat, S.set n (.lst [.int (a / k), .int b, .int f]), ?_, ?_, Kp.set, ⟨_, _, _, h0 _⟩⟩
    · have := Int.emod_lt_of_pos a hk
      have := Int.emod_nonneg a (by omega : k ≠ 0)
      omega
    · have e : ((a % k).toNat : Int) = a % k := by have := Int.emod_nonneg a (by omega : k ≠ 0); omega
      rw [e]
      rcases c with c | ⟨c1, c2⟩
      · subst c
        simp -implicitDefEqProofs only [e_runD, rollF]
        simp -implicitDefEqProofs [startD, h, h0, modD_int hk, fdiv_small hk hk2]
      · subst c1
        simp -implicitDefEqProofs only [e_runD, rollF]
        simp -implicitDefEqProofs [startD, h, h0, modD_int hk, fdiv_small hk hk2, c2]
  · have c1 : ¬ f = 2 := fun z => c (.inl z)
    have s1 : (48271 : Int).natAbs < 18446744073709551616 := by decide
    have s2 : (69621 : Int).natAbs < 18446744073709551616 := by decide
    have s3 : (0 : Int) < 2147483647 := by decide
    have s4 : (0 : Int) < 7 := by decide
    have s5 : (7 : Int).natAbs < 18446744073709551616 := by decide
    generalize hx : (a * 48271 + b * 69621 + 11) % 2147483647 = x
    refine ⟨((x / 7 + x) % k).toNat, S.set n (.lst [.int x, .int (b + 1), .int 0]), ?_, ?_, Kp.set, ⟨_, _, _, h0 _⟩⟩
    · have := Int.emod_lt_of_pos (x / 7 + x) hk
      have := Int.emod_nonneg (x / 7 + x) (by omega : k ≠ 0)
      omega
    · have e : (((x / 7 + x) % k).toNat : Int) = (x / 7 + x) % k := by have := Int.emod_nonneg (x / 7 + x) (by omega : k ≠ 0); omega
      rw [e]
      by_cases c2 : f = 1
      · have c3 : ¬ 0 < a := fun z => c (.inr ⟨c2, z⟩)
        subst c2
        simp -implicitDefEqProofs only [e_runD, rollF]
        simp -implicitDefEqProofs [startD, h, h0, modD_int hk, fdiv_small s4 s5, mul_small s1, mul_small s2, modD_int s3, hx, c3, set_set]
      · simp -implicitDefEqProofs only [e_runD, rollF]
        simp -implicitDefEqProofs [startD, h, h0, modD_int hk, fdiv_small s4 s5, mul_small s1, mul_small s2, modD_int s3, hx, c1, c2, set_set]
end DL
set_option Elab.async false
set_option linter.all false
set_option maxRecDepth 100000
set_option maxHeartbeats 1000000
namespace DL
open PySem PySem.Spec PyProof.Rows L2
/-! ### a list of whole numbers, told empty or not -/
theorem toPs_ints : ∀ (cs : List Int), D.toPs (cs.map D.int) = some (cs.map PyData.int)
  | [] => rfl
  | c :: cs => by
    rw [List.map_cons, List.map_cons]
    unfold D.toPs
    rw [toPs_ints cs]
    rfl
theorem lay_ints : ∀ (cs : List Int), PyData.canLayAll0 (cs.map PyData.int) = true
  | [] => rfl
  | c :: cs => by rw [List.map_cons, PyData.canLayAll0, lay_ints cs]; rfl
theorem depth_ints : ∀ (cs : List Int), PyData.depthAll (cs.map PyData.int) = 0
  | [] => rfl
  | c :: cs => by rw [List.map_cons, PyData.depthAll, depth_ints cs]; rfl
theorem shaped_ints (cs : List Int) : SeqAt.shaped (.list (cs.map PyData.int)) = true := by
  unfold SeqAt.shaped
  rw [PyData.canLay0, lay_ints, PyData.depth, depth_ints]
  rfl
theorem eqD_nil {S : Store} {n k : Nat} {cs : List Int} (h : lstAt S n = some (cs.map D.int)) (h2 : lstAt S k = some []) : eqD (.obj n) (.obj k) S = some (.bl (decide (cs = [])), S) := by
  unfold eqD D.toPS
  dsimp only
  rw [h, h2]
  dsimp only
  rw [toPs_ints]
  show (if SeqAt.shaped (.list (cs.map PyData.int)) = true ∧ SeqAt.shaped (.list []) = true then some (D.bl (PyData.eqv (.list (cs.map PyData.int)) (.list [])), S) else none) = _
  rw [if_pos ⟨shaped_ints cs, shaped_ints []⟩]
  cases cs <;> rfl
def diceF : DS :=
  (dSeq (dIfS (dB (dChain ltD ltD (dOp subD (dC (.int 0)) (dC (.int 10))) (dVar 0) (dC (.int 10))))
  (dRet (dLst (daCons (dBlt absD (daCons (dVar 0) daNil)) (daCons (dC (.int 0)) (daCons (dC (.int 2)) daNil)))))
  dNext)
  (dRet (dLst (daCons (dVar 0) (daCons (dOp addD (dC (.int 1)) (dOp modD (dBlt intD (daCons (dVar 0) daNil)) (dC (.int 1009)))) (daCons (dBlt intD (daCons (dOp geD (dVar 0) (dOp powD (dC (.int 10)) (dC (.int 18)))) daNil)) daNil))))))
theorem dice_ok (c : Int) (S : Store) : ∃ x y z : Int, runD 1 diceF [.int c] S = .ok (.obj S.length) (S ++ [.lst [.int x, .int y, .int z]]) := by
  by_cases h : -10 < c ∧ c < 10
  · refine ⟨c.natAbs, 0, 2, ?_⟩
    simp -implicitDefEqProofs [diceF, startD, dChain, h.1, h.2]
  · have hp : powD (.int 10) (.int 18) S = some (.int (10 ^ 18), S) := rfl
    have hm : modD (.int c) (.int 1009) S = some (.int (c % 1009), S) := modD_int (by decide)
    refine ⟨c, 1 + c % 1009, if 10 ^ 18 ≤ c then 1 else 0, ?_⟩
    by_cases h1 : -10 < c
    · have h2 : ¬ c < 10 := fun z => h ⟨h1, z⟩
      simp -implicitDefEqProofs only [diceF, e_runD]
      simp -implicitDefEqProofs [startD, dChain, h1, h2, hp, hm]
    · simp -implicitDefEqProofs only [diceF, e_runD]
      simp -implicitDefEqProofs [startD, dChain, h1, hp, hm]
def DiceO : DO → Prop
  | .lst [.int _, .int _, .int _] => True
  | _ => False
theorem DiceO.at {S : Store} {n : Nat} {o : DO} (h : DiceO o) (e : S[n]? = some o) : DiceAt S n := by
  unfold DiceO at h
  split at h
  · rename_i a b c
    exact ⟨a, b, c, by unfold lstAt; rw [e]⟩
  · exact h.elim
def roundsF (M : DF) : DS :=
  (dSeq (dAsg (dSl (dVar 0) dpNone (dpSome (dVar 1))) (gN 2))
  (dSeq (dIfS (dB (dOp eqD (dVar 2) (dLst daNil)))
  (dAsg (dLst (daCons (dC (.int 0)) daNil)) (gN 2))
  dNext)
  (dRet (dLc (diSeq (dVar 2)) (gN 3) dYes (dCall 1 M (daCons (dVar 3) daNil)) [3]))))
def objsFrom (k n : Nat) : List D := (List.range' k n).map D.obj
theorem objs_succ (k n : Nat) : objsFrom k (n + 1) = .obj k :: objsFrom (k + 1) n := by simp [objsFrom, List.range'_succ]
theorem rounds_lc {S1 : Store} {q : Nat} {cs0 : List Int} {o0 o1 o2 o3 : Option D} (hq : lstAt S1 q = some (cs0.map D.int)) : ∀ (cs : List Int) (acc : List D) (ds : List DO), acc.length + cs.length < 1000000 → ∃ es : List DO, es.length = cs.length ∧ (∀ e ∈ es, DiceO e) ∧
    lcD (grdL q (cs0.map D.int)) (gN 3) dYes (dCall 1 (runD 1 diceF) (daCons (dVar 3) daNil)) S1.length [o0, o1, o2, o3] (cs.map D.int) (S1 ++ .lst acc :: ds) = .ok () (S1 ++ .lst (acc ++ objsFrom (S1.length + 1 + ds.length) cs.length) :: (ds ++ es)) := by
  intro cs
  induction cs with
  | nil =>
    intro acc ds hl
    refine ⟨[], rfl, (fun _ h => nomatch h), ?_⟩
    simp [objsFrom, lstAt_keep _ _ hq]
  | cons c cs ih =>
    intro acc ds hl
    rw [List.length_cons] at hl
    obtain ⟨x, y, z, e⟩ := dice_ok c (S1 ++ .lst acc :: ds)
    obtain ⟨es, h1, h2, h3⟩ := ih (acc ++ [.obj (S1.length + 1 + ds.length)]) (ds ++ [.lst [.int x, .int y, .int z]]) (by rw [List.length_append, List.length_singleton]; omega)
    refine ⟨.lst [.int x, .int y, .int z] :: es, by simp [h1], ?_, ?_⟩
    · intro e he
      rcases List.mem_cons.mp he with rfl | he
      · trivial
      · exact h2 e he
    · have el : (S1 ++ .lst acc :: ds).length = S1.length + 1 + ds.length := by simp; omega
      rw [el] at e
      have hl2 : acc.length < 1000000 := by omega
      have hg : lstAt (S1 ++ .lst acc :: ds) q = some (cs0.map D.int) := lstAt_keep _ _ hq
      rw [List.map_cons, lcD_cons, if_pos (grdL_iff.mpr hg)]
      simp -implicitDefEqProofs only [e_gN, lcG_nx, e_dYes, lcE_ok, e_dCall, e_daCons, e_dVar, e_daNil]
      simp -implicitDefEqProofs [-e_runD, e, hl2]
      rw [show S1 ++ DO.lst (acc ++ [D.obj (S1.length + 1 + ds.length)]) :: (ds ++ [DO.lst [D.int x, D.int y, D.int z]]) = S1 ++ DO.lst (acc ++ [D.obj (S1.length + 1 + ds.length)]) :: (ds ++ [DO.lst [D.int x, D.int y, D.int z]]) from rfl, h3]
      simp [objs_succ, Nat.add_assoc]
theorem rounds_ok {ns : List Int} {d : D} {S : Store} (hs : ScriptAt ns d S) (k : Nat) (hk : 1 ≤ k) (hk2 : k ≤ 1000) : ∃ (j n : Nat) (S1 : Store) (es : List DO), 1 ≤ n ∧ n ≤ k ∧ es.length = n ∧ S1.length = j ∧ (∀ e ∈ es, DiceO e) ∧ runD 4 (roundsF (runD 1 diceF)) [d, .int (k : Int)] S = .ok (.obj j) (S1 ++ .lst (objsFrom (j + 1) n) :: es) := by
  have cut : ∀ xs : List D, cutD xs none (some (k : Int)) = xs.take k := by
    intro xs
    unfold cutD
    rw [HT.sIx_nat, HT.sIx_none]
    simp
  have sl : sliceD d none (some (k : Int)) S = some (.obj S.length, S ++ [.lst ((ns.take k).map D.int)]) := by
    rcases hs with ⟨rfl, rfl⟩ | ⟨rfl, rfl⟩
    · unfold sliceD
      dsimp only
      rw [cut, ← List.map_take]
      rfl
    · unfold sliceD
      dsimp only
      rw [show lstAt [DO.lst (ns.map D.int)] 0 = some (ns.map D.int) from rfl, Option.map_some, cut, ← List.map_take]
      rfl
  have e1 := eqD_nil (S := S ++ [.lst ((ns.take k).map D.int), .lst []]) (n := S.length) (k := S.length + 1) (cs := ns.take k) (by simp) (by simp)
  by_cases z : ns.take k = []
  · obtain ⟨es, h1, h2, h3⟩ := rounds_lc (S1 := S ++ [.lst ((ns.take k).map D.int), .lst [], .lst [.int 0]]) (q := S.length + 2) (cs0 := [0]) (o0 := some d) (o1 := some (.int (k : Int))) (o2 := some (.obj (S.length + 2))) (o3 := none) (by simp) [0] [] [] (by simp)
    refine ⟨S.length + 3, 1, S ++ [.lst ((ns.take k).map D.int), .lst [], .lst [.int 0]], es, by omega, hk, h1, by simp, h2, ?_⟩
    simp -implicitDefEqProofs only [roundsF, e_runD, startD]
    rw [z] at e1 sl h3 ⊢
    simp at e1 sl
    simp [-e_runD] at h3
    simp -implicitDefEqProofs [-e_runD, sl, e1, h3]
  · obtain ⟨es, h1, h2, h3⟩ := rounds_lc (S1 := S ++ [.lst ((ns.take k).map D.int), .lst []]) (q := S.length) (cs0 := ns.take k) (o0 := some d) (o1 := some (.int (k : Int))) (o2 := some (.obj S.length)) (o3 := none) (by simp) (ns.take k) [] [] (by have := List.length_take_le k ns; simp; omega)
    refine ⟨S.length + 2, (ns.take k).length, S ++ [.lst ((ns.take k).map D.int), .lst []], es, ?_, List.length_take_le k ns, h1, by simp, h2, ?_⟩
    · have := List.length_pos_iff.mpr z
      omega
    · simp -implicitDefEqProofs only [roundsF, e_runD, startD]
      generalize ns.take k = cs at *
      simp [z] at e1
      simp [-e_runD] at h3
      simp -implicitDefEqProofs [-e_runD, sl, e1, h3, z]
end DL
set_option Elab.async false
set_option linter.all false
set_option maxRecDepth 100000
set_option maxHeartbeats 1000000
namespace DL
open PySem PySem.Spec PyProof.Rows L2
theorem rounds_loop {body : DS} {all : List D} {j i N : Nat} (hb : ∀ (ρ : DEnv) (S : Store) (k : Nat), ρ.length = N → DiceAt S k → ∃ ρ' S', ρ'.length = N ∧ body (ρ.set i (some (.obj k))) S = .nx ρ' S' ∧ Kp k S S' ∧ DiceAt S' k) :
    ∀ (m k : Nat) (ρ : DEnv) (S : Store), ρ.length = N → lstAt S j = some all → j < k → (∀ x, k ≤ x → x < k + m → DiceAt S x) → ∃ ρ' S', ρ'.length = N ∧ forD (grdL j all) (gN i) body (objsFrom k m) ρ S = .nx ρ' S' := by
  intro m
  induction m with
  | zero =>
    intro k ρ S hN hj hk hd
    exact ⟨ρ, S, hN, by simp [objsFrom, hj]⟩
  | succ m ih =>
    intro k ρ S hN hj hk hd
    obtain ⟨ρ', S', h1, h2, h3, h4⟩ := hb ρ S k hN (hd k (Nat.le_refl _) (by omega))
    obtain ⟨ρ2, S2, q1, q2⟩ := ih (k + 1) ρ' S' h1 (h3.lst (by omega) hj) (by omega) (fun x hx hx2 => (hd x (by omega) (by omega)).kp h3 (by omega))
    refine ⟨ρ2, S2, q1, ?_⟩
    rw [objs_succ, forD_cons, if_pos (grdL_iff.mpr hj)]
    simp -implicitDefEqProofs only [e_gN, asgS_nx, seqS_nx, h2, forK_nx]
    exact q2
theorem law_rounds {body : DS} {N : Nat} {k : Nat} (hN : 2 ≤ N) (hk : 1 ≤ k) (hk2 : k ≤ 1000) (hb : ∀ (ρ : DEnv) (S : Store) (n : Nat), ρ.length = N → DiceAt S n → ∃ ρ' S', ρ'.length = N ∧ body (ρ.set 1 (some (.obj n))) S = .nx ρ' S' ∧ Kp n S S' ∧ DiceAt S' n)
    {ns : List Int} {d : D} {S : Store} (hs : ScriptAt ns d S) :
    ∃ S2, runD N (dSeq (dFor (diSeq (dCall 2 (runD 4 (roundsF (runD 1 diceF))) (daCons (dVar 0) (daCons (dC (.int (k : Int))) daNil)))) (gN 1) body) (dRet (dC (.bl true)))) [d] S = .ok (.bl true) S2 := by
  obtain ⟨j, n, S1, es, h1, h2, h3, h4, h5, h6⟩ := rounds_ok hs k hk hk2
  have hl : lstAt (S1 ++ .lst (objsFrom (j + 1) n) :: es) j = some (objsFrom (j + 1) n) := by rw [← h4, lstAt_app0]; rfl
  obtain ⟨ρ', S', q1, q2⟩ := rounds_loop (all := objsFrom (j + 1) n) (j := j) hb n (j + 1) (startD N [d]) (S1 ++ .lst (objsFrom (j + 1) n) :: es) (by simp [startD]; omega) hl (by omega) (fun x hx hx2 => by
    have e : (S1 ++ .lst (objsFrom (j + 1) n) :: es)[x]? = es[x - (j + 1)]? := by
      rw [List.getElem?_append_right (by omega), h4]
      rw [show x - j = (x - (j + 1)) + 1 from by omega, List.getElem?_cons_succ]
    have hx3 : x - (j + 1) < es.length := by omega
    rw [List.getElem?_eq_getElem hx3] at e
    exact DiceO.at (h5 _ (List.getElem_mem hx3)) e)
  refine ⟨S', ?_⟩
  have e0 : (startD N [d])[0]? = some (some d) := by
    unfold startD
    simp
  rw [e_runD, e_dSeq, e_dFor, e_diSeq, e_dCall, e_daCons, e_dVar, e0]
  simp -implicitDefEqProofs only [optV_some, Out.bind_ok, e_daCons, e_dC, e_daNil, List.length_cons, List.length_nil, if_true, Nat.reduceAdd, h6, srcOf_obj, hl, Option.map_some, optO_some, liftS_ok, q2, seqS_nx, e_dRet, finS_rt]
end DL
set_option Elab.async false
set_option linter.all false
set_option maxRecDepth 100000
set_option maxHeartbeats 1000000
namespace DL
open PySem PySem.Spec PyProof.Rows L2
/-! ### comprehensions whose parts roll dice and make things -/
def All2 {α β : Type} (P : α → β → Prop) : List α → List β → Prop
  | [], [] => True
  | a :: as, b :: bs => P a b ∧ All2 P as bs
  | _, _ => False
theorem Kp.set_far {n q : Nat} {S0 S : Store} {o : DO} (k : Kp n S0 S) (hq : S0.length ≤ q) : Kp n S0 (S.set q o) :=
  ⟨by simpa using k.len, fun i h1 h2 => by rw [List.getElem?_set_ne (by omega)]; exact k.at_ i h1 h2⟩
theorem DiceAt.set_far {n q : Nat} {S : Store} {o : DO} (h : DiceAt S n) (hq : n ≠ q) : DiceAt (S.set q o) n := by
  obtain ⟨a, b, f, h⟩ := h
  refine ⟨a, b, f, ?_⟩
  unfold lstAt at h ⊢
  rw [List.getElem?_set_ne (Ne.symm hq)]
  exact h
theorem lc_inv {n q : Nat} {S0 : Store} {grd : Store → Bool} {tg : DG} {fe : DE} {ρ : DEnv} {P : D → D → Prop} (hq : S0.length ≤ q) (hn : n < S0.length) (hg : ∀ S, Kp n S0 S → grd S = true) :
    ∀ (ds : List D) (acc : List D) (S : Store), (∀ d ∈ ds, ∀ S, Kp n S0 S → DiceAt S n → ∃ ρ1 y S', tg d ρ S = .nx ρ1 S ∧ fe ρ1 S = .ok y S' ∧ P d y ∧ Kp n S S' ∧ DiceAt S' n) → Kp n S0 S → DiceAt S n → lstAt S q = some acc → acc.length + ds.length < 1000000 →
    ∃ ys S', lcD grd tg dYes fe q ρ ds S = .ok () S' ∧ All2 P ds ys ∧ lstAt S' q = some (acc ++ ys) ∧ Kp n S0 S' ∧ DiceAt S' n := by
  intro ds
  induction ds with
  | nil =>
    intro acc S st k d l hl
    refine ⟨[], S, ?_, trivial, by simpa using l, k, d⟩
    rw [lcD_nil, if_pos (hg S k)]
  | cons x ds ih =>
    intro acc S st k d l hl
    rw [List.length_cons] at hl
    obtain ⟨ρ1, y, S1, e1, e2, p, k1, d1⟩ := st x List.mem_cons_self S k d
    have l1 : lstAt S1 q = some acc := k1.lst (by omega) l
    have k2 : Kp n S0 (S1.set q (.lst (acc ++ [y]))) := (k.trans k1).set_far hq
    have d2 : DiceAt (S1.set q (.lst (acc ++ [y]))) n := d1.set_far (by omega)
    obtain ⟨ys, S', q1, q2, q3, q4, q5⟩ := ih (acc ++ [y]) _ (fun z hz => st z (List.mem_cons_of_mem _ hz)) k2 d2 (lst_set l1) (by rw [List.length_append, List.length_singleton]; omega)
    refine ⟨y :: ys, S', ?_, ⟨p, q2⟩, by rw [q3, List.append_assoc, List.singleton_append], q4, q5⟩
    rw [lcD_cons, if_pos (hg S k)]
    simp -implicitDefEqProofs only [e1, lcG_nx, e_dYes, lcE_ok, if_true, e2]
    rw [outU_some l1 (by omega)]
    exact q1
theorem dLc_inv {n : Nat} {S S0 : Store} {grd : Store → Bool} {fi : DI} {tg : DG} {fe : DE} {vs : List Nat} {ρ : DEnv} {ds : List D} {P : D → D → Prop} (hi : fi ρ S = .ok ⟨ds, grd⟩ S0) (hg : ∀ S, Kp n S0 S → grd S = true) (hd : DiceAt S0 n) (hl : ds.length < 1000000)
    (st : ∀ d ∈ ds, ∀ S, Kp n S0 S → DiceAt S n → ∃ ρ1 y S', tg d (wipeD ρ vs) S = .nx ρ1 S ∧ fe ρ1 S = .ok y S' ∧ P d y ∧ Kp n S S' ∧ DiceAt S' n) :
    ∃ ys S', dLc fi tg dYes fe vs ρ S = .ok (.obj S0.length) S' ∧ All2 P ds ys ∧ lstAt S' S0.length = some ys ∧ Kp n S0 S' ∧ DiceAt S' n := by
  obtain ⟨a, b, f, hd'⟩ := hd
  obtain ⟨ys, S', q1, q2, q3, q4, q5⟩ := lc_inv (Nat.le_refl S0.length) (lt_of_lst hd') hg ds [] (S0 ++ [.lst []]) st Kp.app (DiceAt.app ⟨a, b, f, hd'⟩) (by simp) (by simpa using hl)
  refine ⟨ys, S', ?_, q2, by simpa using q3, q4, q5⟩
  rw [e_dLc, hi]
  simp only [Out.bind_ok]
  rw [q1]
  rfl
end DL
set_option Elab.async false
set_option linter.all false
set_option maxRecDepth 100000
set_option maxHeartbeats 1000000
/-! DLE8: the denotations of DN5..DN9, evaluated by simp. -/
namespace DL
open PySem PySem.Spec PyProof.Rows L2
section
variable {ρ : DEnv} {S : Store} {fi : DI} {tg : DG} {tt : DT} {fe fo fa fb : DE} {vs : List Nat}
@[simp] theorem e_dSumX : dSumX fi tg tt fe vs ρ S = (fi ρ S).bind fun src S1 => (sumL src.grd tg tt fe (wipeD ρ vs) src.items 0 S1).bind fun b S2 => .ok (.int b) S2 := rfl
@[simp] theorem e_dAnyX : dAnyX fi tg tt fe vs ρ S = (fi ρ S).bind fun src S1 => (anyL true src.grd tg tt fe (wipeD ρ vs) src.items S1).bind fun b S2 => .ok (.bl b) S2 := rfl
@[simp] theorem e_dAllX : dAllX fi tg tt fe vs ρ S = (fi ρ S).bind fun src S1 => (anyL false src.grd tg tt fe (wipeD ρ vs) src.items S1).bind fun b S2 => .ok (.bl b) S2 := rfl
@[simp] theorem sumL_nil {grd : Store → Bool} {acc : Int} : sumL grd tg tt fe ρ [] acc S = if grd S = true then .ok acc S else .bad := rfl
@[simp] theorem anyL_nil {stop : Bool} {grd : Store → Bool} : anyL stop grd tg tt fe ρ [] S = if grd S = true then .ok (!stop) S else .bad := rfl
def sumE (o : Out D) (k : Int → Store → Out Int) : Out Int := match o with
  | .ok (.int v) S => k v S
  | _ => .bad
@[simp] theorem sumE_int (v : Int) (k : Int → Store → Out Int) : sumE (.ok (.int v) S) k = k v S := rfl
def anyE (o : Out D) (k : Bool → Store → Out Bool) : Out Bool := match o with
  | .ok (.bl v) S => k v S
  | _ => .bad
@[simp] theorem anyE_bl (v : Bool) (k : Bool → Store → Out Bool) : anyE (.ok (.bl v) S) k = k v S := rfl
@[simp] theorem sumL_cons {grd : Store → Bool} {acc : Int} (d : D) (ds : List D) : sumL grd tg tt fe ρ (d :: ds) acc S = if grd S = true then lcG (tg d ρ S) (fun ρ1 S1 => lcE (tt ρ1 S1) fun b S2 => if b = true then sumE (fe ρ1 S2) fun v S3 => sumL grd tg tt fe ρ ds (acc + v) S3 else sumL grd tg tt fe ρ ds acc S2) else .bad := by
  rw [sumL]
  split
  · unfold lcG
    cases tg d ρ S with
    | nx ρ1 S1 =>
      dsimp only
      unfold lcE
      cases tt ρ1 S1 with
      | ok b S2 =>
        cases b with
        | true =>
          dsimp only
          rw [if_pos rfl]
          unfold sumE
          cases fe ρ1 S2 with
          | ok y S3 => cases y <;> rfl
          | exn _ _ => rfl
          | bad => rfl
        | false => rfl
      | exn _ _ => rfl
      | bad => rfl
    | _ => rfl
  · rfl
@[simp] theorem anyL_cons {stop : Bool} {grd : Store → Bool} (d : D) (ds : List D) : anyL stop grd tg tt fe ρ (d :: ds) S = if grd S = true then lcG (tg d ρ S) (fun ρ1 S1 => lcE (tt ρ1 S1) fun b S2 => if b = true then anyE (fe ρ1 S2) fun v S3 => if v = stop then .ok stop S3 else anyL stop grd tg tt fe ρ ds S3 else anyL stop grd tg tt fe ρ ds S2) else .bad := by
  rw [anyL]
  split
  · unfold lcG
    cases tg d ρ S with
    | nx ρ1 S1 =>
      dsimp only
      unfold lcE
      cases tt ρ1 S1 with
      | ok b S2 =>
        cases b with
        | true =>
          dsimp only
          rw [if_pos rfl]
          unfold anyE
          cases fe ρ1 S2 with
          | ok y S3 => cases y <;> rfl
          | exn _ _ => rfl
          | bad => rfl
        | false => rfl
      | exn _ _ => rfl
      | bad => rfl
    | _ => rfl
  · rfl
/-- a sum whose parts change nothing -/
theorem sumL_map {α : Type} {grd : Store → Bool} {a : α → D} {f : α → Int} (hg : grd S = true) : ∀ (xs : List α) (acc : Int), (∀ x ∈ xs, ∃ ρ1, tg (a x) ρ S = .nx ρ1 S ∧ tt ρ1 S = .ok true S ∧ fe ρ1 S = .ok (.int (f x)) S) → sumL grd tg tt fe ρ (xs.map a) acc S = .ok (acc + (xs.map f).sum) S
  | [], acc, h => by simp [hg]
  | x :: xs, acc, h => by
    obtain ⟨ρ1, h1, h2, h3⟩ := h x List.mem_cons_self
    have ih := sumL_map hg xs (acc + f x) fun y hy => h y (List.mem_cons_of_mem _ hy)
    rw [List.map_cons, sumL_cons, if_pos hg, h1, lcG_nx, h2, lcE_ok, if_pos rfl, h3, sumE_int, ih, List.map_cons, List.sum_cons, Int.add_assoc]
/-- none of the items stops -/
theorem anyL_none {α : Type} {stop : Bool} {grd : Store → Bool} {a : α → D} (hg : grd S = true) : ∀ (xs : List α), (∀ x ∈ xs, ∃ ρ1, tg (a x) ρ S = .nx ρ1 S ∧ tt ρ1 S = .ok true S ∧ fe ρ1 S = .ok (.bl (!stop)) S) → anyL stop grd tg tt fe ρ (xs.map a) S = .ok (!stop) S
  | [], h => by simp [hg]
  | x :: xs, h => by
    obtain ⟨ρ1, h1, h2, h3⟩ := h x List.mem_cons_self
    have ih := anyL_none hg xs fun y hy => h y (List.mem_cons_of_mem _ hy)
    rw [List.map_cons, anyL_cons, if_pos hg, h1, lcG_nx, h2, lcE_ok, if_pos rfl, h3, anyE_bl, if_neg (by cases stop <;> decide), ih]
/-! ### methods of lists -/
def lm1C (n : Nat) (S : Store) : Option (D × List D) → Out D
  | some (r, zs) => .ok r (S.set n (.lst zs))
  | none => .bad
@[simp] theorem lm1C_some (n : Nat) (r : D) (zs : List D) : lm1C n S (some (r, zs)) = .ok r (S.set n (.lst zs)) := rfl
def lm1B (g : Store → List D → D → Option (D × List D)) (n : Nat) (y : D) (S : Store) : Option (List D) → Out D
  | some xs => lm1C n S (g S xs y)
  | none => .bad
@[simp] theorem lm1B_some (g : Store → List D → D → Option (D × List D)) (n : Nat) (y : D) (xs : List D) : lm1B g n y S (some xs) = lm1C n S (g S xs y) := rfl
def lm1A (g : Store → List D → D → Option (D × List D)) (fe : DE) (ρ : DEnv) (n : Nat) (S : Store) : Option (List D) → Out D
  | some _ => (fe ρ S).bind fun y S2 => lm1B g n y S2 (lstAt S2 n)
  | none => .bad
@[simp] theorem lm1A_some (g : Store → List D → D → Option (D × List D)) (n : Nat) (xs : List D) : lm1A g fe ρ n S (some xs) = (fe ρ S).bind fun y S2 => lm1B g n y S2 (lstAt S2 n) := rfl
def lm1O (g : Store → List D → D → Option (D × List D)) (fe : DE) (ρ : DEnv) (S : Store) : D → Out D
  | .obj n => lm1A g fe ρ n S (lstAt S n)
  | _ => .bad
@[simp] theorem lm1O_obj (g : Store → List D → D → Option (D × List D)) (n : Nat) : lm1O g fe ρ S (.obj n) = lm1A g fe ρ n S (lstAt S n) := rfl
@[simp] theorem e_dLM1 (g : Store → List D → D → Option (D × List D)) : dLM1 g fo fe ρ S = (fo ρ S).bind fun o S1 => lm1O g fe ρ S1 o := by
  unfold dLM1
  congr 1
def lm0A (g : List D → Option (D × List D)) (n : Nat) (S : Store) : Option (List D) → Out D
  | some xs => lm1C n S (g xs)
  | none => .bad
@[simp] theorem lm0A_some (g : List D → Option (D × List D)) (n : Nat) (xs : List D) : lm0A g n S (some xs) = lm1C n S (g xs) := rfl
def lm0O (g : List D → Option (D × List D)) (S : Store) : D → Out D
  | .obj n => lm0A g n S (lstAt S n)
  | _ => .bad
@[simp] theorem lm0O_obj (g : List D → Option (D × List D)) (n : Nat) : lm0O g S (.obj n) = lm0A g n S (lstAt S n) := rfl
@[simp] theorem e_dLM0 (g : List D → Option (D × List D)) : dLM0 g fo ρ S = (fo ρ S).bind fun o S1 => lm0O g S1 o := by
  unfold dLM0
  congr 1
/-! ### sums and the like of tuples -/
@[simp] theorem intsOf_map : ∀ (is : List Int), intsOf (is.map D.int) = some is
  | [] => rfl
  | i :: is => by rw [List.map_cons, intsOf, intsOf_map is]; rfl
@[simp] theorem intsOf_nil : intsOf [] = some [] := rfl
@[simp] theorem intsOf_cons (i : Int) (ds : List D) : intsOf (.int i :: ds) = (intsOf ds).map (i :: ·) := rfl
@[simp] theorem lstOf_obj (n : Nat) : lstOf S (.obj n) = lstAt S n := rfl
@[simp] theorem sumLT_tup (xs : List D) : sumLT [.tup xs] S = (intsOf xs).map fun ns => (.int ns.sum, S) := rfl
@[simp] theorem sumLT_obj (n : Nat) : sumLT [.obj n] S = ((lstAt S n).bind intsOf).map fun ns => (.int ns.sum, S) := rfl
@[simp] theorem maxT_tup (xs : List D) : maxT [.tup xs] S = ((intsOf xs).bind maxI).map fun i => (.int i, S) := rfl
@[simp] theorem maxT_obj (n : Nat) : maxT [.obj n] S = (((lstAt S n).bind intsOf).bind maxI).map fun i => (.int i, S) := rfl
@[simp] theorem minT_tup (xs : List D) : minT [.tup xs] S = ((intsOf xs).bind minI).map fun i => (.int i, S) := rfl
@[simp] theorem maxI_cons (i : Int) (is : List Int) : maxI (i :: is) = some (is.foldl max i) := rfl
@[simp] theorem minI_cons (i : Int) (is : List Int) : minI (i :: is) = some (is.foldl min i) := rfl
/-! ### zip -/
@[simp] theorem e_diZip : diZip fa fb ρ S = (fa ρ S).bind fun d S1 => (fb ρ S1).bind fun e S2 => match seqAt S2 d, seqAt S2 e with
  | some xs, some ys => .ok ⟨zipD xs ys, fun S => grdQ d xs S && grdQ e ys S⟩ S2
  | _, _ => .bad := rfl
@[simp] theorem grdQ_tup (xs ys : List D) : grdQ (.tup xs) ys S = true := rfl
@[simp] theorem grdQ_obj (n : Nat) (ys : List D) : grdQ (.obj n) ys = grdL n ys := rfl
@[simp] theorem zipD_cons (x y : D) (xs ys : List D) : zipD (x :: xs) (y :: ys) = .tup [x, y] :: zipD xs ys := rfl
@[simp] theorem zipD_nil (ys : List D) : zipD [] ys = [] := by cases ys <;> rfl
@[simp] theorem rng_6 : rngD 0 1 6 = [.int 0, .int 1, .int 2, .int 3, .int 4, .int 5] := rfl
@[simp] theorem rng_7 : rngD 0 1 7 = [.int 0, .int 1, .int 2, .int 3, .int 4, .int 5, .int 6] := rfl
end
end DL
set_option Elab.async false
set_option linter.all false
set_option maxRecDepth 100000
set_option maxHeartbeats 1000000
/-! DLE9: more of the denotations, evaluated by simp (from the laws k13, k21: law-independent). -/
namespace DL
open PySem PySem.Spec PyProof.Rows L2
section
variable {ρ : DEnv} {S : Store}
def andV (x : D) (S : Store) (k : Store → Out D) : Out D := match x with
  | .bl true => k S
  | .bl false => .ok (.bl false) S
  | _ => .bad
def orV (x : D) (S : Store) (k : Store → Out D) : Out D := match x with
  | .bl true => .ok (.bl true) S
  | .bl false => k S
  | _ => .bad
@[simp] theorem andV_bl (b : Bool) (S : Store) (k : Store → Out D) : andV (.bl b) S k = if b = true then k S else .ok (.bl false) S := by cases b <;> rfl
@[simp] theorem orV_bl (b : Bool) (S : Store) (k : Store → Out D) : orV (.bl b) S k = if b = true then .ok (.bl true) S else k S := by cases b <;> rfl
@[simp] theorem e_dAndV (fa fb : DE) (ρ : DEnv) (S : Store) : dAndV fa fb ρ S = (fa ρ S).bind fun x S1 => andV x S1 (fb ρ) := rfl
@[simp] theorem e_dOrV (fa fb : DE) (ρ : DEnv) (S : Store) : dOrV fa fb ρ S = (fa ρ S).bind fun x S1 => orV x S1 (fb ρ) := rfl
@[simp] theorem e_dChain (g g' : D2) (fa fb fc : DE) (ρ : DEnv) (S : Store) : dChain g g' fa fb fc ρ S = (fa ρ S).bind fun x S1 => (fb ρ S1).bind fun y S2 => (optO (g x y S2)).bind fun r S3 => andV r S3 fun S3 => (fc ρ S3).bind fun z S4 => optO (g' y z S4) := by
  unfold dChain andV
  congr 1
@[simp] theorem iaddD_int (i j : Int) (S : Store) : iaddD (.int i) (.int j) S = some (.int (i + j), S) := rfl
@[simp] theorem isubD_int (i j : Int) (S : Store) : isubD (.int i) (.int j) S = some (.int (i - j), S) := rfl
@[simp] theorem e_dBrk (ρ : DEnv) (S : Store) : dBrk ρ S = .bk ρ S := rfl
@[simp] theorem e_dCnt (ρ : DEnv) (S : Store) : dCnt ρ S = .ct ρ S := rfl
/-- one turn of a while loop -/
def whK (o : OutS) (k : DS) : OutS := match o with
  | .nx ρ S => k ρ S
  | .ct ρ S => k ρ S
  | .bk ρ S => .nx ρ S
  | o => o
@[simp] theorem whK_nx (ρ : DEnv) (S : Store) (k : DS) : whK (.nx ρ S) k = k ρ S := rfl
@[simp] theorem whK_exn (e : Exc) (ρ : DEnv) (S : Store) (k : DS) : whK (.exn e ρ S) k = .exn e ρ S := rfl
@[simp] theorem whK_bk (ρ : DEnv) (S : Store) (k : DS) : whK (.bk ρ S) k = .nx ρ S := rfl
@[simp] theorem whK_rt (d : D) (S : Store) (k : DS) : whK (.rt d S) k = .rt d S := rfl
theorem whileD_go (c : DT) (f : DS) (n : Nat) (ρ : DEnv) (S : Store) : whileD c f (n + 1) ρ S = liftS (c ρ S) ρ fun b S1 => if b = true then whK (f ρ S1) (whileD c f n) else .nx ρ S1 := by
  rw [whileD]
  congr 1
@[simp] theorem notND_non (S : Store) : notND .non .non S = some (.bl false, S) := rfl
@[simp] theorem isND_non (S : Store) : isND .non .non S = some (.bl true, S) := rfl
@[simp] theorem notND_int (i : Int) (S : Store) : notND (.int i) .non S = some (.bl true, S) := rfl
@[simp] theorem isND_int (i : Int) (S : Store) : isND (.int i) .non S = some (.bl false, S) := rfl
@[simp] theorem isND_tup (xs : List D) (S : Store) : isND (.tup xs) .non S = some (.bl false, S) := rfl
@[simp] theorem notND_tup (xs : List D) (S : Store) : notND (.tup xs) .non S = some (.bl true, S) := rfl
def toldO (rs : List String) (cs : List (String × Str)) (o : Out D) : Out D := match o with
  | .ok d S1 => .ok d S1
  | .exn e S1 => if e.c ∈ rs then (match pickD cs e.c with
    | some t => .ok (.str t) S1
    | none => .bad) else .bad
  | .bad => .bad
@[simp] theorem toldO_ok (rs : List String) (cs : List (String × Str)) (d : D) (S : Store) : toldO rs cs (.ok d S) = .ok d S := rfl
@[simp] theorem e_dTold (rs : List String) (cs : List (String × Str)) (f : DE) (ρ : DEnv) (S : Store) : dTold rs cs f ρ S = toldO rs cs (f ρ S) := by
  unfold dTold toldO
  rfl
@[simp] theorem e_dRaiseI (c : String) (fe : DE) (ρ : DEnv) (S : Store) : dRaiseI c fe ρ S = liftS (fe ρ S) ρ fun _ S1 => .exn ⟨c⟩ ρ S1 := rfl
@[simp] theorem mulD2_obj (n : Nat) (k : Int) (S : Store) : mulD2 (.obj n) (.int k) S = ((lstAt S n).bind fun xs => if -1000 ≤ k ∧ k ≤ 1000 ∧ xs.length ≤ 1000 then some (newO (.lst (List.replicate k.toNat xs).flatten) S) else none) := by
  unfold mulD2
  dsimp only
  cases h : lstAt S n <;> simp [h]
theorem addD_obj {n k : Nat} {xs ys : List D} {S : Store} (h1 : lstAt S n = some xs) (h2 : lstAt S k = some ys) (h3 : xs.length + ys.length ≤ 1000000) : addD (.obj n) (.obj k) S = some (.obj S.length, S ++ [.lst (xs ++ ys)]) := by
  unfold addD
  dsimp only
  rw [h1, h2]
  exact if_pos h3
theorem eqD_str {a b : Str} (h1 : SeqAt.shaped (.str a) = true) (h2 : SeqAt.shaped (.str b) = true) (S : Store) : eqD (.str a) (.str b) S = some (.bl (decide (a = b)), S) := by
  unfold eqD
  simp only [D.toPS, D.toP]
  rw [if_pos ⟨h1, h2⟩]
  simp only [PyData.eqv]
  cases h : (a == b) <;> simp_all
theorem neD_str {a b : Str} (h1 : SeqAt.shaped (.str a) = true) (h2 : SeqAt.shaped (.str b) = true) (S : Store) : neD (.str a) (.str b) S = some (.bl (!decide (a = b)), S) := by
  unfold neD
  simp only [D.toPS, D.toP]
  rw [if_pos ⟨h1, h2⟩]
  simp only [PyData.eqv]
  cases h : (a == b) <;> simp_all
/-- a comprehension that takes nothing -/
theorem lc_none {grd : Store → Bool} {tg : DG} {tt : DT} {fe : DE} {ρ : DEnv} {n : Nat} {S : Store} (hg : grd S = true) : ∀ (ds : List D), (∀ d ∈ ds, ∃ ρ1, tg d ρ S = .nx ρ1 S ∧ tt ρ1 S = .ok false S) → lcD grd tg tt fe n ρ ds S = .ok () S
  | [], h => by rw [lcD_nil, if_pos hg]
  | d :: ds, h => by
    obtain ⟨ρ1, h1, h2⟩ := h d List.mem_cons_self
    rw [lcD_cons, if_pos hg, h1, lcG_nx, h2, lcE_ok]
    simp only [Bool.false_eq_true, if_false]
    exact lc_none hg ds fun x hx => h x (List.mem_cons_of_mem _ hx)
theorem neD_nil {S : Store} {n k : Nat} (h : lstAt S n = some []) (h2 : lstAt S k = some []) : neD (.obj n) (.obj k) S = some (.bl false, S) := by
  unfold neD D.toPS
  dsimp only
  rw [h, h2]
  rfl
/-- the deepness of data -/
def augIxO (fe : DE) (ρ : DEnv) (g : D2) (n : Nat) (k : Int) (S : Store) : Option (List D) → OutS
  | some xs => (match atI xs k with
      | some x => liftS (fe ρ S) ρ fun y S3 => (match g x y S3 with
        | some (d, S4) => (match lstAt S4 n with
          | some ys => (match ixN ys.length k with
            | some j => .nx ρ (S4.set n (.lst (ys.set j d)))
            | none => .bad)
          | none => .bad)
        | none => .bad)
      | none => .bad)
  | none => .bad
@[simp] theorem e_dAugS (fo fi : DE) (g : D2) (fe : DE) (ρ : DEnv) (S : Store) : dAugS fo fi g fe ρ S = liftS (fo ρ S) ρ fun o S1 => liftS (fi ρ S1) ρ fun i S2 => match o, i with
  | .obj n, .int k => augIxO fe ρ g n k S2 (lstAt S2 n)
  | _, _ => .bad := by
  unfold dAugS
  congr 1
@[simp] theorem augIxO_some (fe : DE) (ρ : DEnv) (g : D2) (n : Nat) (k : Int) (S : Store) (xs : List D) : augIxO fe ρ g n k S (some xs) = (match atI xs k with
      | some x => liftS (fe ρ S) ρ fun y S3 => (match g x y S3 with
        | some (d, S4) => (match lstAt S4 n with
          | some ys => (match ixN ys.length k with
            | some j => .nx ρ (S4.set n (.lst (ys.set j d)))
            | none => .bad)
          | none => .bad)
        | none => .bad)
      | none => .bad) := rfl
end
end DL
set_option Elab.async false
set_option linter.all false
set_option maxRecDepth 100000
set_option maxHeartbeats 1000000
namespace DL
open PySem PySem.Spec PyProof.Rows L2
/-! ### equality of data that are alike -/
theorem shaped_lay {p : PyData} (h : SeqAt.shaped p = true) : p.canLay0 = true := by
  unfold SeqAt.shaped at h
  rw [Bool.and_eq_true] at h
  exact h.1
theorem eqv_self {p : PyData} (h : SeqAt.shaped p = true) : PyData.eqv p p = true := by
  have h := shaped_lay h
  exact SeqAt.eqv_refl p h
theorem eqD_same {x y : D} {p : PyData} {S : Store} (h : D.toPS S x = some p) (h2 : D.toPS S y = some p) (hs : SeqAt.shaped p = true) : eqD x y S = some (.bl true, S) := by
  unfold eqD
  rw [h, h2]
  dsimp only
  rw [if_pos ⟨hs, hs⟩, eqv_self hs]
theorem neD_same {x y : D} {p : PyData} {S : Store} (h : D.toPS S x = some p) (h2 : D.toPS S y = some p) (hs : SeqAt.shaped p = true) : neD x y S = some (.bl false, S) := by
  unfold neD
  rw [h, h2]
  dsimp only
  rw [if_pos ⟨hs, hs⟩, eqv_self hs]
  rfl
section
variable {α : Type} {f : α → D} {g : α → PyData} {k : Nat}
theorem toPs_map (h : ∀ a, D.toP (f a) = some (g a)) : ∀ (xs : List α), D.toPs (xs.map f) = some (xs.map g)
  | [] => rfl
  | c :: cs => by
    rw [List.map_cons, List.map_cons]
    unfold D.toPs
    rw [toPs_map h cs, h]
theorem lay_map (h : ∀ a, (g a).canLay0 = true) : ∀ (xs : List α), PyData.canLayAll0 (xs.map g) = true
  | [] => rfl
  | c :: cs => by rw [List.map_cons, PyData.canLayAll0, lay_map h cs, h]; rfl
theorem depth_map (h : ∀ a, (g a).depth ≤ k) : ∀ (xs : List α), PyData.depthAll (xs.map g) ≤ k
  | [] => Nat.zero_le _
  | c :: cs => by rw [List.map_cons, PyData.depthAll]; exact Nat.max_le.mpr ⟨h c, depth_map h cs⟩
/-- data told by g, one by one -/
structure Told (f : α → D) (g : α → PyData) : Prop where
  p : ∀ a, D.toP (f a) = some (g a)
  l : ∀ a, (g a).canLay0 = true
  d : ∀ a, (g a).depth ≤ 62
theorem Told.shaped (T : Told f g) (xs : List α) : SeqAt.shaped (.list (xs.map g)) = true := by
  have := depth_map T.d xs
  unfold SeqAt.shaped
  rw [PyData.canLay0, lay_map T.l, Bool.true_and, decide_eq_true_eq]
  unfold PyData.depth
  omega
theorem Told.shapedT (T : Told f g) (xs : List α) : SeqAt.shaped (.tuple (xs.map g)) = true := by
  have := depth_map T.d xs
  unfold SeqAt.shaped
  rw [PyData.canLay0, lay_map T.l, Bool.true_and, decide_eq_true_eq]
  unfold PyData.depth
  omega
theorem Told.lst (T : Told f g) {S : Store} {n : Nat} {xs : List α} (h : lstAt S n = some (xs.map f)) : D.toPS S (.obj n) = some (.list (xs.map g)) := by
  unfold D.toPS
  dsimp only
  rw [h]
  dsimp only
  rw [toPs_map T.p]
  rfl
theorem Told.tup (T : Told f g) {S : Store} (xs : List α) : D.toPS S (.tup (xs.map f)) = some (.tuple (xs.map g)) := by
  unfold D.toPS D.toP
  dsimp only
  rw [toPs_map T.p]
  rfl
theorem Told.ne_same (T : Told f g) {S : Store} {n m : Nat} {xs : List α} (h : lstAt S n = some (xs.map f)) (h2 : lstAt S m = some (xs.map f)) : neD (.obj n) (.obj m) S = some (.bl false, S) :=
  neD_same (T.lst h) (T.lst h2) (T.shaped xs)
theorem Told.eq_same (T : Told f g) {S : Store} {n m : Nat} {xs : List α} (h : lstAt S n = some (xs.map f)) (h2 : lstAt S m = some (xs.map f)) : eqD (.obj n) (.obj m) S = some (.bl true, S) :=
  eqD_same (T.lst h) (T.lst h2) (T.shaped xs)
theorem Told.nil (T : Told f g) {S : Store} {n m : Nat} {xs : List α} (h : lstAt S n = some (xs.map f)) (h2 : lstAt S m = some []) : eqD (.obj n) (.obj m) S = some (.bl xs.isEmpty, S) ∧ neD (.obj n) (.obj m) S = some (.bl (!xs.isEmpty), S) := by
  have e1 := T.lst h
  have e2 := T.lst (xs := []) h2
  have e3 : PyData.eqv (.list (xs.map g)) (.list (([] : List α).map g)) = xs.isEmpty := by cases xs <;> rfl
  unfold eqD neD
  rw [e1, e2]
  dsimp only
  rw [if_pos ⟨T.shaped xs, T.shaped []⟩, if_pos ⟨T.shaped xs, T.shaped []⟩, e3]
  exact ⟨rfl, rfl⟩
end
def pairP (z : Int × Int) : PyData := .tuple [.int z.1, .int z.2]
theorem told_pair : Told (fun z : Int × Int => D.tup [.int z.1, .int z.2]) pairP := ⟨fun a => rfl, fun a => rfl, fun a => by unfold pairP; simp [PyData.depth, PyData.depthAll]⟩
theorem told_int : Told D.int PyData.int := ⟨fun a => rfl, fun a => rfl, fun a => by simp [PyData.depth]⟩
theorem eqv_pair (a b c d : Int) : PyData.eqv (.tuple [.int a, .int b]) (.tuple [.int c, .int d]) = decide (a = c ∧ b = d) := by
  simp [PyData.eqv, PyData.eqvAll]
  rw [Bool.eq_iff_iff]
  simp
theorem eqD_pair (a b c d : Int) (S : Store) : eqD (.tup [.int a, .int b]) (.tup [.int c, .int d]) S = some (.bl (decide (a = c ∧ b = d)), S) := by
  have s := fun (x y : Int) => told_int.shapedT [x, y]
  unfold eqD
  have t1 : D.toPS S (.tup [.int a, .int b]) = some (.tuple [.int a, .int b]) := told_int.tup (S := S) [a, b]
  have t2 : D.toPS S (.tup [.int c, .int d]) = some (.tuple [.int c, .int d]) := told_int.tup (S := S) [c, d]
  rw [t1, t2]
  dsimp only
  rw [if_pos ⟨s a b, s c d⟩]
  exact congrArg (fun z => some (D.bl z, S)) (eqv_pair a b c d)
theorem neD_pair (a b c d : Int) (S : Store) : neD (.tup [.int a, .int b]) (.tup [.int c, .int d]) S = some (.bl (!decide (a = c ∧ b = d)), S) := by
  have s := fun (x y : Int) => told_int.shapedT [x, y]
  unfold neD
  have t1 : D.toPS S (.tup [.int a, .int b]) = some (.tuple [.int a, .int b]) := told_int.tup (S := S) [a, b]
  have t2 : D.toPS S (.tup [.int c, .int d]) = some (.tuple [.int c, .int d]) := told_int.tup (S := S) [c, d]
  rw [t1, t2]
  dsimp only
  rw [if_pos ⟨s a b, s c d⟩]
  exact congrArg (fun z => some (D.bl (!z), S)) (eqv_pair a b c d)
theorem sliceD_tup (xs : List D) (lo hi : Option Int) (S : Store) : sliceD (.tup xs) lo hi S = some (.tup (cutD xs lo hi), S) := rfl
end DL
set_option Elab.async false
set_option linter.all false
set_option maxRecDepth 100000
set_option maxHeartbeats 1000000
namespace DL
open PySem PySem.Spec PyProof.Rows L2
/-! ### a comprehension with a test, whose parts change nothing -/
theorem lcD_filter {α : Type} {grd : Store → Bool} {tg : DG} {tt : DT} {fe : DE} {ρ : DEnv} {a f : α → D} {p : α → Bool} {S1 : Store} (hg : ∀ X, grd (S1 ++ [.lst X]) = true) : ∀ (xs : List α) (acc : List D),
    (∀ x ∈ xs, ∀ X, ∃ ρ1, tg (a x) ρ (S1 ++ [.lst X]) = .nx ρ1 (S1 ++ [.lst X]) ∧ tt ρ1 (S1 ++ [.lst X]) = .ok (p x) (S1 ++ [.lst X]) ∧ (p x = true → fe ρ1 (S1 ++ [.lst X]) = .ok (f x) (S1 ++ [.lst X]))) → acc.length + xs.length < 1000000 →
    lcD grd tg tt fe S1.length ρ (xs.map a) (S1 ++ [.lst acc]) = .ok () (S1 ++ [.lst (acc ++ (xs.filter p).map f)])
  | [], acc, h, hl => by simp only [List.map_nil, lcD_nil, hg, if_true, List.filter_nil, List.append_nil]
  | x :: xs, acc, h, hl => by
    obtain ⟨ρ1, h1, h2, h4⟩ := h x List.mem_cons_self acc
    rw [List.length_cons] at hl
    cases hp : p x with
    | true =>
      have ih := lcD_filter (p := p) hg xs (acc ++ [f x]) (fun y hy => h y (List.mem_cons_of_mem _ hy)) (by rw [List.length_append, List.length_singleton]; omega)
      have h3 : lstAt (S1 ++ [.lst acc]) S1.length = some acc := by simp
      rw [hp] at h2
      simp -implicitDefEqProofs only [List.map_cons, lcD_cons, hg, if_true, h1, lcG_nx, h2, lcE_ok, h4 hp]
      rw [outU_some h3 (by omega)]
      simp -implicitDefEqProofs only [set_app0, List.set_cons_zero]
      rw [ih, List.filter_cons, if_pos hp, List.map_cons, List.append_assoc, List.singleton_append]
    | false =>
      have ih := lcD_filter (p := p) hg xs acc (fun y hy => h y (List.mem_cons_of_mem _ hy)) (by omega)
      rw [hp] at h2
      simp -implicitDefEqProofs only [List.map_cons, lcD_cons, hg, if_true, h1, lcG_nx, h2, lcE_ok]
      rw [if_neg (by decide), ih, List.filter_cons, if_neg (by rw [hp]; decide)]
theorem dLc_filter {α : Type} {fi : DI} {tg : DG} {tt : DT} {fe : DE} {vs : List Nat} {ρ : DEnv} {S S1 : Store} {grd : Store → Bool} (xs : List α) (a f : α → D) (p : α → Bool) (hi : fi ρ S = .ok ⟨xs.map a, grd⟩ S1) (hg : ∀ X, grd (S1 ++ [.lst X]) = true)
    (h : ∀ x ∈ xs, ∀ X, ∃ ρ1, tg (a x) (wipeD ρ vs) (S1 ++ [.lst X]) = .nx ρ1 (S1 ++ [.lst X]) ∧ tt ρ1 (S1 ++ [.lst X]) = .ok (p x) (S1 ++ [.lst X]) ∧ (p x = true → fe ρ1 (S1 ++ [.lst X]) = .ok (f x) (S1 ++ [.lst X]))) (hl : xs.length < 1000000) :
    dLc fi tg tt fe vs ρ S = .ok (.obj S1.length) (S1 ++ [.lst ((xs.filter p).map f)]) := by
  rw [e_dLc, hi]
  simp only [Out.bind_ok]
  rw [lcD_filter hg xs [] h (by rw [List.length_nil]; omega)]
  simp only [Out.bind_ok, List.nil_append]
theorem rng_nat (n : Nat) : rngD 0 1 n = (List.range n).map fun (i : Nat) => D.int (i : Int) := by
  unfold rngD
  refine List.map_congr_left fun i _ => ?_
  rw [Int.zero_add, Int.mul_one]
theorem rng_lo (lo : Int) (n : Nat) : rngD lo 1 n = (List.range n).map fun (i : Nat) => D.int (lo + (i : Int)) := by
  unfold rngD
  refine List.map_congr_left fun i _ => ?_
  rw [Int.mul_one]
theorem filter_last {p : Nat → Bool} {n : Nat} (h : ∀ i < n, p i = false) (h2 : p n = true) : (List.range (n + 1)).filter p = [n] := by
  rw [List.range_succ, List.filter_append, List.filter_eq_nil_iff.mpr (fun i hi => by rw [h i (List.mem_range.mp hi)]; decide)]
  simp [h2]
theorem filter_none {p : Nat → Bool} {n : Nat} (h : ∀ i < n, p i = false) : (List.range n).filter p = [] :=
  List.filter_eq_nil_iff.mpr (fun i hi => by rw [h i (List.mem_range.mp hi)]; decide)
end DL
set_option Elab.async false
set_option linter.all false
set_option maxRecDepth 100000
set_option maxHeartbeats 1000000
namespace Pr
open PySem PySem.Spec PyProof.Rows L2 DL
def pt (q : Rat) : D := .tup [.int q.num, .int q.den]
/-! ### the loop of Euclid -/
theorem gcd_loop {e : Nat} : ∀ (n a b : Nat) (x y : Option D) (rest : List (Option D)) (S : Store), b ≤ a → a * b < 2 ^ n →
    ∃ z, whileD (dB (dOp neD (dVar 3) (dC (.int 0)))) (dPar2 2 3 (daCons (dVar 3) (daCons (dOp modD (dVar 2) (dVar 3)) daNil))) (n + 1 + e) (x :: y :: some (.int (a : Int)) :: some (.int (b : Int)) :: rest) S
      = .nx (x :: y :: some (.int (Nat.gcd a b : Int)) :: some (.int z) :: rest) S := by
  intro n
  induction n with
  | zero =>
    intro a b x y rest S h h2
    have : b = 0 := by
      cases b with
      | zero => rfl
      | succ b => exfalso; have : 1 * 1 ≤ a * (b + 1) := Nat.mul_le_mul (by omega) (by omega); omega
    subst this
    rw [show 0 + 1 + e = e + 1 from by omega]
    exact ⟨0, by simp [whileD]⟩
  | succ n ih =>
    intro a b x y rest S h h2
    rw [show n + 1 + 1 + e = (n + 1 + e) + 1 from by omega]
    by_cases hb : b = 0
    · subst hb
      exact ⟨0, by simp [whileD]⟩
    · have hr := Nat.mod_lt a (Nat.pos_of_ne_zero hb)
      have h3 : 2 * (a % b) ≤ a := by
        have h5 := Nat.div_add_mod a b
        have h6 : 1 ≤ a / b := Nat.div_pos h (Nat.pos_of_ne_zero hb)
        have h7 : b * 1 ≤ b * (a / b) := Nat.mul_le_mul_left b h6
        omega
      have h4 : b * (a % b) < 2 ^ n := by
        have h5 : b * (2 * (a % b)) ≤ b * a := Nat.mul_le_mul_left b h3
        rw [Nat.mul_comm b a] at h5
        rw [Nat.pow_succ] at h2
        have h6 : b * (2 * (a % b)) = 2 * (b * (a % b)) := by rw [← Nat.mul_assoc, Nat.mul_comm b 2, Nat.mul_assoc]
        omega
      obtain ⟨z, hz⟩ := ih b (a % b) x y rest S (Nat.le_of_lt hr) h4
      refine ⟨z, ?_⟩
      have e1 : Nat.gcd b (a % b) = Nat.gcd a b := by rw [Nat.gcd_comm b, Nat.gcd_comm a b]; exact (Nat.gcd_rec b a).symm
      rw [e1] at hz
      have p : 0 < b := by omega
      rw [whileD]
      simp [hb, modD, p]
      exact hz
theorem gcd_any {a b : Nat} {x y : Option D} {rest : List (Option D)} {S : Store} (h : a * b < 2 ^ 20000) :
    ∃ z, whileD (dB (dOp neD (dVar 3) (dC (.int 0)))) (dPar2 2 3 (daCons (dVar 3) (daCons (dOp modD (dVar 2) (dVar 3)) daNil))) fuel (x :: y :: some (.int (a : Int)) :: some (.int (b : Int)) :: rest) S
      = .nx (x :: y :: some (.int (Nat.gcd a b : Int)) :: some (.int z) :: rest) S := by
  by_cases hab : b ≤ a
  · rw [show fuel = 20000 + 1 + 979999 from rfl]
    exact gcd_loop 20000 a b x y rest S hab h
  · rw [show fuel = (20000 + 1 + 979998) + 1 from rfl]
    obtain ⟨z, hz⟩ := gcd_loop (e := 979998) 20000 b a x y rest S (by omega) (by rw [Nat.mul_comm]; exact h)
    refine ⟨z, ?_⟩
    rw [whileD]
    have p : 0 < b := by omega
    have p2 : b ≠ 0 := by omega
    have e2 : (a : Int) % (b : Int) = (a : Int) := Int.emod_eq_of_lt (by omega) (by omega)
    rw [Nat.gcd_comm] at hz
    simp [p2, modD, p, e2]
    exact hz
theorem M_part_ok {t b : Int} (hb : b ≠ 0) (h1 : t.natAbs < 2 ^ 9000) (h2 : b.natAbs < 2 ^ 9000) (S : Store) : M_part [.int t, .int b] S = .ok (pt (Rat.divInt t b)) S := by
  have hm : t.natAbs * b.natAbs < 2 ^ 20000 := by
    have := Nat.mul_le_mul (Nat.le_of_lt h1) (Nat.le_of_lt h2)
    rw [← Nat.pow_add] at this
    exact Nat.lt_of_le_of_lt this (Nat.pow_lt_pow_right (by decide) (by decide))
  obtain ⟨z, hz⟩ := gcd_any (x := some (.int t)) (y := some (.int b)) (rest := [none]) (S := S) hm
  have hg : 0 < Nat.gcd t.natAbs b.natAbs := Nat.gcd_pos_of_pos_right _ (by omega)
  have hg2 : Nat.gcd t.natAbs b.natAbs < 2 ^ 9000 := Nat.lt_of_le_of_lt (Nat.gcd_le_right _ (by omega)) h2
  have hmax : (if (1 : Int) > (Nat.gcd t.natAbs b.natAbs : Int) then (1 : Int) else (Nat.gcd t.natAbs b.natAbs : Int)) = (Nat.gcd t.natAbs b.natAbs : Int) := by
    rw [if_neg (by omega)]
  have q1 : (Rat.divInt t b).num = (b.sign * t) / (Nat.gcd t.natAbs b.natAbs : Int) := by
    rw [Rat.num_divInt]; congr 2; rw [Int.gcd, Nat.gcd_comm]
  have q2 : ((Rat.divInt t b).den : Int) = (b.natAbs : Int) / (Nat.gcd t.natAbs b.natAbs : Int) := by
    rw [Rat.den_divInt, if_neg hb, Int.gcd, Nat.gcd_comm]; simp
  have sg : (if 0 < b then (1 : Int) else -1) = b.sign := by
    by_cases p : 0 < b
    · rw [if_pos p, Int.sign_eq_one_of_pos p]
    · rw [if_neg p, Int.sign_eq_neg_one_of_neg (by omega)]
  have t1 : (b.sign).natAbs < 2 ^ 9000 := by
    have h1 := Int.natAbs_sign_of_ne_zero hb
    rw [h1]
    exact Nat.one_lt_two_pow (by decide)
  have hg3 : ((Nat.gcd t.natAbs b.natAbs : Int)).natAbs < 2 ^ 9000 := hg2
  have hmx : max (Nat.gcd t.natAbs b.natAbs : Int) 1 = (Nat.gcd t.natAbs b.natAbs : Int) := by omega
  simp only [M_part, e_runD, f_part]
  simp [startD, hb, hz, hmx]
  have e9 : (if 0 < b then Out.ok (D.int 1) S else Out.ok (D.int (-1)) S) = Out.ok (D.int b.sign) S := by
    rw [← sg]; split <;> rfl
  have hg4 : (0 : Int) < (Nat.gcd t.natAbs b.natAbs : Int) := by omega
  rw [e9]
  simp [hmx, mulD_int t1 h1, fdivD_int hg4 hg3, pt, q1, q2]
/-! ### sizes -/
def Sz (n : Nat) (q : Rat) : Prop := q.num.natAbs < 2 ^ n ∧ q.den < 2 ^ n
theorem Sz.up {n m : Nat} {q : Rat} (h : Sz n q) (k : n ≤ m) : Sz m q := ⟨Nat.lt_of_lt_of_le h.1 (Nat.pow_le_pow_right (by decide) k), Nat.lt_of_lt_of_le h.2 (Nat.pow_le_pow_right (by decide) k)⟩
theorem mul_lt_pow {a b m n : Nat} (h1 : a < 2 ^ m) (h2 : b < 2 ^ n) : a * b < 2 ^ (m + n) := by
  rw [Nat.pow_add]
  by_cases h : a = 0
  · subst h; rw [Nat.zero_mul]; exact Nat.mul_pos (Nat.two_pow_pos m) (Nat.two_pow_pos n)
  · exact Nat.mul_lt_mul_of_lt_of_le h1 (Nat.le_of_lt h2) (Nat.two_pow_pos n)
theorem divInt_sz {t b : Int} {n : Nat} (hb : b ≠ 0) (h1 : t.natAbs < 2 ^ n) (h2 : b.natAbs < 2 ^ n) : Sz n (Rat.divInt t b) := by
  refine ⟨?_, ?_⟩
  · rw [Rat.num_divInt]
    have h3 : (b.sign * t / (b.gcd t : Int)).natAbs ≤ (b.sign * t).natAbs := by
      rw [Int.natAbs_ediv_of_dvd]
      · exact Nat.div_le_self _ _
      · exact Int.dvd_trans (Int.gcd_dvd_right b t) (Int.dvd_mul_left _ _)
    rw [Int.natAbs_mul, Int.natAbs_sign_of_ne_zero hb, Nat.one_mul] at h3
    omega
  · rw [Rat.den_divInt, if_neg hb]
    exact Nat.lt_of_le_of_lt (Nat.div_le_self _ _) h2
theorem lt_up {a m n : Nat} (h : a < 2 ^ m) (k : m ≤ n) : a < 2 ^ n := Nat.lt_of_lt_of_le h (Nat.pow_le_pow_right (by decide) k)
section
variable {q r : Rat} {m n : Nat}
theorem mulA (h1 : q.num.natAbs < 2 ^ m) (h2 : r.den < 2 ^ n) : (q.num * (r.den : Int)).natAbs < 2 ^ (m + n) := by
  rw [Int.natAbs_mul]; exact mul_lt_pow h1 h2
theorem add_b (h1 : Sz m q) (h2 : Sz n r) : (q.num * (r.den : Int) + r.num * (q.den : Int)).natAbs < 2 ^ (m + n + 1) := by
  have a := mulA (q := q) (r := r) h1.1 h2.2
  have b := mulA (q := r) (r := q) h2.1 h1.2
  rw [Nat.add_comm n m] at b
  rw [Nat.pow_succ]
  omega
theorem sub_b (h1 : Sz m q) (h2 : Sz n r) : (q.num * (r.den : Int) - r.num * (q.den : Int)).natAbs < 2 ^ (m + n + 1) := by
  have a := mulA (q := q) (r := r) h1.1 h2.2
  have b := mulA (q := r) (r := q) h2.1 h1.2
  rw [Nat.add_comm n m] at b
  rw [Nat.pow_succ]
  omega
theorem den_b (h1 : Sz m q) (h2 : Sz n r) : ((q.den : Int) * (r.den : Int)).natAbs < 2 ^ (m + n) := by
  rw [Int.natAbs_mul]; exact mul_lt_pow h1.2 h2.2
theorem num_b (h1 : Sz m q) (h2 : Sz n r) : (q.num * r.num).natAbs < 2 ^ (m + n) := by
  rw [Int.natAbs_mul]; exact mul_lt_pow h1.1 h2.1
theorem den_ne : (q.den : Int) * (r.den : Int) ≠ 0 := Int.mul_ne_zero (by have := q.den_nz; omega) (by have := r.den_nz; omega)
theorem add_di : q + r = Rat.divInt (q.num * (r.den : Int) + r.num * (q.den : Int)) ((q.den : Int) * (r.den : Int)) := by
  rw [Rat.add_def', ← Int.natCast_mul, Rat.divInt_ofNat]
theorem sub_di : q - r = Rat.divInt (q.num * (r.den : Int) - r.num * (q.den : Int)) ((q.den : Int) * (r.den : Int)) := by
  rw [Rat.sub_def', ← Int.natCast_mul, Rat.divInt_ofNat]
theorem mul_di : q * r = Rat.divInt (q.num * r.num) ((q.den : Int) * (r.den : Int)) := by
  rw [Rat.mul_def', ← Int.natCast_mul, Rat.divInt_ofNat]
theorem div_di : q / r = Rat.divInt (q.num * (r.den : Int)) ((q.den : Int) * r.num) := by
  rw [Rat.div_def, Rat.inv_def]
  conv => lhs; rw [← Rat.num_divInt_den q]
  rw [Rat.divInt_mul_divInt]
theorem Sz.add (h1 : Sz m q) (h2 : Sz n r) : Sz (m + n + 1) (q + r) := by
  rw [add_di]; exact divInt_sz den_ne (add_b h1 h2) (lt_up (den_b h1 h2) (by omega))
theorem Sz.sub (h1 : Sz m q) (h2 : Sz n r) : Sz (m + n + 1) (q - r) := by
  rw [sub_di]; exact divInt_sz den_ne (sub_b h1 h2) (lt_up (den_b h1 h2) (by omega))
theorem Sz.mul (h1 : Sz m q) (h2 : Sz n r) : Sz (m + n) (q * r) := by
  rw [mul_di]; exact divInt_sz den_ne (num_b h1 h2) (den_b h1 h2)
theorem Sz.div (h1 : Sz m q) (h2 : Sz n r) (h : r ≠ 0) : Sz (m + n) (q / r) := by
  rw [div_di]
  have hr : r.num ≠ 0 := fun z => h (Rat.num_eq_zero.mp z)
  refine divInt_sz (Int.mul_ne_zero (by have := q.den_nz; omega) hr) (mulA h1.1 h2.2) ?_
  rw [Int.mul_comm, Nat.add_comm]
  exact mulA h2.1 h1.2
theorem M_add_ok (h1 : Sz 4000 q) (h2 : Sz 4000 r) (S : Store) : M_add [pt q, pt r] S = .ok (pt (q + r)) S := by
  have a1 := lt_up (n := 9000) h1.1 (by decide)
  have a2 : ((q.den : Int)).natAbs < 2 ^ 9000 := lt_up (n := 9000) h1.2 (by decide)
  have a3 := lt_up (n := 9000) h2.1 (by decide)
  have a4 : ((r.den : Int)).natAbs < 2 ^ 9000 := lt_up (n := 9000) h2.2 (by decide)
  have b1 := M_part_ok (t := q.num * (r.den : Int) + r.num * (q.den : Int)) den_ne (lt_up (add_b h1 h2) (by decide)) (lt_up (den_b h1 h2) (by decide)) S
  rw [← add_di] at b1
  simp [M_add, f_add, startD, pt, mulD_int a1 a4, mulD_int a3 a2, mulD_int a2 a4]
  rw [b1]; rfl
theorem M_less_ok (h1 : Sz 4000 q) (h2 : Sz 4000 r) (S : Store) : M_less [pt q, pt r] S = .ok (pt (q - r)) S := by
  have a1 := lt_up (n := 9000) h1.1 (by decide)
  have a2 : ((q.den : Int)).natAbs < 2 ^ 9000 := lt_up (n := 9000) h1.2 (by decide)
  have a3 := lt_up (n := 9000) h2.1 (by decide)
  have a4 : ((r.den : Int)).natAbs < 2 ^ 9000 := lt_up (n := 9000) h2.2 (by decide)
  have b1 := M_part_ok (t := q.num * (r.den : Int) - r.num * (q.den : Int)) den_ne (lt_up (sub_b h1 h2) (by decide)) (lt_up (den_b h1 h2) (by decide)) S
  rw [← sub_di] at b1
  simp [M_less, f_less, startD, pt, mulD_int a1 a4, mulD_int a3 a2, mulD_int a2 a4]
  rw [b1]; rfl
theorem M_times_ok (h1 : Sz 4000 q) (h2 : Sz 4000 r) (S : Store) : M_times [pt q, pt r] S = .ok (pt (q * r)) S := by
  have a1 := lt_up (n := 9000) h1.1 (by decide)
  have a2 : ((q.den : Int)).natAbs < 2 ^ 9000 := lt_up (n := 9000) h1.2 (by decide)
  have a3 := lt_up (n := 9000) h2.1 (by decide)
  have a4 : ((r.den : Int)).natAbs < 2 ^ 9000 := lt_up (n := 9000) h2.2 (by decide)
  have b1 := M_part_ok (t := q.num * r.num) den_ne (lt_up (num_b h1 h2) (by decide)) (lt_up (den_b h1 h2) (by decide)) S
  rw [← mul_di] at b1
  simp [M_times, f_times, startD, pt, mulD_int a1 a3, mulD_int a2 a4]
  rw [b1]; rfl
theorem M_over_ok (h1 : Sz 4000 q) (h2 : Sz 4000 r) (h : r ≠ 0) (S : Store) : M_over [pt q, pt r] S = .ok (pt (q / r)) S := by
  have a1 := lt_up (n := 9000) h1.1 (by decide)
  have a2 : ((q.den : Int)).natAbs < 2 ^ 9000 := lt_up (n := 9000) h1.2 (by decide)
  have a3 := lt_up (n := 9000) h2.1 (by decide)
  have a4 : ((r.den : Int)).natAbs < 2 ^ 9000 := lt_up (n := 9000) h2.2 (by decide)
  have hr : r.num ≠ 0 := fun z => h (Rat.num_eq_zero.mp z)
  have c1 : ((q.den : Int) * r.num).natAbs < 2 ^ (4000 + 4000) := by rw [Int.mul_comm]; exact mulA h2.1 h1.2
  have b1 := M_part_ok (t := q.num * (r.den : Int)) (b := (q.den : Int) * r.num) (Int.mul_ne_zero (by have := q.den_nz; omega) hr) (lt_up (mulA h1.1 h2.2) (by decide)) (lt_up c1 (by decide)) S
  rw [← div_di] at b1
  simp [M_over, f_over, startD, pt, mulD_int a1 a4, mulD_int a2 a3]
  rw [b1]; rfl
def cmpQ (q r : Rat) : Int := if q < r then -1 else if q = r then 0 else 1
theorem M_order_ok (h1 : Sz 4000 q) (h2 : Sz 4000 r) (S : Store) : M_order [pt q, pt r] S = .ok (.int (cmpQ q r)) S := by
  have a1 := lt_up (n := 9000) h1.1 (by decide)
  have a2 : ((q.den : Int)).natAbs < 2 ^ 9000 := lt_up (n := 9000) h1.2 (by decide)
  have a3 := lt_up (n := 9000) h2.1 (by decide)
  have a4 : ((r.den : Int)).natAbs < 2 ^ 9000 := lt_up (n := 9000) h2.2 (by decide)
  simp [M_order, f_order, startD, pt, mulD_int a1 a4, mulD_int a3 a2, b2, cmpQ]
  have e1 := Rat.lt_iff q r
  have e2 := @Rat.eq_iff_mul_eq_mul q r
  by_cases p : q < r
  · have p1 := e1.mp p
    rw [if_pos p, if_neg (by omega), if_pos (by omega)]; rfl
  · have p1 : ¬ q.num * (r.den : Int) < r.num * (q.den : Int) := fun z => p (e1.mpr z)
    rw [if_neg p]
    by_cases p2 : q = r
    · have p3 := e2.mp p2
      rw [if_pos p2, if_neg (by omega), if_neg (by omega)]; rfl
    · have p3 : ¬ q.num * (r.den : Int) = r.num * (q.den : Int) := fun z => p2 (e2.mpr z)
      rw [if_neg p2, if_pos (by omega), if_neg (by omega)]; rfl
theorem pt_inj : pt q = pt r ↔ q = r := by
  constructor
  · intro h
    simp only [pt, D.tup.injEq, List.cons.injEq, D.int.injEq, and_true] at h
    exact Rat.ext h.1 (by omega)
  · rintro rfl; rfl
theorem eqv_pt : PyData.eqv (.tuple [.int q.num, .int q.den]) (.tuple [.int r.num, .int r.den]) = decide (q = r) := by
  have e : PyData.eqv (.tuple [.int q.num, .int q.den]) (.tuple [.int r.num, .int r.den]) = (decide (q.num = r.num) && decide ((q.den : Int) = (r.den : Int))) := by
    simp [PyData.eqv, PyData.eqvAll, Bool.beq_eq_decide_eq]
  rw [e]
  by_cases h : q = r
  · subst h; simp
  · rw [decide_eq_false h]
    cases z : (decide (q.num = r.num) && decide ((q.den : Int) = (r.den : Int))) with
    | false => rfl
    | true =>
      simp at z
      exact absurd (Rat.ext z.1 (by omega)) h
@[simp] theorem eqD_pt (S : Store) : eqD (pt q) (pt r) S = some (.bl (decide (q = r)), S) := by
  unfold eqD
  simp only [pt, D.toPS, D.toP, D.toPs, Option.map_some]
  rw [if_pos ⟨rfl, rfl⟩, eqv_pt]
@[simp] theorem neD_pt (S : Store) : neD (pt q) (pt r) S = some (.bl (!decide (q = r)), S) := by
  unfold neD
  simp only [pt, D.toPS, D.toP, D.toPs, Option.map_some]
  rw [if_pos ⟨rfl, rfl⟩, eqv_pt]
end
end Pr
set_option Elab.async false
set_option linter.all false
set_option maxRecDepth 100000
set_option maxHeartbeats 1000000
namespace Pr
open PySem PySem.Spec PyProof.Rows L2 DL
theorem tup_int (k : Int) : D.tup [.int k, .int 1] = pt (k : Rat) := rfl
@[simp] theorem ix0_pt (q : Rat) (S : Store) : ixD (pt q) (.int 0) S = some (.int q.num, S) := by simp [pt]
@[simp] theorem ix1_pt (q : Rat) (S : Store) : ixD (pt q) (.int 1) S = some (.int q.den, S) := by simp [pt]
theorem sz_int {k : Int} {n : Nat} (h : k.natAbs < 2 ^ (n + 1)) : Sz (n + 1) (k : Rat) := ⟨h, by
  show 1 < 2 ^ (n + 1)
  exact Nat.one_lt_two_pow (by omega)⟩
/-- the size of a part -/
def bits (q : Rat) : Nat := max (q.num.natAbs.log2 + 1) (q.den.log2 + 1)
theorem lt_log2 (a : Nat) : a < 2 ^ (a.log2 + 1) := Nat.lt_log2_self
theorem sz_bits {q : Rat} {n : Nat} (h : bits q ≤ n) : Sz n q := by
  have := Nat.le_max_left (q.num.natAbs.log2 + 1) (q.den.log2 + 1)
  have := Nat.le_max_right (q.num.natAbs.log2 + 1) (q.den.log2 + 1)
  unfold bits at h
  exact ⟨lt_up (lt_log2 _) (by omega), lt_up (lt_log2 _) (by omega)⟩
theorem bits_sz {q : Rat} {n : Nat} (h : Sz (n + 1) q) : bits q ≤ n + 1 := by
  have a := log2_lt' h.1 (by omega)
  have b := log2_lt' h.2 (by omega)
  unfold bits
  omega
theorem bits_pos (q : Rat) : 1 ≤ bits q := by unfold bits; omega
theorem bits_add (q r : Rat) : bits (q + r) ≤ bits q + bits r + 1 := bits_sz (Sz.add (sz_bits (Nat.le_refl _)) (sz_bits (Nat.le_refl _)))
theorem bits_sub (q r : Rat) : bits (q - r) ≤ bits q + bits r + 1 := bits_sz (Sz.sub (sz_bits (Nat.le_refl _)) (sz_bits (Nat.le_refl _)))
theorem bits_mul (q r : Rat) : bits (q * r) ≤ bits q + bits r := by
  have h := bits_pos q
  obtain ⟨k, e⟩ : ∃ k, bits q + bits r = k + 1 := ⟨bits q + bits r - 1, by omega⟩
  have z := Sz.mul (sz_bits (Nat.le_refl (bits q))) (sz_bits (Nat.le_refl (bits r)))
  rw [e] at z ⊢
  exact bits_sz z
theorem bits_div (q r : Rat) : bits (q / r) ≤ bits q + bits r := by
  by_cases h0 : r = 0
  · subst h0
    have : q / 0 = 0 := by rw [Rat.div_def]; simp
    rw [this]
    have h := bits_pos q
    have h2 : bits 0 = 1 := by decide
    omega
  · have h := bits_pos q
    obtain ⟨k, e⟩ : ∃ k, bits q + bits r = k + 1 := ⟨bits q + bits r - 1, by omega⟩
    have z := Sz.div (sz_bits (Nat.le_refl (bits q))) (sz_bits (Nat.le_refl (bits r))) h0
    rw [e] at z ⊢
    exact bits_sz z
theorem bits_ite (c : Prop) [Decidable c] (q r : Rat) : bits (if c then q else r) ≤ bits q + bits r := by
  split <;> omega
theorem bits_int {k : Int} {n : Nat} (h : k.natAbs < 2 ^ (n + 1)) : bits (k : Rat) ≤ n + 1 := bits_sz (sz_int h)
theorem bits_one : bits 1 = 1 := by decide
theorem bits_zero : bits 0 = 1 := by decide
section
variable {q r : Rat} {S : Store}
theorem B_add (h1 : bits q ≤ 4000) (h2 : bits r ≤ 4000) : M_add [pt q, pt r] S = .ok (pt (q + r)) S := M_add_ok (sz_bits h1) (sz_bits h2) S
theorem B_times (h1 : bits q ≤ 4000) (h2 : bits r ≤ 4000) : M_times [pt q, pt r] S = .ok (pt (q * r)) S := M_times_ok (sz_bits h1) (sz_bits h2) S
theorem B_over (h1 : bits q ≤ 4000) (h2 : bits r ≤ 4000) (h : r ≠ 0) : M_over [pt q, pt r] S = .ok (pt (q / r)) S := M_over_ok (sz_bits h1) (sz_bits h2) h S
theorem B_order (h1 : bits q ≤ 4000) (h2 : bits r ≤ 4000) : M_order [pt q, pt r] S = .ok (.int (cmpQ q r)) S := M_order_ok (sz_bits h1) (sz_bits h2) S
end
theorem ite_ok {α : Type} (c : Prop) [Decidable c] (a b : α) (S : Store) : (if c then Out.ok a S else Out.ok b S) = Out.ok (if c then a else b) S := by split <;> rfl
theorem ite_pt (c : Prop) [Decidable c] (q r : Rat) : (if c then pt q else pt r) = pt (if c then q else r) := by split <;> rfl

structure BLe (q : Rat) (n : Nat) : Prop where
  le : bits q ≤ n
section
variable {q r : Rat} {m n k : Nat} {S : Store}
theorem BLe.fin (h : BLe q n) (e : Nat.ble n k = true) : BLe q k := ⟨Nat.le_trans h.le (Nat.le_of_ble_eq_true e)⟩
theorem BLe.mul (h1 : BLe q m) (h2 : BLe r n) : BLe (q * r) (m + n) := ⟨by have := bits_mul q r; have := h1.le; have := h2.le; omega⟩
theorem BLe.div (h1 : BLe q m) (h2 : BLe r n) : BLe (q / r) (m + n) := ⟨by have := bits_div q r; have := h1.le; have := h2.le; omega⟩
theorem BLe.add (h1 : BLe q m) (h2 : BLe r n) : BLe (q + r) (m + n + 1) := ⟨by have := bits_add q r; have := h1.le; have := h2.le; omega⟩
theorem BLe.sub (h1 : BLe q m) (h2 : BLe r n) : BLe (q - r) (m + n + 1) := ⟨by have := bits_sub q r; have := h1.le; have := h2.le; omega⟩
theorem BLe.ite {c : Prop} [Decidable c] (h1 : BLe q m) (h2 : BLe r n) : BLe (if c then q else r) (m + n) := ⟨by have := bits_ite c q r; have := h1.le; have := h2.le; omega⟩
theorem BLe.one : BLe 1 1 := ⟨by decide⟩
theorem BLe.zero : BLe 0 1 := ⟨by decide⟩
theorem C_add (h1 : BLe q 4000) (h2 : BLe r 4000) : M_add [pt q, pt r] S = .ok (pt (q + r)) S := B_add h1.le h2.le
theorem C_times (h1 : BLe q 4000) (h2 : BLe r 4000) : M_times [pt q, pt r] S = .ok (pt (q * r)) S := B_times h1.le h2.le
theorem C_over (h1 : BLe q 4000) (h2 : BLe r 4000) (h : r ≠ 0) : M_over [pt q, pt r] S = .ok (pt (q / r)) S := B_over h1.le h2.le h
theorem C_order (h1 : BLe q 4000) (h2 : BLe r 4000) : M_order [pt q, pt r] S = .ok (.int (cmpQ q r)) S := B_order h1.le h2.le
end
theorem divInt_div (a b : Int) : Rat.divInt a b = (a : Rat) / b := Rat.divInt_eq_div a b
theorem M_least_ok {t b : Int} (hb : 0 < b) (h1 : t.natAbs < 2 ^ 9000) (h2 : b.natAbs < 2 ^ 9000) (S : Store) : M__law_least [.int t, .int b] S = .ok (pt ((t : Rat) / b)) S := by
  have hm : t.natAbs * b.natAbs < 2 ^ 20000 := by
    have := Nat.mul_le_mul (Nat.le_of_lt h1) (Nat.le_of_lt h2)
    rw [← Nat.pow_add] at this
    exact Nat.lt_of_le_of_lt this (Nat.pow_lt_pow_right (by decide) (by decide))
  obtain ⟨z, hz⟩ := gcd_any (x := some (.int t)) (y := some (.int b)) (rest := []) (S := S) hm
  have hbn : (b.natAbs : Int) = b := by omega
  rw [hbn] at hz
  have hb0 : b ≠ 0 := by omega
  have hg : 0 < Nat.gcd t.natAbs b.natAbs := Nat.gcd_pos_of_pos_right _ (by omega)
  have hg2 : Nat.gcd t.natAbs b.natAbs < 2 ^ 9000 := Nat.lt_of_le_of_lt (Nat.gcd_le_right _ (by omega)) h2
  have q1 : (Rat.divInt t b).num = t / (Nat.gcd t.natAbs b.natAbs : Int) := by
    rw [Rat.num_divInt, Int.sign_eq_one_of_pos hb, Int.one_mul]; congr 2; rw [Int.gcd, Nat.gcd_comm]
  have q2 : ((Rat.divInt t b).den : Int) = b / (Nat.gcd t.natAbs b.natAbs : Int) := by
    rw [Rat.den_divInt, if_neg hb0, Int.gcd, Nat.gcd_comm, Int.natCast_ediv, hbn]
  have hg3 : ((Nat.gcd t.natAbs b.natAbs : Int)).natAbs < 2 ^ 9000 := hg2
  have hmx : max (Nat.gcd t.natAbs b.natAbs : Int) 1 = (Nat.gcd t.natAbs b.natAbs : Int) := by omega
  have hg4 : (0 : Int) < (Nat.gcd t.natAbs b.natAbs : Int) := by omega
  rw [← divInt_div]
  simp -implicitDefEqProofs only [M__law_least, e_runD, f__law_least]
  simp -implicitDefEqProofs [startD, hz, hmx, fdivD_int hg4 hg3, pt, q1, q2]
theorem mulD_l {i j : Int} {S : Store} (h : i.natAbs < 18446744073709551616) : mulD (.int i) (.int j) S = some (.int (i * j), S) := if_pos (.inl (.inl h))
theorem mulD_r {i j : Int} {S : Store} (h : j.natAbs < 18446744073709551616) : mulD (.int i) (.int j) S = some (.int (i * j), S) := if_pos (.inl (.inr h))

end Pr
set_option Elab.async false
set_option linter.all false
set_option maxRecDepth 100000
set_option maxHeartbeats 1000000
namespace Pr
open PySem PySem.Spec PyProof.Rows L2 DL
theorem notIn_half (S : Store) : notInD (.str "half up") (.tup [.str "down", .str "up", .str "half up", .str "half even", .str "half down"]) S = some (.bl false, S) := rfl
theorem eq_half1 (S : Store) : eqD (.str "half up") (.str "up") S = some (.bl false, S) := by rw [eqD_str (by decide +kernel) (by decide +kernel)]; rfl
theorem eq_half2 (S : Store) : eqD (.str "half up") (.str "half up") S = some (.bl true, S) := by rw [eqD_str (by decide +kernel) (by decide +kernel)]; rfl
theorem eq_half3 (S : Store) : eqD (.str "half") (.str "half") S = some (.bl true, S) := by rw [eqD_str (by decide +kernel) (by decide +kernel)]; rfl
theorem sl_half (S : Store) : sliceD (.str "half up") none (some 4) S = some (.str "half", S) := rfl
theorem half_up {n d : Int} (hd : 0 < d) : (2 * n + d) / (2 * d) = n / d + if d ≤ 2 * (n % d) then 1 else 0 := by
  have e := Int.mul_ediv_add_emod n d
  have r0 := Int.emod_nonneg n (show d ≠ 0 by omega)
  have r1 := Int.emod_lt_of_pos n hd
  generalize n / d = k at *
  generalize n % d = r at *
  subst e
  have e2 : 2 * (d * k + r) + d = (2 * r + d) + 2 * d * k := by rw [Int.mul_assoc]; omega
  rw [e2, Int.add_mul_ediv_left _ _ (by omega), Int.add_comm]
  congr 1
  split
  · rename_i h
    rw [show 2 * r + d = (2 * r - d) + 2 * d * 1 by omega, Int.add_mul_ediv_left _ _ (by omega), Int.ediv_eq_zero_of_lt (by omega) (by omega)]; rfl
  · rename_i h
    exact Int.ediv_eq_zero_of_lt (by omega) (by omega)
theorem rounded_half {q : Rat} (hq : 0 ≤ q.num) (hs : Sz 4000 q) (S : Store) : M_rounded [pt q, .str "half up"] S = .ok (.int ((2 * q.num + q.den) / (2 * q.den))) S := by
  have hd : (0 : Int) < (q.den : Int) := by have := q.den_nz; omega
  have hd2 : ((q.den : Int)).natAbs < 2 ^ 9000 := lt_up hs.2 (by decide)
  have hn : ((q.num.natAbs : Nat) : Int) = q.num := by omega
  have s2 : (2 : Int).natAbs < 18446744073709551616 := by decide
  have s1 : (1 : Int).natAbs < 18446744073709551616 := by decide
  rw [half_up hd]
  simp -implicitDefEqProofs only [M_rounded, e_runD, f_rounded]
  rcases Int.lt_trichotomy (2 * (q.num % (q.den : Int))) (q.den : Int) with c | c | c
  · have c1 : ¬ (q.den : Int) < 2 * (q.num % (q.den : Int)) := by omega
    have c2 : ¬ 2 * (q.num % (q.den : Int)) = (q.den : Int) := by omega
    have c3 : ¬ (q.den : Int) ≤ 2 * (q.num % (q.den : Int)) := by omega
    simp -implicitDefEqProofs [startD, notIn_half, eq_half1, eq_half2, sl_half, eq_half3, hn, fdivD_int hd hd2, modD_int hd, mulD_l s2, mulD_l s1, Int.not_lt.mpr hq, c1, c2, c3]
  · have c1 : ¬ (q.den : Int) < 2 * (q.num % (q.den : Int)) := by omega
    have c3 : (q.den : Int) ≤ 2 * (q.num % (q.den : Int)) := by omega
    simp -implicitDefEqProofs [startD, notIn_half, eq_half1, eq_half2, sl_half, eq_half3, hn, fdivD_int hd hd2, modD_int hd, mulD_l s2, mulD_l s1, Int.not_lt.mpr hq, c1, c, c3]
  · have c2 : ¬ 2 * (q.num % (q.den : Int)) = (q.den : Int) := by omega
    have c3 : (q.den : Int) ≤ 2 * (q.num % (q.den : Int)) := by omega
    simp -implicitDefEqProofs [startD, notIn_half, eq_half1, eq_half2, sl_half, eq_half3, hn, fdivD_int hd hd2, modD_int hd, mulD_l s2, mulD_l s1, Int.not_lt.mpr hq, c, c2, c3]
/-- the interest -/
def inI (h l : Int) : Int := (2 * l * h + 100) / 200
def rateQ (h : Int) : Rat := (h : Rat) / 100
theorem half_same {n d m : Int} (hd : 0 < d) (e : n * 100 = m * d) : (2 * n + d) / (2 * d) = (2 * m + 100) / 200 := by
  have e1 : (2 * n + d) / (2 * d) = ((2 * n + d) * 100) / (2 * d * 100) := (Int.mul_ediv_mul_of_pos_left _ _ (by omega)).symm
  have e2 : (2 * n + d) * 100 = (2 * m + 100) * d := by rw [Int.add_mul, Int.add_mul, Int.mul_assoc 2 n, e, Int.mul_assoc]; omega
  have e3 : 2 * d * 100 = 200 * d := by omega
  rw [e1, e2, e3, Int.mul_ediv_mul_of_pos_left _ _ hd]
end Pr
set_option Elab.async false
set_option linter.all false
set_option maxRecDepth 100000
set_option maxHeartbeats 1000000
namespace Pr
open PySem PySem.Spec PyProof.Rows L2 DL
/-! ### rounded half up -/
def hu (n d : Int) : Int := (2 * n + d) / (2 * d)
theorem cross {q : Rat} {a b : Int} (hb : b ≠ 0) (e : q = Rat.divInt a b) : q.num * b = a * q.den := by
  have e1 : Rat.divInt q.num q.den = Rat.divInt a b := by rw [Rat.num_divInt_den]; exact e
  exact (Rat.divInt_eq_divInt_iff (by have := q.den_nz; omega) hb).mp e1
theorem hu_same {n d m b : Int} (hd : 0 < d) (hb : 0 < b) (e : n * b = m * d) : hu n d = hu m b := by
  unfold hu
  have e1 : (2 * n + d) / (2 * d) = ((2 * n + d) * b) / (2 * d * b) := (Int.mul_ediv_mul_of_pos_left _ _ hb).symm
  have e2 : (2 * n + d) * b = (2 * m + b) * d := by rw [Int.add_mul, Int.add_mul, Int.mul_assoc 2 n, e, Int.mul_assoc, Int.mul_comm d b]
  have e3 : 2 * d * b = 2 * b * d := by rw [Int.mul_assoc, Int.mul_comm d b, Int.mul_assoc]
  rw [e1, e2, e3, Int.mul_ediv_mul_of_pos_left _ _ hd]
theorem rounded_part {t b : Int} (hb : 0 < b) (ht : 0 ≤ t) (h1 : t.natAbs < 2 ^ 90) (h2 : b.natAbs < 2 ^ 90) (S : Store) : M_rounded [pt (Rat.divInt t b), .str "half up"] S = .ok (.int (hu t b)) S := by
  have sz := divInt_sz (n := 90) (show b ≠ 0 by omega) h1 h2
  have q0 : 0 ≤ (Rat.divInt t b).num := by
    rw [Rat.num_divInt, Int.sign_eq_one_of_pos hb, Int.one_mul]
    exact Int.ediv_nonneg ht (by omega)
  have r := rounded_half q0 (sz.up (by decide)) S
  rw [r]
  have c := cross (show b ≠ 0 by omega) (rfl : Rat.divInt t b = Rat.divInt t b)
  have p : (0 : Int) < ((Rat.divInt t b).den : Int) := by have := (Rat.divInt t b).den_nz; omega
  have := hu_same p hb c
  unfold hu at this ⊢
  rw [this]
theorem part_small {t b : Int} (hb : 0 < b) (h1 : t.natAbs < 2 ^ 90) (h2 : b.natAbs < 2 ^ 90) (S : Store) : M_part [.int t, .int b] S = .ok (pt (Rat.divInt t b)) S :=
  M_part_ok (by omega) (lt_up h1 (by decide)) (lt_up h2 (by decide)) S
theorem hu_nn {n d : Int} (hn : 0 ≤ n) (hd : 0 < d) : 0 ≤ hu n d := Int.ediv_nonneg (by omega) (by omega)
theorem hu_mono {a b d : Int} (h : a ≤ b) (hd : 0 < d) : hu a d ≤ hu b d := Int.ediv_le_ediv (by omega) (by omega)

theorem times_tup {a p d : Int} (h1 : a.natAbs < 2 ^ 40) (h2 : p.natAbs < 2 ^ 40) (hd : 0 < d) (hd2 : d.natAbs < 2 ^ 40) (S : Store) : M_times [.tup [.int a, .int 1], .tup [.int p, .int d]] S = .ok (pt (Rat.divInt (a * p) d)) S := by
  have b : (a * p).natAbs < 2 ^ 90 := by
    have := mul_lt_pow (a := a.natAbs) (b := p.natAbs) (m := 40) (n := 40) h1 h2
    rw [← Int.natAbs_mul] at this
    exact lt_up this (by decide)
  have a1 : a.natAbs < 18446744073709551616 := by omega
  have pp := part_small (t := a * p) (b := d) hd b (by omega) S
  simp -implicitDefEqProofs only [M_times, e_runD, f_times]
  simp -implicitDefEqProofs [startD, mulD_l a1, mulD_l (show (1 : Int).natAbs < 18446744073709551616 by decide), pp]
/-! ### rounded down -/
theorem notIn_down (S : Store) : notInD (.str "down") (.tup [.str "down", .str "up", .str "half up", .str "half even", .str "half down"]) S = some (.bl false, S) := rfl
theorem eq_down1 (S : Store) : eqD (.str "down") (.str "up") S = some (.bl false, S) := by rw [eqD_str (by decide +kernel) (by decide +kernel)]; rfl
theorem eq_down2 (S : Store) : eqD (.str "down") (.str "half") S = some (.bl false, S) := by rw [eqD_str (by decide +kernel) (by decide +kernel)]; rfl
theorem sl_down (S : Store) : sliceD (.str "down") none (some 4) S = some (.str "down", S) := rfl
theorem rounded_down {q : Rat} (hq : 0 ≤ q.num) (hs : Sz 4000 q) (S : Store) : M_rounded [pt q, .str "down"] S = .ok (.int (q.num / q.den)) S := by
  have hd : (0 : Int) < (q.den : Int) := by have := q.den_nz; omega
  have hd2 : ((q.den : Int)).natAbs < 2 ^ 9000 := lt_up hs.2 (by decide)
  have hn : ((q.num.natAbs : Nat) : Int) = q.num := by omega
  have s2 : (2 : Int).natAbs < 18446744073709551616 := by decide
  have s1 : (1 : Int).natAbs < 18446744073709551616 := by decide
  simp -implicitDefEqProofs only [M_rounded, e_runD, f_rounded]
  rcases Int.lt_trichotomy (2 * (q.num % (q.den : Int))) (q.den : Int) with c | c | c
  · have c1 : ¬ (q.den : Int) < 2 * (q.num % (q.den : Int)) := by omega
    have c2 : ¬ 2 * (q.num % (q.den : Int)) = (q.den : Int) := by omega
    simp -implicitDefEqProofs [startD, notIn_down, eq_down1, eq_down2, sl_down, hn, fdivD_int hd hd2, modD_int hd, mulD_l s2, mulD_l s1, Int.not_lt.mpr hq, c1, c2]
  · have c1 : ¬ (q.den : Int) < 2 * (q.num % (q.den : Int)) := by omega
    simp -implicitDefEqProofs [startD, notIn_down, eq_down1, eq_down2, sl_down, hn, fdivD_int hd hd2, modD_int hd, mulD_l s2, mulD_l s1, Int.not_lt.mpr hq, c1, c]
  · have c2 : ¬ 2 * (q.num % (q.den : Int)) = (q.den : Int) := by omega
    simp -implicitDefEqProofs [startD, notIn_down, eq_down1, eq_down2, sl_down, hn, fdivD_int hd hd2, modD_int hd, mulD_l s2, mulD_l s1, Int.not_lt.mpr hq, c, c2]
theorem floor_same {n d m b : Int} (hd : 0 < d) (hb : 0 < b) (e : n * b = m * d) : n / d = m / b := by
  have e1 : n / d = (n * b) / (d * b) := (Int.mul_ediv_mul_of_pos_left _ _ hb).symm
  rw [e1, e, Int.mul_comm d b, Int.mul_ediv_mul_of_pos_left _ _ hd]
theorem down_part {t b : Int} (hb : 0 < b) (ht : 0 ≤ t) (h1 : t.natAbs < 2 ^ 90) (h2 : b.natAbs < 2 ^ 90) (S : Store) : M_rounded [pt (Rat.divInt t b), .str "down"] S = .ok (.int (t / b)) S := by
  have sz := divInt_sz (n := 90) (show b ≠ 0 by omega) h1 h2
  have q0 : 0 ≤ (Rat.divInt t b).num := by
    rw [Rat.num_divInt, Int.sign_eq_one_of_pos hb, Int.one_mul]
    exact Int.ediv_nonneg ht (by omega)
  have r := rounded_down q0 (sz.up (by decide)) S
  rw [r]
  have c := cross (show b ≠ 0 by omega) (rfl : Rat.divInt t b = Rat.divInt t b)
  have p : (0 : Int) < ((Rat.divInt t b).den : Int) := by have := (Rat.divInt t b).den_nz; omega
  rw [floor_same p hb c]
end Pr
set_option Elab.async false
set_option linter.all false
set_option maxRecDepth 100000
set_option maxHeartbeats 1000000
namespace Pr
open PySem PySem.Spec PyProof.Rows L2 DL
/-! ### a table of three steps -/
structure Tb (a b p1 p2 : Int) : Prop where
  a0 : 0 < a
  ab : a < b
  b1 : b < 10000
  p0 : 0 ≤ p1
  p12 : p1 ≤ p2
  p19 : p2 ≤ 19
def q20 (p : Int) : Rat := Rat.divInt p 20
def stepsD (a b p1 p2 : Int) : D := .tup [.tup [.int 0, .tup [.int 0, .int 1]], .tup [.int a, pt (q20 p1)], .tup [.int b, pt (q20 p2)]]
def wi1 (a b m : Int) : Int := max 0 (min m b - a)
def wi2 (b m : Int) : Int := max 0 (m - b)
def tw (a b p1 p2 m : Int) : Int := wi1 a b m * p1 + wi2 b m * p2
def tF (a b p1 p2 : Int) : List (Str × D) := [("steps", stepsD a b p1 p2)]
structure TAt (S : Store) (t : Nat) (a b p1 p2 : Int) : Prop where
  ins : insAt S (.obj t) = some ("Table", tF a b p1 p2)
theorem TAt.app {S T : Store} {t : Nat} {a b p1 p2 : Int} (h : TAt S t a b p1 p2) : TAt (S ++ T) t a b p1 p2 := ⟨insAt_keep _ _ h.ins⟩
theorem num20N : ∀ p : Nat, p < 20 → (Rat.divInt (p : Int) 20).num * (20 / ((Rat.divInt (p : Int) 20).den : Int)) = (p : Int) ∧ 1 ≤ (Rat.divInt (p : Int) 20).den ∧ (Rat.divInt (p : Int) 20).den ≤ 20 ∧ 0 ≤ (Rat.divInt (p : Int) 20).num ∧ (Rat.divInt (p : Int) 20).num < ((Rat.divInt (p : Int) 20).den : Int) := by decide +kernel
theorem num20 {p : Int} (h0 : 0 ≤ p) (h1 : p ≤ 19) : (q20 p).num * (20 / ((q20 p).den : Int)) = p ∧ 1 ≤ (q20 p).den ∧ (q20 p).den ≤ 20 ∧ 0 ≤ (q20 p).num ∧ (q20 p).num < ((q20 p).den : Int) := by
  obtain ⟨n, rfl⟩ : ∃ n : Nat, p = (n : Int) := ⟨p.toNat, by omega⟩
  exact num20N n (by omega)
theorem enum3 (x y z : D) : enumL [x, y, z] = [.tup [.int 0, x], .tup [.int 1, y], .tup [.int 2, z]] := rfl
theorem q20_add (x y : Int) : q20 x + q20 y = q20 (x + y) := by
  unfold q20
  rw [divInt_div, divInt_div, divInt_div, Rat.div_def, Rat.div_def, Rat.div_def, ← Rat.add_mul, Rat.intCast_add]
theorem q20_mul (w p : Int) : (w : Rat) * q20 p = q20 (w * p) := by
  unfold q20
  rw [divInt_div, divInt_div, Rat.div_def, Rat.div_def, ← Rat.mul_assoc, Rat.intCast_mul]
theorem q20_ble {x : Int} (h : x.natAbs < 2 ^ 60) : BLe (q20 x) 100 := ⟨bits_sz (n := 99) ((divInt_sz (n := 60) (by decide) h (by decide)).up (by decide))⟩
theorem tb_ble {x : Int} (h : x.natAbs < 2 ^ 60) : BLe (x : Rat) 100 := ⟨bits_int (n := 99) (by omega)⟩
section
variable {a b p1 p2 m : Int} {S : Store} {t : Nat} (B : Tb a b p1 p2)
include B
theorem tb_w (h0 : 0 ≤ m) (h1 : m < 2 ^ 30) : 0 ≤ wi1 a b m ∧ wi1 a b m ≤ m ∧ 0 ≤ wi2 b m ∧ wi2 b m ≤ m := by
  have := B.a0
  have := B.ab
  unfold wi1 wi2
  omega
theorem mul_small {w p : Int} (h0 : 0 ≤ w) (h1 : w < 2 ^ 30) (h2 : 0 ≤ p) (h3 : p ≤ 19) : 0 ≤ w * p ∧ w * p < 2 ^ 40 := by
  refine ⟨Int.mul_nonneg h0 h2, ?_⟩
  have : w * p ≤ w * 19 := Int.mul_le_mul_of_nonneg_left h3 h0
  omega
theorem tw_b (h0 : 0 ≤ m) (h1 : m < 2 ^ 30) : 0 ≤ tw a b p1 p2 m ∧ tw a b p1 p2 m < 2 ^ 42 := by
  have w := tb_w B h0 h1
  have := B.p0
  have := B.p12
  have := B.p19
  have x := mul_small B w.1 (by omega) B.p0 (show p1 ≤ 19 by omega)
  have y := mul_small B w.2.2.1 (by omega) (show 0 ≤ p2 by omega) B.p19
  unfold tw
  omega
theorem exact_ok (H : TAt S t a b p1 p2) (h0 : 0 ≤ m) (h1 : m < 2 ^ 30) : M_Table_exact [.obj t, .int m] S = .ok (pt (q20 (tw a b p1 p2 m))) S := by
  have w := tb_w B h0 h1
  have := B.p0
  have := B.p12
  have := B.p19
  have x := mul_small B w.1 (by omega) B.p0 (show p1 ≤ 19 by omega)
  have y := mul_small B w.2.2.1 (by omega) (show 0 ≤ p2 by omega) B.p19
  have w0 : 0 ≤ max 0 (min m a - 0) ∧ max 0 (min m a - 0) < 2 ^ 30 := by omega
  have t0 : M_times [.tup [.int (max 0 (min m a)), .int 1], .tup [.int 0, .int 1]] S = .ok (pt 0) S := by
    have := C_times (S := S) ((tb_ble (x := max 0 (min m a)) (by omega)).fin (by decide)) (BLe.zero.fin (by decide))
    rw [Rat.mul_zero] at this
    exact this
  have t1 : M_times [.tup [.int (wi1 a b m), .int 1], pt (q20 p1)] S = .ok (pt (q20 (wi1 a b m * p1))) S := by
    rw [← q20_mul]
    exact C_times ((tb_ble (x := wi1 a b m) (by omega)).fin (by decide)) ((q20_ble (x := p1) (by omega)).fin (by decide))
  have t2 : M_times [.tup [.int (wi2 b m), .int 1], pt (q20 p2)] S = .ok (pt (q20 (wi2 b m * p2))) S := by
    rw [← q20_mul]
    exact C_times ((tb_ble (x := wi2 b m) (by omega)).fin (by decide)) ((q20_ble (x := p2) (by omega)).fin (by decide))
  have a0 : M_add [.tup [.int 0, .int 1], pt 0] S = .ok (pt 0) S := by
    have := C_add (S := S) (BLe.zero.fin (show Nat.ble 1 4000 = true by decide)) (BLe.zero.fin (show Nat.ble 1 4000 = true by decide))
    rw [Rat.zero_add] at this
    exact this
  have a1 : M_add [pt 0, pt (q20 (wi1 a b m * p1))] S = .ok (pt (q20 (wi1 a b m * p1))) S := by
    have := C_add (S := S) (BLe.zero.fin (show Nat.ble 1 4000 = true by decide)) ((q20_ble (x := wi1 a b m * p1) (by omega)).fin (by decide))
    rw [Rat.zero_add] at this
    exact this
  have a2 : M_add [pt (q20 (wi1 a b m * p1)), pt (q20 (wi2 b m * p2))] S = .ok (pt (q20 (tw a b p1 p2 m))) S := by
    have := C_add (S := S) ((q20_ble (x := wi1 a b m * p1) (by omega)).fin (show Nat.ble 100 4000 = true by decide)) ((q20_ble (x := wi2 b m * p2) (by omega)).fin (by decide))
    rw [q20_add] at this
    exact this
  have hi := H.ins
  unfold tF stepsD at hi
  have e1 : max 0 (min m b - a) = wi1 a b m := rfl
  have e2 : max 0 (m - b) = wi2 b m := rfl
  generalize pt (q20 p1) = Q1 at *
  generalize pt (q20 p2) = Q2 at *
  generalize pt (q20 (wi1 a b m * p1)) = R1 at *
  generalize pt (q20 (wi2 b m * p2)) = R2 at *
  generalize pt (q20 (tw a b p1 p2 m)) = R at *
  simp -implicitDefEqProofs only [M_Table_exact, e_runD, f_Table_exact]
  simp -implicitDefEqProofs [startD, hi, enum3, t0, a0, e1, t1, a1, e2, t2, a2]
end
end Pr
set_option Elab.async false
set_option linter.all false
set_option maxRecDepth 100000
set_option maxHeartbeats 1000000
namespace Pr
open PySem PySem.Spec PyProof.Rows L2 DL
@[simp] theorem notD_bl (v : Bool) (S : Store) : notD (.bl v) S = some (.bl (!v), S) := by cases v <;> rfl
theorem zipD_nil2 (xs : List D) : zipD xs [] = [] := by cases xs <;> rfl
section
variable {a b p1 p2 m : Int} {S : Store} {t : Nat} (B : Tb a b p1 p2)
include B
theorem down_ok (H : TAt S t a b p1 p2) (h0 : 0 ≤ m) (h1 : m < 2 ^ 30) : M_Table_withheld [.obj t, .int m, .str "down"] S = .ok (.int (tw a b p1 p2 m / 20)) S := by
  have e := exact_ok B H h0 h1
  have x := tw_b B h0 h1
  have r := down_part (t := tw a b p1 p2 m) (b := 20) (by decide) x.1 (by omega) (by decide) S
  have lk : List.lookup (Str.ofString "exact") (tF a b p1 p2) = none := rfl
  unfold q20 at e
  simp -implicitDefEqProofs only [M_Table_withheld, e_runD, f_Table_withheld]
  simp -implicitDefEqProofs [startD, H.ins, lk, e, r]
theorem half_ok (H : TAt S t a b p1 p2) (h0 : 0 ≤ m) (h1 : m < 2 ^ 30) : M_Table_withheld [.obj t, .int m, .str "half up"] S = .ok (.int (hu (tw a b p1 p2 m) 20)) S := by
  have e := exact_ok B H h0 h1
  have x := tw_b B h0 h1
  have r := rounded_part (t := tw a b p1 p2 m) (b := 20) (by decide) x.1 (by omega) (by decide) S
  have lk : List.lookup (Str.ofString "exact") (tF a b p1 p2) = none := rfl
  unfold q20 at e
  simp -implicitDefEqProofs only [M_Table_withheld, e_runD, f_Table_withheld]
  simp -implicitDefEqProofs [startD, H.ins, lk, e, r]
theorem law_withheld_ok (h0 : 0 ≤ m) (h1 : m < 2 ^ 30) (S : Store) : M__law_withheld [stepsD a b p1 p2, .int m] S = .ok (.int (tw a b p1 p2 m)) S := by
  have w := tb_w B h0 h1
  have := B.p0
  have := B.p12
  have := B.p19
  obtain ⟨n1, d1, d2, d3, d4⟩ := num20 (p := p1) (by omega) (by omega)
  obtain ⟨n2, g1, g2, g3, g4⟩ := num20 (p := p2) (by omega) (by omega)
  have f0 : fdivD (.int 20) (.int 1) S = some (.int 20, S) := fdiv_small (by decide) (by decide)
  have f1 : fdivD (.int 20) (.int ((q20 p1).den : Int)) S = some (.int (20 / ((q20 p1).den : Int)), S) := fdiv_small (by omega) (by omega)
  have f2 : fdivD (.int 20) (.int ((q20 p2).den : Int)) S = some (.int (20 / ((q20 p2).den : Int)), S) := fdiv_small (by omega) (by omega)
  have q0 : ∀ k : Int, mulD (.int (k * 0)) (.int 20) S = some (.int 0, S) := fun k => by rw [Int.mul_zero]; rfl
  have x0 : ∀ k : Int, mulD (.int k) (.int 0) S = some (.int 0, S) := fun k => by rw [mulD_r (by decide), Int.mul_zero]
  have x1 : mulD (.int (wi1 a b m)) (.int (q20 p1).num) S = some (.int (wi1 a b m * (q20 p1).num), S) := mulD_r (by omega)
  have x2 : mulD (.int (wi1 a b m * (q20 p1).num)) (.int (20 / ((q20 p1).den : Int))) S = some (.int (wi1 a b m * p1), S) := by
    rw [mulD_r, Int.mul_assoc, n1]
    have := Int.ediv_le_self (a := 20) ((q20 p1).den : Int) (by decide)
    have := Int.ediv_nonneg (a := 20) (b := ((q20 p1).den : Int)) (by decide) (by omega)
    omega
  have y1 : mulD (.int (wi2 b m)) (.int (q20 p2).num) S = some (.int (wi2 b m * (q20 p2).num), S) := mulD_r (by omega)
  have y2 : mulD (.int (wi2 b m * (q20 p2).num)) (.int (20 / ((q20 p2).den : Int))) S = some (.int (wi2 b m * p2), S) := by
    rw [mulD_r, Int.mul_assoc, n2]
    have := Int.ediv_le_self (a := 20) ((q20 p2).den : Int) (by decide)
    have := Int.ediv_nonneg (a := 20) (b := ((q20 p2).den : Int)) (by decide) (by omega)
    omega
  have e1 : max 0 (min m b - a) = wi1 a b m := rfl
  have e2 : max 0 (min m (max m b) - b) = wi2 b m := by unfold wi2; omega
  have z0 : mulD (.int 0) (.int 20) S = some (.int 0, S) := rfl
  unfold stepsD tw
  simp -implicitDefEqProofs only [M__law_withheld, e_runD, f__law_withheld]
  simp -implicitDefEqProofs [startD, pt, f0, f1, f2, x0, z0, e1, e2, x1, x2, y1, y2]
theorem init_ok (S : Store) : M_Table___init__ [.obj S.length, stepsD a b p1 p2] (S ++ [.ins "Table" []]) = .ok .non (S ++ [.ins "Table" (tF a b p1 p2)]) := by
  have := B.a0
  have := B.ab
  have := B.p0
  have := B.p12
  have := B.p19
  obtain ⟨n1, d1, d2, d3, d4⟩ := num20 (p := p1) (by omega) (by omega)
  obtain ⟨n2, g1, g2, g3, g4⟩ := num20 (p := p2) (by omega) (by omega)
  have c1 : ¬ a ≤ 0 := by omega
  have c2 : ¬ b ≤ a := by omega
  have sl : ∀ x y z : D, cutD [x, y, z] (some 1) none = [y, z] := fun x y z => rfl
  have pp : ∀ d : D, putD (Str.ofString "steps") d ([] : List (Str × D)) = [(Str.ofString "steps", d)] := fun d => rfl
  unfold stepsD tF stepsD
  simp -implicitDefEqProofs only [M_Table___init__, e_runD, f_Table___init__]
  simp -implicitDefEqProofs [startD, pt, sliceD_tup, sl, c1, c2, d3, d4, g3, g4, pp, zipD_nil2]
end
end Pr
set_option Elab.async false
set_option linter.all false
set_option maxRecDepth 100000
set_option maxHeartbeats 1000000
namespace Pr
open PySem PySem.Spec PyProof.Rows L2 DL
/-! ### what is left of a much -/
def nt (a b p1 p2 m : Int) : Int := m - tw a b p1 p2 m / 20
section
variable {a b p1 p2 m : Int} {S : Store} {t : Nat} (B : Tb a b p1 p2)
include B
theorem tw_step : tw a b p1 p2 m ≤ tw a b p1 p2 (m + 1) ∧ tw a b p1 p2 (m + 1) ≤ tw a b p1 p2 m + 19 := by
  have h0 := B.p0
  have h1 := B.p12
  have h2 := B.p19
  have h3 := B.ab
  unfold tw
  have c : (wi1 a b (m + 1) = wi1 a b m ∨ wi1 a b (m + 1) = wi1 a b m + 1) ∧ (wi2 b (m + 1) = wi2 b m ∨ wi2 b (m + 1) = wi2 b m + 1) ∧ (wi1 a b (m + 1) = wi1 a b m ∨ wi2 b (m + 1) = wi2 b m) := by
    unfold wi1 wi2
    omega
  obtain ⟨c1, c2, c3⟩ := c
  rcases c1 with c1 | c1 <;> rcases c2 with c2 | c2 <;> rw [c1, c2] <;> (try rw [Int.add_mul, Int.one_mul]) <;> (try rw [Int.add_mul, Int.one_mul]) <;> (first | omega | skip)
theorem tw_mono {k : Int} (h : m ≤ k) : tw a b p1 p2 m ≤ tw a b p1 p2 k := by
  obtain ⟨n, rfl⟩ : ∃ n : Nat, k = m + n := ⟨(k - m).toNat, by omega⟩
  clear h
  induction n with
  | zero => simp
  | succ n ih =>
    have := (tw_step B (m := m + n)).1
    rw [show m + ((n + 1 : Nat) : Int) = m + n + 1 by omega]
    omega
theorem nt_mono {k : Int} (h : m ≤ k) : nt a b p1 p2 m ≤ nt a b p1 p2 k := by
  obtain ⟨n, rfl⟩ : ∃ n : Nat, k = m + n := ⟨(k - m).toNat, by omega⟩
  clear h
  induction n with
  | zero => simp
  | succ n ih =>
    have := (tw_step B (m := m + n)).2
    unfold nt at *
    rw [show m + ((n + 1 : Nat) : Int) = m + n + 1 by omega]
    omega
end
end Pr
set_option Elab.async false
set_option linter.all false
set_option maxRecDepth 100000
set_option maxHeartbeats 1000000
namespace Pr
open PySem PySem.Spec PyProof.Rows L2 DL
def backB : DS := (dSeq (dAsg (dOp fdivD (dOp addD (dVar 4) (dVar 5)) (dC (.int 2))) (gN 6))
  (dIfS (dB (dOp geD (dOp subD (dVar 6) (dMeth "Table" "withheld" 3 M_Table_withheld (dVar 0) (daCons (dVar 6) (daCons (dVar 2) daNil)))) (dVar 1)))
  (dAsg (dVar 6) (gN 5))
  (dAsg (dVar 6) (gN 4))))
def backC : DT := (dB (dOp gtD (dOp subD (dVar 5) (dVar 4)) (dC (.int 1))))
section
variable {a b p1 p2 m : Int} {S : Store} {t : Nat} (B : Tb a b p1 p2)
include B
theorem lkw : List.lookup (Str.ofString "withheld") (tF a b p1 p2) = none := rfl
theorem back_loop {e : Nat} {left : Int} {x3 : Option D} (H : TAt S t a b p1 p2) : ∀ (n : Nat) (low high : Int) (u6 : Option D), high - low ≤ (2 : Int) ^ n → low < high → -1 ≤ low → high ≤ 900 → left ≤ nt a b p1 p2 high → (low = -1 ∨ nt a b p1 p2 low < left) →
    ∃ (h : Int) (v4 v6 : Option D), whileD backC backB (n + 1 + e) [some (.obj t), some (.int left), some (.str "down"), x3, some (.int low), some (.int high), u6] S = .nx [some (.obj t), some (.int left), some (.str "down"), x3, v4, some (.int h), v6] S ∧
      0 ≤ h ∧ h ≤ 900 ∧ left ≤ nt a b p1 p2 h ∧ (h = 0 ∨ nt a b p1 p2 (h - 1) < left)
  | 0, low, high, u6, hd, h1, h2, h3, h4, h5 => by
    have hh : high = low + 1 := by rw [show (2 : Int) ^ 0 = 1 from rfl] at hd; omega
    refine ⟨high, some (.int low), u6, ?_, by omega, h3, h4, ?_⟩
    · have c : ¬ 1 < high - low := by omega
      rw [show 0 + 1 + e = e + 1 by omega, whileD_go]
      simp -implicitDefEqProofs [backC, c]
    · rcases h5 with h5 | h5
      · exact .inl (by omega)
      · exact .inr (by rw [show high - 1 = low by omega]; exact h5)
  | n + 1, low, high, u6, hd, h1, h2, h3, h4, h5 => by
    by_cases c : 1 < high - low
    · have mid : low < (low + high) / 2 ∧ (low + high) / 2 < high ∧ 2 * ((low + high) / 2) ≤ low + high ∧ low + high ≤ 2 * ((low + high) / 2) + 1 := by omega
      obtain ⟨w, hw⟩ : ∃ w, (low + high) / 2 = w := ⟨_, rfl⟩
      rw [hw] at mid
      have pw : (2 : Int) ^ (n + 1) = 2 * 2 ^ n := by rw [Int.pow_succ, Int.mul_comm]
      have wd := down_ok B H (show 0 ≤ w by omega) (show w < 2 ^ 30 by omega)
      have fd : fdivD (.int (low + high)) (.int 2) S = some (.int w, S) := by rw [fdiv_small (by decide) (by decide), hw]
      have lk := lkw B
      rw [show n + 1 + 1 + e = (n + 1 + e) + 1 by omega, whileD_go]
      by_cases c2 : left ≤ w - tw a b p1 p2 w / 20
      · obtain ⟨h, v4, v6, z, zz⟩ := back_loop (e := e) (x3 := x3) H n low w (some (.int w)) (by omega) (by omega) h2 (by omega) c2 h5
        refine ⟨h, v4, v6, ?_, zz⟩
        rw [← z]
        simp -implicitDefEqProofs [backC, backB, c, fd, H.ins, lk, wd, c2]
      · obtain ⟨h, v4, v6, z, zz⟩ := back_loop (e := e) (x3 := x3) H n w high (some (.int w)) (by omega) (by omega) (by omega) h3 h4 (.inr (by unfold nt; omega))
        refine ⟨h, v4, v6, ?_, zz⟩
        rw [← z]
        simp -implicitDefEqProofs [backC, backB, c, fd, H.ins, lk, wd, c2]
    · have hh : high = low + 1 := by omega
      refine ⟨high, some (.int low), u6, ?_, by omega, h3, h4, ?_⟩
      · rw [show n + 1 + 1 + e = (n + 1 + e) + 1 by omega, whileD_go]
        simp -implicitDefEqProofs [backC, c]
      · rcases h5 with h5 | h5
        · exact .inl (by omega)
        · exact .inr (by rw [show high - 1 = low by omega]; exact h5)
theorem tw900 : tw a b p1 p2 900 ≤ 900 * 19 := by
  have h0 := B.p0
  have h1 := B.p12
  have h2 := B.p19
  have h3 := B.ab
  have h4 := B.a0
  unfold tw
  have s : wi1 a b 900 + wi2 b 900 ≤ 900 ∧ 0 ≤ wi1 a b 900 ∧ 0 ≤ wi2 b 900 := by unfold wi1 wi2; omega
  have e1 : wi1 a b 900 * p1 ≤ wi1 a b 900 * 19 := Int.mul_le_mul_of_nonneg_left (by omega) s.2.1
  have e2 : wi2 b 900 * p2 ≤ wi2 b 900 * 19 := Int.mul_le_mul_of_nonneg_left (by omega) s.2.2
  omega
theorem back_ok {left : Int} (H : TAt S t a b p1 p2) (hl : left ≤ nt a b p1 p2 900) : ∃ h : Int, M_Table_back [.obj t, .int left, .str "down", .int 900] S = .ok (.int h) S ∧ 0 ≤ h ∧ h ≤ 900 ∧ left ≤ nt a b p1 p2 h ∧ (h = 0 ∨ nt a b p1 p2 (h - 1) < left) := by
  obtain ⟨h, v4, v6, z, zz⟩ := back_loop B (e := 1000000 - 11) (x3 := some (.int 900)) H 10 (-1) 900 none (by decide) (by decide) (by decide) (by decide) hl (.inl rfl)
  refine ⟨h, ?_, zz⟩
  rw [show 10 + 1 + (1000000 - 11) = fuel from rfl] at z
  have wd := down_ok B H (show (0 : Int) ≤ 900 by decide) (show (900 : Int) < 2 ^ 30 by decide)
  have c : ¬ 900 - tw a b p1 p2 900 / 20 < left := by unfold nt at hl; omega
  have lk := lkw B
  have e : M_Table_back = runD 7 (dSeq (dIfS (dB (dOp ltD (dOp subD (dVar 3) (dMeth "Table" "withheld" 3 M_Table_withheld (dVar 0) (daCons (dVar 3) (daCons (dVar 2) daNil)))) (dVar 1))) (dRaise "NoAnswer") dNext)
    (dSeq (dPar2 4 5 (daCons (dUn negD (dC (.int 1))) (daCons (dVar 3) daNil))) (dSeq (whileD backC backB fuel) (dRet (dVar 5))))) := rfl
  rw [e, e_runD]
  generalize whileD backC backB fuel = LOOP at z
  simp -implicitDefEqProofs [startD, H.ins, lk, wd, c, z]
theorem back_no (H : TAt S t a b p1 p2) : M_Table_back [.obj t, .int 900, .str "down", .int 10] S = .exn ⟨"NoAnswer"⟩ S := by
  have wd := down_ok B H (show (0 : Int) ≤ 10 by decide) (show (10 : Int) < 2 ^ 30 by decide)
  have x := tw_b B (m := 10) (by decide) (by decide)
  have c : 10 - tw a b p1 p2 10 / 20 < 900 := by omega
  have lk := lkw B
  have e : M_Table_back = runD 7 (dSeq (dIfS (dB (dOp ltD (dOp subD (dVar 3) (dMeth "Table" "withheld" 3 M_Table_withheld (dVar 0) (daCons (dVar 3) (daCons (dVar 2) daNil)))) (dVar 1))) (dRaise "NoAnswer") dNext)
    (dSeq (dPar2 4 5 (daCons (dUn negD (dC (.int 1))) (daCons (dVar 3) daNil))) (dSeq (whileD backC backB fuel) (dRet (dVar 5))))) := rfl
  rw [e, e_runD]
  generalize whileD backC backB fuel = LOOP
  simp -implicitDefEqProofs [startD, H.ins, lk, wd, c]
end
end Pr
set_option Elab.async false
set_option linter.all false
set_option maxRecDepth 100000
set_option maxHeartbeats 1000000
namespace Pr
open PySem PySem.Spec PyProof.Rows L2 DL
section
variable {a b p1 p2 m : Int} {S : Store} {t : Nat} (B : Tb a b p1 p2)
include B
/-! ### the good ones -/
def goodE : DE := (dLc (diRange2 (dBlt maxD (daCons (dC (.int 0)) (daCons (dOp subD (dVar 9) (dC (.int 9))) daNil))) (dOp addD (dVar 9) (dC (.int 1)))) (gN 13) (dB (dOp geD (dOp subD (dVar 13) (dOp fdivD (dCall 2 M__law_withheld (daCons (dVar 4) (daCons (dVar 13) daNil))) (dC (.int 20)))) (dVar 8))) (dVar 13) [13])
theorem good_ok {h left : Int} (h0 : 0 ≤ h) (h1 : h ≤ 900) (h2 : left ≤ nt a b p1 p2 h) (h3 : h = 0 ∨ nt a b p1 p2 (h - 1) < left) (x0 x1 x2 x3 x5 x6 x7 x10 x11 x12 x13 x14 : Option D) :
    goodE [x0, x1, x2, x3, some (stepsD a b p1 p2), x5, x6, x7, some (.int left), some (.int h), x10, x11, x12, x13, x14] S = .ok (.obj S.length) (S ++ [.lst [.int h]]) := by
  obtain ⟨lo, hlo⟩ : ∃ lo : Int, max 0 (h - 9) = lo := ⟨_, rfl⟩
  obtain ⟨n, hn⟩ : ∃ n : Nat, h + 1 - lo = (n : Int) + 1 := ⟨(h - lo).toNat, by omega⟩
  have tn : (h + 1 - lo).toNat = n + 1 := by omega
  have r1 : -1000000000000 ≤ lo ∧ lo ≤ 1000000000000 := by omega
  have r2 : -1000000000000 ≤ h + 1 ∧ h + 1 ≤ 1000000000000 := by omega
  have := dLc_filter (fi := diRange2 (dBlt maxD (daCons (dC (.int 0)) (daCons (dOp subD (dVar 9) (dC (.int 9))) daNil))) (dOp addD (dVar 9) (dC (.int 1)))) (tg := gN 13) (tt := (dB (dOp geD (dOp subD (dVar 13) (dOp fdivD (dCall 2 M__law_withheld (daCons (dVar 4) (daCons (dVar 13) daNil))) (dC (.int 20)))) (dVar 8)))) (fe := dVar 13) (vs := [13])
    (ρ := [x0, x1, x2, x3, some (stepsD a b p1 p2), x5, x6, x7, some (.int left), some (.int h), x10, x11, x12, x13, x14]) (S := S) (S1 := S) (grd := grdT) (List.range (n + 1)) (fun (i : Nat) => D.int (lo + (i : Int))) (fun (i : Nat) => D.int (lo + (i : Int))) (fun i => decide (left ≤ nt a b p1 p2 (lo + (i : Int))))
    (by rw [← rng_lo]; simp -implicitDefEqProofs [hlo, r1, r2, tn]) (fun X => rfl) (fun i hi X => by
      have hi2 := List.mem_range.mp hi
      have lw := law_withheld_ok B (m := lo + (i : Int)) (by omega) (by omega) (S ++ [.lst X])
      have fd : fdivD (.int (tw a b p1 p2 (lo + (i : Int)))) (.int 20) (S ++ [.lst X]) = some (.int (tw a b p1 p2 (lo + (i : Int)) / 20), S ++ [.lst X]) := fdiv_small (by decide) (by decide)
      refine ⟨[x0, x1, x2, x3, some (stepsD a b p1 p2), x5, x6, x7, some (.int left), some (.int h), x10, x11, x12, some (.int (lo + (i : Int))), x14], rfl, ?_, fun _ => rfl⟩
      generalize stepsD a b p1 p2 = st at *
      generalize lo + (i : Int) = k at *
      unfold nt
      simp -implicitDefEqProofs [lw, fd]) (by simp; omega)
  unfold goodE
  have f1 : ∀ i < n, decide (left ≤ nt a b p1 p2 (lo + (i : Int))) = false := fun i hi => by
    rw [decide_eq_false_iff_not]
    rcases h3 with h3 | h3
    · omega
    · have := nt_mono B (m := lo + (i : Int)) (k := h - 1) (by omega)
      omega
  have f2 : decide (left ≤ nt a b p1 p2 (lo + (n : Int))) = true := by
    rw [show lo + (n : Int) = h by omega, decide_eq_true_eq]
    exact h2
  rw [this, filter_last f1 f2, List.map_cons, List.map_nil, show lo + (n : Int) = h by omega]
/-! ### the table three times as far -/
theorem tb3 (hb : b < 3000) : Tb (3 * a) (3 * b) p1 p2 := ⟨by have := B.a0; omega, by have := B.ab; omega, by omega, B.p0, B.p12, B.p19⟩
theorem tw3 : tw (3 * a) (3 * b) p1 p2 (3 * m) = 3 * tw a b p1 p2 m := by
  have e1 : wi1 (3 * a) (3 * b) (3 * m) = 3 * wi1 a b m := by unfold wi1; omega
  have e2 : wi2 (3 * b) (3 * m) = 3 * wi2 b m := by unfold wi2; omega
  unfold tw
  rw [e1, e2, Int.mul_assoc, Int.mul_assoc, Int.mul_add]
theorem scaled_ok (H : TAt S t a b p1 p2) (hb : b < 3000) : ∃ T n, M_Table_scaled [.obj t, .int 3] S = .ok (.obj n) (S ++ T) ∧ TAt (S ++ T) n (3 * a) (3 * b) p1 p2 := by
  have B3 := tb3 B hb
  have a3 : a.natAbs < 18446744073709551616 := by have := B.a0; have := B.ab; omega
  have b3 : b.natAbs < 18446744073709551616 := by have := B.a0; have := B.ab; omega
  have z0 : mulD (.int 0) (.int 3) = fun S => some (.int 0, S) := rfl
  obtain ⟨S1, hS1⟩ : ∃ S1 : Store, S ++ [.lst [.tup [.int 0, .tup [.int 0, .int 1]], .tup [.int (a * 3), pt (q20 p1)], .tup [.int (b * 3), pt (q20 p2)]]] = S1 := ⟨_, rfl⟩
  have ini := init_ok B3 S1
  have q1 : lstAt S1 S.length = some [.tup [.int 0, .tup [.int 0, .int 1]], .tup [.int (a * 3), pt (q20 p1)], .tup [.int (b * 3), pt (q20 p2)]] := by rw [← hS1]; simp
  rw [Int.mul_comm 3 a, Int.mul_comm 3 b] at ini ⊢
  refine ⟨[.lst [.tup [.int 0, .tup [.int 0, .int 1]], .tup [.int (a * 3), pt (q20 p1)], .tup [.int (b * 3), pt (q20 p2)]]] ++ [.ins "Table" (tF (a * 3) (b * 3) p1 p2)], S1.length, ?_, ⟨?_⟩⟩
  · have hi := H.ins
    have lk : List.lookup (Str.ofString "steps") (tF a b p1 p2) = some (stepsD a b p1 p2) := rfl
    have e2 : stepsD a b p1 p2 = .tup [.tup [.int 0, .tup [.int 0, .int 1]], .tup [.int a, pt (q20 p1)], .tup [.int b, pt (q20 p2)]] := rfl
    have e3 : D.tup [.tup [.int 0, .tup [.int 0, .int 1]], .tup [.int (a * 3), pt (q20 p1)], .tup [.int (b * 3), pt (q20 p2)]] = stepsD (a * 3) (b * 3) p1 p2 := rfl
    rw [← List.append_assoc, hS1]
    simp -implicitDefEqProofs only [M_Table_scaled, e_runD, f_Table_scaled]
    generalize tF a b p1 p2 = F at *
    generalize tF (a * 3) (b * 3) p1 p2 = F3 at *
    generalize pt (q20 p1) = Q1 at *
    generalize pt (q20 p2) = Q2 at *
    rw [e2] at lk
    simp -implicitDefEqProofs [startD, hi, lk, z0, mulD_l a3, mulD_l b3, hS1, q1, e3, ini]
  · rw [← List.append_assoc, hS1]
    unfold insAt
    dsimp only
    rw [List.getElem?_append_right (Nat.le_refl _), Nat.sub_self]
    rfl
end
end Pr
set_option Elab.async false
set_option linter.all false
set_option maxRecDepth 100000
set_option maxHeartbeats 1000000
namespace Pr
open PySem PySem.Spec PyProof.Rows L2 DL
theorem div_le_int {w y m : Int} (hy : 0 < y) (h : w ≤ m * y) : Rat.divInt w y ≤ (m : Rat) := by
  have c := cross (show y ≠ 0 by omega) (rfl : Rat.divInt w y = Rat.divInt w y)
  have p : (0 : Int) < ((Rat.divInt w y).den : Int) := by have := (Rat.divInt w y).den_nz; omega
  rw [Rat.le_iff, Rat.num_intCast, Rat.den_intCast]
  generalize (Rat.divInt w y).num = n at *
  generalize ((Rat.divInt w y).den : Int) = d at *
  refine Int.le_of_mul_le_mul_right (a := y) ?_ hy
  have e : n * ((1 : Nat) : Int) * y = w * d := by rw [show ((1 : Nat) : Int) = 1 from rfl, Int.mul_one]; exact c
  rw [e, Int.mul_assoc, Int.mul_comm d y, ← Int.mul_assoc]
  exact Int.mul_le_mul_of_nonneg_right h (Int.le_of_lt p)
theorem int_le_div {w y m : Int} (hy : 0 < y) (h : m * y ≤ w) : (m : Rat) ≤ Rat.divInt w y := by
  have c := cross (show y ≠ 0 by omega) (rfl : Rat.divInt w y = Rat.divInt w y)
  have p : (0 : Int) < ((Rat.divInt w y).den : Int) := by have := (Rat.divInt w y).den_nz; omega
  rw [Rat.le_iff, Rat.num_intCast, Rat.den_intCast]
  generalize (Rat.divInt w y).num = n at *
  generalize ((Rat.divInt w y).den : Int) = d at *
  refine Int.le_of_mul_le_mul_right (a := y) ?_ hy
  have e : n * ((1 : Nat) : Int) * y = w * d := by rw [show ((1 : Nat) : Int) = 1 from rfl, Int.mul_one]; exact c
  rw [e, Int.mul_assoc, Int.mul_comm d y, ← Int.mul_assoc]
  exact Int.mul_le_mul_of_nonneg_right h (Int.le_of_lt p)
theorem cmp_le {q r : Rat} (h : q ≤ r) : cmpQ q r ≤ 0 := by
  unfold cmpQ
  split
  · decide
  · split
    · decide
    · rename_i h1 h2
      exact absurd (Rat.le_antisymm h (Rat.not_lt.mp h1)) h2
theorem cmp_ge {q r : Rat} (h : r ≤ q) : 0 ≤ cmpQ q r := by
  unfold cmpQ
  rw [if_neg (Rat.not_lt.mpr h)]
  split <;> decide

theorem over_over {x m : Int} : q20 x / (m : Rat) = (x : Rat) / ((20 * m : Int) : Rat) := by
  unfold q20
  rw [divInt_div, Rat.intCast_mul, Rat.div_def, Rat.div_def, Rat.div_def, Rat.mul_assoc, Rat.inv_mul_rev]
  rw [Rat.mul_comm (m : Rat)⁻¹]
theorem num_le {r : Rat} (h : r ≤ 0) : r.num ≤ 0 := by
  by_cases c : r.num ≤ 0
  · exact c
  · have h2 : 0 ≤ r := Rat.num_nonneg.mp (by omega)
    have : r = 0 := Rat.le_antisymm h h2
    rw [this]
    decide
section
variable {a b p1 p2 m : Int} {S : Store} {t : Nat} (B : Tb a b p1 p2)
include B
theorem lke : List.lookup (Str.ofString "exact") (tF a b p1 p2) = none := rfl
theorem lks : List.lookup (Str.ofString "steps") (tF a b p1 p2) = some (stepsD a b p1 p2) := rfl
theorem gap_ok (H : TAt S t a b p1 p2) (h0 : 0 ≤ m) (h1 : m < 2 ^ 30) : ∃ r : Rat, M_gap_of [.obj t, .int m, .str "down"] S = .ok (pt r) S ∧ ¬ 0 < r.num := by
  have ex := exact_ok B H h0 h1
  have dn := down_ok B H h0 h1
  have x := tw_b B h0 h1
  have w0 : 0 ≤ tw a b p1 p2 m / 20 ∧ tw a b p1 p2 m / 20 < 2 ^ 42 := by omega
  have le : ((tw a b p1 p2 m / 20 : Int) : Rat) ≤ q20 (tw a b p1 p2 m) := int_le_div (by decide) (by omega)
  have sub : ((tw a b p1 p2 m / 20 : Int) : Rat) - q20 (tw a b p1 p2 m) ≤ 0 := by
    have := Rat.neg_le_neg ((Rat.le_iff_sub_nonneg _ _).mp le)
    rw [Rat.neg_sub] at this
    exact this
  have ls := M_less_ok (q := ((tw a b p1 p2 m / 20 : Int) : Rat)) (r := q20 (tw a b p1 p2 m)) ((sz_int (n := 89) (by omega)).up (by decide)) ((divInt_sz (n := 90) (by decide) (by omega) (by decide)).up (by decide)) S
  rw [← tup_int] at ls
  refine ⟨((tw a b p1 p2 m / 20 : Int) : Rat) - q20 (tw a b p1 p2 m), ?_, by have := num_le sub; omega⟩
  have lk1 := lke B
  have lk2 := lkw B
  generalize pt (((tw a b p1 p2 m / 20 : Int) : Rat) - q20 (tw a b p1 p2 m)) = R at *
  generalize pt (q20 (tw a b p1 p2 m)) = Q at *
  simp -implicitDefEqProofs only [M_gap_of, e_runD, f_gap_of]
  simp -implicitDefEqProofs [startD, H.ins, lk1, lk2, ex, dn, ls]
theorem mean_ok (H : TAt S t a b p1 p2) (h0 : 0 ≤ m) (h1 : m < 2 ^ 30) : M_Table_mean [.obj t, .int m] S = .ok (if 0 < m then pt ((tw a b p1 p2 m : Rat) / ((20 * m : Int) : Rat)) else .tup [.int 0, .int 1]) S := by
  have lk1 := lke B
  by_cases c : 0 < m
  · have ex := exact_ok B H h0 h1
    have x := tw_b B h0 h1
    have mz : (m : Rat) ≠ 0 := fun z => by
      have : (m : Rat).num = (0 : Rat).num := by rw [z]
      rw [Rat.num_intCast] at this
      rw [show (0 : Rat).num = 0 from rfl] at this
      omega
    have ov := M_over_ok (q := q20 (tw a b p1 p2 m)) (r := (m : Rat)) ((divInt_sz (n := 90) (by decide) (by omega) (by decide)).up (by decide)) ((sz_int (n := 89) (by omega)).up (by decide)) mz S
    rw [over_over, ← tup_int] at ov
    have c1 : ¬ m ≤ 0 := by omega
    rw [if_pos c]
    generalize pt ((tw a b p1 p2 m : Rat) / ((20 * m : Int) : Rat)) = R at *
    generalize pt (q20 (tw a b p1 p2 m)) = Q at *
    simp -implicitDefEqProofs only [M_Table_mean, e_runD, f_Table_mean]
    simp -implicitDefEqProofs [startD, H.ins, lk1, ex, c1, ov]
  · have c1 : m ≤ 0 := by omega
    rw [if_neg c]
    simp -implicitDefEqProofs only [M_Table_mean, e_runD, f_Table_mean]
    simp -implicitDefEqProofs [startD, c1]
def edgeD (a b p1 p2 m : Int) : D := if b ≤ m then pt (q20 p2) else if a ≤ m then pt (q20 p1) else .tup [.int 0, .int 1]
theorem edge_ok (H : TAt S t a b p1 p2) (h0 : 0 ≤ m) : M_Table_at_edge [.obj t, .int m] S = .ok (edgeD a b p1 p2 m) S := by
  have lk := lks B
  have ab := B.ab
  unfold stepsD at lk
  unfold edgeD
  have hi := H.ins
  generalize tF a b p1 p2 = F at *
  generalize pt (q20 p1) = Q1 at *
  generalize pt (q20 p2) = Q2 at *
  simp -implicitDefEqProofs only [M_Table_at_edge, e_runD, f_Table_at_edge]
  by_cases c2 : b ≤ m
  · have c1 : a ≤ m := by omega
    simp -implicitDefEqProofs [startD, hi, lk, h0, c1, c2]
  · by_cases c1 : a ≤ m
    · simp -implicitDefEqProofs [startD, hi, lk, h0, c1, c2]
    · simp -implicitDefEqProofs [startD, hi, lk, h0, c1, c2]
def edgeE : DE := (dOp ixD (dLc (diSeq (dVar 4)) (gT 2 (gsCons (gN 14) (gsCons (gN 13) gsNil))) (dB (dOp leD (dVar 14) (dVar 6))) (dVar 13) [14, 13]) (dOp subD (dBlt lenD (daCons (dLc (diSeq (dVar 4)) (gT 2 (gsCons (gN 14) (gsCons (gN 13) gsNil))) (dB (dOp leD (dVar 14) (dVar 6))) (dVar 14) [14, 13]) daNil)) (dC (.int 1))))
theorem edgeE_ok (h0 : 0 ≤ m) (x0 x1 x2 x3 x5 x7 x8 x9 x10 x11 x12 x13 x14 : Option D) : ∃ T, edgeE [x0, x1, x2, x3, some (stepsD a b p1 p2), x5, some (.int m), x7, x8, x9, x10, x11, x12, x13, x14] S = .ok (edgeD a b p1 p2 m) (S ++ T) := by
  have ab := B.ab
  unfold edgeD stepsD
  generalize pt (q20 p1) = Q1 at *
  generalize pt (q20 p2) = Q2 at *
  have a1 : ∀ x : D, atI [x] 0 = some x := fun x => rfl
  have a2 : ∀ x y : D, atI [x, y] 1 = some y := fun x y => rfl
  have a3 : ∀ x y z : D, atI [x, y, z] 2 = some z := fun x y z => rfl
  by_cases c2 : b ≤ m
  · have c1 : a ≤ m := by omega
    refine ⟨[.lst [.tup [.int 0, .int 1], Q1, Q2], .lst [.int 0, .int a, .int b]], ?_⟩
    simp -implicitDefEqProofs [edgeE, h0, c1, c2, a3]
  · by_cases c1 : a ≤ m
    · refine ⟨[.lst [.tup [.int 0, .int 1], Q1], .lst [.int 0, .int a]], ?_⟩
      simp -implicitDefEqProofs [edgeE, h0, c1, c2, a2]
    · refine ⟨[.lst [.tup [.int 0, .int 1]], .lst [.int 0]], ?_⟩
      simp -implicitDefEqProofs [edgeE, h0, c1, c2, a1]
theorem rising_ok (H : TAt S t a b p1 p2) : M_Table_is_rising [.obj t] S = .ok (.bl true) S := by
  have lk := lks B
  have hi := H.ins
  have h0 := B.p0
  have h1 := B.p12
  have h2 := B.p19
  have le1 : (0 : Rat) ≤ q20 p1 := by
    have := int_le_div (w := p1) (y := 20) (m := 0) (by decide) (by omega)
    exact this
  have le2 : q20 p1 ≤ q20 p2 := by
    have e : q20 p2 = q20 p1 + q20 (p2 - p1) := by rw [q20_add]; congr 1; omega
    rw [Rat.le_iff_sub_nonneg, e]
    have z : (0 : Rat) ≤ q20 (p2 - p1) := int_le_div (w := p2 - p1) (y := 20) (m := 0) (by decide) (by omega)
    have e2 : q20 p1 + q20 (p2 - p1) - q20 p1 = q20 (p2 - p1) := by rw [Rat.sub_eq_add_neg, Rat.add_comm (q20 p1), Rat.add_assoc, Rat.add_neg_cancel, Rat.add_zero]
    rw [e2]
    exact z
  have o1 := C_order (S := S) (BLe.zero.fin (show Nat.ble 1 4000 = true by decide)) ((q20_ble (x := p1) (by omega)).fin (by decide))
  have o2 := C_order (S := S) ((q20_ble (x := p1) (by omega)).fin (show Nat.ble 100 4000 = true by decide)) ((q20_ble (x := p2) (by omega)).fin (by decide))
  have c1 := cmp_le le1
  have c2 := cmp_le le2
  rw [show pt 0 = .tup [.int 0, .int 1] from rfl] at o1
  generalize cmpQ 0 (q20 p1) = k1 at *
  generalize cmpQ (q20 p1) (q20 p2) = k2 at *
  unfold stepsD at lk
  generalize tF a b p1 p2 = F at *
  generalize pt (q20 p1) = Q1 at *
  generalize pt (q20 p2) = Q2 at *
  have sl : ∀ x y z : D, cutD [x, y, z] (some 1) none = [y, z] := fun x y z => rfl
  simp -implicitDefEqProofs only [M_Table_is_rising, e_runD, f_Table_is_rising]
  simp -implicitDefEqProofs [startD, hi, lk, sliceD_tup, sl, zipD_nil2, o1, o2, c1, c2]
end
end Pr
set_option Elab.async false
set_option linter.all false
set_option maxRecDepth 100000
set_option maxHeartbeats 1000000
namespace Pr
open PySem PySem.Spec PyProof.Rows L2 DL
/-! ### is it among the whole numbers -/
theorem flats_ints : ∀ (ns : List Int), flatsOf (ns.map D.int) = some (ns.map V.int)
  | [] => rfl
  | n :: ns => by
    rw [List.map_cons, List.map_cons]
    unfold flatsOf
    rw [flats_ints ns]
    rfl
theorem inV_ints {n : Int} {ns : List Int} (h : n ∈ ns) : inV (.int n) (ns.map V.int) = true := by
  unfold inV
  rw [List.any_eq_true]
  exact ⟨.int n, List.mem_map.mpr ⟨n, h, rfl⟩, by simp [eqV]⟩
theorem notIn_ints {n : Int} {ns : List Int} (h : n ∈ ns) (S : Store) : notInD (.int n) (.tup (ns.map D.int)) S = some (.bl false, S) := by
  unfold notInD
  rw [show seqAt S (.tup (ns.map D.int)) = some (ns.map D.int) from rfl, Option.bind_some, flats_ints]
  show some (D.bl (!inV (.int n) (ns.map V.int)), S) = _
  rw [inV_ints h]
  rfl
/-! ### worse off -/
def ej (a b p1 p2 m : Int) : Int := nt a b p1 p2 m - (if 50 ≤ m then 7 else 0)
def woP (a b p1 p2 m : Int) : Bool := decide (ej a b p1 p2 m < ej a b p1 p2 (m - 1))
def woB : DS := (dIfS (dB (dOp ltD (dCall 4 M_edge_jump (daCons (dVar 0) (daCons (dVar 1) (daCons (dVar 5) (daCons (dVar 2) daNil))))) (dCall 4 M_edge_jump (daCons (dVar 0) (daCons (dVar 1) (daCons (dOp subD (dVar 5) (dC (.int 1))) (daCons (dVar 2) daNil)))))))
  (dDrop (dApp (dVar 4) (dVar 5)))
  dNext)
section
variable {a b p1 p2 m : Int} {S : Store} {t : Nat} (B : Tb a b p1 p2)
include B
theorem ej_ok (H : TAt S t a b p1 p2) (h0 : 0 ≤ m) (h1 : m < 2 ^ 30) : M_edge_jump [.obj t, .tup [.int 50, .int 7], .int m, .str "down"] S = .ok (.int (ej a b p1 p2 m)) S := by
  have dn := down_ok B H h0 h1
  have lk := lkw B
  unfold ej nt
  simp -implicitDefEqProofs only [M_edge_jump, e_runD, f_edge_jump]
  by_cases c : 50 ≤ m
  · simp -implicitDefEqProofs [startD, H.ins, lk, dn, c]
  · simp -implicitDefEqProofs [startD, H.ins, lk, dn, c]
theorem wo_loop (H : TAt S t a b p1 p2) {x3 : Option D} : ∀ (ks : List Int) (acc : List D) (u5 : Option D), (∀ k ∈ ks, 1 ≤ k ∧ k < 1000) → acc.length + ks.length < 1000000 →
    ∃ v5, forD grdT (gN 5) woB (ks.map D.int) [some (.obj t), some (.tup [.int 50, .int 7]), some (.str "down"), x3, some (.obj S.length), u5] (S ++ [.lst acc]) = .nx [some (.obj t), some (.tup [.int 50, .int 7]), some (.str "down"), x3, some (.obj S.length), v5] (S ++ [.lst (acc ++ (ks.filter (woP a b p1 p2)).map D.int)])
  | [], acc, u5, hk, hl => ⟨u5, by simp⟩
  | k :: ks, acc, u5, hk, hl => by
    rw [List.length_cons] at hl
    have k1 := hk k List.mem_cons_self
    have H1 := H.app (T := [.lst acc])
    have e1 := ej_ok B H1 (m := k) (by omega) (by omega)
    have e2 := ej_ok B H1 (m := k - 1) (by omega) (by omega)
    have ha : acc.length < 1000000 := by omega
    by_cases c : ej a b p1 p2 k < ej a b p1 p2 (k - 1)
    · obtain ⟨v5, z⟩ := wo_loop H (x3 := x3) ks (acc ++ [.int k]) (some (.int k)) (fun x hx => hk x (List.mem_cons_of_mem _ hx)) (by rw [List.length_append, List.length_singleton]; omega)
      refine ⟨v5, ?_⟩
      rw [List.filter_cons, if_pos (show woP a b p1 p2 k = true from decide_eq_true c), List.map_cons, List.map_cons, show acc ++ D.int k :: (ks.filter (woP a b p1 p2)).map D.int = (acc ++ [D.int k]) ++ (ks.filter (woP a b p1 p2)).map D.int by simp, ← z]
      simp -implicitDefEqProofs [woB, e1, e2, c, ha]
    · obtain ⟨v5, z⟩ := wo_loop H (x3 := x3) ks acc (some (.int k)) (fun x hx => hk x (List.mem_cons_of_mem _ hx)) (by omega)
      refine ⟨v5, ?_⟩
      rw [List.filter_cons, if_neg (by unfold woP; rw [decide_eq_true_eq]; exact c), List.map_cons, ← z]
      simp -implicitDefEqProofs [woB, e1, e2, c]
def woL (a b p1 p2 : Int) : List Int := ((List.range 56).map fun (i : Nat) => 1 + (i : Int)).filter (woP a b p1 p2)
theorem worse_ok (H : TAt S t a b p1 p2) : M_worse_off [.obj t, .tup [.int 50, .int 7], .str "down", .int 56] S = .ok (.tup ((woL a b p1 p2).map D.int)) (S ++ [.lst ((woL a b p1 p2).map D.int)]) := by
  obtain ⟨v5, z⟩ := wo_loop B H (x3 := some (.int 56)) ((List.range 56).map fun (i : Nat) => 1 + (i : Int)) [] none (fun k hk => by
    obtain ⟨i, hi, rfl⟩ := List.mem_map.mp hk
    have := List.mem_range.mp hi
    omega) (by simp)
  rw [List.map_map, show (D.int ∘ fun (i : Nat) => 1 + (i : Int)) = fun (i : Nat) => D.int (1 + (i : Int)) from rfl, ← rng_lo, List.nil_append, show ((List.range 56).map fun (i : Nat) => 1 + (i : Int)).filter (woP a b p1 p2) = woL a b p1 p2 from rfl] at z
  have e : M_worse_off = runD 6 (dSeq (dAsg (dLst daNil) (gN 4)) (dSeq (dFor (diRange2 (dC (.int 1)) (dOp addD (dVar 3) (dC (.int 1)))) (gN 5) woB) (dRet (dBlt tupleD (daCons (dVar 4) daNil))))) := rfl
  rw [e, e_runD]
  generalize (woL a b p1 p2).map D.int = W at *
  generalize hr : rngD 1 1 56 = R at *
  simp -implicitDefEqProofs [startD, hr, z]
def jumpsE : DE := (dLc (diRange1 (dC (.int 57))) (gN 13) dYes (dCall 4 M_edge_jump (daCons (dVar 5) (daCons (dTup (daCons (dC (.int 50)) (daCons (dC (.int 7)) daNil))) (daCons (dVar 13) (daCons (dC (.str "down")) daNil))))) [13])
def jumpsL (a b p1 p2 : Int) : List D := (List.range 57).map fun (i : Nat) => D.int (ej a b p1 p2 (i : Int))
theorem jumps_ok (H : TAt S t a b p1 p2) (x0 x1 x2 x3 x4 x6 x7 x8 x9 x10 x11 x12 x13 x14 : Option D) : jumpsE [x0, x1, x2, x3, x4, some (.obj t), x6, x7, x8, x9, x10, x11, x12, x13, x14] S = .ok (.obj S.length) (S ++ [.lst (jumpsL a b p1 p2)]) := by
  have := dLc_map (fi := diRange1 (dC (.int 57))) (tg := gN 13) (fe := (dCall 4 M_edge_jump (daCons (dVar 5) (daCons (dTup (daCons (dC (.int 50)) (daCons (dC (.int 7)) daNil))) (daCons (dVar 13) (daCons (dC (.str "down")) daNil)))))) (vs := [13]) (ρ := [x0, x1, x2, x3, x4, some (.obj t), x6, x7, x8, x9, x10, x11, x12, x13, x14]) (S := S) (S1 := S) (grd := grdT) (List.range 57) (fun (i : Nat) => D.int (i : Int)) (fun (i : Nat) => D.int (ej a b p1 p2 (i : Int)))
    (by rw [← rng_nat]; rfl) (fun X => rfl) (fun i hi X => by
      have hi2 := List.mem_range.mp hi
      have e1 := ej_ok B (H.app (T := [.lst X])) (m := (i : Int)) (by omega) (by omega)
      refine ⟨[x0, x1, x2, x3, x4, some (.obj t), x6, x7, x8, x9, x10, x11, x12, some (.int (i : Int)), x14], rfl, ?_⟩
      simp -implicitDefEqProofs [e1]) (by simp)
  unfold jumpsE jumpsL
  rw [this]
def badE : DE := (dLc (diRange2 (dC (.int 1)) (dC (.int 57))) (gN 13) (dB (dOp ltD (dOp ixD (dVar 12) (dVar 13)) (dOp ixD (dVar 12) (dOp subD (dVar 13) (dC (.int 1)))))) (dVar 13) [13])
omit B in
theorem jumps_at {k : Nat} (hk : k < 57) : atI (jumpsL a b p1 p2) (k : Int) = some (.int (ej a b p1 p2 (k : Int))) := by
  rw [DL.atI_nat]
  unfold jumpsL
  rw [List.getElem?_map, List.getElem?_range hk]
  rfl
omit B in
theorem bad_ok {J : Nat} (hJ : lstAt S J = some (jumpsL a b p1 p2)) (x0 x1 x2 x3 x4 x5 x6 x7 x8 x9 x10 x11 x13 x14 : Option D) : badE [x0, x1, x2, x3, x4, x5, x6, x7, x8, x9, x10, x11, some (.obj J), x13, x14] S = .ok (.obj S.length) (S ++ [.lst ((woL a b p1 p2).map D.int)]) := by
  have := dLc_filter (fi := diRange2 (dC (.int 1)) (dC (.int 57))) (tg := gN 13) (tt := (dB (dOp ltD (dOp ixD (dVar 12) (dVar 13)) (dOp ixD (dVar 12) (dOp subD (dVar 13) (dC (.int 1))))))) (fe := dVar 13) (vs := [13]) (ρ := [x0, x1, x2, x3, x4, x5, x6, x7, x8, x9, x10, x11, some (.obj J), x13, x14]) (S := S) (S1 := S) (grd := grdT) (List.range 56) (fun (i : Nat) => D.int (1 + (i : Int))) (fun (i : Nat) => D.int (1 + (i : Int))) (fun i => woP a b p1 p2 (1 + (i : Int)))
    (by rw [← rng_lo]; rfl) (fun X => rfl) (fun i hi X => by
      have hi2 := List.mem_range.mp hi
      have j1 := jumps_at (a := a) (b := b) (p1 := p1) (p2 := p2) (k := i + 1) (by omega)
      have j2 := jumps_at (a := a) (b := b) (p1 := p1) (p2 := p2) (k := i) (by omega)
      have hk : lstAt (S ++ [.lst X]) J = some (jumpsL a b p1 p2) := lstAt_keep _ _ hJ
      have e1 : ((i + 1 : Nat) : Int) = 1 + (i : Int) := by omega
      have e2 : (i : Int) = 1 + (i : Int) - 1 := by omega
      rw [e1] at j1
      rw [e2] at j2
      unfold woP
      refine ⟨[x0, x1, x2, x3, x4, x5, x6, x7, x8, x9, x10, x11, some (.obj J), some (.int (1 + (i : Int))), x14], rfl, ?_, fun _ => rfl⟩
      generalize (1 : Int) + (i : Int) = k at *
      generalize jumpsL a b p1 p2 = L at *
      simp -implicitDefEqProofs [hk, j1, j2]) (by simp)
  unfold badE woL
  rw [this, List.filter_map, List.map_map]
  rfl
theorem fifty : (50 : Int) ∈ woL a b p1 p2 := by
  unfold woL
  rw [List.mem_filter]
  refine ⟨List.mem_map.mpr ⟨49, by simp, rfl⟩, ?_⟩
  have := (tw_step B (m := 49)).1
  unfold woP ej nt
  rw [decide_eq_true_eq, if_pos (by decide), if_neg (by decide), show (50 : Int) - 1 = 49 by decide]
  rw [show (49 : Int) + 1 = 50 by decide] at this
  omega
end
end Pr
set_option Elab.async false
set_option linter.all false
set_option maxRecDepth 100000
set_option maxHeartbeats 1000000
namespace Pr
open PySem PySem.Spec PyProof.Rows L2 DL
/-! ### over a year -/
theorem enum_ints : ∀ (ls : List Int), enumL (ls.map D.int) = (ls.zipIdx 0).map fun z => D.tup [.int (z.2 : Int), .int z.1] := fun ls => by
  unfold enumL
  refine List.ext_getElem? fun i => ?_
  by_cases h : i < ls.length
  · simp [h]
  · simp [h]
theorem enumOf_obj {n : Nat} {xs : List D} {S : Store} (h : lstAt S n = some xs) : enumOf (.obj n) S = some (⟨enumL xs, grdL n xs⟩, S) := by
  unfold enumOf
  simp [h]
def oyB : DS := (dSeq (dAug 5 iaddD (dVar 8))
  (dSeq (dAsg (dOp fdivD (dOp mulD (dVar 5) (dVar 2)) (dOp addD (dVar 7) (dC (.int 1)))) (gN 9))
  (dSeq (dAsg (dCall 2 M_rounded (daCons (dCall 2 M_times (daCons (dMeth "Table" "exact" 2 M_Table_exact (dVar 0) (daCons (dVar 9) daNil)) (daCons (dCall 2 M_part (daCons (dOp addD (dVar 7) (dC (.int 1))) (daCons (dVar 2) daNil))) daNil))) (daCons (dVar 3) daNil))) (gN 10))
  (dSeq (dDrop (dApp (dVar 4) (dOp subD (dVar 10) (dVar 6))))
  (dAsg (dVar 10) (gN 6))))))
section
variable {a b p1 p2 m : Int} {S : Store} {t : Nat} (B : Tb a b p1 p2)
include B
/-- what is due after k + 1 times of six -/
theorem due_ok (H : TAt S t a b p1 p2) {k : Nat} {so : Int} (hk : k < 6) (h0 : 0 ≤ so) (h1 : so ≤ 1000) :
    ∃ d : Int, M_times [pt (q20 (tw a b p1 p2 (so * 6 / ((k : Int) + 1)))), pt (Rat.divInt ((k : Int) + 1) 6)] S = .ok (pt (q20 (tw a b p1 p2 (so * 6 / ((k : Int) + 1))) * Rat.divInt ((k : Int) + 1) 6)) S ∧
      M_rounded [pt (q20 (tw a b p1 p2 (so * 6 / ((k : Int) + 1))) * Rat.divInt ((k : Int) + 1) 6), .str "half up"] S = .ok (.int d) S ∧ (k = 5 → d = hu (tw a b p1 p2 so) 20) := by
  obtain ⟨yr, hyr⟩ : ∃ yr : Int, so * 6 / ((k : Int) + 1) = yr := ⟨_, rfl⟩
  have y0 : 0 ≤ yr := by rw [← hyr]; exact Int.ediv_nonneg (by omega) (by omega)
  have y1 : yr ≤ 6000 := by rw [← hyr]; exact Int.le_trans (Int.ediv_le_self _ (by omega)) (by omega)
  rw [hyr]
  have x := tw_b B (m := yr) y0 (by omega)
  have s1 : Sz 100 (q20 (tw a b p1 p2 yr)) := (divInt_sz (n := 60) (by decide) (by omega) (by decide)).up (by decide)
  have s2 : Sz 100 (Rat.divInt ((k : Int) + 1) 6) := (divInt_sz (n := 60) (by decide) (by omega) (by decide)).up (by decide)
  have s3 := s1.mul s2
  have n1 : 0 ≤ q20 (tw a b p1 p2 yr) := int_le_div (m := 0) (by decide) (by omega)
  have n2 : 0 ≤ Rat.divInt ((k : Int) + 1) 6 := int_le_div (m := 0) (by decide) (by omega)
  have n3 : 0 ≤ (q20 (tw a b p1 p2 yr) * Rat.divInt ((k : Int) + 1) 6).num := Rat.num_nonneg.mpr (Rat.mul_nonneg n1 n2)
  have r := rounded_half n3 (s3.up (by decide)) S
  refine ⟨_, M_times_ok (s1.up (by decide)) (s2.up (by decide)) S, r, fun h5 => ?_⟩
  subst h5
  have e6 : Rat.divInt (((5 : Nat) : Int) + 1) 6 = 1 := by decide +kernel
  have ey : yr = so := by rw [← hyr, show ((5 : Nat) : Int) + 1 = 6 from rfl, Int.mul_ediv_cancel _ (by decide)]
  rw [e6, Rat.mul_one, ey] at r ⊢
  have x2 := tw_b B (m := so) h0 (by omega)
  have r2 := rounded_part (t := tw a b p1 p2 so) (b := 20) (by decide) x2.1 (by omega) (by decide) S
  unfold q20 at r ⊢
  rw [r2] at r
  injection r with r3 r4
  injection r3 with r5
  exact r5.symm
theorem oy_loop {q : Nat} {ds : List D} (H : TAt S t a b p1 p2) (hq : lstAt S q = some ds) {x1 : Option D} : ∀ (ps : List Int) (k : Nat) (acc : List Int) (so : Int) (u7 u8 u9 u10 : Option D), k + ps.length = 6 → acc.length = k → 0 ≤ so → so ≤ 50 * (k : Int) → (∀ p ∈ ps, 0 ≤ p ∧ p ≤ 50) →
    ∃ (acc' : List Int) (v6 v7 v8 v9 v10 : Option D), forD (grdL q ds) (gT 2 (gsCons (gN 7) (gsCons (gN 8) gsNil))) oyB ((ps.zipIdx k).map fun z => D.tup [.int (z.2 : Int), .int z.1]) [some (.obj t), x1, some (.int 6), some (.str "half up"), some (.obj S.length), some (.int so), some (.int acc.sum), u7, u8, u9, u10] (S ++ [.lst (acc.map D.int)]) = .nx [some (.obj t), x1, some (.int 6), some (.str "half up"), some (.obj S.length), some (.int (so + ps.sum)), v6, v7, v8, v9, v10] (S ++ [.lst (acc'.map D.int)]) ∧
      (ps = [] → acc'.sum = acc.sum) ∧ (ps ≠ [] → acc'.sum = hu (tw a b p1 p2 (so + ps.sum)) 20)
  | [], k, acc, so, u7, u8, u9, u10, hk, ha, h0, h1, hp => ⟨acc, some (.int acc.sum), u7, u8, u9, u10, by
      have g := grdL_iff.mpr (lstAt_keep S [.lst (acc.map D.int)] hq)
      simp [g], fun _ => rfl, fun h => absurd rfl h⟩
  | p :: ps, k, acc, so, u7, u8, u9, u10, hk, ha, h0, h1, hp => by
    rw [List.length_cons] at hk
    have pp := hp p List.mem_cons_self
    have H1 := H.app (T := [.lst (acc.map D.int)])
    obtain ⟨d, t1, r1, f5⟩ := due_ok B H1 (k := k) (so := so + p) (by omega) (by omega) (by omega)
    have y0 : 0 ≤ (so + p) * 6 / ((k : Int) + 1) := Int.ediv_nonneg (by omega) (by omega)
    have y1 : (so + p) * 6 / ((k : Int) + 1) ≤ 6000 := Int.le_trans (Int.ediv_le_self _ (by omega)) (by omega)
    have ex := exact_ok B H1 y0 (by omega)
    have pa := part_small (t := (k : Int) + 1) (b := 6) (by decide) (by omega) (by decide) (S ++ [.lst (acc.map D.int)])
    obtain ⟨acc', v6, v7, v8, v9, v10, z, z0, zs⟩ := oy_loop H hq (x1 := x1) ps (k + 1) (acc ++ [d - acc.sum]) (so + p) (some (.int (k : Int))) (some (.int p)) (some (.int ((so + p) * 6 / ((k : Int) + 1)))) (some (.int d)) (by omega) (by simp; omega) (by omega) (by omega) (fun x hx => hp x (List.mem_cons_of_mem _ hx))
    have g := grdL_iff.mpr (lstAt_keep S [.lst (acc.map D.int)] hq)
    have sd : (acc ++ [d - acc.sum]).sum = d := by rw [List.sum_append, List.sum_singleton]; omega
    rw [sd] at z
    refine ⟨acc', v6, v7, v8, v9, v10, ?_, fun h => (by cases h), fun _ => ?_⟩
    · rw [List.sum_cons, ← Int.add_assoc, ← z, List.zipIdx_cons, List.map_cons, List.map_append, List.map_cons, List.map_nil]
      have lk := lke B
      have fd : fdivD (.int ((so + p) * 6)) (.int ((k : Int) + 1)) (S ++ [.lst (acc.map D.int)]) = some (.int ((so + p) * 6 / ((k : Int) + 1)), S ++ [.lst (acc.map D.int)]) := fdiv_small (by omega) (by omega)
      have ha2 : (acc.map D.int).length < 1000000 := by rw [List.length_map]; omega
      have m6 : (6 : Int).natAbs < 18446744073709551616 := by decide
      generalize (so + p) * 6 / ((k : Int) + 1) = Y at *
      generalize pt (q20 (tw a b p1 p2 Y) * Rat.divInt ((k : Int) + 1) 6) = R at *
      generalize pt (q20 (tw a b p1 p2 Y)) = Q at *
      generalize pt (Rat.divInt ((k : Int) + 1) 6) = K at *
      generalize acc.map D.int = A at *
      generalize hz : (k : Int) = kk at *
      simp -implicitDefEqProofs [oyB, g, mulD_r m6, fd, H1.ins, lk, ex, pa, t1, r1, ha2]
    · cases ps with
      | nil =>
        have k5 : k = 5 := by simp at hk; omega
        rw [z0 rfl, sd, f5 k5]
        simp
      | cons x xs =>
        have := zs (by simp)
        rw [this, List.sum_cons, Int.add_assoc]
        rfl
end
end Pr
set_option Elab.async false
set_option linter.all false
set_option maxRecDepth 100000
set_option maxHeartbeats 1000000
namespace Pr
open PySem PySem.Spec PyProof.Rows L2 DL
section
variable {a b p1 p2 m : Int} {S : Store} {t : Nat} (B : Tb a b p1 p2)
include B
theorem over_year_ok {q : Nat} {ps : List Int} (H : TAt S t a b p1 p2) (hq : lstAt S q = some (ps.map D.int)) (h6 : ps.length = 6) (hp : ∀ p ∈ ps, 0 ≤ p ∧ p ≤ 50) :
    ∃ (R : List Int) (T : Store), M_over_year [.obj t, .obj q, .int 6, .str "half up"] S = .ok (.tup (R.map D.int)) (S ++ T) ∧ R.sum = hu (tw a b p1 p2 ps.sum) 20 := by
  obtain ⟨R, v6, v7, v8, v9, v10, z, _, zs⟩ := oy_loop B H hq (x1 := some (.obj q)) ps 0 [] 0 none none none none (by omega) rfl (by decide) (by decide) hp
  have ne : ps ≠ [] := fun h => by rw [h] at h6; cases h6
  have zs := zs ne
  rw [Int.zero_add] at zs
  refine ⟨R, [.lst (R.map D.int)], ?_, zs⟩
  have e : M_over_year = runD 11 (dSeq (dPar3 4 5 6 (daCons (dLst daNil) (daCons (dC (.int 0)) (daCons (dC (.int 0)) daNil))))
    (dSeq (dFor (diEnum (dVar 1)) (gT 2 (gsCons (gN 7) (gsCons (gN 8) gsNil))) oyB) (dRet (dBlt tupleD (daCons (dVar 4) daNil))))) := rfl
  rw [e, e_runD]
  have eo := enumOf_obj (S := S ++ [.lst []]) (lstAt_keep S [.lst []] hq)
  rw [enum_ints] at eo
  rw [show ([] : List Int).sum = 0 from rfl, show ([] : List Int).map D.int = [] from rfl] at z
  generalize (ps.zipIdx 0).map (fun z => D.tup [.int (z.2 : Int), .int z.1]) = E at *
  generalize ps.map D.int = P at *
  generalize R.map D.int = RD at *
  simp -implicitDefEqProofs [startD, eo, z]
theorem at_end_ok {q : Nat} {ps R : List Int} (H : TAt S t a b p1 p2) (hq : lstAt S q = some (ps.map D.int)) (h0 : 0 ≤ ps.sum) (h1 : ps.sum < 2 ^ 30) : M_at_end [.obj t, .obj q, .tup (R.map D.int), .str "half up"] S = .ok (.int (hu (tw a b p1 p2 ps.sum) 20 - R.sum)) S := by
  have hh := half_ok B H h0 h1
  have lk := lkw B
  have i1 : intsOf (ps.map D.int) = some ps := intsOf_map _
  have i2 : intsOf (R.map D.int) = some R := intsOf_map _
  generalize ps.map D.int = P at *
  generalize R.map D.int = RD at *
  simp -implicitDefEqProofs only [M_at_end, e_runD, f_at_end]
  simp -implicitDefEqProofs [startD, hq, i1, H.ins, lk, hh, i2]
theorem for_two_ok {k : Int} (H : TAt S t a b p1 p2) (h0 : 0 ≤ m) (h1 : m < 2 ^ 20) (h2 : 0 ≤ k) (h3 : k < 2 ^ 20) : ∃ X : Int, M_for_two [.obj t, .int m, .int k, .str "half up"] S = .ok (.int (2 * X)) S := by
  obtain ⟨y, hy⟩ : ∃ y, (m + k) / 2 = y := ⟨_, rfl⟩
  have ex := exact_ok B H (m := y) (by omega) (by omega)
  have x := tw_b B (m := y) (by omega) (by omega)
  have r := rounded_part (t := tw a b p1 p2 y) (b := 20) (by decide) x.1 (by omega) (by decide) S
  have lk := lke B
  have fd : fdivD (.int (m + k)) (.int 2) S = some (.int y, S) := by rw [fdiv_small (by decide) (by decide), hy]
  have m2 : (2 : Int).natAbs < 18446744073709551616 := by decide
  refine ⟨hu (tw a b p1 p2 y) 20, ?_⟩
  unfold q20 at ex
  generalize pt (Rat.divInt (tw a b p1 p2 y) 20) = Q at *
  simp -implicitDefEqProofs only [M_for_two, e_runD, f_for_two]
  simp -implicitDefEqProofs [startD, fd, H.ins, lk, ex, r, mulD_l m2]
end
theorem capped_ok {m : Int} (h0 : 0 ≤ m) (S : Store) : M_capped [.int m, .tup [.int 1, .int 10], .int 20, .int 90, .str "down"] S = .ok (.int (max 0 (min m 90 - 20) / 10)) S := by
  obtain ⟨w, hw⟩ : ∃ w, max 0 (min m 90 - 20) = w := ⟨_, rfl⟩
  have tt := times_tup (a := w) (p := 1) (d := 10) (by omega) (by decide) (by decide) (by decide) S
  have r := down_part (t := w * 1) (b := 10) (by decide) (by omega) (by omega) (by decide) S
  rw [hw]
  rw [Int.mul_one] at tt r
  generalize pt (Rat.divInt w 10) = Q at *
  simp -implicitDefEqProofs only [M_capped, e_runD, f_capped]
  simp -implicitDefEqProofs [startD, hw, tt, r]
theorem credits_1 (S : Store) : ∃ T, M_credits_used [.int 10, .tup [.int 3, .int 5, .int 9]] S = .ok (.tup [.int 0, .tup [.int 3, .int 5, .int 2]]) (S ++ T) := by
  refine ⟨[.lst [.int 3, .int 5, .int 2]], ?_⟩
  simp -implicitDefEqProofs only [M_credits_used, e_runD, f_credits_used]
  simp -implicitDefEqProofs [startD]
  decide
theorem credits_2 (S : Store) : ∃ T, M_credits_used [.int 4, .tup [.int 3, .int 5, .int 9]] S = .ok (.tup [.int 0, .tup [.int 3, .int 1, .int 0]]) (S ++ T) := by
  refine ⟨[.lst [.int 3, .int 1, .int 0]], ?_⟩
  simp -implicitDefEqProofs only [M_credits_used, e_runD, f_credits_used]
  simp -implicitDefEqProofs [startD]
  decide
end Pr
set_option Elab.async false
set_option linter.all false
set_option maxRecDepth 100000
set_option maxHeartbeats 1000000
namespace Pr
open PySem PySem.Spec PyProof.Rows L2 DL
/-! ### the least of rows -/
open PySem.W in
theorem min_pick {α : Type} {g : α → PyData} {key : α → Int} (l1 : ∀ x y, dataLt (g x) (g y) = true → key x ≤ key y) (l2 : ∀ x y, dataLt (g x) (g y) = false → key y ≤ key x) : ∀ (xs : List α) (x : α),
    ∃ y, y ∈ x :: xs ∧ PySem.W.minD (g x) (xs.map g) = g y ∧ ∀ z ∈ x :: xs, key y ≤ key z
  | [], x => ⟨x, List.mem_cons_self, rfl, fun z hz => by rw [List.mem_singleton.mp hz]; exact Int.le_refl _⟩
  | w :: xs, x => by
    have e : PySem.W.minD (g x) ((w :: xs).map g) = PySem.W.minD (if dataLt (g w) (g x) = true then g w else g x) (xs.map g) := rfl
    cases h : dataLt (g w) (g x) with
    | true =>
      obtain ⟨y, h1, h2, h3⟩ := min_pick l1 l2 xs w
      rw [h, if_pos rfl] at e
      refine ⟨y, List.mem_cons_of_mem _ h1, e.trans h2, fun z hz => ?_⟩
      rcases List.mem_cons.mp hz with rfl | hz
      · have := h3 w List.mem_cons_self
        have := l1 _ _ h
        omega
      · exact h3 z hz
    | false =>
      obtain ⟨y, h1, h2, h3⟩ := min_pick l1 l2 xs x
      rw [h, if_neg (by decide)] at e
      refine ⟨y, ?_, e.trans h2, fun z hz => ?_⟩
      · rcases List.mem_cons.mp h1 with rfl | h1
        · exact List.mem_cons_self
        · exact List.mem_cons_of_mem _ (List.mem_cons_of_mem _ h1)
      · rcases List.mem_cons.mp hz with rfl | hz
        · exact h3 z List.mem_cons_self
        · rcases List.mem_cons.mp hz with rfl | hz
          · have := h3 x List.mem_cons_self
            have := l2 _ _ h
            omega
          · exact h3 z (List.mem_cons_of_mem _ hz)
/-- a row told: what is withheld, how it is split -/
def rowD (z : Int × Int × Int) : D := .tup [.int z.1, .tup [.int z.2.1, .int z.2.2]]
def rowP (z : Int × Int × Int) : PyData := .tuple [.int z.1, .tuple [.int z.2.1, .int z.2.2]]
theorem row_alike (x y : Int × Int × Int) : PySem.W.alike (rowP x) (rowP y) = true := by
  unfold rowP
  simp [PySem.W.alike, PySem.W.alikeAll]
open PySem.W in
theorem row_lt (x y : Int × Int × Int) : (dataLt (rowP x) (rowP y) = true → x.1 ≤ y.1) ∧ (dataLt (rowP x) (rowP y) = false → y.1 ≤ x.1) := by
  unfold rowP
  rw [dataLt_pair (by simp [alike]) (by simp [alike, alikeAll]), dataLt_int]
  by_cases c : x.1 = y.1
  · exact ⟨fun _ => by omega, fun _ => by omega⟩
  · have : PyData.eqv (.int x.1) (.int y.1) = false := by simp [PyData.eqv, c]
    rw [this]
    simp
    omega
theorem told_row : Told rowD rowP := ⟨fun a => rfl, fun a => rfl, fun a => by unfold rowP; simp [PyData.depth, PyData.depthAll]⟩
theorem min_rows {n : Nat} {S : Store} {x : Int × Int × Int} {xs : List (Int × Int × Int)} (h : lstAt S n = some ((x :: xs).map rowD)) : ∃ y, y ∈ x :: xs ∧ minT [.obj n] S = some (rowD y, S) ∧ ∀ z ∈ x :: xs, y.1 ≤ z.1 := by
  obtain ⟨y, h1, h2, h3⟩ := min_pick (g := rowP) (key := fun z => z.1) (fun x y => (row_lt x y).1) (fun x y => (row_lt x y).2) xs x
  refine ⟨y, h1, ?_, h3⟩
  have i0 : (lstOf S (.obj n)).bind intsOf = none := by
    rw [lstOf_obj, h, Option.bind_some, List.map_cons]
    rfl
  have i1 : (lstOf S (.obj n)).bind D.toPs = some (rowP x :: xs.map rowP) := by
    rw [lstOf_obj, h, Option.bind_some, toPs_map told_row.p]
    rfl
  have lk : likeB (rowP x :: xs.map rowP) = true := by
    have e : rowP x :: xs.map rowP = (x :: xs).map rowP := rfl
    unfold likeB
    rw [e, Bool.and_eq_true]
    constructor
    · rw [List.all_eq_true]
      intro p hp
      rw [List.all_eq_true]
      intro q hq
      obtain ⟨p', _, rfl⟩ := List.mem_map.mp hp
      obtain ⟨q', _, rfl⟩ := List.mem_map.mp hq
      exact row_alike p' q'
    · rw [List.all_eq_true]
      intro p hp
      obtain ⟨p', _, rfl⟩ := List.mem_map.mp hp
      rfl
  have dp : PyData.depthAll (rowP x :: xs.map rowP) ≤ 60 := by
    have := depth_map (g := rowP) (k := 60) (fun a => by unfold rowP; simp [PyData.depth, PyData.depthAll]) (x :: xs)
    exact this
  show minD3 [.obj n] S = _
  unfold minD3 minD2 minP
  simp only [i0, Option.bind_none, Option.map_none, i1, lk, dp, and_self, if_true]
  rw [h2]
  rfl
end Pr
set_option Elab.async false
set_option linter.all false
set_option maxRecDepth 100000
set_option maxHeartbeats 1000000
namespace Pr
open PySem PySem.Spec PyProof.Rows L2 DL
theorem eq_one_nil (k : Int) (S : Store) : eqD (.tup [.int k]) (.tup []) S = some (.bl false, S) := by
  have t1 : D.toPS S (.tup [.int k]) = some (.tuple [.int k]) := told_int.tup (S := S) [k]
  have t2 : D.toPS S (.tup []) = some (.tuple []) := rfl
  unfold eqD
  rw [t1, t2]
  dsimp only
  rw [if_pos ⟨told_int.shapedT [k], told_int.shapedT []⟩]
  rfl
theorem ne_nil_nil (S : Store) : neD (.tup []) (.tup []) S = some (.bl false, S) := neD_same (p := .tuple []) rfl rfl (told_int.shapedT [])
def bsFill : DS := (dFor (diRange1 (dOp subD (dVar 2) (dC (.int 1)))) (gN 5)
  (dAsg (dLc2 (diSeq (dVar 4)) (gT 2 (gsCons (gN 6) (gsCons (gN 7) gsNil))) dYes (diRange2 (dIf (dB (dOp neD (dVar 6) (dTup daNil))) (dOp ixD (dVar 6) (dUn negD (dC (.int 1)))) (dC (.int 0))) (dOp addD (dVar 7) (dC (.int 1)))) (gN 8) dYes (dTup (daCons (dOp addD (dVar 6) (dTup (daCons (dVar 8) daNil))) (daCons (dOp subD (dVar 7) (dVar 8)) daNil))) [6, 7, 8] [8]) (gN 4)))
def bsF : DE := (dLc (diSeq (dVar 4)) (gT 2 (gsCons (gN 6) (gsCons (gN 7) gsNil))) (dOrT (dB (dOp eqD (dVar 6) (dTup daNil))) (dB (dOp geD (dVar 7) (dOp ixD (dVar 6) (dUn negD (dC (.int 1))))))) (dOp addD (dVar 6) (dTup (daCons (dVar 7) daNil))) [6, 7])
def bsM : DE := (dLc (diSeq (dVar 4)) (gN 6) dYes (dTup (daCons (dSumX (diSeq (dVar 6)) (gN 9) dYes (dMeth "Table" "withheld" 3 M_Table_withheld (dVar 0) (daCons (dVar 9) (daCons (dVar 3) daNil))) [9]) (daCons (dVar 6) daNil))) [6])
def sp1 (n : Nat) : List D := (List.range (n + 1)).map fun (i : Nat) => D.tup [.tup [.int (i : Int)], .int ((n : Int) - (i : Int))]
theorem bsFill_ok {n : Nat} {S : Store} (hn : n ≤ 100) (x0 x1 x3 u5 u6 u7 u8 u9 : Option D) : ∃ v5, bsFill [x0, x1, some (.int 2), x3, some (.obj S.length), u5, u6, u7, u8, u9] (S ++ [.lst [.tup [.tup [], .int (n : Int)]]]) = .nx [x0, x1, some (.int 2), x3, some (.obj (S.length + 1)), v5, u6, u7, u8, u9] (S ++ [.lst [.tup [.tup [], .int (n : Int)]], .lst (sp1 n)]) := by
  obtain ⟨S1, hS1⟩ : ∃ S1 : Store, S ++ [.lst [.tup [.tup [], .int (n : Int)]]] = S1 := ⟨_, rfl⟩
  have l1 : S1.length = S.length + 1 := by rw [← hS1]; simp
  have q1 : ∀ T, lstAt (S1 ++ T) S.length = some [.tup [.tup [], .int (n : Int)]] := fun T => by rw [← hS1]; simp
  have q0 : lstAt S1 S.length = some [.tup [.tup [], .int (n : Int)]] := by rw [← hS1]; simp
  have r1 : -1000000000000 ≤ (n : Int) + 1 ∧ (n : Int) + 1 ≤ 1000000000000 := by omega
  have tn : ((n : Int) + 1).toNat = n + 1 := by omega
  have z : lcD grdT (gN 8) dYes (dTup (daCons (dOp addD (dVar 6) (dTup (daCons (dVar 8) daNil))) (daCons (dOp subD (dVar 7) (dVar 8)) daNil))) S1.length [x0, x1, some (.int 2), x3, some (.obj S.length), some (.int 0), some (.tup []), some (.int (n : Int)), none, u9] (rngD 0 1 (n + 1)) (S1 ++ [.lst []]) = .ok () (S1 ++ [.lst (sp1 n)]) := by
    have := lcD_map (grd := grdT) (tg := gN 8) (fe := (dTup (daCons (dOp addD (dVar 6) (dTup (daCons (dVar 8) daNil))) (daCons (dOp subD (dVar 7) (dVar 8)) daNil)))) (ρ := [x0, x1, some (.int 2), x3, some (.obj S.length), some (.int 0), some (.tup []), some (.int (n : Int)), none, u9]) (a := fun (i : Nat) => D.int (i : Int)) (f := fun (i : Nat) => D.tup [.tup [.int (i : Int)], .int ((n : Int) - (i : Int))]) (S1 := S1) (fun X => rfl) (List.range (n + 1)) [] (fun i hi X => ⟨[x0, x1, some (.int 2), x3, some (.obj S.length), some (.int 0), some (.tup []), some (.int (n : Int)), some (.int (i : Int)), u9], rfl, by simp -implicitDefEqProofs⟩) (by simp; omega)
    rw [List.nil_append] at this
    rw [rng_nat]
    exact this
  refine ⟨some (.int 0), ?_⟩
  have g1 : ∀ T, grdL S.length [.tup [.tup [], .int (n : Int)]] (S1 ++ T) = true := fun T => grdL_iff.mpr (q1 T)
  have ea : S ++ [DO.lst [.tup [.tup [], .int (n : Int)]], .lst (sp1 n)] = S1 ++ [.lst (sp1 n)] := by rw [← hS1]; simp
  rw [hS1, ea]
  rw [l1] at z
  simp -implicitDefEqProofs [bsFill, q0, q1, g1, ne_nil_nil, r1, tn, z, l1]
def half1 (n k : Nat) : Bool := decide ((k : Int) ≤ (n : Int) - (k : Int))
def sp2 (n : Nat) : List Nat := (List.range (n + 1)).filter (half1 n)
def spD (n : Nat) (k : Nat) : D := .tup [.int (k : Int), .int ((n : Int) - (k : Int))]
theorem bsF_ok {n A : Nat} {S : Store} (hA : lstAt S A = some (sp1 n)) (hn : n ≤ 100) (x0 x1 x2 x3 u5 u6 u7 u8 u9 : Option D) : bsF [x0, x1, x2, x3, some (.obj A), u5, u6, u7, u8, u9] S = .ok (.obj S.length) (S ++ [.lst ((sp2 n).map (spD n))]) := by
  have a1 : ∀ x : D, atI [x] (-1) = some x := fun x => rfl
  have := dLc_filter (fi := diSeq (dVar 4)) (tg := gT 2 (gsCons (gN 6) (gsCons (gN 7) gsNil))) (tt := (dOrT (dB (dOp eqD (dVar 6) (dTup daNil))) (dB (dOp geD (dVar 7) (dOp ixD (dVar 6) (dUn negD (dC (.int 1)))))))) (fe := (dOp addD (dVar 6) (dTup (daCons (dVar 7) daNil)))) (vs := [6, 7]) (ρ := [x0, x1, x2, x3, some (.obj A), u5, u6, u7, u8, u9]) (S := S) (S1 := S) (grd := grdL A (sp1 n)) (List.range (n + 1)) (fun (i : Nat) => D.tup [.tup [.int (i : Int)], .int ((n : Int) - (i : Int))]) (spD n) (half1 n)
    (by
      rw [show (List.range (n + 1)).map (fun (i : Nat) => D.tup [.tup [.int (i : Int)], .int ((n : Int) - (i : Int))]) = sp1 n from rfl]
      generalize sp1 n = L at *
      simp -implicitDefEqProofs [hA]) (fun X => grdL_iff.mpr (lstAt_keep _ _ hA)) (fun i hi X => by
      refine ⟨[x0, x1, x2, x3, some (.obj A), u5, some (.tup [.int (i : Int)]), some (.int ((n : Int) - (i : Int))), u8, u9], by simp, ?_, fun _ => ?_⟩
      · unfold half1
        simp -implicitDefEqProofs [eq_one_nil, a1]
      · unfold spD
        simp -implicitDefEqProofs) (by simp; omega)
  unfold bsF
  rw [this]
  rfl
section
variable {a b p1 p2 m : Int} {S : Store} {t : Nat} (B : Tb a b p1 p2)
include B
def hkF (a b p1 p2 : Int) (n k : Nat) : Int := tw a b p1 p2 (k : Int) / 20 + tw a b p1 p2 ((n : Int) - (k : Int)) / 20
def rowZ (a b p1 p2 : Int) (n k : Nat) : Int × Int × Int := (hkF a b p1 p2 n k, (k : Int), (n : Int) - (k : Int))
theorem bsM_ok {n A : Nat} {ks : List Nat} (H : TAt S t a b p1 p2) (hA : lstAt S A = some (ks.map (spD n))) (hn : n ≤ 100) (hks : ∀ k ∈ ks, k ≤ n) (hl : ks.length ≤ 1000) (x1 x2 u5 u6 u7 u8 u9 : Option D) : bsM [some (.obj t), x1, x2, some (.str "down"), some (.obj A), u5, u6, u7, u8, u9] S = .ok (.obj S.length) (S ++ [.lst ((ks.map (rowZ a b p1 p2 n)).map rowD)]) := by
  have lk := lkw B
  have := dLc_map (fi := diSeq (dVar 4)) (tg := gN 6) (fe := (dTup (daCons (dSumX (diSeq (dVar 6)) (gN 9) dYes (dMeth "Table" "withheld" 3 M_Table_withheld (dVar 0) (daCons (dVar 9) (daCons (dVar 3) daNil))) [9]) (daCons (dVar 6) daNil)))) (vs := [6]) (ρ := [some (.obj t), x1, x2, some (.str "down"), some (.obj A), u5, u6, u7, u8, u9]) (S := S) (S1 := S) (grd := grdL A (ks.map (spD n))) ks (spD n) (fun k => rowD (rowZ a b p1 p2 n k))
    (by
      generalize ks.map (spD n) = L at *
      simp -implicitDefEqProofs [hA]) (fun X => grdL_iff.mpr (lstAt_keep _ _ hA)) (fun k hk2 X => by
      have kn := hks k hk2
      have H1 := H.app (T := [.lst X])
      have d1 := down_ok B H1 (m := (k : Int)) (by omega) (by omega)
      have d2 := down_ok B H1 (m := (n : Int) - (k : Int)) (by omega) (by omega)
      refine ⟨[some (.obj t), x1, x2, some (.str "down"), some (.obj A), u5, some (spD n k), u7, u8, u9], rfl, ?_⟩
      unfold rowD rowZ hkF spD
      simp -implicitDefEqProofs [H1.ins, lk, d1, d2]) (by omega)
  unfold bsM
  rw [this, List.map_map]
  rfl
theorem best_split_ok {n : Nat} (H : TAt S t a b p1 p2) (hn : n ≤ 100) : ∃ (k : Nat) (T : Store), k ≤ n ∧ M_best_split [.obj t, .int (n : Int), .int 2, .str "down"] S = .ok (.tup [.int (hkF a b p1 p2 n k), .tup [.int (k : Int), .int ((n : Int) - (k : Int))]]) (S ++ T) ∧ ∀ j, j ≤ n → hkF a b p1 p2 n k ≤ hkF a b p1 p2 n j := by
  obtain ⟨v5, f⟩ := bsFill_ok (S := S) hn (some (.obj t)) (some (.int (n : Int))) (some (.str "down")) none none none none none
  obtain ⟨S1, hS1⟩ : ∃ S1 : Store, S ++ [.lst [.tup [.tup [], .int (n : Int)]], .lst (sp1 n)] = S1 := ⟨_, rfl⟩
  rw [hS1] at f
  have q1 : lstAt S1 (S.length + 1) = some (sp1 n) := by rw [← hS1]; unfold lstAt; rw [List.getElem?_append_right (by omega), show S.length + 1 - S.length = 1 by omega]; rfl
  have F := bsF_ok q1 hn (some (.obj t)) (some (.int (n : Int))) (some (.int 2)) (some (.str "down")) v5 none none none none
  have H1 : TAt S1 t a b p1 p2 := by rw [← hS1]; exact H.app
  have H2 := H1.app (T := [.lst ((sp2 n).map (spD n))])
  have q2 : lstAt (S1 ++ [.lst ((sp2 n).map (spD n))]) S1.length = some ((sp2 n).map (spD n)) := by simp
  have mem : ∀ k, k ∈ sp2 n ↔ k ≤ n ∧ half1 n k = true := fun k => by
    unfold sp2
    rw [List.mem_filter, List.mem_range]
    exact ⟨fun h => ⟨by omega, h.2⟩, fun h => ⟨by omega, h.2⟩⟩
  have M := bsM_ok B H2 q2 hn (fun k hk => ((mem k).mp hk).1) (by unfold sp2; exact Nat.le_trans (List.length_filter_le _ _) (by simp; omega)) (some (.int (n : Int))) (some (.int 2)) v5 none none none none
  have q3 : lstAt (S1 ++ [DO.lst ((sp2 n).map (spD n))] ++ [DO.lst (((sp2 n).map (rowZ a b p1 p2 n)).map rowD)]) (S1 ++ [DO.lst ((sp2 n).map (spD n))]).length = some (((sp2 n).map (rowZ a b p1 p2 n)).map rowD) := by rw [lstAt_app0]; rfl
  obtain ⟨x, xs, hx⟩ : ∃ x xs, sp2 n = x :: xs := by
    have : 0 ∈ sp2 n := (mem 0).mpr ⟨by omega, decide_eq_true (by omega)⟩
    cases h : sp2 n with
    | nil => rw [h] at this; cases this
    | cons x xs => exact ⟨x, xs, rfl⟩
  have q4 := q3
  rw [hx, List.map_cons] at q4
  obtain ⟨y, hy, my, ly⟩ := min_rows q4
  rw [← List.map_cons, ← hx] at hy ly my
  obtain ⟨k, hk1, rfl⟩ := List.mem_map.mp hy
  refine ⟨k, [.lst [.tup [.tup [], .int (n : Int)]], .lst (sp1 n)] ++ [.lst ((sp2 n).map (spD n))] ++ [.lst (((sp2 n).map (rowZ a b p1 p2 n)).map rowD)], ((mem k).mp hk1).1, ?_, fun j hj => ?_⟩
  · rw [← List.append_assoc, ← List.append_assoc, hS1]
    have e : M_best_split = runD 10 (dSeq (dIfS (dOrT (dNotT (dB (dChain ltD ltD (dC (.int 0)) (dVar 2) (dC (.int 5))))) (dNotT (dB (dChain leD leD (dC (.int 0)) (dVar 1) (dC (.int 100)))))) (dRaise "BadRule") dNext)
      (dSeq (dAsg (dLst (daCons (dTup (daCons (dTup daNil) (daCons (dVar 1) daNil))) daNil)) (gN 4))
      (dSeq bsFill (dSeq (dAsg bsF (gN 4)) (dRet (dBlt minT (daCons bsM daNil))))))) := rfl
    rw [e, e_runD]
    have n1 : (n : Int) ≤ 100 := by omega
    generalize (sp2 n).map (spD n) = L1 at *
    generalize ((sp2 n).map (rowZ a b p1 p2 n)).map rowD = L2 at *
    rw [List.length_append, List.length_singleton] at M my
    simp only [List.append_assoc, List.cons_append, List.nil_append] at my
    simp -implicitDefEqProofs [startD, n1, f, F, M, my]
    rfl
  · by_cases c : half1 n j = true
    · exact ly _ (List.mem_map.mpr ⟨j, (mem j).mpr ⟨hj, c⟩, rfl⟩)
    · have c2 : ¬ (j : Int) ≤ (n : Int) - (j : Int) := fun h => c (decide_eq_true h)
      have h2 := ly _ (List.mem_map.mpr ⟨n - j, (mem (n - j)).mpr ⟨by omega, decide_eq_true (by omega)⟩, rfl⟩)
      have e : hkF a b p1 p2 n (n - j) = hkF a b p1 p2 n j := by
        unfold hkF
        rw [show ((n - j : Nat) : Int) = (n : Int) - (j : Int) by omega, show (n : Int) - ((n : Int) - (j : Int)) = (j : Int) by omega, Int.add_comm]
      have h3 : hkF a b p1 p2 n k ≤ hkF a b p1 p2 n (n - j) := h2
      omega
omit B in
theorem best_no (S : Store) : M_best_split [.obj t, .int 999, .int 2, .str "down"] S = .exn ⟨"BadRule"⟩ S := by
  simp -implicitDefEqProofs only [M_best_split, e_runD, f_best_split]
  simp -implicitDefEqProofs [startD]
end
end Pr
set_option Elab.async false
set_option linter.all false
set_option maxRecDepth 100000
set_option maxHeartbeats 1000000
namespace Pr
open PySem PySem.Spec PyProof.Rows L2 DL
def paysE : DE := (dLc (diRange1 (dC (.int 6))) (gN 11) dYes (dCall 2 M__law_roll (daCons (dVar 0) (daCons (dC (.int 40)) daNil))) [11])
def sumsE : DE := (dLc (diRange1 (dOp addD (dVar 8) (dC (.int 1)))) (gN 11) dYes (dOp addD (dOp fdivD (dCall 2 M__law_withheld (daCons (dVar 2) (daCons (dVar 11) daNil))) (dC (.int 20))) (dOp fdivD (dCall 2 M__law_withheld (daCons (dVar 2) (daCons (dOp subD (dVar 8) (dVar 11)) daNil))) (dC (.int 20)))) [11])
def yearB : DS :=
  (dSeq (dPar2 5 6 (daCons paysE (daCons (dC (.int 6)) daNil)))
  (dSeq (dAsg (dCall 4 M_over_year (daCons (dVar 1) (daCons (dVar 5) (daCons (dVar 6) (daCons (dC (.str "half up")) daNil))))) (gN 7))
  (dSeq (dIfS (dOrT (dB (dOp neD (dBlt sumLT (daCons (dVar 7) daNil)) (dMeth "Table" "withheld" 3 M_Table_withheld (dVar 1) (daCons (dBlt sumLT (daCons (dVar 5) daNil)) (daCons (dC (.str "half up")) daNil))))) (dB (dOp neD (dCall 4 M_at_end (daCons (dVar 1) (daCons (dVar 5) (daCons (dVar 7) (daCons (dC (.str "half up")) daNil))))) (dC (.int 0)))))
  (dRet (dC (.bl false)))
  dNext)
  (dSeq (dAsg (dCall 2 M__law_roll (daCons (dVar 0) (daCons (dC (.int 40)) daNil))) (gN 8))
  (dSeq (dAsg (dCall 4 M_best_split (daCons (dVar 1) (daCons (dVar 8) (daCons (dC (.int 2)) (daCons (dC (.str "down")) daNil))))) (gT 2 (gsCons (gN 9) (gsCons (gN 10) gsNil))))
  (dSeq (dIfS (dB (dOp neD (dVar 9) (dBlt minT (daCons sumsE daNil))))
  (dRet (dC (.bl false)))
  dNext)
  (dSeq (dIfS (dB (dOp neD (dBlt sumLT (daCons (dVar 10) daNil)) (dVar 8)))
  (dRet (dC (.bl false)))
  dNext)
  (dSeq (dIfS (dB (dOp neD (dOp modD (dCall 4 M_for_two (daCons (dVar 1) (daCons (dVar 3) (daCons (dVar 4) (daCons (dC (.str "half up")) daNil))))) (dC (.int 2))) (dC (.int 0))))
  (dRet (dC (.bl false)))
  dNext)
  (dSeq (dIfS (dB (dOp neD (dCall 5 M_capped (daCons (dVar 3) (daCons (dTup (daCons (dC (.int 1)) (daCons (dC (.int 10)) daNil))) (daCons (dC (.int 20)) (daCons (dC (.int 90)) (daCons (dC (.str "down")) daNil)))))) (dOp fdivD (dBlt maxD (daCons (dC (.int 0)) (daCons (dOp subD (dBlt minD (daCons (dVar 3) (daCons (dC (.int 90)) daNil))) (dC (.int 20))) daNil))) (dC (.int 10)))))
  (dRet (dC (.bl false)))
  dNext)
  (dSeq (dIfS (dOrT (dB (dOp neD (dCall 2 M_credits_used (daCons (dC (.int 10)) (daCons (dTup (daCons (dC (.int 3)) (daCons (dC (.int 5)) (daCons (dC (.int 9)) daNil)))) daNil))) (dTup (daCons (dC (.int 0)) (daCons (dTup (daCons (dC (.int 3)) (daCons (dC (.int 5)) (daCons (dC (.int 2)) daNil)))) daNil))))) (dB (dOp neD (dCall 2 M_credits_used (daCons (dC (.int 4)) (daCons (dTup (daCons (dC (.int 3)) (daCons (dC (.int 5)) (daCons (dC (.int 9)) daNil)))) daNil))) (dTup (daCons (dC (.int 0)) (daCons (dTup (daCons (dC (.int 3)) (daCons (dC (.int 1)) (daCons (dC (.int 0)) daNil)))) daNil))))))
  (dRet (dC (.bl false)))
  dNext)
  (dRet (dC (.bl true)))))))))))))
theorem M_year_eq : M__law_year = runD 12 yearB := rfl

theorem roll {S : Store} {n : Nat} (hd : DiceAt S n) {k : Int} (hk : 0 < k) (hk2 : k < 100000) : ∃ (v : Nat) (S' : Store), (v : Int) < k ∧ M__law_roll [.obj n, .int k] S = .ok (.int (v : Int)) S' ∧ Kp n S S' ∧ DiceAt S' n :=
  roll_ok hd hk (by omega)
theorem TAt.kp {S S' : Store} {t n : Nat} {a b p1 p2 : Int} (H : TAt S t a b p1 p2) (d : DiceAt S n) (k : Kp n S S') : TAt S' t a b p1 p2 := by
  obtain ⟨x, y, z, h⟩ := d
  exact ⟨k.ins (ne_lst_ins h H.ins) H.ins⟩
def IntL (B : Nat) (y : D) : Prop := ∃ v : Nat, v < B ∧ y = .int (v : Int)
theorem ints_of_all2 {B : Nat} : ∀ {ds ys : List D}, All2 (fun _ y => IntL B y) ds ys → ∃ ns : List Int, ys = ns.map D.int ∧ ns.length = ds.length ∧ ∀ n ∈ ns, 0 ≤ n ∧ n < (B : Int)
  | [], [], _ => ⟨[], rfl, rfl, fun _ h => nomatch h⟩
  | _ :: ds, _ :: ys, ⟨⟨v, hv, e⟩, h⟩ => by
    obtain ⟨ns, e2, l, hn⟩ := ints_of_all2 h
    refine ⟨(v : Int) :: ns, by rw [e, e2]; rfl, by simp [l], fun n hm => ?_⟩
    rcases List.mem_cons.mp hm with rfl | hm
    · omega
    · exact hn n hm
  | [], _ :: _, h => h.elim
  | _ :: _, [], h => h.elim
theorem sum_bound : ∀ (ns : List Int) (B : Int), (∀ n ∈ ns, 0 ≤ n ∧ n < B) → 0 ≤ ns.sum ∧ ns.sum ≤ B * (ns.length : Int)
  | [], B, _ => by simp
  | n :: ns, B, h => by
    have h1 := h n List.mem_cons_self
    obtain ⟨a, b⟩ := sum_bound ns B fun x hx => h x (List.mem_cons_of_mem _ hx)
    rw [List.sum_cons, List.length_cons]
    have : B * ((ns.length + 1 : Nat) : Int) = B * (ns.length : Int) + B := by rw [show ((ns.length + 1 : Nat) : Int) = (ns.length : Int) + 1 by omega, Int.mul_add, Int.mul_one]
    omega
theorem pays_ok {n : Nat} {S : Store} (hd : DiceAt S n) (x1 x2 x3 x4 : Option D) : ∃ (ps : List Int) (S' : Store), paysE [some (.obj n), x1, x2, x3, x4, none, none, none, none, none, none, none] S = .ok (.obj S.length) S' ∧ lstAt S' S.length = some (ps.map D.int) ∧ ps.length = 6 ∧ (∀ p ∈ ps, 0 ≤ p ∧ p < 40) ∧ Kp n S S' ∧ DiceAt S' n := by
  obtain ⟨ys, S', q1, q2, q3, q4, q5⟩ := dLc_inv (n := n) (S := S) (S0 := S) (grd := grdT) (fi := diRange1 (dC (.int 6))) (tg := gN 11) (fe := dCall 2 M__law_roll (daCons (dVar 0) (daCons (dC (.int 40)) daNil))) (vs := [11]) (ρ := [some (.obj n), x1, x2, x3, x4, none, none, none, none, none, none, none]) (ds := [.int 0, .int 1, .int 2, .int 3, .int 4, .int 5]) (P := fun _ y => IntL 40 y) (by simp) (fun _ _ => rfl) hd (by simp) (fun d hx S k hd => by
    obtain ⟨v, S', hv, e, k', d'⟩ := roll hd (show (0 : Int) < 40 by decide) (by decide)
    refine ⟨[some (.obj n), x1, x2, x3, x4, none, none, none, none, none, none, some d], .int (v : Int), S', rfl, ?_, ⟨v, by omega, rfl⟩, k', d'⟩
    simp -implicitDefEqProofs [e])
  obtain ⟨ps, e, l, hp⟩ := ints_of_all2 q2
  rw [e] at q3
  exact ⟨ps, S', q1, q3, l, hp, q4, q5⟩
theorem min_ints {n : Nat} {S : Store} {x : Int} {xs : List Int} (h : lstAt S n = some ((x :: xs).map D.int)) : minT [.obj n] S = some (.int (xs.foldl min x), S) := by
  show minD3 [.obj n] S = _
  unfold minD3 minD2
  simp only [lstOf_obj, h, Option.bind_some, intsOf_map]
  rfl
theorem sums_ok {a b p1 p2 : Int} {n : Nat} (B : Tb a b p1 p2) (hn : n ≤ 100) (S : Store) (x0 x1 x3 x4 x5 x6 x7 x9 x10 x11 : Option D) : sumsE [x0, x1, some (stepsD a b p1 p2), x3, x4, x5, x6, x7, some (.int (n : Int)), x9, x10, x11] S = .ok (.obj S.length) (S ++ [.lst (((List.range (n + 1)).map (hkF a b p1 p2 n)).map D.int)]) := by
  have r1 : -1000000000000 ≤ (n : Int) + 1 ∧ (n : Int) + 1 ≤ 1000000000000 := by omega
  have tn : ((n : Int) + 1).toNat = n + 1 := by omega
  have := dLc_map (fi := diRange1 (dOp addD (dVar 8) (dC (.int 1)))) (tg := gN 11) (fe := (dOp addD (dOp fdivD (dCall 2 M__law_withheld (daCons (dVar 2) (daCons (dVar 11) daNil))) (dC (.int 20))) (dOp fdivD (dCall 2 M__law_withheld (daCons (dVar 2) (daCons (dOp subD (dVar 8) (dVar 11)) daNil))) (dC (.int 20))))) (vs := [11]) (ρ := [x0, x1, some (stepsD a b p1 p2), x3, x4, x5, x6, x7, some (.int (n : Int)), x9, x10, x11]) (S := S) (S1 := S) (grd := grdT) (List.range (n + 1)) (fun (i : Nat) => D.int (i : Int)) (fun i => D.int (hkF a b p1 p2 n i))
    (by rw [← rng_nat]; simp -implicitDefEqProofs [r1, tn]) (fun X => rfl) (fun i hi X => by
      have hi2 := List.mem_range.mp hi
      have w1 := law_withheld_ok B (m := (i : Int)) (by omega) (by omega) (S ++ [.lst X])
      have w2 := law_withheld_ok B (m := (n : Int) - (i : Int)) (by omega) (by omega) (S ++ [.lst X])
      have fd : ∀ (k : Int) (S : Store), fdivD (.int k) (.int 20) S = some (.int (k / 20), S) := fun k S => fdiv_small (by decide) (by decide)
      refine ⟨[x0, x1, some (stepsD a b p1 p2), x3, x4, x5, x6, x7, some (.int (n : Int)), x9, x10, some (.int (i : Int))], rfl, ?_⟩
      unfold hkF
      generalize stepsD a b p1 p2 = st at *
      simp -implicitDefEqProofs [w1, w2, fd]) (by simp; omega)
  unfold sumsE
  rw [this, List.map_map]
  rfl
theorem ne_triple (a b c d : Int) (S : Store) : neD (.tup [.int a, .tup [.int b, .int c, .int d]]) (.tup [.int a, .tup [.int b, .int c, .int d]]) S = some (.bl false, S) :=
  neD_same (p := .tuple [.int a, .tuple [.int b, .int c, .int d]]) rfl rfl (by simp [SeqAt.shaped, PyData.canLay0, PyData.canLayAll0, PyData.depth, PyData.depthAll])
theorem law_year_ok {a b p1 p2 m left : Int} {n t : Nat} {S : Store} (B : Tb a b p1 p2) (hd : DiceAt S n) (H : TAt S t a b p1 p2) (hm : 0 ≤ m) (hm2 : m < 1000) (hl : 0 ≤ left) (hl2 : left < 1000) :
    ∃ S', M__law_year [.obj n, .obj t, stepsD a b p1 p2, .int m, .int left] S = .ok (.bl true) S' ∧ Kp n S S' ∧ DiceAt S' n := by
  obtain ⟨ps, S1, e1, q1, l1, b1, k1, d1⟩ := pays_ok hd (some (.obj t)) (some (stepsD a b p1 p2)) (some (.int m)) (some (.int left))
  have H1 := H.kp hd k1
  obtain ⟨su0, su1⟩ := sum_bound ps 40 b1
  rw [l1] at su1
  obtain ⟨R, T2, e2, sR⟩ := over_year_ok B H1 q1 l1 (fun p hp => by have := b1 p hp; omega)
  have i1 : intsOf (ps.map D.int) = some ps := intsOf_map _
  have i2 : intsOf (R.map D.int) = some R := intsOf_map _
  have q2 : lstAt (S1 ++ T2) S.length = some (ps.map D.int) := lstAt_keep _ _ q1
  have H2 := H1.app (T := T2)
  have d2 := d1.app (T := T2)
  have k2 : Kp n S (S1 ++ T2) := k1.trans Kp.app
  generalize hS2 : S1 ++ T2 = S2 at *
  have hh := half_ok B H2 (m := ps.sum) su0 (by omega)
  have ae := at_end_ok B (R := R) H2 q2 su0 (by omega)
  obtain ⟨w, S3, hw, e3, k3, d3⟩ := roll d2 (show (0 : Int) < 40 by decide) (by decide)
  have H3 := H2.kp d2 k3
  obtain ⟨k, T4, kw, e4, lk4⟩ := best_split_ok B (n := w) H3 (by omega)
  have H4 := H3.app (T := T4)
  have d4 := d3.app (T := T4)
  have k4 : Kp n S (S3 ++ T4) := (k2.trans k3).trans Kp.app
  generalize hS4 : S3 ++ T4 = S4 at *
  have e5 := sums_ok B (n := w) (by omega) S4 (some (.obj n)) (some (.obj t)) (some (.int m)) (some (.int left)) (some (.obj S.length)) (some (.int 6)) (some (.tup (R.map D.int))) (some (.int (hkF a b p1 p2 w k))) (some (.tup [.int (k : Int), .int ((w : Int) - (k : Int))])) none
  have q5 : lstAt (S4 ++ [.lst (((List.range (w + 1)).map (hkF a b p1 p2 w)).map D.int)]) S4.length = some (((List.range (w + 1)).map (hkF a b p1 p2 w)).map D.int) := by simp
  obtain ⟨x, xs, hx⟩ : ∃ x xs, (List.range (w + 1)).map (hkF a b p1 p2 w) = x :: xs := by rw [List.range_succ_eq_map, List.map_cons]; exact ⟨_, _, rfl⟩
  have mi : xs.foldl min x = hkF a b p1 p2 w k := by
    have hm := foldl_min_mem xs x
    have hle := foldl_min_le xs x
    have kin : hkF a b p1 p2 w k ∈ x :: xs := by rw [← hx]; exact List.mem_map.mpr ⟨k, List.mem_range.mpr (by omega), rfl⟩
    have h1 : xs.foldl min x ≤ hkF a b p1 p2 w k := by
      rcases List.mem_cons.mp kin with h | h
      · rw [h]; exact hle.1
      · exact hle.2 _ h
    have h2 : xs.foldl min x ∈ x :: xs := by
      rcases hm with h | h
      · rw [h]; exact List.mem_cons_self
      · exact List.mem_cons_of_mem _ h
    rw [← hx] at h2
    obtain ⟨j, hj, ej⟩ := List.mem_map.mp h2
    have := lk4 j (by have := List.mem_range.mp hj; omega)
    omega
  have m5 := min_ints (S := S4 ++ [.lst (((List.range (w + 1)).map (hkF a b p1 p2 w)).map D.int)]) (n := S4.length) (x := x) (xs := xs) (by rw [← hx]; exact q5)
  rw [mi] at m5
  have H5 := H4.app (T := [.lst (((List.range (w + 1)).map (hkF a b p1 p2 w)).map D.int)])
  have d5 := d4.app (T := [.lst (((List.range (w + 1)).map (hkF a b p1 p2 w)).map D.int)])
  have k5 : Kp n S (S4 ++ [.lst (((List.range (w + 1)).map (hkF a b p1 p2 w)).map D.int)]) := k4.trans Kp.app
  generalize hS5 : S4 ++ [DO.lst (((List.range (w + 1)).map (hkF a b p1 p2 w)).map D.int)] = S5 at *
  obtain ⟨X, e6⟩ := for_two_ok B (m := m) (k := left) H5 hm (by omega) hl (by omega)
  have x2 : modD (.int (2 * X)) (.int 2) S5 = some (.int 0, S5) := by rw [modD_int (by decide), show 2 * X % 2 = 0 by omega]
  have ca := capped_ok hm S5
  have fd : fdivD (.int (max 0 (min m 90 - 20))) (.int 10) S5 = some (.int (max 0 (min m 90 - 20) / 10), S5) := fdiv_small (by decide) (by decide)
  obtain ⟨T6, c1⟩ := credits_1 S5
  obtain ⟨S6, hS6⟩ : ∃ S6, S5 ++ T6 = S6 := ⟨_, rfl⟩
  rw [hS6] at c1
  obtain ⟨T7, c2⟩ := credits_2 S6
  have lkw' := lkw B
  have skw : (k : Int) + ((w : Int) - (k : Int)) = (w : Int) := by omega
  refine ⟨S6 ++ T7, ?_, by rw [← hS6]; exact (k5.trans Kp.app).trans Kp.app, by rw [← hS6]; exact d5.app.app⟩
  rw [M_year_eq, e_runD]
  unfold yearB
  generalize stepsD a b p1 p2 = st at *
  generalize ps.map D.int = PD at *
  generalize R.map D.int = RD at *
  simp -implicitDefEqProofs [startD, e1, e2, hS2, i2, sR, q2, i1, H2.ins, lkw', hh, ae]
  simp -implicitDefEqProofs [e3, e4, hS4, e5, hS5, m5]
  simp -implicitDefEqProofs [skw, e6, x2, ca, fd, c1, hS6, c2, ne_triple]
end Pr
set_option Elab.async false
set_option linter.all false
set_option maxRecDepth 100000
set_option maxHeartbeats 1000000
namespace Pr
open PySem PySem.Spec PyProof.Rows L2 DL
theorem set_lst_ne {S : Store} {i j : Nat} {xs ys : List D} (h : lstAt S i = some xs) (ne : i ≠ j) : lstAt (S.set j (.lst ys)) i = some xs := by
  unfold lstAt at h ⊢
  rw [List.getElem?_set_ne (Ne.symm ne)]
  exact h
theorem set_lst_eq {S : Store} {i : Nat} {xs ys : List D} (h : lstAt S i = some xs) : lstAt (S.set i (.lst ys)) i = some ys := by
  unfold lstAt
  rw [List.getElem?_set_self (lt_of_lst h)]
/-- only what stands at xs may change -/
structure Ch (xs : List Nat) (S S' : Store) : Prop where
  len : S.length ≤ S'.length
  at_ : ∀ i, i ∉ xs → i < S.length → S'[i]? = S[i]?
theorem Ch.refl {xs : List Nat} {S : Store} : Ch xs S S := ⟨Nat.le_refl _, fun _ _ _ => rfl⟩
theorem Ch.trans {xs : List Nat} {S S1 S2 : Store} (a : Ch xs S S1) (b : Ch xs S1 S2) : Ch xs S S2 := ⟨Nat.le_trans a.len b.len, fun i h1 h2 => (b.at_ i h1 (Nat.lt_of_lt_of_le h2 a.len)).trans (a.at_ i h1 h2)⟩
theorem Ch.app {xs : List Nat} {S T : Store} : Ch xs S (S ++ T) := ⟨by simp, fun i _ h => by rw [List.getElem?_append_left h]⟩
theorem Ch.set {xs : List Nat} {S : Store} {n : Nat} {o : DO} (h : n ∈ xs) : Ch xs S (S.set n o) := ⟨by simp, fun i h1 _ => by rw [List.getElem?_set_ne (fun e => h1 (by rw [← e]; exact h))]⟩
theorem Ch.set_new {xs : List Nat} {S S1 : Store} {n : Nat} {o : DO} (c : Ch xs S S1) (h : S.length ≤ n) : Ch xs S (S1.set n o) := ⟨by simpa using c.len, fun i h1 h2 => by rw [List.getElem?_set_ne (by omega)]; exact c.at_ i h1 h2⟩
theorem Ch.lst {xs : List Nat} {S S1 : Store} (a : Ch xs S S1) {i : Nat} {ds : List D} (hi : i ∉ xs) (h : lstAt S i = some ds) : lstAt S1 i = some ds := by
  have := a.at_ i hi (lt_of_lst h)
  unfold lstAt at h ⊢
  rw [this]
  exact h
theorem ch_of_kp {n : Nat} {S S' : Store} (k : Kp n S S') : Ch [n] S S' := ⟨k.len, fun i h1 h2 => k.at_ i (by simpa using h1) h2⟩
theorem kp_ch {n : Nat} {xs : List Nat} {S0 S S' : Store} (k : Kp n S0 S) (c : Ch xs S S') (h : ∀ x ∈ xs, S0.length ≤ x) : Kp n S0 S' :=
  ⟨Nat.le_trans k.len c.len, fun i h1 h2 => by rw [c.at_ i (fun hi => by have := h i hi; omega) (Nat.lt_of_lt_of_le h2 k.len)]; exact k.at_ i h1 h2⟩
theorem dice_ch {n : Nat} {xs : List Nat} {S S' : Store} (d : DiceAt S n) (c : Ch xs S S') (h : n ∉ xs) : DiceAt S' n := by
  obtain ⟨a, b, f, h1⟩ := d
  exact ⟨a, b, f, c.lst h h1⟩

theorem told_rule (S : Store) : toldO raisable tellers (.exn ⟨"BadRule"⟩ S) = .ok (.str "rule") S := rfl
theorem told_no (S : Store) : toldO raisable tellers (.exn ⟨"NoAnswer"⟩ S) = .ok (.str "no answer") S := rfl
theorem ne_rule (S : Store) : neD (.str "rule") (.str "rule") S = some (.bl false, S) := by rw [neD_str (by decide +kernel) (by decide +kernel)]; rfl
theorem eq_rule (S : Store) : eqD (.str "rule") (.str "rule") S = some (.bl true, S) := by rw [eqD_str (by decide +kernel) (by decide +kernel)]; rfl
theorem ne_no (S : Store) : neD (.str "no answer") (.str "no answer") S = some (.bl false, S) := by rw [neD_str (by decide +kernel) (by decide +kernel)]; rfl
/-! ### a slip -/
inductive Nm where
  | pay | trip | wh | f | g | one | two
deriving DecidableEq
inductive So where
  | pay | free | held
deriving DecidableEq
def nmS : Nm → Str
  | .pay => "pay"
  | .trip => "trip"
  | .wh => "withheld"
  | .f => "f"
  | .g => "g"
  | .one => "one"
  | .two => "two"
def soS : So → Str
  | .pay => "pay"
  | .free => "free"
  | .held => "held"
abbrev Lns := List (Nm × So × Int)
def lnD (z : Nm × So × Int) : D := .tup [.str (nmS z.1), .str (soS z.2.1), .int z.2.2]
theorem so_in (o : So) (S : Store) : notInD (.str (soS o)) (.tup [.str "pay", .str "free", .str "held"]) S = some (.bl false, S) := by
  cases o <;> rfl
theorem sh_so (o : So) : SeqAt.shaped (.str (soS o)) = true := by cases o <;> decide +kernel
theorem eq_so (x y : So) (S : Store) : eqD (.str (soS x)) (.str (soS y)) S = some (.bl (decide (x = y)), S) := by
  rw [eqD_str (sh_so x) (sh_so y)]
  cases x <;> cases y <;> rfl
theorem eqV_nm (x y : Nm) : eqV (.str (nmS y)) (.str (nmS x)) = decide (y = x) := by
  cases x <;> cases y <;> decide +kernel
theorem flats_nm : ∀ (ls : Lns), flatsOf (ls.map fun z => D.str (nmS z.1)) = some (ls.map fun z => V.str (nmS z.1))
  | [] => rfl
  | n :: ns => by
    rw [List.map_cons, List.map_cons]
    unfold flatsOf
    rw [flats_nm ns]
    rfl
theorem inV_nm (x : Nm) : ∀ (ls : Lns), inV (.str (nmS x)) (ls.map fun z => V.str (nmS z.1)) = decide (x ∈ ls.map (·.1))
  | [] => rfl
  | n :: ns => by
    have ih := inV_nm x ns
    unfold inV at ih ⊢
    rw [List.map_cons, List.any_cons, ih, eqV_nm, List.map_cons]
    by_cases c : n.1 = x
    · simp [c]
    · have c2 : ¬ x = n.1 := fun h => c h.symm
      simp [c, c2]
theorem in_nm {l : Nat} {x : Nm} {ls : Lns} {S : Store} (h : lstAt S l = some (ls.map fun z => D.str (nmS z.1))) : inD (.str (nmS x)) (.obj l) S = some (.bl (decide (x ∈ ls.map (·.1))), S) := by
  unfold inD
  rw [seqAt_obj, h, Option.bind_some, flats_nm]
  show some (D.bl (inV (.str (nmS x)) (ls.map fun z => V.str (nmS z.1))), S) = _
  rw [inV_nm]
def slF (L : Nat) : List (Str × D) := [("lines", .obj L)]
theorem lk_lines (L : Nat) : List.lookup (Str.ofString "lines") (slF L) = some (.obj L) := rfl
theorem lk_line (L : Nat) : List.lookup (Str.ofString "line") (slF L) = none := rfl
theorem lk_sum (L : Nat) : List.lookup (Str.ofString "sum_of") (slF L) = none := rfl
theorem lk_gross (L : Nat) : List.lookup (Str.ofString "gross") (slF L) = none := rfl
theorem lk_net (L : Nat) : List.lookup (Str.ofString "net") (slF L) = none := rfl
theorem lk_hold (L : Nat) : List.lookup (Str.ofString "hold") (slF L) = none := rfl
structure SlAt (S : Store) (s L : Nat) (ls : Lns) : Prop where
  ins : insAt S (.obj s) = some ("Slip", slF L)
  l : lstAt S L = some (ls.map lnD)
theorem SlAt.app {S T : Store} {s L : Nat} {ls : Lns} (H : SlAt S s L ls) : SlAt (S ++ T) s L ls := ⟨insAt_keep _ _ H.ins, lstAt_keep _ _ H.l⟩
theorem SlAt.ne {S : Store} {s L : Nat} {ls : Lns} (H : SlAt S s L ls) : s ≠ L := ne_lst_ins H.l H.ins
theorem SlAt.lts {S : Store} {s L : Nat} {ls : Lns} (H : SlAt S s L ls) : s < S.length ∧ L < S.length := ⟨lt_of_ins H.ins, lt_of_lst H.l⟩
theorem ins_set_ne {S : Store} {i j : Nat} {o : DO} {x : String × List (Str × D)} (h : insAt S (.obj i) = some x) (ne : i ≠ j) : insAt (S.set j o) (.obj i) = some x := by
  unfold insAt at h ⊢
  dsimp only at h ⊢
  rw [List.getElem?_set_ne (Ne.symm ne)]
  exact h
theorem SlAt.put {S : Store} {s L : Nat} {ls : Lns} (H : SlAt S s L ls) (ls' : Lns) : SlAt (S.set L (.lst (ls'.map lnD))) s L ls' := ⟨ins_set_ne H.ins H.ne, set_lst_eq H.l⟩
theorem SlAt.kp {S S' : Store} {n s L : Nat} {ls : Lns} (H : SlAt S s L ls) (k : Kp n S S') (h1 : s ≠ n) (h2 : L ≠ n) : SlAt S' s L ls := ⟨k.ins h1 H.ins, k.lst h2 H.l⟩
def namesE : DE := (dLc (diSeq (dFld ["Slip"] "lines" (dVar 0))) (gN 4) dYes (dOp ixD (dVar 4) (dC (.int 0))) [4])
theorem names_ok {S : Store} {s L : Nat} {ls : Lns} (H : SlAt S s L ls) (hl : ls.length < 1000) (x1 x2 x3 x4 : Option D) : namesE [some (.obj s), x1, x2, x3, x4] S = .ok (.obj S.length) (S ++ [.lst (ls.map fun z => D.str (nmS z.1))]) := by
  have := dLc_map (fi := diSeq (dFld ["Slip"] "lines" (dVar 0))) (tg := gN 4) (fe := (dOp ixD (dVar 4) (dC (.int 0)))) (vs := [4]) (ρ := [some (.obj s), x1, x2, x3, x4]) (S := S) (S1 := S) (grd := grdL L (ls.map lnD)) ls lnD (fun z => D.str (nmS z.1))
    (by
      have hl := H.l
      generalize ls.map lnD = L1 at *
      simp -implicitDefEqProofs [H.ins, lk_lines, hl]) (fun X => grdL_iff.mpr (lstAt_keep _ _ H.l)) (fun z hz X => ⟨[some (.obj s), x1, x2, x3, some (lnD z)], rfl, by
      have a0 : atI [D.str (nmS z.1), .str (soS z.2.1), .int z.2.2] 0 = some (.str (nmS z.1)) := rfl
      unfold lnD
      simp -implicitDefEqProofs [a0]⟩) (by omega)
  unfold namesE
  rw [this]
theorem line_ok {S : Store} {s L : Nat} {ls : Lns} {x : Nm} {o : So} {c : Int} (H : SlAt S s L ls) (hl : ls.length < 1000) (hx : x ∉ ls.map (·.1)) (hc : 0 ≤ c) :
    ∃ S', M_Slip_line [.obj s, .str (nmS x), .str (soS o), .int c] S = .ok .non S' ∧ SlAt S' s L (ls ++ [(x, o, c)]) ∧ Ch [L] S S' := by
  have nm := names_ok H hl (some (.str (nmS x))) (some (.str (soS o))) (some (.int c)) none
  have H1 := H.app (T := [.lst (ls.map fun z => D.str (nmS z.1))])
  have ii := in_nm (x := x) (S := S ++ [.lst (ls.map fun z => D.str (nmS z.1))]) (l := S.length) (ls := ls) (by simp)
  rw [show decide (x ∈ ls.map (·.1)) = false from decide_eq_false hx] at ii
  have c0 : ¬ c < 0 := by omega
  have hL := H1.l
  have H2 := H1.put (ls ++ [(x, o, c)])
  rw [List.map_append, List.map_cons, List.map_nil] at H2
  refine ⟨_, ?_, H2, Ch.app.trans (Ch.set (by simp))⟩
  have e : M_Slip_line = runD 5 (dSeq (dIfS (dOrT (dB (dOp notInD (dVar 2) (dTup (daCons (dC (.str "pay")) (daCons (dC (.str "free")) (daCons (dC (.str "held")) daNil)))))) (dOrT (dB (dOp ltD (dVar 3) (dC (.int 0)))) (dB (dOp inD (dVar 1) namesE)))) (dRaise "BadRule") dNext)
    (dDrop (dApp (dFld ["Slip"] "lines" (dVar 0)) (dTup (daCons (dVar 1) (daCons (dVar 2) (daCons (dVar 3) daNil))))))) := rfl
  rw [e, e_runD]
  have si := so_in o
  have hl2 : (ls.map lnD).length < 1000000 := by rw [List.length_map]; omega
  rw [show lnD (x, o, c) = .tup [.str (nmS x), .str (soS o), .int c] from rfl]
  generalize ls.map lnD = LL at *
  generalize (ls.map fun z => D.str (nmS z.1)) = NN at *
  generalize hS1 : S ++ [DO.lst NN] = S1 at *
  generalize nmS x = xs at *
  generalize soS o = os at *
  simp -implicitDefEqProofs [startD, si, c0, nm, ii, H1.ins, lk_lines, hL, hl2]
theorem line_no {S : Store} {s L : Nat} {ls : Lns} {x : Nm} {o : So} {c : Int} (H : SlAt S s L ls) (hl : ls.length < 1000) (hx : x ∈ ls.map (·.1)) (hc : 0 ≤ c) :
    ∃ T, M_Slip_line [.obj s, .str (nmS x), .str (soS o), .int c] S = .exn ⟨"BadRule"⟩ (S ++ T) := by
  have nm := names_ok H hl (some (.str (nmS x))) (some (.str (soS o))) (some (.int c)) none
  have ii := in_nm (x := x) (S := S ++ [.lst (ls.map fun z => D.str (nmS z.1))]) (l := S.length) (ls := ls) (by simp)
  rw [show decide (x ∈ ls.map (·.1)) = true from decide_eq_true hx] at ii
  have c0 : ¬ c < 0 := by omega
  refine ⟨[.lst (ls.map fun z => D.str (nmS z.1))], ?_⟩
  have e : M_Slip_line = runD 5 (dSeq (dIfS (dOrT (dB (dOp notInD (dVar 2) (dTup (daCons (dC (.str "pay")) (daCons (dC (.str "free")) (daCons (dC (.str "held")) daNil)))))) (dOrT (dB (dOp ltD (dVar 3) (dC (.int 0)))) (dB (dOp inD (dVar 1) namesE)))) (dRaise "BadRule") dNext)
    (dDrop (dApp (dFld ["Slip"] "lines" (dVar 0)) (dTup (daCons (dVar 1) (daCons (dVar 2) (daCons (dVar 3) daNil))))))) := rfl
  rw [e, e_runD]
  have si := so_in o
  generalize (ls.map fun z => D.str (nmS z.1)) = NN at *
  generalize hS1 : S ++ [DO.lst NN] = S1 at *
  generalize nmS x = xs at *
  generalize soS o = os at *
  simp -implicitDefEqProofs [startD, si, c0, nm, ii]
end Pr
set_option Elab.async false
set_option linter.all false
set_option maxRecDepth 100000
set_option maxHeartbeats 1000000
namespace Pr
open PySem PySem.Spec PyProof.Rows L2 DL
def sumO (o : So) : Lns → Int
  | [] => 0
  | z :: ls => (if z.2.1 = o then z.2.2 else 0) + sumO o ls
theorem sumO_app (o : So) : ∀ (a b : Lns), sumO o (a ++ b) = sumO o a + sumO o b
  | [], b => by simp [sumO]
  | z :: a, b => by rw [List.cons_append, sumO, sumO, sumO_app o a b]; omega
theorem sumO_loop {S : Store} {grd : Store → Bool} (hg : grd S = true) {x0 : Option D} {o : So} : ∀ (ls : Lns) (acc : Int), sumL grd (gT 3 (gsCons (gN 2) (gsCons (gN 3) (gsCons (gN 4) gsNil)))) (dB (dOp eqD (dVar 3) (dVar 1))) (dVar 4) [x0, some (.str (soS o)), none, none, none] (ls.map lnD) acc S = .ok (acc + sumO o ls) S
  | [], acc => by simp [hg, sumO]
  | z :: ls, acc => by
    have ih := sumO_loop hg (x0 := x0) (o := o) ls
    have es := eq_so z.2.1 o S
    by_cases c : z.2.1 = o
    · rw [List.map_cons, sumO, if_pos c]
      rw [decide_eq_true c] at es
      have ih2 := ih (acc + z.2.2)
      rw [Int.add_assoc] at ih2
      generalize soS o = os at *
      generalize hq : soS z.2.1 = qs at *
      rw [show lnD z = .tup [.str (nmS z.1), .str qs, .int z.2.2] by rw [← hq]; rfl]
      generalize ls.map lnD = LL at *
      simp -implicitDefEqProofs [hg, es, ih2]
    · rw [List.map_cons, sumO, if_neg c, Int.zero_add]
      rw [decide_eq_false c] at es
      have ih2 := ih acc
      generalize soS o = os at *
      generalize hq : soS z.2.1 = qs at *
      rw [show lnD z = .tup [.str (nmS z.1), .str qs, .int z.2.2] by rw [← hq]; rfl]
      generalize ls.map lnD = LL at *
      simp -implicitDefEqProofs [hg, es, ih2]
section
variable {S : Store} {s L : Nat} {ls : Lns} (H : SlAt S s L ls)
include H
theorem sum_ok (o : So) : M_Slip_sum_of [.obj s, .str (soS o)] S = .ok (.int (sumO o ls)) S := by
  have z := sumO_loop (S := S) (grd := grdL L (ls.map lnD)) (grdL_iff.mpr H.l) (x0 := some (.obj s)) (o := o) ls 0
  rw [Int.zero_add] at z
  have hl := H.l
  generalize ls.map lnD = LL at *
  generalize soS o = os at *
  simp -implicitDefEqProofs only [M_Slip_sum_of, e_runD, f_Slip_sum_of]
  simp -implicitDefEqProofs [startD, H.ins, lk_lines, hl, z]
theorem gross_ok : M_Slip_gross [.obj s] S = .ok (.int (sumO .pay ls + sumO .free ls)) S := by
  have s1 := sum_ok H .pay
  have s2 := sum_ok H .free
  rw [show soS .pay = "pay" from rfl] at s1
  rw [show soS .free = "free" from rfl] at s2
  simp -implicitDefEqProofs only [M_Slip_gross, e_runD, f_Slip_gross]
  simp -implicitDefEqProofs [startD, H.ins, lk_sum, s1, s2]
theorem net_ok : M_Slip_net [.obj s] S = .ok (.int (sumO .pay ls + sumO .free ls - sumO .held ls)) S := by
  have s1 := gross_ok H
  have s2 := sum_ok H .held
  rw [show soS .held = "held" from rfl] at s2
  simp -implicitDefEqProofs only [M_Slip_net, e_runD, f_Slip_net]
  simp -implicitDefEqProofs [startD, H.ins, lk_sum, lk_gross, s1, s2]
end
theorem slip_init (S : Store) : M_Slip___init__ [.obj S.length] (S ++ [.ins "Slip" []]) = .ok .non (S ++ [.ins "Slip" (slF (S.length + 1)), .lst []]) := by
  have pp : ∀ d : D, putD (Str.ofString "lines") d ([] : List (Str × D)) = [(Str.ofString "lines", d)] := fun d => rfl
  simp -implicitDefEqProofs only [M_Slip___init__, e_runD, f_Slip___init__]
  simp -implicitDefEqProofs [startD, pp, slF]
theorem slip_new (S : Store) : SlAt (S ++ [.ins "Slip" (slF (S.length + 1)), .lst []]) S.length (S.length + 1) [] := by
  refine ⟨?_, ?_⟩
  · unfold insAt; dsimp only; rw [List.getElem?_append_right (Nat.le_refl _), Nat.sub_self]; rfl
  · unfold lstAt; rw [List.getElem?_append_right (by omega), show S.length + 1 - S.length = 1 by omega]; rfl
/-! ### a slip made of a pay -/
def fundsD (p : Int) : D := .tup [.tup [.str "f", .tup [.int 1, .int 10], .int 90], .tup [.str "g", .tup [.int p, .int 20], .int 500]]
def heF (m : Int) : Int := hu (min m 90 * 1) 10
def heG (p m : Int) : Int := hu (min m 500 * p) 20
def linesF (b : Bool) (a c p1 p2 p m : Int) : Lns := ((.pay, .pay, m) :: (if b = true then [(.trip, .free, 7)] else [])) ++ [(.wh, .held, tw a c p1 p2 m / 20), (.f, .held, heF m), (.g, .held, heG p m)]
def freeD (b : Bool) : D := if b = true then .tup [.tup [.str "trip", .int 7]] else .tup []
structure New (S S' : Store) (s L : Nat) : Prop where
  s0 : S.length ≤ s
  L0 : S.length ≤ L
  kp : ∀ n, Kp n S S'
theorem kp_new {S S1 S2 : Store} {L : Nat} (k : ∀ n, Kp n S S1) (c : Ch [L] S1 S2) (h : S.length ≤ L) : ∀ n, Kp n S S2 := fun n =>
  ⟨Nat.le_trans (k n).len c.len, fun i h1 h2 => by rw [c.at_ i (by simp; omega) (Nat.lt_of_lt_of_le h2 (k n).len)]; exact (k n).at_ i h1 h2⟩
end Pr
set_option Elab.async false
set_option linter.all false
set_option maxRecDepth 100000
set_option maxHeartbeats 1000000
namespace Pr
open PySem PySem.Spec PyProof.Rows L2 DL
theorem TAt.ch {S S' : Store} {t L : Nat} {a b p1 p2 : Int} (H : TAt S t a b p1 p2) (c : Ch [L] S S') (h : t ≠ L) : TAt S' t a b p1 p2 := by
  refine ⟨?_⟩
  have hi := H.ins
  have := c.at_ t (by simp; exact h) (lt_of_ins hi)
  unfold insAt at hi ⊢
  dsimp only at hi ⊢
  rw [this]
  exact hi
theorem heF_nn {m : Int} (h : 0 ≤ m) : 0 ≤ heF m := hu_nn (by omega) (by decide)
theorem heG_nn {p m : Int} (hp : 0 ≤ p) (h : 0 ≤ m) : 0 ≤ heG p m := hu_nn (Int.mul_nonneg (by omega) hp) (by decide)
theorem fund_f {m : Int} (h : 0 ≤ m) (S : Store) : M_times [.tup [.int (min m 90), .int 1], .tup [.int 1, .int 10]] S = .ok (pt (Rat.divInt (min m 90 * 1) 10)) S ∧ M_rounded [pt (Rat.divInt (min m 90 * 1) 10), .str "half up"] S = .ok (.int (heF m)) S :=
  ⟨times_tup (by omega) (by decide) (by decide) (by decide) S, rounded_part (by decide) (by omega) (by omega) (by decide) S⟩
theorem fund_g {p m : Int} (hp : 0 ≤ p) (hp2 : p ≤ 10) (h : 0 ≤ m) (S : Store) : M_times [.tup [.int (min m 500), .int 1], .tup [.int p, .int 20]] S = .ok (pt (Rat.divInt (min m 500 * p) 20)) S ∧ M_rounded [pt (Rat.divInt (min m 500 * p) 20), .str "half up"] S = .ok (.int (heG p m)) S := by
  have b1 : 0 ≤ min m 500 * p := Int.mul_nonneg (by omega) hp
  have b2 : min m 500 * p ≤ 500 * 10 := by
    have h1 : min m 500 * p ≤ 500 * p := Int.mul_le_mul_of_nonneg_right (by omega) hp
    omega
  exact ⟨times_tup (by omega) (by omega) (by decide) (by decide) S, rounded_part (by decide) b1 (by omega) (by decide) S⟩
theorem made_ok {a c p1 p2 p m : Int} {t : Nat} {S : Store} (b : Bool) (B : Tb a c p1 p2) (H : TAt S t a c p1 p2) (hp : 0 ≤ p) (hp2 : p ≤ 10) (h0 : 0 ≤ m) (h1 : m < 2 ^ 30) :
    ∃ s L S', M_made [.tup [.tup [.str "pay", .int m]], freeD b, .obj t, fundsD p] S = .ok (.obj s) S' ∧ SlAt S' s L (linesF b a c p1 p2 p m) ∧ New S S' s L := by
  have tl := lt_of_ins H.ins
  have A0 := slip_new S
  have ini := slip_init S
  obtain ⟨S0, hS0⟩ : ∃ S0 : Store, S ++ [.ins "Slip" (slF (S.length + 1)), .lst []] = S0 := ⟨_, rfl⟩
  rw [hS0] at A0 ini
  have k0 : ∀ n, Kp n S S0 := fun n => by rw [← hS0]; exact Kp.app
  have H0 : TAt S0 t a c p1 p2 := by rw [← hS0]; exact H.app
  obtain ⟨S1, e1, A1, c1⟩ := line_ok (x := .pay) (o := .pay) (c := m) A0 (by simp) (by simp) h0
  rw [show nmS .pay = "pay" from rfl, show soS .pay = "pay" from rfl] at e1
  have H1 := H0.ch c1 (by omega)
  have k1 := kp_new k0 c1 (by omega)
  have mid : ∃ S2, (∀ x0 x2 x3 u5 u6 x7 x8 x9, ∃ v5 v6, (dFor (diSeq (dVar 1)) (gT 2 (gsCons (gN 5) (gsCons (gN 6) gsNil))) (dDrop (dMeth "Slip" "line" 4 M_Slip_line (dVar 4) (daCons (dVar 5) (daCons (dC (.str "free")) (daCons (dVar 6) daNil)))))) [x0, some (freeD b), x2, x3, some (.obj S.length), u5, u6, x7, x8, x9] S1 = .nx [x0, some (freeD b), x2, x3, some (.obj S.length), v5, v6, x7, x8, x9] S2) ∧
      SlAt S2 S.length (S.length + 1) ((.pay, .pay, m) :: (if b = true then [(.trip, .free, 7)] else [])) ∧ Ch [S.length + 1] S1 S2 := by
    cases b with
    | false => exact ⟨S1, fun x0 x2 x3 u5 u6 x7 x8 x9 => ⟨u5, u6, by simp -implicitDefEqProofs [freeD]⟩, A1, Ch.refl⟩
    | true =>
      obtain ⟨S2, e2, A2, c2⟩ := line_ok (x := .trip) (o := .free) (c := 7) A1 (by simp) (by simp) (by decide)
      rw [show nmS .trip = "trip" from rfl, show soS .free = "free" from rfl] at e2
      exact ⟨S2, fun x0 x2 x3 u5 u6 x7 x8 x9 => ⟨some (.str "trip"), some (.int 7), by simp -implicitDefEqProofs [freeD, A1.ins, lk_line, e2]⟩, A2, c2⟩
  obtain ⟨S2, e2, A2, c2⟩ := mid
  have H2 := H1.ch c2 (by omega)
  have k2 := kp_new k1 c2 (by omega)
  have sm := sum_ok A2 .pay
  have sv : sumO .pay ((.pay, .pay, m) :: (if b = true then [(.trip, .free, 7)] else [])) = m := by cases b <;> simp [sumO]
  rw [sv, show soS .pay = "pay" from rfl] at sm
  have dn := down_ok B H2 h0 h1
  have tb := tw_b B h0 h1
  have ll : ((.pay, .pay, m) :: (if b = true then [(.trip, .free, 7)] else []) : Lns).length ≤ 2 := by cases b <;> simp
  obtain ⟨S3, e3, A3, c3⟩ := line_ok (x := .wh) (o := .held) (c := tw a c p1 p2 m / 20) A2 (by omega) (by cases b <;> simp) (by omega)
  rw [show nmS .wh = "withheld" from rfl, show soS .held = "held" from rfl] at e3
  have k3 := kp_new k2 c3 (by omega)
  have F := fund_f h0 S3
  obtain ⟨S4, e4, A4, c4⟩ := line_ok (x := .f) (o := .held) (c := heF m) A3 (by simp at ll ⊢; omega) (by cases b <;> simp) (heF_nn h0)
  rw [show nmS .f = "f" from rfl, show soS .held = "held" from rfl] at e4
  have k4 := kp_new k3 c4 (by omega)
  have G := fund_g hp hp2 h0 S4
  obtain ⟨S5, e5, A5, c5⟩ := line_ok (x := .g) (o := .held) (c := heG p m) A4 (by simp at ll ⊢; omega) (by cases b <;> simp) (heG_nn hp h0)
  rw [show nmS .g = "g" from rfl, show soS .held = "held" from rfl] at e5
  have k5 := kp_new k4 c5 (by omega)
  rw [List.append_assoc, List.append_assoc] at A5
  refine ⟨S.length, S.length + 1, S5, ?_, A5, ⟨Nat.le_refl _, by omega, k5⟩⟩
  have lk := lkw B
  obtain ⟨v5, v6, e2'⟩ := e2 (some (.tup [.tup [.str "pay", .int m]])) (some (.obj t)) (some (fundsD p)) (some (.str "pay")) (some (.int m)) none none none
  have e : M_made = runD 10 (dSeq (dAsg (dMake "Slip" 1 M_Slip___init__ daNil) (gN 4))
    (dSeq (dFor (diSeq (dVar 0)) (gT 2 (gsCons (gN 5) (gsCons (gN 6) gsNil))) (dDrop (dMeth "Slip" "line" 4 M_Slip_line (dVar 4) (daCons (dVar 5) (daCons (dC (.str "pay")) (daCons (dVar 6) daNil))))))
    (dSeq (dFor (diSeq (dVar 1)) (gT 2 (gsCons (gN 5) (gsCons (gN 6) gsNil))) (dDrop (dMeth "Slip" "line" 4 M_Slip_line (dVar 4) (daCons (dVar 5) (daCons (dC (.str "free")) (daCons (dVar 6) daNil))))))
    (dSeq (dAsg (dMeth "Slip" "sum_of" 2 M_Slip_sum_of (dVar 4) (daCons (dC (.str "pay")) daNil)) (gN 7))
    (dSeq (dDrop (dMeth "Slip" "line" 4 M_Slip_line (dVar 4) (daCons (dC (.str "withheld")) (daCons (dC (.str "held")) (daCons (dMeth "Table" "withheld" 3 M_Table_withheld (dVar 2) (daCons (dVar 7) (daCons (dC (.str "down")) daNil))) daNil)))))
    (dSeq (dFor (diSeq (dVar 3)) (gT 3 (gsCons (gN 5) (gsCons (gN 8) (gsCons (gN 9) gsNil)))) (dDrop (dMeth "Slip" "line" 4 M_Slip_line (dVar 4) (daCons (dVar 5) (daCons (dC (.str "held")) (daCons (dCall 2 M_rounded (daCons (dCall 2 M_times (daCons (dTup (daCons (dBlt minD (daCons (dVar 7) (daCons (dVar 9) daNil))) (daCons (dC (.int 1)) daNil))) (daCons (dVar 8) daNil))) (daCons (dC (.str "half up")) daNil))) daNil))))))
    (dRet (dVar 4)))))))) := rfl
  rw [e, e_runD]
  generalize hFS : (dFor (diSeq (dVar 1)) (gT 2 (gsCons (gN 5) (gsCons (gN 6) gsNil))) (dDrop (dMeth "Slip" "line" 4 M_Slip_line (dVar 4) (daCons (dVar 5) (daCons (dC (.str "free")) (daCons (dVar 6) daNil)))))) = FS at *
  obtain ⟨F1, F2⟩ := F
  obtain ⟨G1, G2⟩ := G
  generalize pt (Rat.divInt (min m 90 * 1) 10) = Q1 at *
  generalize pt (Rat.divInt (min m 500 * p) 20) = Q2 at *
  generalize freeD b = FD at *
  unfold fundsD at e2' ⊢
  simp -implicitDefEqProofs [startD, ini, A0.ins, lk_line, e1, e2', A2.ins, lk_sum, sm, H2.ins, lk, dn, e3, A3.ins, F1, F2, e4, A4.ins, G1, G2, e5]
end Pr
set_option Elab.async false
set_option linter.all false
set_option maxRecDepth 100000
set_option maxHeartbeats 1000000
namespace Pr
open PySem PySem.Spec PyProof.Rows L2 DL
def heA (a c p1 p2 p m : Int) : Int := tw a c p1 p2 m / 20 + heF m + heG p m
def nf (a c p1 p2 p m : Int) : Int := m - heA a c p1 p2 p m
theorem lines_sum (b : Bool) (a c p1 p2 p m : Int) : sumO .pay (linesF b a c p1 p2 p m) = m ∧ sumO .free (linesF b a c p1 p2 p m) = (if b = true then 7 else 0) ∧ sumO .held (linesF b a c p1 p2 p m) = heA a c p1 p2 p m := by
  unfold linesF heA
  cases b <;> simp [sumO] <;> omega
theorem lcD_none_inv {P : Store → Prop} {grd : Store → Bool} {tg : DG} {tt : DT} {fe : DE} {ρ : DEnv} {n : Nat} (hg : ∀ S, P S → grd S = true) : ∀ (ds : List D) (S : Store), P S → (∀ d ∈ ds, ∀ S, P S → ∃ ρ1 S', tg d ρ S = .nx ρ1 S ∧ tt ρ1 S = .ok false S' ∧ P S') → ∃ S', lcD grd tg tt fe n ρ ds S = .ok () S' ∧ P S'
  | [], S, hS, h => ⟨S, by rw [lcD_nil, if_pos (hg S hS)], hS⟩
  | d :: ds, S, hS, h => by
    obtain ⟨ρ1, S1, h1, h2, h3⟩ := h d List.mem_cons_self S hS
    obtain ⟨S', z, hz⟩ := lcD_none_inv (fe := fe) (n := n) hg ds S1 h3 fun x hx => h x (List.mem_cons_of_mem _ hx)
    refine ⟨S', ?_, hz⟩
    rw [lcD_cons, if_pos (hg S hS), h1, lcG_nx, h2, lcE_ok, if_neg (by decide), z]
section
variable {a c p1 p2 p m : Int} {t : Nat} {S : Store} (B : Tb a c p1 p2) (hp : 0 ≤ p) (hp2 : p ≤ 10)
include B hp hp2
theorem heA_mono {k : Int} (h : m ≤ k) : heA a c p1 p2 p m ≤ heA a c p1 p2 p k := by
  have h1 := tw_mono B h
  have h2 : heF m ≤ heF k := hu_mono (by omega) (by decide)
  have h3 : heG p m ≤ heG p k := hu_mono (Int.mul_le_mul_of_nonneg_right (by omega) hp) (by decide)
  unfold heA
  omega
theorem net_of_ok (H : TAt S t a c p1 p2) (h0 : 0 ≤ m) (h1 : m < 2 ^ 30) : ∃ S', M_net_of [.int m, .obj t, fundsD p] S = .ok (.int (nf a c p1 p2 p m)) S' ∧ ∀ n, Kp n S S' := by
  obtain ⟨s, L, S', e, A, N⟩ := made_ok false B H hp hp2 h0 h1
  have nt := net_ok A
  obtain ⟨l1, l2, l3⟩ := lines_sum false a c p1 p2 p m
  rw [l1, l2, l3, if_neg (by decide), Int.add_zero] at nt
  refine ⟨S', ?_, N.kp⟩
  rw [show freeD false = .tup [] from rfl] at e
  unfold nf
  generalize fundsD p = F at *
  simp -implicitDefEqProofs only [M_net_of, e_runD, f_net_of]
  simp -implicitDefEqProofs [startD, e, A.ins, lk_net, nt]
def gfC : DT := (dB (dOp leD (dVar 4) (dVar 3)))
def gfB : DS := (dSeq (dAsg (dOp subD (dVar 0) (dCall 3 M_net_of (daCons (dVar 4) (daCons (dVar 1) (daCons (dVar 2) daNil))))) (gN 5))
  (dSeq (dIfS (dB (dOp leD (dVar 5) (dC (.int 0))))
  (dRet (dVar 4))
  dNext)
  (dAug 4 iaddD (dBlt maxD (daCons (dC (.int 1)) (daCons (dOp subD (dOp subD (dVar 5) (dBlt lenD (daCons (dVar 2) daNil))) (dC (.int 1))) daNil))))))
theorem TAt.keep {S S' : Store} {t : Nat} {a c p1 p2 : Int} (H : TAt S t a c p1 p2) (k : ∀ n, Kp n S S') : TAt S' t a c p1 p2 := ⟨(k (t + 1)).ins (by omega) H.ins⟩
theorem gf_loop {e : Nat} {goal : Int} (g0 : 0 ≤ goal) (hq : goal ≤ nf a c p1 p2 p 900) : ∀ (n : Nat) (pay : Int) (S : Store) (u5 : Option D), TAt S t a c p1 p2 → goal ≤ pay → pay ≤ 900 → 900 - pay ≤ (n : Int) → (∀ q, goal ≤ q → q < pay → nf a c p1 p2 p q < goal) →
    ∃ r S', whileD gfC gfB (n + 1 + e) [some (.int goal), some (.obj t), some (fundsD p), some (.int 900), some (.int pay), u5] S = .rt (.int r) S' ∧ (∀ n, Kp n S S') ∧ goal ≤ r ∧ r ≤ 900 ∧ goal ≤ nf a c p1 p2 p r ∧ ∀ q, goal ≤ q → q < r → nf a c p1 p2 p q < goal := by
  intro n
  induction n with
  | zero =>
    intro pay S u5 H h1 h2 h3 h4
    have hpay : pay = 900 := by omega
    subst hpay
    obtain ⟨S1, e1, k1⟩ := net_of_ok B hp hp2 H (m := 900) (by decide) (by decide)
    refine ⟨900, S1, ?_, k1, h1, Int.le_refl _, hq, h4⟩
    have c1 : goal - nf a c p1 p2 p 900 ≤ 0 := by omega
    rw [show 0 + 1 + e = e + 1 by omega, whileD_go]
    generalize fundsD p = F at *
    simp -implicitDefEqProofs [gfC, gfB, e1, c1]
  | succ n ih =>
    intro pay S u5 H h1 h2 h3 h4
    obtain ⟨S1, e1, k1⟩ := net_of_ok B hp hp2 H (m := pay) (by omega) (by omega)
    rw [show n + 1 + 1 + e = (n + 1 + e) + 1 by omega, whileD_go]
    by_cases c1 : goal - nf a c p1 p2 p pay ≤ 0
    · refine ⟨pay, S1, ?_, k1, h1, h2, by omega, h4⟩
      generalize fundsD p = F at *
      simp -implicitDefEqProofs [gfC, gfB, e1, c1, h2]
    · obtain ⟨d, hd⟩ : ∃ d, max 1 (goal - nf a c p1 p2 p pay - 2 - 1) = d := ⟨_, rfl⟩
      have low : ∀ q, goal ≤ q → q < pay + d → nf a c p1 p2 p q < goal := fun q q1 q2 => by
        by_cases c2 : q < pay
        · exact h4 q q1 c2
        · have mo := heA_mono B hp hp2 (m := pay) (k := q) (by omega)
          unfold nf at *
          omega
      have top : pay + d ≤ 900 := by
        by_cases c2 : pay + d ≤ 900
        · exact c2
        · have := low 900 (by omega) (by omega)
          omega
      obtain ⟨r, S', z, k2, r1, r2, r3, r4⟩ := ih (pay + d) S1 (some (.int (goal - nf a c p1 p2 p pay))) (TAt.keep B hp hp2 H k1) (by omega) top (by omega) low
      refine ⟨r, S', ?_, fun n => (k1 n).trans (k2 n), r1, r2, r3, r4⟩
      rw [← z]
      have lf : lenD [fundsD p] S1 = some (.int 2, S1) := rfl
      generalize fundsD p = F at *
      simp -implicitDefEqProofs [gfC, gfB, e1, c1, h2, lf, hd]
theorem gross_for_ok {goal : Int} (H : TAt S t a c p1 p2) (g0 : 0 ≤ goal) (g1 : goal ≤ 900) (hq : goal ≤ nf a c p1 p2 p 900) :
    ∃ r S', M_gross_for [.int goal, .obj t, fundsD p, .int 900] S = .ok (.int r) S' ∧ (∀ n, Kp n S S') ∧ goal ≤ r ∧ r ≤ 900 ∧ goal ≤ nf a c p1 p2 p r ∧ ∀ q, goal ≤ q → q < r → nf a c p1 p2 p q < goal := by
  obtain ⟨r, S', z, k⟩ := gf_loop B hp hp2 (e := 1000000 - 901) (t := t) g0 hq 900 goal S none H (Int.le_refl _) g1 (by omega) (fun q h1 h2 => by omega)
  refine ⟨r, S', ?_, k⟩
  rw [show 900 + 1 + (1000000 - 901) = fuel from rfl] at z
  have e : M_gross_for = runD 6 (dSeq (dAsg (dBlt maxD (daCons (dC (.int 0)) (daCons (dVar 0) daNil))) (gN 4)) (dSeq (whileD gfC gfB fuel) (dRaise "NoAnswer"))) := rfl
  rw [e, e_runD]
  have mx : max 0 goal = goal := by omega
  generalize whileD gfC gfB fuel = LOOP at z
  generalize fundsD p = F at *
  simp -implicitDefEqProofs [startD, mx, z]
def belowE : DE := (dLc (diRange2 (dVar 6) (dVar 7)) (gN 13) (dB (dOp geD (dCall 3 M_net_of (daCons (dVar 13) (daCons (dVar 1) (daCons (dVar 3) daNil)))) (dVar 6))) (dVar 13) [13])
theorem below_ok {goal r : Int} (H : TAt S t a c p1 p2) (g0 : 0 ≤ goal) (hr : goal ≤ r) (r9 : r ≤ 900) (low : ∀ q, goal ≤ q → q < r → nf a c p1 p2 p q < goal) (x0 x2 x4 x5 x8 x9 x10 x11 x12 x13 x14 x15 : Option D) :
    ∃ S', belowE [x0, some (.obj t), x2, some (fundsD p), x4, x5, some (.int goal), some (.int r), x8, x9, x10, x11, x12, x13, x14, x15] S = .ok (.obj S.length) S' ∧ lstAt S' S.length = some [] ∧ ∀ n, Kp n S S' := by
  obtain ⟨S', z, hz1, hz2⟩ := lcD_none_inv (P := fun S1 => TAt S1 t a c p1 p2 ∧ ∀ n, Kp n (S ++ [.lst []]) S1) (grd := grdT) (tg := gN 13) (tt := (dB (dOp geD (dCall 3 M_net_of (daCons (dVar 13) (daCons (dVar 1) (daCons (dVar 3) daNil)))) (dVar 6)))) (fe := dVar 13) (ρ := [x0, some (.obj t), x2, some (fundsD p), x4, x5, some (.int goal), some (.int r), x8, x9, x10, x11, x12, none, x14, x15]) (n := S.length) (fun _ _ => rfl) (rngD goal 1 (r - goal).toNat) (S ++ [.lst []]) ⟨H.app, fun _ => Kp.refl⟩ (fun d hd S1 ⟨H1, k1⟩ => by
    rw [rng_lo] at hd
    obtain ⟨i, hi, rfl⟩ := List.mem_map.mp hd
    have hi2 := List.mem_range.mp hi
    obtain ⟨S2, e2, k2⟩ := net_of_ok B hp hp2 H1 (m := goal + (i : Int)) (by omega) (by omega)
    have lw := low (goal + (i : Int)) (by omega) (by omega)
    have c1 : ¬ goal ≤ nf a c p1 p2 p (goal + (i : Int)) := by omega
    refine ⟨[x0, some (.obj t), x2, some (fundsD p), x4, x5, some (.int goal), some (.int r), x8, x9, x10, x11, x12, some (.int (goal + (i : Int))), x14, x15], S2, rfl, ?_, TAt.keep B hp hp2 H1 k2, fun n => (k1 n).trans (k2 n)⟩
    generalize goal + (i : Int) = k at *
    generalize fundsD p = F at *
    simp -implicitDefEqProofs [e2, c1])
  refine ⟨S', ?_, (hz2 (S.length + 1)).lst (by omega) (by simp), fun n => Kp.app.trans (hz2 n)⟩
  have r1 : -1000000000000 ≤ goal ∧ goal ≤ 1000000000000 := by omega
  have r2 : -1000000000000 ≤ r ∧ r ≤ 1000000000000 := by omega
  unfold belowE
  generalize fundsD p = F at *
  simp -implicitDefEqProofs [r1, r2, z]
end
end Pr
set_option Elab.async false
set_option linter.all false
set_option maxRecDepth 100000
set_option maxHeartbeats 1000000
namespace Pr
open PySem PySem.Spec PyProof.Rows L2 DL
def netL (ls : Lns) : Int := sumO .pay ls + sumO .free ls - sumO .held ls
theorem netL_held (ls : Lns) (x : Nm) (w : Int) : netL (ls ++ [(x, .held, w)]) = netL ls - w := by
  unfold netL
  rw [sumO_app, sumO_app, sumO_app]
  simp [sumO]
  omega
def holdB : DS := (dSeq (dAsg (dBlt maxD (daCons (dC (.int 0)) (daCons (dBlt minD (daCons (dVar 5) (daCons (dOp subD (dMeth "Slip" "net" 1 M_Slip_net (dVar 0) daNil) (dVar 2)) daNil))) daNil))) (gN 6))
  (dSeq (dIfS (dB (dOp gtD (dVar 6) (dC (.int 0))))
  (dDrop (dMeth "Slip" "line" 4 M_Slip_line (dVar 0) (daCons (dVar 4) (daCons (dC (.str "held")) (daCons (dVar 6) daNil)))))
  dNext)
  (dDrop (dApp (dVar 3) (dOp subD (dVar 5) (dVar 6))))))
def heldW (ls : Lns) (cnt : Int) : Int := max 0 (min cnt (netL ls - 40))
def heldN (ls : Lns) (x : Nm) (cnt : Int) : Lns := if 0 < heldW ls cnt then ls ++ [(x, .held, heldW ls cnt)] else ls
theorem hold_body {S : Store} {s L F : Nat} {ls : Lns} {acc : List D} {x : Nm} {cnt : Int} (H : SlAt S s L ls) (hF : lstAt S F = some acc) (hFL : F ≠ L) (hl : ls.length < 100) (ha : acc.length < 100) (hx : x ∉ ls.map (·.1)) (x1 u6 : Option D) :
    ∃ S', holdB [some (.obj s), x1, some (.int 40), some (.obj F), some (.str (nmS x)), some (.int cnt), u6] S = .nx [some (.obj s), x1, some (.int 40), some (.obj F), some (.str (nmS x)), some (.int cnt), some (.int (heldW ls cnt))] S' ∧
      SlAt S' s L (heldN ls x cnt) ∧ lstAt S' F = some (acc ++ [.int (cnt - heldW ls cnt)]) ∧ Ch [L, F] S S' := by
  have nt := net_ok H
  have en : sumO .pay ls + sumO .free ls - sumO .held ls = netL ls := rfl
  rw [en] at nt
  have ew : max 0 (min cnt (netL ls - 40)) = heldW ls cnt := rfl
  have sF : s ≠ F := ne_lst_ins hF H.ins
  have ha2 : acc.length < 1000000 := by omega
  by_cases c : 0 < heldW ls cnt
  · obtain ⟨S1, e1, A1, c1⟩ := line_ok (x := x) (o := .held) (c := heldW ls cnt) H (by omega) hx (by omega)
    rw [show soS .held = "held" from rfl] at e1
    have hF1 : lstAt S1 F = some acc := c1.lst (by simp; exact hFL) hF
    refine ⟨S1.set F (.lst (acc ++ [.int (cnt - heldW ls cnt)])), ?_, ?_, set_lst_eq hF1, ?_⟩
    · generalize heldW ls cnt = w at *
      generalize nmS x = xs at *
      simp -implicitDefEqProofs [holdB, H.ins, lk_net, nt, ew, c, lk_line, e1, hF1, ha2]
    · unfold heldN
      rw [if_pos c]
      exact ⟨ins_set_ne A1.ins sF, set_lst_ne A1.l (Ne.symm hFL)⟩
    · exact Ch.trans ⟨c1.len, fun i h1 h2 => c1.at_ i (fun h => h1 (by simp at h ⊢; exact .inl h)) h2⟩ (Ch.set (by simp))
  · refine ⟨S.set F (.lst (acc ++ [.int (cnt - heldW ls cnt)])), ?_, ?_, set_lst_eq hF, Ch.set (by simp)⟩
    · generalize heldW ls cnt = w at *
      generalize nmS x = xs at *
      simp -implicitDefEqProofs [holdB, H.ins, lk_net, nt, ew, c, hF, ha2]
    · unfold heldN
      rw [if_neg c]
      exact ⟨ins_set_ne H.ins sF, set_lst_ne H.l (Ne.symm hFL)⟩
theorem hold_ok {S : Store} {s L : Nat} {g a1 a2 : Int} (H : SlAt S s L [(.pay, .pay, g)]) (hg : 50 ≤ g) (h1 : 0 ≤ a1) (h2 : 0 ≤ a2) :
    ∃ S' ls w1 w2, M_Slip_hold [.obj s, .tup [.tup [.str "one", .int a1], .tup [.str "two", .int a2]], .int 40] S = .ok (.tup [.int (a1 - w1), .int (a2 - w2)]) S' ∧ SlAt S' s L ls ∧ Ch [L] S S' ∧ ls.length ≤ 3 ∧ .pay ∈ ls.map (·.1) ∧ netL ls = g - w1 - w2 ∧ w1 = max 0 (min a1 (g - 40)) ∧ w2 = max 0 (min a2 (g - w1 - 40)) := by
  have lt := H.lts
  have H0 := H.app (T := [.lst []])
  have n0 : netL [(.pay, .pay, g)] = g := by unfold netL; simp [sumO]
  obtain ⟨S1, e1, A1, f1, c1⟩ := hold_body (x := .one) (cnt := a1) (F := S.length) H0 (acc := []) (by simp) (by omega) (by simp) (by simp) (by simp) (some (.tup [.tup [.str "one", .int a1], .tup [.str "two", .int a2]])) none
  obtain ⟨w1, hw1⟩ : ∃ w, heldW [(.pay, .pay, g)] a1 = w := ⟨_, rfl⟩
  obtain ⟨l1, hl1⟩ : ∃ l, heldN [(.pay, .pay, g)] .one a1 = l := ⟨_, rfl⟩
  have m1 : l1.length ≤ 2 ∧ .two ∉ l1.map (·.1) ∧ .pay ∈ l1.map (·.1) ∧ netL l1 = g - w1 := by
    rw [← hl1]
    unfold heldN
    rw [hw1]
    have w0 : 0 ≤ w1 := by rw [← hw1]; unfold heldW; omega
    split
    · exact ⟨by simp, by simp, by simp, by rw [netL_held, n0]⟩
    · exact ⟨by simp, by simp, by simp, by rw [n0]; omega⟩
  rw [hw1] at e1 f1
  rw [hl1] at A1
  obtain ⟨S2, e2, A2, f2, c2⟩ := hold_body (x := .two) (cnt := a2) (F := S.length) A1 f1 (by omega) (by omega) (by simp) m1.2.1 (some (.tup [.tup [.str "one", .int a1], .tup [.str "two", .int a2]])) (some (.int w1))
  obtain ⟨w2, hw2⟩ : ∃ w, heldW l1 a2 = w := ⟨_, rfl⟩
  obtain ⟨l2, hl2⟩ : ∃ l, heldN l1 .two a2 = l := ⟨_, rfl⟩
  rw [hw2] at e2 f2
  rw [hl2] at A2
  refine ⟨S2, l2, w1, w2, ?_, A2, ?_, ?_, ?_, ?_, ?_, ?_⟩
  · have e : M_Slip_hold = runD 7 (dSeq (dAsg (dLst daNil) (gN 3)) (dSeq (dFor (diSeq (dVar 1)) (gT 2 (gsCons (gN 4) (gsCons (gN 5) gsNil))) holdB) (dRet (dBlt tupleD (daCons (dVar 3) daNil))))) := rfl
    rw [e, e_runD]
    rw [show nmS .one = "one" from rfl] at e1
    rw [show nmS .two = "two" from rfl] at e2
    simp -implicitDefEqProofs [startD, e1, e2, f2]
  · exact ⟨by have q1 := c1.len; have q2 := c2.len; rw [List.length_append] at q1; omega, fun i h1 h2 => by
      have hi : i ∉ [L, S.length] := by simp at h1 ⊢; omega
      rw [c2.at_ i hi (Nat.lt_of_lt_of_le (by simp; omega) c1.len), c1.at_ i hi (by simp; omega), List.getElem?_append_left h2]⟩
  · rw [← hl2]; unfold heldN; split
    · rw [List.length_append, List.length_singleton]; omega
    · omega
  · rw [← hl2]; unfold heldN; split
    · rw [List.map_append]; exact List.mem_append.mpr (.inl m1.2.2.1)
    · exact m1.2.2.1
  · rw [← hl2]
    unfold heldN
    rw [hw2]
    have w0 : 0 ≤ w2 := by rw [← hw2]; unfold heldW; omega
    split
    · rw [netL_held, m1.2.2.2]
    · rw [m1.2.2.2]; omega
  · rw [← hw1]; unfold heldW; rw [n0]
  · rw [← hw2]; unfold heldW; rw [m1.2.2.2]
end Pr
set_option Elab.async false
set_option linter.all false
set_option maxRecDepth 100000
set_option maxHeartbeats 1000000
namespace Pr
open PySem PySem.Spec PyProof.Rows L2 DL
/-! ### told by fixed numbers -/
theorem pt_eq {q : Rat} {n d : Int} (h : q.num = n) (h2 : (q.den : Int) = d) : pt q = .tup [.int n, .int d] := by unfold pt; rw [h, h2]
theorem by_min {mi ra v : Int} {q1 q2 : Rat} (S : Store) (x y : Int) (h0 : 0 ≤ mi) (h1 : mi < 10000) (h2 : 0 ≤ ra) (h3 : ra < 10000) (e1 : Rat.divInt (mi * ra) 60 = q1) (e2 : pt q2 = .tup [.int x, .int y]) (b1 : bits q1 ≤ 1000) (b2 : bits q2 ≤ 1000) (nn : 0 ≤ (q1 * q2).num) (ev : (2 * (q1 * q2).num + ((q1 * q2).den : Int)) / (2 * ((q1 * q2).den : Int)) = v) :
    M_by_minutes [.int mi, .int ra, .tup [.int x, .int y]] S = .ok (.int v) S := by
  have bb : (mi * ra).natAbs < 2 ^ 90 := by
    have := mul_lt_pow (a := mi.natAbs) (b := ra.natAbs) (m := 40) (n := 40) (by omega) (by omega)
    rw [← Int.natAbs_mul] at this
    exact lt_up this (by decide)
  have p := part_small (t := mi * ra) (b := 60) (by decide) bb (by decide) S
  have t := B_times (S := S) (Nat.le_trans b1 (show 1000 ≤ 4000 by decide)) (Nat.le_trans b2 (show 1000 ≤ 4000 by decide))
  have bm := bits_mul q1 q2
  have r := rounded_half nn (sz_bits (n := 4000) (by omega)) S
  rw [ev] at r
  rw [e1] at p
  rw [e2] at t
  have c0 : ¬ mi < 0 := by omega
  have c1 : ¬ ra < 0 := by omega
  have m1 : mi.natAbs < 18446744073709551616 := by omega
  generalize pt q1 = Q1 at *
  generalize pt (q1 * q2) = Q at *
  simp -implicitDefEqProofs only [M_by_minutes, e_runD, f_by_minutes]
  simp -implicitDefEqProofs [startD, c0, c1, mulD_l m1, p, t, r]
theorem bm_1 (S : Store) : M_by_minutes [.int 90, .int 20, .tup [.int 3, .int 2]] S = .ok (.int 45) S :=
  by_min (q1 := 30) (q2 := Rat.divInt 3 2) S 3 2 (by decide) (by decide) (by decide) (by decide) (by decide +kernel) (pt_eq (by decide +kernel) (by decide +kernel)) (by decide +kernel) (by decide +kernel) (by decide +kernel) (by decide +kernel)
theorem bm_2 (S : Store) : M_by_minutes [.int 480, .int 12, .tup [.int 1, .int 1]] S = .ok (.int 96) S :=
  by_min (q1 := 96) (q2 := 1) S 1 1 (by decide) (by decide) (by decide) (by decide) (by decide +kernel) (pt_eq (by decide +kernel) (by decide +kernel)) (by decide +kernel) (by decide +kernel) (by decide +kernel) (by decide +kernel)
theorem bm_3 (S : Store) : M_by_minutes [.int 120, .int 12, .tup [.int 3, .int 2]] S = .ok (.int 36) S :=
  by_min (q1 := 24) (q2 := Rat.divInt 3 2) S 3 2 (by decide) (by decide) (by decide) (by decide) (by decide +kernel) (pt_eq (by decide +kernel) (by decide +kernel)) (by decide +kernel) (by decide +kernel) (by decide +kernel) (by decide +kernel)
theorem split_1 (S : Store) : ∃ T, M_split_days [.int 600, .tup [.int 480]] S = .ok (.tup [.int 480, .int 120]) (S ++ T) := by
  have so : ∀ S, sortedD [.tup [.int 480]] S = some (.obj S.length, S ++ [.lst [.int 480]]) := fun S => by
    have z : inOrder [480] = [480] := by unfold inOrder; simp
    show some (newO (.lst ((inOrder [480]).map D.int)) S) = _
    rw [z]
    rfl
  have ne := told_int.ne_same (S := S ++ [.lst [.int 480], .lst [.int 480]]) (n := S.length) (m := S.length + 1) (xs := [480]) (by simp) (by unfold lstAt; rw [List.getElem?_append_right (by omega), show S.length + 1 - S.length = 1 by omega]; rfl)
  refine ⟨[.lst [.int 480], .lst [.int 480], .lst [.int 480]], ?_⟩
  simp -implicitDefEqProofs only [M_split_days, e_runD, f_split_days]
  simp -implicitDefEqProofs [startD, so, ne]
  decide
theorem day_1 (S : Store) : ∃ T, M_day_pay [.int 600, .int 12, .tup [.int 480], .tup [.tup [.int 1, .int 1], .tup [.int 3, .int 2]]] S = .ok (.int 132) (S ++ T) := by
  obtain ⟨T, e⟩ := split_1 S
  refine ⟨T, ?_⟩
  simp -implicitDefEqProofs only [M_day_pay, e_runD, f_day_pay]
  simp -implicitDefEqProofs [startD, e, bm_2, bm_3]
theorem part_1 (S : Store) : M_part_time [.int 100, .int 1, .int 3, .str "down"] S = .ok (.int 33) S := by
  have p := part_small (t := 100) (b := 3) (by decide) (by decide) (by decide) S
  have r := down_part (t := 100) (b := 3) (by decide) (by decide) (by decide) (by decide) S
  rw [show (100 : Int) / 3 = 33 by decide] at r
  have m1 : (100 : Int).natAbs < 18446744073709551616 := by decide
  generalize pt (Rat.divInt 100 3) = Q at *
  simp -implicitDefEqProofs only [M_part_time, e_runD, f_part_time]
  simp -implicitDefEqProofs [startD, mulD_l m1, p, r]
theorem eq_p1 (S : Store) : eqD (.str "part") (.str "part") S = some (.bl true, S) := by rw [eqD_str (by decide +kernel) (by decide +kernel)]; rfl
theorem eq_p2 (S : Store) : eqD (.str "by") (.str "part") S = some (.bl false, S) := by rw [eqD_str (by decide +kernel) (by decide +kernel)]; rfl
theorem eq_p3 (S : Store) : eqD (.str "by") (.str "by") S = some (.bl true, S) := by rw [eqD_str (by decide +kernel) (by decide +kernel)]; rfl
theorem raised_1 (S : Store) : ∃ T, M_raised [.int 100, .tup [.tup [.str "part", .tup [.int 1, .int 10]], .tup [.str "by", .int 5]]] S = .ok (.tup [.int 100, .int 110, .int 115]) (S ++ T) := by
  have t := fun S => times_tup (a := 100) (p := 11) (d := 10) (by decide) (by decide) (by decide) (by decide) S
  have r := fun S => rounded_part (t := 100 * 11) (b := 10) (by decide) (by decide) (by decide) (by decide) S
  rw [show hu (100 * 11) 10 = 110 by decide] at r
  have a1 : ∀ x : D, atI [x] (-1) = some x := fun x => rfl
  have a2 : ∀ x y : D, atI [x, y] (-1) = some y := fun x y => rfl
  refine ⟨[.lst [.int 100, .int 110, .int 115]], ?_⟩
  generalize pt (Rat.divInt (100 * 11) 10) = Q at *
  simp -implicitDefEqProofs only [M_raised, e_runD, f_raised]
  simp -implicitDefEqProofs [startD, eq_p1, eq_p2, eq_p3, a1, a2, t, r]
theorem piece_1 (S : Store) : M_piece_pay [.int 25, .tup [.tup [.int 0, .int 2], .tup [.int 10, .int 3]]] S = .ok (.int 65) S := by
  have sl : ∀ x y : D, cutD [x, y] (some 1) none = [y] := fun x y => rfl
  have en : ∀ x y : D, enumL [x, y] = [.tup [.int 0, x], .tup [.int 1, y]] := fun x y => rfl
  have m2 : (2 : Int).natAbs < 18446744073709551616 := by decide
  have m3 : (3 : Int).natAbs < 18446744073709551616 := by decide
  simp -implicitDefEqProofs only [M_piece_pay, e_runD, f_piece_pay]
  simp -implicitDefEqProofs [startD, sliceD_tup, sl, zipD_nil2, en, mulD_r m2, mulD_r m3]
  decide
theorem least_1 (S : Store) : ∃ T, M_least_paid [.tup [.int 5, .int 9], .int 7] S = .ok (.tup [.tup [.int 7, .int 9], .int 2]) (S ++ T) := by
  refine ⟨[.lst [.int 7, .int 9]], ?_⟩
  simp -implicitDefEqProofs only [M_least_paid, e_runD, f_least_paid]
  simp -implicitDefEqProofs [startD]
  decide
theorem eq_a1 (S : Store) : eqD (.str "a") (.str "a") S = some (.bl true, S) := by rw [eqD_str (by decide +kernel) (by decide +kernel)]; rfl
theorem even_1 (S : Store) : M_is_even [.tup [.int 10, .int 11, .int 20], .tup [.str "a", .str "a", .str "b"], .tup [.int 1, .int 20]] S = .ok (.tup [.int 0, .int 1]) S := by
  have t := times_tup (a := 10) (p := 1) (d := 20) (by decide) (by decide) (by decide) (by decide) S
  have o := B_order (q := 1) (r := Rat.divInt (10 * 1) 20) (S := S) (by decide +kernel) (by decide +kernel)
  rw [show pt 1 = .tup [.int 1, .int 1] from rfl, show cmpQ 1 (Rat.divInt (10 * 1) 20) = 1 by decide +kernel] at o
  have r0 : rngD 0 1 0 = [] := rfl
  have r1 : rngD 0 1 1 = [.int 0] := rfl
  have mn : min (10 : Int) 11 = 10 := by decide
  have mx : max (10 : Int) 11 = 11 := by decide
  generalize pt (Rat.divInt (10 * 1) 20) = Q at *
  simp -implicitDefEqProofs only [M_is_even, e_runD, f_is_even]
  simp -implicitDefEqProofs [startD, eq_a1, mn, mx, t, o, r0, r1]
theorem even_2 (S : Store) : M_is_even [.tup [.int 10, .int 11], .tup [.str "a", .str "a"], .tup [.int 1, .int 5]] S = .ok .non S := by
  have t := times_tup (a := 10) (p := 1) (d := 5) (by decide) (by decide) (by decide) (by decide) S
  have o := B_order (q := 1) (r := Rat.divInt (10 * 1) 5) (S := S) (by decide +kernel) (by decide +kernel)
  rw [show pt 1 = .tup [.int 1, .int 1] from rfl, show cmpQ 1 (Rat.divInt (10 * 1) 5) = -1 by decide +kernel] at o
  have r0 : rngD 0 1 0 = [] := rfl
  have r1 : rngD 0 1 1 = [.int 0] := rfl
  have mn : min (10 : Int) 11 = 10 := by decide
  have mx : max (10 : Int) 11 = 11 := by decide
  generalize pt (Rat.divInt (10 * 1) 5) = Q at *
  simp -implicitDefEqProofs only [M_is_even, e_runD, f_is_even]
  simp -implicitDefEqProofs [startD, eq_a1, mn, mx, t, o, r0, r1]
end Pr
set_option Elab.async false
set_option linter.all false
set_option maxRecDepth 100000
set_option maxHeartbeats 1000000
namespace Pr
open PySem PySem.Spec PyProof.Rows L2 DL
def cntsE : DE := (dLc (diRange1 (dC (.int 3))) (gN 5) dYes (dCall 2 M__law_roll (daCons (dVar 0) (daCons (dC (.int 20)) daNil))) [5])
def shareE : DE := (dLc (diRange1 (dC (.int 3))) (gN 5) (dAndT (dB (dOp leD (dOp ixD (dVar 1) (dVar 5)) (dC (.int 5)))) (dB (dOp neD (dOp ixD (dVar 4) (dVar 5)) (dC (.int 0))))) (dVar 5) [5])
def sharesB : DS :=
  (dSeq (dAsg (dTup (daCons cntsE (daCons (dLst (daCons (dC (.int 5)) (daCons (dC (.int 5)) (daCons (dC (.int 5)) daNil)))) (daCons (dCall 2 M__law_roll (daCons (dVar 0) (daCons (dC (.int 90)) daNil))) daNil)))) (gT 3 (gsCons (gN 1) (gsCons (gN 2) (gsCons (gN 3) gsNil)))))
  (dSeq (dAsg (dCall 4 M_bonus (daCons (dVar 1) (daCons (dVar 2) (daCons (dVar 3) (daCons (dC (.str "half up")) daNil))))) (gN 4))
  (dSeq (dIfS (dOrT (dB (dOp gtD (dBlt sumLT (daCons (dVar 4) daNil)) (dVar 3))) (dB (dOp neD shareE (dLst daNil))))
  (dRet (dC (.bl false)))
  dNext)
  (dSeq (dIfS (dOrT (dB (dOp neD (dCall 3 M_by_minutes (daCons (dC (.int 90)) (daCons (dC (.int 20)) (daCons (dTup (daCons (dC (.int 3)) (daCons (dC (.int 2)) daNil))) daNil)))) (dC (.int 45)))) (dB (dOp neD (dCall 4 M_day_pay (daCons (dC (.int 600)) (daCons (dC (.int 12)) (daCons (dTup (daCons (dC (.int 480)) daNil)) (daCons (dTup (daCons (dTup (daCons (dC (.int 1)) (daCons (dC (.int 1)) daNil))) (daCons (dTup (daCons (dC (.int 3)) (daCons (dC (.int 2)) daNil))) daNil))) daNil))))) (dOp addD (dC (.int 96)) (dC (.int 36))))))
  (dRet (dC (.bl false)))
  dNext)
  (dSeq (dIfS (dOrT (dB (dOp neD (dCall 4 M_part_time (daCons (dC (.int 100)) (daCons (dC (.int 1)) (daCons (dC (.int 3)) (daCons (dC (.str "down")) daNil))))) (dC (.int 33)))) (dB (dOp neD (dCall 2 M_raised (daCons (dC (.int 100)) (daCons (dTup (daCons (dTup (daCons (dC (.str "part")) (daCons (dTup (daCons (dC (.int 1)) (daCons (dC (.int 10)) daNil))) daNil))) (daCons (dTup (daCons (dC (.str "by")) (daCons (dC (.int 5)) daNil))) daNil))) daNil))) (dTup (daCons (dC (.int 100)) (daCons (dC (.int 110)) (daCons (dC (.int 115)) daNil)))))))
  (dRet (dC (.bl false)))
  dNext)
  (dSeq (dIfS (dOrT (dB (dOp neD (dCall 2 M_piece_pay (daCons (dC (.int 25)) (daCons (dTup (daCons (dTup (daCons (dC (.int 0)) (daCons (dC (.int 2)) daNil))) (daCons (dTup (daCons (dC (.int 10)) (daCons (dC (.int 3)) daNil))) daNil))) daNil))) (dOp addD (dC (.int 20)) (dC (.int 45))))) (dB (dOp neD (dCall 2 M_least_paid (daCons (dTup (daCons (dC (.int 5)) (daCons (dC (.int 9)) daNil))) (daCons (dC (.int 7)) daNil))) (dTup (daCons (dTup (daCons (dC (.int 7)) (daCons (dC (.int 9)) daNil))) (daCons (dC (.int 2)) daNil))))))
  (dRet (dC (.bl false)))
  dNext)
  (dSeq (dIfS (dB (dOp neD (dCall 3 M_is_even (daCons (dTup (daCons (dC (.int 10)) (daCons (dC (.int 11)) (daCons (dC (.int 20)) daNil)))) (daCons (dTup (daCons (dC (.str "a")) (daCons (dC (.str "a")) (daCons (dC (.str "b")) daNil)))) (daCons (dTup (daCons (dC (.int 1)) (daCons (dC (.int 20)) daNil))) daNil)))) (dTup (daCons (dC (.int 0)) (daCons (dC (.int 1)) daNil)))))
  (dRet (dC (.bl false)))
  dNext)
  (dSeq (dIfS (dB (dOp notND (dCall 3 M_is_even (daCons (dTup (daCons (dC (.int 10)) (daCons (dC (.int 11)) daNil))) (daCons (dTup (daCons (dC (.str "a")) (daCons (dC (.str "a")) daNil))) (daCons (dTup (daCons (dC (.int 1)) (daCons (dC (.int 5)) daNil))) daNil)))) (dC .non)))
  (dRet (dC (.bl false)))
  dNext)
  (dRet (dC (.bl true)))))))))))
theorem M_shares_eq : M__law_shares = runD 6 sharesB := rfl

theorem hu_zero {w : Int} (h : 0 < w) : hu 0 w = 0 := by
  unfold hu
  exact Int.ediv_eq_zero_of_lt (by omega) (by omega)
theorem bonus_ok {q q5 : Nat} {c1 c2 c3 pool : Int} {S : Store} (hq : lstAt S q = some [.int c1, .int c2, .int c3]) (h5 : lstAt S q5 = some [.int 5, .int 5, .int 5]) (b1 : 0 ≤ c1 ∧ c1 < 20) (b2 : 0 ≤ c2 ∧ c2 < 20) (b3 : 0 ≤ c3 ∧ c3 < 20) (bp : 0 ≤ pool ∧ pool < 90) :
    ∃ (s1 s2 s3 : Int) (T : Store), M_bonus [.obj q, .obj q5, .int pool, .str "half up"] S = .ok (.tup [.int s1, .int s2, .int s3]) (S ++ T) ∧ s1 + s2 + s3 ≤ pool ∧ (c1 ≤ 5 → s1 = 0) ∧ (c2 ≤ 5 → s2 = 0) ∧ (c3 ≤ 5 → s3 = 0) := by
  have k1 : ∀ T, lstAt (S ++ T) q = some [.int c1, .int c2, .int c3] := fun T => lstAt_keep _ _ hq
  have k2 : ∀ T, lstAt (S ++ T) q5 = some [.int 5, .int 5, .int 5] := fun T => lstAt_keep _ _ h5
  obtain ⟨p1, hp1⟩ : ∃ p, max 0 (c1 - 5) = p := ⟨_, rfl⟩
  obtain ⟨p2, hp2⟩ : ∃ p, max 0 (c2 - 5) = p := ⟨_, rfl⟩
  obtain ⟨p3, hp3⟩ : ∃ p, max 0 (c3 - 5) = p := ⟨_, rfl⟩
  obtain ⟨w, hw⟩ : ∃ w, p1 + (p2 + p3) = w := ⟨_, rfl⟩
  by_cases c : w = 0
  · refine ⟨0, 0, 0, [.lst [.int p1, .int p2, .int p3]], ?_, by omega, fun _ => rfl, fun _ => rfl, fun _ => rfl⟩
    have mz : ∀ S, mulD (.tup [.int 0]) (.int 3) S = some (.tup [.int 0, .int 0, .int 0], S) := fun S => rfl
    simp -implicitDefEqProofs only [M_bonus, e_runD, f_bonus]
    simp -implicitDefEqProofs [startD, hq, h5, k1, k2, hp1, hp2, hp3, hw, c, mz]
  · have w0 : 0 < w := by omega
    have fact : ∀ p, 0 ≤ p → p ≤ 15 → ∀ S, M_part [.int (pool * p), .int w] S = .ok (pt (Rat.divInt (pool * p) w)) S ∧ M_rounded [pt (Rat.divInt (pool * p) w), .str "half up"] S = .ok (.int (hu (pool * p) w)) S ∧ 0 ≤ hu (pool * p) w := fun p p0 p15 S => by
      have n0 : 0 ≤ pool * p := Int.mul_nonneg bp.1 p0
      have n1 : pool * p ≤ pool * 15 := Int.mul_le_mul_of_nonneg_left p15 bp.1
      exact ⟨part_small w0 (by omega) (by omega) S, rounded_part w0 n0 (by omega) (by omega) S, hu_nn n0 w0⟩
    have z : ∀ p, p = 0 → hu (pool * p) w = 0 := fun p h => by rw [h, Int.mul_zero, hu_zero w0]
    have f1 := fact p1 (by omega) (by omega)
    have f2 := fact p2 (by omega) (by omega)
    have f3 := fact p3 (by omega) (by omega)
    have x1 := (f1 S).2.2
    have x2 := (f2 S).2.2
    have x3 := (f3 S).2.2
    have mp : pool.natAbs < 18446744073709551616 := by omega
    obtain ⟨s1, hs1⟩ : ∃ s, min pool (hu (pool * p1) w) = s := ⟨_, rfl⟩
    obtain ⟨s2, hs2⟩ : ∃ s, min (pool - s1) (hu (pool * p2) w) = s := ⟨_, rfl⟩
    obtain ⟨s3, hs3⟩ : ∃ s, min (pool - s1 - s2) (hu (pool * p3) w) = s := ⟨_, rfl⟩
    refine ⟨s1, s2, s3, [.lst [.int p1, .int p2, .int p3], .lst [.int s1, .int s2, .int s3]], ?_, by omega, fun h => ?_, fun h => ?_, fun h => ?_⟩
    · have f11 := fun S => (f1 S).1
      have f12 := fun S => (f1 S).2.1
      have f21 := fun S => (f2 S).1
      have f22 := fun S => (f2 S).2.1
      have f31 := fun S => (f3 S).1
      have f32 := fun S => (f3 S).2.1
      generalize pt (Rat.divInt (pool * p1) w) = Q1 at *
      generalize pt (Rat.divInt (pool * p2) w) = Q2 at *
      generalize pt (Rat.divInt (pool * p3) w) = Q3 at *
      simp -implicitDefEqProofs only [M_bonus, e_runD, f_bonus]
      simp -implicitDefEqProofs [startD, hq, h5, k1, k2, hp1, hp2, hp3, hw, c, mulD_l mp, f11, f12, f21, f22, f31, f32, hs1, hs2, hs3]
    · have := z p1 (by omega); omega
    · have := z p2 (by omega); omega
    · have := z p3 (by omega); omega
theorem cnts_ok {n : Nat} {S : Store} (hd : DiceAt S n) : ∃ (c1 c2 c3 : Nat) (S' : Store), c1 < 20 ∧ c2 < 20 ∧ c3 < 20 ∧ cntsE [some (.obj n), none, none, none, none, none] S = .ok (.obj S.length) S' ∧ lstAt S' S.length = some [.int (c1 : Int), .int (c2 : Int), .int (c3 : Int)] ∧ Kp n S S' ∧ DiceAt S' n := by
  obtain ⟨ys, S', q1, q2, q3, q4, q5⟩ := dLc_inv (n := n) (S := S) (S0 := S) (grd := grdT) (fi := diRange1 (dC (.int 3))) (tg := gN 5) (fe := dCall 2 M__law_roll (daCons (dVar 0) (daCons (dC (.int 20)) daNil))) (vs := [5]) (ρ := [some (.obj n), none, none, none, none, none]) (ds := [.int 0, .int 1, .int 2]) (P := fun _ y => IntL 20 y) (by simp) (fun _ _ => rfl) hd (by simp) (fun d hx S k hd => by
    obtain ⟨v, S', hv, e, k', d'⟩ := roll hd (show (0 : Int) < 20 by decide) (by decide)
    refine ⟨[some (.obj n), none, none, none, none, some d], .int (v : Int), S', rfl, ?_, ⟨v, by omega, rfl⟩, k', d'⟩
    simp -implicitDefEqProofs [e])
  match ys, q2 with
  | [_, _, _], ⟨⟨c1, h1, rfl⟩, ⟨c2, h2, rfl⟩, ⟨c3, h3, rfl⟩, _⟩ => exact ⟨c1, c2, c3, S', h1, h2, h3, q1, q3, q4, q5⟩
theorem share_ok {q : Nat} {c1 c2 c3 s1 s2 s3 : Int} {S : Store} (hq : lstAt S q = some [.int c1, .int c2, .int c3]) (h1 : c1 ≤ 5 → s1 = 0) (h2 : c2 ≤ 5 → s2 = 0) (h3 : c3 ≤ 5 → s3 = 0) (x0 x2 x3 x5 : Option D) : shareE [x0, some (.obj q), x2, x3, some (.tup [.int s1, .int s2, .int s3]), x5] S = .ok (.obj S.length) (S ++ [.lst []]) := by
  have hk : lstAt (S ++ [.lst []]) q = some [.int c1, .int c2, .int c3] := lstAt_keep _ _ hq
  have a0 : ∀ x y z : D, atI [x, y, z] 0 = some x := fun x y z => rfl
  have a1 : ∀ x y z : D, atI [x, y, z] 1 = some y := fun x y z => rfl
  have a2 : ∀ x y z : D, atI [x, y, z] 2 = some z := fun x y z => rfl
  have t : lcD grdT (gN 5) (dAndT (dB (dOp leD (dOp ixD (dVar 1) (dVar 5)) (dC (.int 5)))) (dB (dOp neD (dOp ixD (dVar 4) (dVar 5)) (dC (.int 0))))) (dVar 5) S.length [x0, some (.obj q), x2, x3, some (.tup [.int s1, .int s2, .int s3]), none] [.int 0, .int 1, .int 2] (S ++ [.lst []]) = .ok () (S ++ [.lst []]) := by
    refine lc_none rfl _ fun d hd => ⟨[x0, some (.obj q), x2, x3, some (.tup [.int s1, .int s2, .int s3]), some d], rfl, ?_⟩
    simp only [List.mem_cons, List.not_mem_nil, or_false] at hd
    rcases hd with rfl | rfl | rfl
    · by_cases c : c1 ≤ 5
      · simp -implicitDefEqProofs [hk, a0, c, h1 c]
      · simp -implicitDefEqProofs [hk, a0, c]
    · by_cases c : c2 ≤ 5
      · simp -implicitDefEqProofs [hk, a1, c, h2 c]
      · simp -implicitDefEqProofs [hk, a1, c]
    · by_cases c : c3 ≤ 5
      · simp -implicitDefEqProofs [hk, a2, c, h3 c]
      · simp -implicitDefEqProofs [hk, a2, c]
  unfold shareE
  rw [e_dLc, e_diRange1]
  have e3 : (dC (.int 3)) [x0, some (.obj q), x2, x3, some (.tup [.int s1, .int s2, .int s3]), x5] S = .ok (.int 3) S := rfl
  rw [e3]
  show (Out.bind (lcD grdT (gN 5) _ (dVar 5) S.length [x0, some (.obj q), x2, x3, some (.tup [.int s1, .int s2, .int s3]), none] [.int 0, .int 1, .int 2] (S ++ [.lst []])) _) = _
  rw [t]
  rfl
theorem ne_trip3 (a b c : Int) (S : Store) : neD (.tup [.int a, .int b, .int c]) (.tup [.int a, .int b, .int c]) S = some (.bl false, S) :=
  neD_same (p := .tuple [.int a, .int b, .int c]) rfl rfl (told_int.shapedT [a, b, c])
theorem ne_least (S : Store) : neD (.tup [.tup [.int 7, .int 9], .int 2]) (.tup [.tup [.int 7, .int 9], .int 2]) S = some (.bl false, S) :=
  neD_same (p := .tuple [.tuple [.int 7, .int 9], .int 2]) rfl rfl (by decide)
theorem shares_ok {n : Nat} {S : Store} (hd : DiceAt S n) : ∃ S', M__law_shares [.obj n] S = .ok (.bl true) S' ∧ Kp n S S' ∧ DiceAt S' n := by
  obtain ⟨c1, c2, c3, S1, h1, h2, h3, e1, q1, k1, d1⟩ := cnts_ok hd
  have ln : S.length < S1.length := lt_of_lst q1
  have d2 := d1.app (T := [.lst [.int 5, .int 5, .int 5]])
  obtain ⟨pool, S3, hpo, e3, k3, d3⟩ := roll d2 (show (0 : Int) < 90 by decide) (by decide)
  obtain ⟨x, y, z, hdd⟩ := hd
  have nl := lt_of_lst hdd
  have q3 : lstAt S3 S.length = some [.int (c1 : Int), .int (c2 : Int), .int (c3 : Int)] := k3.lst (by omega) (lstAt_keep _ _ q1)
  have f3 : lstAt S3 S1.length = some [.int 5, .int 5, .int 5] := k3.lst (by omega) (by simp)
  obtain ⟨s1, s2, s3, T4, e4, su, z1, z2, z3⟩ := bonus_ok (pool := (pool : Int)) q3 f3 (by omega) (by omega) (by omega) (by omega)
  obtain ⟨S4, hS4⟩ : ∃ S4, S3 ++ T4 = S4 := ⟨_, rfl⟩
  rw [hS4] at e4
  have q4 : lstAt S4 S.length = some [.int (c1 : Int), .int (c2 : Int), .int (c3 : Int)] := by rw [← hS4]; exact lstAt_keep _ _ q3
  have k4 : Kp n S S4 := by rw [← hS4]; exact ((k1.trans Kp.app).trans k3).trans Kp.app
  have d4 : DiceAt S4 n := by rw [← hS4]; exact d3.app
  have e5 := share_ok q4 z1 z2 z3 (some (.obj n)) (some (.obj S1.length)) (some (.int (pool : Int))) none
  have nn := neD_nil (S := S4 ++ [.lst [], .lst []]) (n := S4.length) (k := S4.length + 1) (by simp) (by simp)
  obtain ⟨S5, hS5⟩ : ∃ S5 : Store, S4 ++ [.lst [], .lst []] = S5 := ⟨_, rfl⟩
  rw [hS5] at nn
  have k5 : Kp n S S5 := by rw [← hS5]; exact k4.trans Kp.app
  have d5 : DiceAt S5 n := by rw [← hS5]; exact d4.app
  have b1 := bm_1 S5
  obtain ⟨T6, dp⟩ := day_1 S5
  obtain ⟨S6, hS6⟩ : ∃ S6, S5 ++ T6 = S6 := ⟨_, rfl⟩
  rw [hS6] at dp
  have pa := part_1 S6
  obtain ⟨T7, ra⟩ := raised_1 S6
  obtain ⟨S7, hS7⟩ : ∃ S7, S6 ++ T7 = S7 := ⟨_, rfl⟩
  rw [hS7] at ra
  have pi := piece_1 S7
  obtain ⟨T8, le⟩ := least_1 S7
  obtain ⟨S8, hS8⟩ : ∃ S8, S7 ++ T8 = S8 := ⟨_, rfl⟩
  rw [hS8] at le
  have v1 := even_1 S8
  have v2 := even_2 S8
  have su2 : ¬ (pool : Int) < s1 + (s2 + s3) := by omega
  refine ⟨S8, ?_, by rw [← hS8, ← hS7, ← hS6]; exact ((k5.trans Kp.app).trans Kp.app).trans Kp.app, by rw [← hS8, ← hS7, ← hS6]; exact d5.app.app.app⟩
  rw [M_shares_eq, e_runD]
  unfold sharesB
  simp -implicitDefEqProofs [startD, e1, e3, e4, su2, e5, hS5, nn]
  simp -implicitDefEqProofs [b1, dp, pa, ra, ne_trip3, pi, le, ne_least, v1, neD_pair, v2]
end Pr
set_option Elab.async false
set_option linter.all false
set_option maxRecDepth 100000
set_option maxHeartbeats 2000000
namespace Pr
open PySem PySem.Spec PyProof.Rows L2 DL
def heldE : DE := (dLc (diSeq (dVar 3)) (gT 3 (gsCons (gN 14) (gsCons (gN 13) (gsCons (gN 15) gsNil)))) dYes (dOp fdivD (dOp addD (dOp mulD (dOp mulD (dC (.int 2)) (dBlt minD (daCons (dVar 2) (daCons (dVar 15) daNil)))) (dOp ixD (dVar 13) (dC (.int 0)))) (dOp ixD (dVar 13) (dC (.int 1)))) (dOp mulD (dC (.int 2)) (dOp ixD (dVar 13) (dC (.int 1))))) [14, 13, 15])
def slipsB : DS :=
  (dSeq (dAsg (dTup (daCons (dTup (daCons (dC (.str "f")) (daCons (dTup (daCons (dC (.int 1)) (daCons (dC (.int 10)) daNil))) (daCons (dC (.int 90)) daNil)))) (daCons (dTup (daCons (dC (.str "g")) (daCons (dTup (daCons (dOp addD (dC (.int 1)) (dCall 2 M__law_roll (daCons (dVar 0) (daCons (dC (.int 3)) daNil)))) (daCons (dC (.int 20)) daNil))) (daCons (dC (.int 500)) daNil)))) daNil))) (gN 3))
  (dSeq (dAsg (dCall 4 M_made (daCons (dTup (daCons (dTup (daCons (dC (.str "pay")) (daCons (dVar 2) daNil))) daNil)) (daCons (dTup (daCons (dTup (daCons (dC (.str "trip")) (daCons (dC (.int 7)) daNil))) daNil)) (daCons (dVar 1) (daCons (dVar 3) daNil))))) (gN 4))
  (dSeq (dAsg (dOp addD (dMeth "Table" "withheld" 3 M_Table_withheld (dVar 1) (daCons (dVar 2) (daCons (dC (.str "down")) daNil))) (dBlt sumLT (daCons heldE daNil))) (gN 5))
  (dSeq (dIfS (dOrT (dB (dOp neD (dMeth "Slip" "gross" 1 M_Slip_gross (dVar 4) daNil) (dOp addD (dVar 2) (dC (.int 7))))) (dOrT (dB (dOp neD (dMeth "Slip" "net" 1 M_Slip_net (dVar 4) daNil) (dOp subD (dOp addD (dVar 2) (dC (.int 7))) (dVar 5)))) (dB (dOp neD (dMeth "Slip" "sum_of" 2 M_Slip_sum_of (dVar 4) (daCons (dC (.str "held")) daNil)) (dVar 5)))))
  (dRet (dC (.bl false)))
  dNext)
  (dSeq (dIfS (dB (dOp neD (dCall 3 M_net_of (daCons (dVar 2) (daCons (dVar 1) (daCons (dVar 3) daNil)))) (dOp subD (dVar 2) (dVar 5))))
  (dRet (dC (.bl false)))
  dNext)
  (dSeq (dAsg (dCall 2 M__law_roll (daCons (dVar 0) (daCons (dC (.int 80)) daNil))) (gN 6))
  (dSeq (dAsg (dCall 4 M_gross_for (daCons (dVar 6) (daCons (dVar 1) (daCons (dVar 3) (daCons (dC (.int 900)) daNil))))) (gN 7))
  (dSeq (dIfS (dB (dOp ltD (dCall 3 M_net_of (daCons (dVar 7) (daCons (dVar 1) (daCons (dVar 3) daNil)))) (dVar 6)))
  (dRet (dC (.bl false)))
  dNext)
  (dSeq (dIfS (dB (dOp neD belowE (dLst daNil)))
  (dRet (dC (.bl false)))
  dNext)
  (dSeq (dAsg (dMake "Slip" 1 M_Slip___init__ daNil) (gN 8))
  (dSeq (dDrop (dMeth "Slip" "line" 4 M_Slip_line (dVar 8) (daCons (dC (.str "pay")) (daCons (dC (.str "pay")) (daCons (dOp addD (dC (.int 50)) (dCall 2 M__law_roll (daCons (dVar 0) (daCons (dC (.int 50)) daNil)))) daNil)))))
  (dSeq (dPar2 9 10 (daCons (dMeth "Slip" "net" 1 M_Slip_net (dVar 8) daNil) (daCons (dC (.int 40)) daNil)))
  (dSeq (dAsg (dTup (daCons (dTup (daCons (dC (.str "one")) (daCons (dCall 2 M__law_roll (daCons (dVar 0) (daCons (dC (.int 40)) daNil))) daNil))) (daCons (dTup (daCons (dC (.str "two")) (daCons (dCall 2 M__law_roll (daCons (dVar 0) (daCons (dC (.int 40)) daNil))) daNil))) daNil))) (gN 11))
  (dSeq (dAsg (dMeth "Slip" "hold" 3 M_Slip_hold (dVar 8) (daCons (dVar 11) (daCons (dVar 10) daNil))) (gN 12))
  (dSeq (dIfS (dB (dOp neD (dMeth "Slip" "net" 1 M_Slip_net (dVar 8) daNil) (dBlt maxD (daCons (dVar 10) (daCons (dOp subD (dOp subD (dVar 9) (dOp ixD (dOp ixD (dVar 11) (dC (.int 0))) (dC (.int 1)))) (dOp ixD (dOp ixD (dVar 11) (dC (.int 1))) (dC (.int 1)))) daNil)))))
  (dRet (dC (.bl false)))
  dNext)
  (dSeq (dIfS (dB (dOp neD (dOp ixD (dVar 12) (dC (.int 0))) (dBlt maxD (daCons (dC (.int 0)) (daCons (dOp subD (dOp ixD (dOp ixD (dVar 11) (dC (.int 0))) (dC (.int 1))) (dOp subD (dVar 9) (dVar 10))) daNil)))))
  (dRet (dC (.bl false)))
  dNext)
  (dSeq (dIfS (dB (dOp neD (dBlt sumLT (daCons (dVar 12) daNil)) (dBlt maxD (daCons (dC (.int 0)) (daCons (dOp subD (dOp addD (dOp ixD (dOp ixD (dVar 11) (dC (.int 0))) (dC (.int 1))) (dOp ixD (dOp ixD (dVar 11) (dC (.int 1))) (dC (.int 1)))) (dOp subD (dVar 9) (dVar 10))) daNil)))))
  (dRet (dC (.bl false)))
  dNext)
  (dSeq (dIfS (dNotT (dB (dCall 1 M__law_shares (daCons (dVar 0) daNil))))
  (dRet (dC (.bl false)))
  dNext)
  (dRet (dOp eqD (dTold raisable tellers (dMeth "Slip" "line" 4 M_Slip_line (dVar 8) (daCons (dC (.str "pay")) (daCons (dC (.str "pay")) (daCons (dC (.int 1)) daNil))))) (dC (.str "rule"))))))))))))))))))))))
theorem M_slips_eq : M__law_slips = runD 16 slipsB := rfl

theorem heldE_ok {m p : Int} (hm : 0 ≤ m) (hm2 : m < 1000) (hp : 0 ≤ p) (hp2 : p ≤ 10) (S : Store) (x0 x1 x4 x5 x6 x7 x8 x9 x10 x11 x12 x13 x14 x15 : Option D) : heldE [x0, x1, some (.int m), some (fundsD p), x4, x5, x6, x7, x8, x9, x10, x11, x12, x13, x14, x15] S = .ok (.obj S.length) (S ++ [.lst [.int (heF m), .int (heG p m)]]) := by
  have m2 : (2 : Int).natAbs < 18446744073709551616 := by decide
  have m1 : (1 : Int).natAbs < 18446744073709551616 := by decide
  have mp : p.natAbs < 18446744073709551616 := by omega
  have f1 : ∀ S, fdivD (.int (2 * min m 90 + 10)) (.int 20) S = some (.int (heF m), S) := fun S => by
    rw [fdiv_small (by decide) (by decide)]
    unfold heF hu
    rw [Int.mul_one]
    rfl
  have f2 : ∀ S, fdivD (.int (2 * min m 500 * p + 20)) (.int 40) S = some (.int (heG p m), S) := fun S => by
    rw [fdiv_small (by decide) (by decide)]
    unfold heG hu
    rw [Int.mul_assoc]
    rfl
  have x1 : ∀ S, mulD (.int (2 * min m 90)) (.int 1) S = some (.int (2 * min m 90), S) := fun S => by rw [mulD_r m1, Int.mul_one]
  unfold heldE fundsD
  simp -implicitDefEqProofs [mulD_l m2, x1, mulD_r mp, f1, f2]
theorem SlAt.ch2 {S S' : Store} {s L : Nat} {ls : Lns} (H : SlAt S s L ls) (k : ∀ n, Kp n S S') : SlAt S' s L ls := H.kp (k (s + L + 1)) (by omega) (by omega)
theorem DiceAt.keep {S S' : Store} {n : Nat} (d : DiceAt S n) (k : ∀ n, Kp n S S') : DiceAt S' n := d.kp (k (n + 1)) (by omega)
theorem slips_ok {a c p1 p2 m : Int} {n t : Nat} {S : Store} (B : Tb a c p1 p2) (p11 : p2 ≤ 11) (hd : DiceAt S n) (H : TAt S t a c p1 p2) (hm : 0 ≤ m) (hm2 : m < 1000) :
    ∃ S', M__law_slips [.obj n, .obj t, .int m] S = .ok (.bl true) S' ∧ Kp n S S' ∧ DiceAt S' n := by
  obtain ⟨v1, S1, b1, e1, k1, d1⟩ := roll hd (show (0 : Int) < 3 by decide) (by decide)
  obtain ⟨p, hp⟩ : ∃ p : Int, 1 + (v1 : Int) = p := ⟨_, rfl⟩
  have H1 := H.kp hd k1
  obtain ⟨s, L, S2, e2, A2, N2⟩ := made_ok true B H1 (show 0 ≤ p by omega) (by omega) hm (by omega)
  rw [show freeD true = .tup [.tup [.str "trip", .int 7]] from rfl] at e2
  have H2 := TAt.keep B (show 0 ≤ p by omega) (show p ≤ 10 by omega) H1 N2.kp
  have d2 := DiceAt.keep d1 N2.kp
  have k2 : Kp n S S2 := k1.trans (N2.kp n)
  have dn := down_ok B H2 hm (by omega)
  have he := heldE_ok (m := m) (p := p) hm hm2 (by omega) (by omega) S2 (some (.obj n)) (some (.obj t)) (some (.obj s)) none none none none none none none none none none none
  have q3 : lstAt (S2 ++ [.lst [.int (heF m), .int (heG p m)]]) S2.length = some [.int (heF m), .int (heG p m)] := by simp
  have A3 := A2.app (T := [.lst [.int (heF m), .int (heG p m)]])
  have H3 := H2.app (T := [.lst [.int (heF m), .int (heG p m)]])
  have d3 := d2.app (T := [.lst [.int (heF m), .int (heG p m)]])
  have k3 : Kp n S (S2 ++ [.lst [.int (heF m), .int (heG p m)]]) := k2.trans Kp.app
  generalize hS3 : S2 ++ [DO.lst [.int (heF m), .int (heG p m)]] = S3 at *
  have gr := gross_ok A3
  have nt := net_ok A3
  have sh := sum_ok A3 .held
  obtain ⟨l1, l2, l3⟩ := lines_sum true a c p1 p2 p m
  rw [l1, l2, if_pos rfl] at gr
  rw [l1, l2, l3, if_pos rfl] at nt
  rw [l3, show soS .held = "held" from rfl] at sh
  have eh : tw a c p1 p2 m / 20 + (heF m + heG p m) = heA a c p1 p2 p m := by unfold heA; omega
  obtain ⟨S4, e4, k4⟩ := net_of_ok B (show 0 ≤ p by omega) (show p ≤ 10 by omega) H3 hm (by omega)
  have enf : nf a c p1 p2 p m = m - heA a c p1 p2 p m := rfl
  have H4 := TAt.keep B (show 0 ≤ p by omega) (show p ≤ 10 by omega) H3 k4
  have d4 := DiceAt.keep d3 k4
  obtain ⟨goal, S5, bg, e5, k5, d5⟩ := roll d4 (show (0 : Int) < 80 by decide) (by decide)
  have H5 := H4.kp d4 k5
  have big : (goal : Int) ≤ nf a c p1 p2 p 900 := by
    have x0 := B.p0
    have x1 := B.p12
    have x3 := B.ab
    have x4 := B.a0
    have t9 : tw a c p1 p2 900 ≤ 900 * 11 := by
      have sm : wi1 a c 900 + wi2 c 900 ≤ 900 ∧ 0 ≤ wi1 a c 900 ∧ 0 ≤ wi2 c 900 := by unfold wi1 wi2; omega
      have e1 : wi1 a c 900 * p1 ≤ wi1 a c 900 * 11 := Int.mul_le_mul_of_nonneg_left (by omega) sm.2.1
      have e2 : wi2 c 900 * p2 ≤ wi2 c 900 * 11 := Int.mul_le_mul_of_nonneg_left (by omega) sm.2.2
      unfold tw
      omega
    have f9 : heF 900 = 9 := by decide
    have g9 : heG p 900 ≤ 75 := by
      have : p = 1 ∨ p = 2 ∨ p = 3 := by omega
      rcases this with h | h | h <;> rw [h] <;> decide
    unfold nf heA
    omega
  obtain ⟨r, S6, e6, k6, r1, r2, r3, r4⟩ := gross_for_ok B (show 0 ≤ p by omega) (show p ≤ 10 by omega) H5 (show 0 ≤ (goal : Int) by omega) (by omega) big
  have H6 := TAt.keep B (show 0 ≤ p by omega) (show p ≤ 10 by omega) H5 k6
  have d6 := DiceAt.keep d5 k6
  obtain ⟨S7, e7, k7⟩ := net_of_ok B (show 0 ≤ p by omega) (show p ≤ 10 by omega) H6 (m := r) (by omega) (by omega)
  have c7 : ¬ nf a c p1 p2 p r < (goal : Int) := by omega
  have H7 := TAt.keep B (show 0 ≤ p by omega) (show p ≤ 10 by omega) H6 k7
  have d7 := DiceAt.keep d6 k7
  obtain ⟨S8, e8, q8, k8⟩ := below_ok B (show 0 ≤ p by omega) (show p ≤ 10 by omega) H7 (show 0 ≤ (goal : Int) by omega) r1 r2 r4 (some (.obj n)) (some (.int m)) (some (.obj s)) (some (.int (heA a c p1 p2 p m))) none none none none none none none none
  have nn := neD_nil (S := S8 ++ [.lst []]) (n := S7.length) (k := S8.length) (lstAt_keep _ _ q8) (by simp)
  have d8 := (DiceAt.keep d7 k8).app (T := [.lst []])
  have k8' : Kp n S (S8 ++ [.lst []]) := ((((((k3.trans (k4 n)).trans k5).trans (k6 n)).trans (k7 n)).trans (k8 n))).trans Kp.app
  generalize hS9 : S8 ++ [DO.lst []] = S9 at *
  have ini := slip_init S9
  have A0 := slip_new S9
  obtain ⟨S10, hS10⟩ : ∃ S10 : Store, S9 ++ [.ins "Slip" (slF (S9.length + 1)), .lst []] = S10 := ⟨_, rfl⟩
  rw [hS10] at ini A0
  have d10 : DiceAt S10 n := by rw [← hS10]; exact d8.app
  have k10 : Kp n S S10 := by rw [← hS10]; exact k8'.trans Kp.app
  have n10 : n < S9.length := by obtain ⟨x, y, z, h⟩ := d8; exact lt_of_lst h
  obtain ⟨v2, S11, b2, e11, k11, d11⟩ := roll d10 (show (0 : Int) < 50 by decide) (by decide)
  obtain ⟨g, hg⟩ : ∃ g : Int, 50 + (v2 : Int) = g := ⟨_, rfl⟩
  have A11 := A0.kp k11 (by omega) (by omega)
  obtain ⟨S12, e12, A12, c12⟩ := line_ok (x := .pay) (o := .pay) (c := g) A11 (by simp) (by simp) (by omega)
  rw [show nmS .pay = "pay" from rfl, show soS .pay = "pay" from rfl] at e12
  rw [List.nil_append] at A12
  have d12 := dice_ch d11 c12 (by simp; omega)
  have k12 : Kp n S S12 := kp_ch (k10.trans k11) c12 (by simp; have := k8'.len; omega)
  have nt12 := net_ok A12
  rw [show sumO .pay [(.pay, .pay, g)] + sumO .free [(.pay, .pay, g)] - sumO .held [(.pay, .pay, g)] = g by simp [sumO]] at nt12
  obtain ⟨a1, S13, b3, e13, k13, d13⟩ := roll d12 (show (0 : Int) < 40 by decide) (by decide)
  obtain ⟨a2, S14, b4, e14, k14, d14⟩ := roll d13 (show (0 : Int) < 40 by decide) (by decide)
  have A14 := (A12.kp k13 (by omega) (by omega)).kp k14 (by omega) (by omega)
  obtain ⟨S15, ls, w1, w2, e15, A15, c15, ll, lp, nl, hw1, hw2⟩ := hold_ok (a1 := (a1 : Int)) (a2 := (a2 : Int)) A14 (by omega) (by omega) (by omega)
  have d15 := dice_ch d14 c15 (by simp; omega)
  have k15 : Kp n S S15 := kp_ch ((k12.trans k13).trans k14) c15 (by simp; have := k8'.len; omega)
  have nt15 := net_ok A15
  rw [show sumO .pay ls + sumO .free ls - sumO .held ls = netL ls from rfl, nl] at nt15
  have f1 : g - w1 - w2 = max 40 (g - (a1 : Int) - (a2 : Int)) := by omega
  have f2 : (a1 : Int) - w1 = max 0 ((a1 : Int) - (g - 40)) := by omega
  have f3 : (a1 : Int) - w1 + ((a2 : Int) - w2) = max 0 ((a1 : Int) + (a2 : Int) - (g - 40)) := by omega
  have f4 : max 0 ((a1 : Int) - (g - 40)) + ((a2 : Int) - w2) = max 0 ((a1 : Int) + (a2 : Int) - (g - 40)) := by omega
  obtain ⟨S16, e16, k16, d16⟩ := shares_ok d15
  have A16 := A15.kp k16 (by omega) (by omega)
  obtain ⟨T17, e17⟩ := line_no (x := .pay) (o := .pay) (c := 1) A16 (by omega) lp (by decide)
  rw [show nmS .pay = "pay" from rfl, show soS .pay = "pay" from rfl] at e17
  refine ⟨S16 ++ T17, ?_, (k15.trans k16).trans Kp.app, d16.app⟩
  have lk := lkw B
  have ff : D.tup [.tup [.str "f", .tup [.int 1, .int 10], .int 90], .tup [.str "g", .tup [.int p, .int 20], .int 500]] = fundsD p := rfl
  rw [M_slips_eq, e_runD]
  unfold slipsB
  generalize fundsD p = F at *
  simp -implicitDefEqProofs [startD, e1, hp, ff, e2, H2.ins, lk, dn, he, hS3, q3, eh, A3.ins, lk_gross, lk_net, lk_sum, gr, nt, sh, e4, enf]
  simp -implicitDefEqProofs [e5, e6, e7, c7, e8, hS9, nn, ini]
  simp -implicitDefEqProofs [A0.ins, lk_line, e11, hg, e12, A12.ins, lk_net, nt12, e13, e14, A14.ins, lk_hold, e15, A15.ins, nt15, f1, f2, f4, e16, A16.ins, e17, told_rule, eq_rule]
end Pr
set_option Elab.async false
set_option linter.all false
set_option maxRecDepth 100000
set_option maxHeartbeats 4000000
namespace Pr
open PySem PySem.Spec PyProof.Rows L2 DL
def meanS : DS := (dIfS (dB (dOp neD (dMeth "Table" "mean" 2 M_Table_mean (dVar 5) (daCons (dVar 6) daNil)) (dIf (dB (dOp gtD (dVar 6) (dC (.int 0)))) (dCall 2 M__law_least (daCons (dVar 7) (daCons (dOp mulD (dC (.int 20)) (dVar 6)) daNil))) (dTup (daCons (dC (.int 0)) (daCons (dC (.int 1)) daNil))))))
  (dRet (dC (.bl false)))
  dNext)
def lawB : DS :=
  (dSeq (dPar2 2 3 (daCons (dOp addD (dC (.int 10)) (dCall 2 M__law_roll (daCons (dVar 1) (daCons (dC (.int 40)) daNil)))) (daCons (dOp addD (dC (.int 60)) (dCall 2 M__law_roll (daCons (dVar 1) (daCons (dC (.int 60)) daNil)))) daNil)))
  (dSeq (dAsg (dTup (daCons (dTup (daCons (dC (.int 0)) (daCons (dTup (daCons (dC (.int 0)) (daCons (dC (.int 1)) daNil))) daNil))) (daCons (dTup (daCons (dVar 2) (daCons (dCall 2 M_part (daCons (dOp addD (dC (.int 1)) (dCall 2 M__law_roll (daCons (dVar 1) (daCons (dC (.int 5)) daNil)))) (daCons (dC (.int 20)) daNil))) daNil))) (daCons (dTup (daCons (dVar 3) (daCons (dCall 2 M_part (daCons (dOp addD (dC (.int 6)) (dCall 2 M__law_roll (daCons (dVar 1) (daCons (dC (.int 6)) daNil)))) (daCons (dC (.int 20)) daNil))) daNil))) daNil)))) (gN 4))
  (dSeq (dAsg (dTup (daCons (dMake "Table" 2 M_Table___init__ (daCons (dVar 4) daNil)) (daCons (dCall 2 M__law_roll (daCons (dVar 1) (daCons (dC (.int 200)) daNil))) daNil))) (gT 2 (gsCons (gN 5) (gsCons (gN 6) gsNil))))
  (dSeq (dAsg (dCall 2 M__law_withheld (daCons (dVar 4) (daCons (dVar 6) daNil))) (gN 7))
  (dSeq (dIfS (dOrT (dB (dOp neD (dMeth "Table" "exact" 2 M_Table_exact (dVar 5) (daCons (dVar 6) daNil)) (dCall 2 M__law_least (daCons (dVar 7) (daCons (dC (.int 20)) daNil))))) (dB (dOp neD (dMeth "Table" "withheld" 3 M_Table_withheld (dVar 5) (daCons (dVar 6) (daCons (dC (.str "down")) daNil))) (dOp fdivD (dVar 7) (dC (.int 20))))))
  (dRet (dC (.bl false)))
  dNext)
  (dSeq (dIfS (dNotT (dB (dMeth "Table" "is_rising" 1 M_Table_is_rising (dVar 5) daNil)))
  (dRet (dC (.bl false)))
  dNext)
  (dSeq (dIfS (dB (dOp neD (dMeth "Table" "at_edge" 2 M_Table_at_edge (dVar 5) (daCons (dVar 6) daNil)) edgeE))
  (dRet (dC (.bl false)))
  dNext)
  (dSeq meanS
  (dSeq (dAsg (dCall 2 M__law_roll (daCons (dVar 1) (daCons (dC (.int 120)) daNil))) (gN 8))
  (dSeq (dAsg (dMeth "Table" "back" 4 M_Table_back (dVar 5) (daCons (dVar 8) (daCons (dC (.str "down")) (daCons (dC (.int 900)) daNil)))) (gN 9))
  (dSeq (dAsg goodE (gN 10))
  (dSeq (dIfS (dOrT (dB (dOp neD (dVar 10) (dLst (daCons (dVar 9) daNil)))) (dB (dOp neD (dMeth "Table" "exact" 2 M_Table_exact (dMeth "Table" "scaled" 2 M_Table_scaled (dVar 5) (daCons (dC (.int 3)) daNil)) (daCons (dOp mulD (dC (.int 3)) (dVar 6)) daNil)) (dCall 2 M__law_least (daCons (dOp mulD (dC (.int 3)) (dVar 7)) (daCons (dC (.int 20)) daNil))))))
  (dRet (dC (.bl false)))
  dNext)
  (dSeq (dIfS (dB (dOp gtD (dOp ixD (dCall 3 M_gap_of (daCons (dVar 5) (daCons (dVar 6) (daCons (dC (.str "down")) daNil)))) (dC (.int 0))) (dC (.int 0))))
  (dRet (dC (.bl false)))
  dNext)
  (dSeq (dIfS (dNotT (dB (dCall 5 M__law_year (daCons (dVar 1) (daCons (dVar 5) (daCons (dVar 4) (daCons (dVar 6) (daCons (dVar 8) daNil))))))))
  (dRet (dC (.bl false)))
  dNext)
  (dSeq (dIfS (dNotT (dB (dCall 3 M__law_slips (daCons (dVar 1) (daCons (dVar 5) (daCons (dVar 6) daNil))))))
  (dRet (dC (.bl false)))
  dNext)
  (dSeq (dAsg (dCall 4 M_worse_off (daCons (dVar 5) (daCons (dTup (daCons (dC (.int 50)) (daCons (dC (.int 7)) daNil))) (daCons (dC (.str "down")) (daCons (dC (.int 56)) daNil))))) (gN 11))
  (dSeq (dAsg jumpsE (gN 12))
  (dSeq (dIfS (dOrT (dB (dOp neD (dBlt listD (daCons (dVar 11) daNil)) badE)) (dB (dOp notInD (dC (.int 50)) (dVar 11))))
  (dRet (dC (.bl false)))
  dNext)
  (dSeq (dIfS (dB (dOp neD (dTold raisable tellers (dMake "Table" 2 M_Table___init__ (daCons (dTup (daCons (dTup (daCons (dC (.int 1)) (daCons (dTup (daCons (dC (.int 0)) (daCons (dC (.int 1)) daNil))) daNil))) daNil)) daNil))) (dC (.str "rule"))))
  (dRet (dC (.bl false)))
  dNext)
  (dSeq (dIfS (dB (dOp neD (dTold raisable tellers (dMake "Table" 2 M_Table___init__ (daCons (dTup (daCons (dTup (daCons (dC (.int 0)) (daCons (dTup (daCons (dC (.int 1)) (daCons (dC (.int 1)) daNil))) daNil))) daNil)) daNil))) (dC (.str "rule"))))
  (dRet (dC (.bl false)))
  dNext)
  (dSeq (dIfS (dB (dOp neD (dTold raisable tellers (dMeth "Table" "back" 4 M_Table_back (dVar 5) (daCons (dC (.int 900)) (daCons (dC (.str "down")) (daCons (dC (.int 10)) daNil))))) (dC (.str "no answer"))))
  (dRet (dC (.bl false)))
  dNext)
  (dIfS (dB (dOp neD (dTold raisable tellers (dCall 4 M_best_split (daCons (dVar 5) (daCons (dC (.int 999)) (daCons (dC (.int 2)) (daCons (dC (.str "down")) daNil)))))) (dC (.str "rule"))))
  (dRet (dC (.bl false)))
  dNext))))))))))))))))))))))

theorem M_law_eq : M_law = runD 15 (dSeq (dFor (diSeq (dCall 2 (runD 4 (roundsF (runD 1 diceF))) (daCons (dVar 0) (daCons (dC (.int ((3 : Nat) : Int))) daNil)))) (gN 1) lawB) (dRet (dC (.bl true)))) := rfl
theorem least20 {x : Int} (h : x.natAbs < 2 ^ 60) (S : Store) : M__law_least [.int x, .int 20] S = .ok (pt (q20 x)) S := by
  have := M_least_ok (t := x) (b := 20) (by decide) (lt_up h (by decide)) (lt_up (m := 60) (by decide) (by decide)) S
  rw [this]
  unfold q20
  rw [divInt_div]
section
variable {a b p1 p2 m : Int} {S : Store} {t : Nat} (B : Tb a b p1 p2)
include B
theorem meanS_ok (H : TAt S t a b p1 p2) (h0 : 0 ≤ m) (h1 : m < 1000) (x0 x1 x2 x3 x4 x8 x9 x10 x11 x12 x13 x14 : Option D) : meanS [x0, x1, x2, x3, x4, some (.obj t), some (.int m), some (.int (tw a b p1 p2 m)), x8, x9, x10, x11, x12, x13, x14] S = .nx [x0, x1, x2, x3, x4, some (.obj t), some (.int m), some (.int (tw a b p1 p2 m)), x8, x9, x10, x11, x12, x13, x14] S := by
  have mn := mean_ok B H h0 (by omega)
  have lk : List.lookup (Str.ofString "mean") (tF a b p1 p2) = none := rfl
  have x := tw_b B h0 (by omega)
  have m20 : (20 : Int).natAbs < 18446744073709551616 := by decide
  by_cases c : 0 < m
  · have le := M_least_ok (t := tw a b p1 p2 m) (b := 20 * m) (by omega) (lt_up (m := 60) (by omega) (by decide)) (lt_up (m := 60) (by omega) (by decide)) S
    rw [if_pos c] at mn
    generalize (tw a b p1 p2 m : Rat) / ((20 * m : Int) : Rat) = Q at *
    simp -implicitDefEqProofs [meanS, H.ins, lk, mn, c, mulD_l m20, le]
  · rw [if_neg c] at mn
    simp -implicitDefEqProofs [meanS, H.ins, lk, mn, c, neD_pair]
theorem ne_edge (S : Store) : neD (edgeD a b p1 p2 m) (edgeD a b p1 p2 m) S = some (.bl false, S) := by
  unfold edgeD
  split
  · rw [neD_pt]; simp
  · split
    · rw [neD_pt]; simp
    · rw [neD_pair]; simp
end
theorem bad_1 (n : Nat) (S : Store) : M_Table___init__ [.obj n, .tup [.tup [.int 1, .tup [.int 0, .int 1]]]] S = .exn ⟨"BadRule"⟩ S := by
  simp -implicitDefEqProofs only [M_Table___init__, e_runD, f_Table___init__]
  simp -implicitDefEqProofs [startD]
theorem bad_2 (n : Nat) (S : Store) : M_Table___init__ [.obj n, .tup [.tup [.int 0, .tup [.int 1, .int 1]]]] S = .exn ⟨"BadRule"⟩ S := by
  have sl : ∀ x : D, cutD [x] (some 1) none = [] := fun x => rfl
  simp -implicitDefEqProofs only [M_Table___init__, e_runD, f_Table___init__]
  simp -implicitDefEqProofs [startD, sliceD_tup, sl, zipD_nil2]
theorem body_ok {S : Store} {n : Nat} (hd : DiceAt S n) (o0 o2 o3 o4 o5 o6 o7 o8 o9 o10 o11 o12 o13 o14 : Option D) : ∃ ρ' S', ρ'.length = 15 ∧ lawB [o0, some (.obj n), o2, o3, o4, o5, o6, o7, o8, o9, o10, o11, o12, o13, o14] S = .nx ρ' S' ∧ Kp n S S' ∧ DiceAt S' n := by
  obtain ⟨v1, S1, b1, e1, k1, d1⟩ := roll hd (show (0 : Int) < 40 by decide) (by decide)
  obtain ⟨v2, S2, b2, e2, k2, d2⟩ := roll d1 (show (0 : Int) < 60 by decide) (by decide)
  obtain ⟨v3, S3, b3, e3, k3, d3⟩ := roll d2 (show (0 : Int) < 5 by decide) (by decide)
  obtain ⟨v4, S4, b4, e4, k4, d4⟩ := roll d3 (show (0 : Int) < 6 by decide) (by decide)
  have K4 : Kp n S S4 := ((k1.trans k2).trans k3).trans k4
  obtain ⟨a, ha⟩ : ∃ a : Int, 10 + (v1 : Int) = a := ⟨_, rfl⟩
  obtain ⟨b, hb⟩ : ∃ b : Int, 60 + (v2 : Int) = b := ⟨_, rfl⟩
  obtain ⟨p1, hp1⟩ : ∃ p : Int, 1 + (v3 : Int) = p := ⟨_, rfl⟩
  obtain ⟨p2, hp2⟩ : ∃ p : Int, 6 + (v4 : Int) = p := ⟨_, rfl⟩
  have B : Tb a b p1 p2 := ⟨by omega, by omega, by omega, by omega, by omega, by omega⟩
  have pa1 := fun S => part_small (t := p1) (b := 20) (by decide) (by omega) (by decide) S
  have pa2 := fun S => part_small (t := p2) (b := 20) (by decide) (by omega) (by decide) S
  have ini := init_ok B S4
  obtain ⟨S5, hS5⟩ : ∃ S5 : Store, S4 ++ [.ins "Table" (tF a b p1 p2)] = S5 := ⟨_, rfl⟩
  rw [hS5] at ini
  have H5 : TAt S5 S4.length a b p1 p2 := ⟨by rw [← hS5]; unfold insAt; dsimp only; rw [List.getElem?_append_right (Nat.le_refl _), Nat.sub_self]; rfl⟩
  have d5 : DiceAt S5 n := by rw [← hS5]; exact d4.app
  have K5 : Kp n S S5 := by rw [← hS5]; exact K4.trans Kp.app
  obtain ⟨m', S6, b6, e6, k6, d6⟩ := roll d5 (show (0 : Int) < 200 by decide) (by decide)
  obtain ⟨m, hm⟩ : ∃ m : Int, (m' : Int) = m := ⟨_, rfl⟩
  rw [hm] at e6 b6
  have m0 : 0 ≤ m := by omega
  have H6 := H5.kp d5 k6
  have K6 := K5.trans k6
  have lw := law_withheld_ok B m0 (show m < 2 ^ 30 by omega) S6
  have ex := exact_ok B H6 m0 (show m < 2 ^ 30 by omega)
  have tb := tw_b B m0 (show m < 2 ^ 30 by omega)
  have le := least20 (x := tw a b p1 p2 m) (by omega) S6
  have dn := down_ok B H6 m0 (show m < 2 ^ 30 by omega)
  have fd : fdivD (.int (tw a b p1 p2 m)) (.int 20) S6 = some (.int (tw a b p1 p2 m / 20), S6) := fdiv_small (by decide) (by decide)
  have ri := rising_ok B H6
  have ed := edge_ok B H6 m0
  obtain ⟨T7, ee⟩ := edgeE_ok B (S := S6) m0 o0 (some (.obj n)) (some (.int a)) (some (.int b)) (some (.obj S4.length)) (some (.int (tw a b p1 p2 m))) o8 o9 o10 o11 o12 o13 o14
  obtain ⟨S7, hS7⟩ : ∃ S7, S6 ++ T7 = S7 := ⟨_, rfl⟩
  rw [hS7] at ee
  have ne := ne_edge B (m := m) S7
  have H7 : TAt S7 S4.length a b p1 p2 := by rw [← hS7]; exact H6.app
  have d7 : DiceAt S7 n := by rw [← hS7]; exact d6.app
  have K7 : Kp n S S7 := by rw [← hS7]; exact K6.trans Kp.app
  have me := meanS_ok B H7 m0 (show m < 1000 by omega) o0 (some (.obj n)) (some (.int a)) (some (.int b)) (some (stepsD a b p1 p2)) o8 o9 o10 o11 o12 o13 o14
  obtain ⟨left', S8, b8, e8, k8, d8⟩ := roll d7 (show (0 : Int) < 120 by decide) (by decide)
  obtain ⟨left, hl⟩ : ∃ l : Int, (left' : Int) = l := ⟨_, rfl⟩
  rw [hl] at e8 b8
  have H8 := H7.kp d7 k8
  have K8 := K7.trans k8
  have t9 : tw a b p1 p2 900 ≤ 900 * 11 := by
    have sm : wi1 a b 900 + wi2 b 900 ≤ 900 ∧ 0 ≤ wi1 a b 900 ∧ 0 ≤ wi2 b 900 := by unfold wi1 wi2; omega
    have e1 : wi1 a b 900 * p1 ≤ wi1 a b 900 * 11 := Int.mul_le_mul_of_nonneg_left (by omega) sm.2.1
    have e2 : wi2 b 900 * p2 ≤ wi2 b 900 * 11 := Int.mul_le_mul_of_nonneg_left (by omega) sm.2.2
    unfold tw
    omega
  obtain ⟨h, bk, h0, h9, hge, hlt⟩ := back_ok B (left := left) H8 (by unfold nt; omega)
  have gd := good_ok B (S := S8) h0 h9 hge hlt o0 (some (.obj n)) (some (.int a)) (some (.int b)) (some (.obj S4.length)) (some (.int m)) (some (.int (tw a b p1 p2 m))) o10 o11 o12 o13 o14
  obtain ⟨S9, hS9⟩ : ∃ S9 : Store, S8 ++ [.lst [.int h]] ++ [.lst [.int h]] = S9 := ⟨_, rfl⟩
  have ng := told_int.ne_same (S := S9) (n := S8.length) (m := S8.length + 1) (xs := [h]) (by rw [← hS9]; simp) (by rw [← hS9]; unfold lstAt; rw [List.append_assoc, List.getElem?_append_right (by omega), show S8.length + 1 - S8.length = 1 by omega]; rfl)
  have H9 : TAt S9 S4.length a b p1 p2 := by rw [← hS9]; exact H8.app.app
  have d9 : DiceAt S9 n := by rw [← hS9]; exact d8.app.app
  have K9 : Kp n S S9 := by rw [← hS9]; exact (K8.trans Kp.app).trans Kp.app
  obtain ⟨T10, t3, sc, H3⟩ := scaled_ok B H9 (by omega)
  obtain ⟨S10, hS10⟩ : ∃ S10, S9 ++ T10 = S10 := ⟨_, rfl⟩
  rw [hS10] at sc H3
  have ex3 := exact_ok (tb3 B (by omega)) H3 (m := 3 * m) (by omega) (by omega)
  rw [tw3 B] at ex3
  have le3 := least20 (x := 3 * tw a b p1 p2 m) (by omega) S10
  have H10 : TAt S10 S4.length a b p1 p2 := by rw [← hS10]; exact H9.app
  have d10 : DiceAt S10 n := by rw [← hS10]; exact d9.app
  have K10 : Kp n S S10 := by rw [← hS10]; exact K9.trans Kp.app
  obtain ⟨gq, ga, gn⟩ := gap_ok B H10 m0 (show m < 2 ^ 30 by omega)
  obtain ⟨S11, ly, k11, d11⟩ := law_year_ok (left := left) B d10 H10 m0 (show m < 1000 by omega) (by omega) (by omega)
  have H11 := H10.kp d10 k11
  obtain ⟨S12, sp, k12, d12⟩ := slips_ok B (by omega) d11 H11 m0 (show m < 1000 by omega)
  have H12 := H11.kp d11 k12
  have K12 := (K10.trans k11).trans k12
  have wo := worse_ok B H12
  obtain ⟨S13, hS13⟩ : ∃ S13, S12 ++ [DO.lst ((woL a b p1 p2).map D.int)] = S13 := ⟨_, rfl⟩
  rw [hS13] at wo
  have H13 : TAt S13 S4.length a b p1 p2 := by rw [← hS13]; exact H12.app
  have ju := jumps_ok B H13 o0 (some (.obj n)) (some (.int a)) (some (.int b)) (some (stepsD a b p1 p2)) (some (.int m)) (some (.int (tw a b p1 p2 m))) (some (.int left)) (some (.int h)) (some (.obj S8.length)) (some (.tup ((woL a b p1 p2).map D.int))) o12 o13 o14
  obtain ⟨S14, hS14⟩ : ∃ S14, S13 ++ [DO.lst (jumpsL a b p1 p2)] ++ [DO.lst ((woL a b p1 p2).map D.int)] = S14 := ⟨_, rfl⟩
  have qJ : lstAt S14 S13.length = some (jumpsL a b p1 p2) := by rw [← hS14]; exact lstAt_keep _ _ (by simp)
  have ba := bad_ok (S := S14) (a := a) (b := b) (p1 := p1) (p2 := p2) qJ o0 (some (.obj n)) (some (.int a)) (some (.int b)) (some (stepsD a b p1 p2)) (some (.obj S4.length)) (some (.int m)) (some (.int (tw a b p1 p2 m))) (some (.int left)) (some (.int h)) (some (.obj S8.length)) (some (.tup ((woL a b p1 p2).map D.int))) o13 o14
  have l14 : S14.length = S13.length + 2 := by rw [← hS14]; simp
  obtain ⟨S15, hS15⟩ : ∃ S15, S14 ++ [DO.lst ((woL a b p1 p2).map D.int)] = S15 := ⟨_, rfl⟩
  rw [hS15] at ba
  have q1 : lstAt S15 (S13.length + 1) = some ((woL a b p1 p2).map D.int) := by
    rw [← hS15]
    refine lstAt_keep _ _ ?_
    rw [← hS14]
    unfold lstAt
    rw [List.append_assoc, List.getElem?_append_right (by omega), show S13.length + 1 - S13.length = 1 by omega]
    rfl
  have q2 : lstAt S15 S14.length = some ((woL a b p1 p2).map D.int) := by rw [← hS15]; simp
  have nw := told_int.ne_same (S := S15) q1 q2
  have fi := notIn_ints (fifty B) S15
  have H15 : TAt S15 S4.length a b p1 p2 := by rw [← hS15, ← hS14]; exact H13.app.app.app
  have d15 : DiceAt S15 n := by rw [← hS15, ← hS14, ← hS13]; exact d12.app.app.app.app
  have K15 : Kp n S S15 := by rw [← hS15, ← hS14, ← hS13]; exact (((K12.trans Kp.app).trans Kp.app).trans Kp.app).trans Kp.app
  have x1 := bad_1 S15.length (S15 ++ [.ins "Table" []])
  have x2 := bad_2 (S15.length + 1) (S15 ++ [.ins "Table" [], .ins "Table" []])
  have H17 := H15.app (T := [.ins "Table" [], .ins "Table" []])
  have x3 := back_no B H17
  have x4 := best_no (t := S4.length) (S15 ++ [.ins "Table" [], .ins "Table" []])
  refine ⟨[o0, some (.obj n), some (.int a), some (.int b), some (stepsD a b p1 p2), some (.obj S4.length), some (.int m), some (.int (tw a b p1 p2 m)), some (.int left), some (.int h), some (.obj S8.length), some (.tup ((woL a b p1 p2).map D.int)), some (.obj S13.length), o13, o14], S15 ++ [.ins "Table" [], .ins "Table" []], rfl, ?_, K15.trans Kp.app, d15.app⟩
  have lk1 : List.lookup (Str.ofString "exact") (tF a b p1 p2) = none := rfl
  have lk2 : List.lookup (Str.ofString "withheld") (tF a b p1 p2) = none := rfl
  have lk3 : List.lookup (Str.ofString "is_rising") (tF a b p1 p2) = none := rfl
  have lk4 : List.lookup (Str.ofString "at_edge") (tF a b p1 p2) = none := rfl
  have lk5 : List.lookup (Str.ofString "back") (tF a b p1 p2) = none := rfl
  have lk6 : List.lookup (Str.ofString "scaled") (tF a b p1 p2) = none := rfl
  have lk7 : List.lookup (Str.ofString "exact") (tF (3 * a) (3 * b) p1 p2) = none := rfl
  have st : D.tup [.tup [.int 0, .tup [.int 0, .int 1]], .tup [.int a, pt (Rat.divInt p1 20)], .tup [.int b, pt (Rat.divInt p2 20)]] = stepsD a b p1 p2 := rfl
  have i6 := H6.ins
  have i8 := H8.ins
  have i9 := H9.ins
  have i3 := H3.ins
  have i17 := H17.ins
  have ns1 := neD_pt (q := q20 (tw a b p1 p2 m)) (r := q20 (tw a b p1 p2 m)) S6
  have ns3 := neD_pt (q := q20 (3 * tw a b p1 p2 m)) (r := q20 (3 * tw a b p1 p2 m)) S10
  rw [decide_eq_true rfl] at ns1 ns3
  have m3 : (3 : Int).natAbs < 18446744073709551616 := by decide
  have g0 : ixD (pt gq) (.int 0) S10 = some (.int gq.num, S10) := by simp [pt]
  unfold lawB
  generalize hst : stepsD a b p1 p2 = ST at *
  generalize tF a b p1 p2 = TF at *
  generalize tF (3 * a) (3 * b) p1 p2 = TF3 at *
  generalize pt (Rat.divInt p1 20) = P1 at *
  generalize pt (Rat.divInt p2 20) = P2 at *
  generalize pt (q20 (tw a b p1 p2 m)) = Q1 at *
  generalize pt (q20 (3 * tw a b p1 p2 m)) = Q3 at *
  generalize pt gq = GQ at *
  generalize edgeD a b p1 p2 m = ED at *
  generalize (woL a b p1 p2).map D.int = WL at *
  generalize jumpsL a b p1 p2 = JL at *
  simp -implicitDefEqProofs [e1, ha, e2, hb, e3, hp1, pa1, e4, hp2, pa2, st, ini, e6]
  simp -implicitDefEqProofs [lw, i6, lk1, ex, le, ns1, lk2, dn, fd, lk3, ri, lk4, ed, ee, ne, me]
  simp only [List.append_assoc, List.cons_append, List.nil_append] at hS9 hS14
  have ng2 : neD (.obj S8.length) (.obj (S8.length + 1)) S9 = some (.bl false, S9) := ng
  simp -implicitDefEqProofs [e8, i8, lk5, bk, gd, hS9, ng2, i9, lk6, sc, hS10, i3, lk7, mulD_l m3, ex3, le3, ns3]
  simp -implicitDefEqProofs [ga, g0, gn, ly, sp, wo, hS13, ju, hS14, ba, hS15, nw, fi]
  simp -implicitDefEqProofs [x1, x2, told_rule, ne_rule, i17, lk5, x3, told_no, ne_no, x4]
theorem ok (ns : List Int) (d : D) (S : Store) (hs : ScriptAt ns d S) : ∃ S2, M_law [d] S = .ok (.bl true) S2 := by
  rw [M_law_eq]
  refine law_rounds (by decide) (by decide) (by decide) (fun ρ S n hN hd => ?_) hs
  match ρ, hN with
  | [o0, o1, o2, o3, o4, o5, o6, o7, o8, o9, o10, o11, o12, o13, o14], _ => exact body_ok hd o0 o2 o3 o4 o5 o6 o7 o8 o9 o10 o11 o12 o13 o14
end Pr
set_option maxRecDepth 100000 in
set_option maxHeartbeats 8000000 in
theorem PySem.Challenge.cw_wagehall_k05_withheld_and_paid_holds : PySem.Challenge.rw_wagehall_k05_withheld_and_paid.Holds := by
  exact holds_it fun ns d S _ _ hs => Pr.ok ns d S hs
